/-
  A part of the proof: PolyO, Frac, W30, W31p, W31, W32p, W32, W33, W34, Str, ParseS, W35, W36, W37, W38, Bands, W39, W40, W41, W42, W43, W44, Dec, StrL, W59, W45p, W45, Ref30.
-/
import Derived.Test.YtjiendlfobjanaaGreatDoorH03
import Derived.Laws.Strings
import Derived.Lib.IndexMore
import Derived.Lib.ItoaNum
namespace Go.Proofs.YtjiendlfobjanaaGreatDoor
open Go Go.RowKit Go.Proofs Tryz
variable {A l:List Rat} {af:Array Edge} {b2 sz':Nat} {c1 c2 c3 u v:Value} {g:Option (Nat×Bool)} {pos:String} {q:Rat} {r:Option Nat} {ty:TypeId} {w w' w0:World} {x y:Operand} {σ:Operand→Value}
def AppY (u v:Value) (w w':World):Prop:=(Ext w w'∧∃ l c,v = .slice (some ⟨w.heap.size,0,none⟩) l c)∨∃ b l c l' c' cs,u = .slice (some ⟨b,0,none⟩) l c∧v = .slice (some ⟨b,0,none⟩) l' c'∧Blk w b 37 cs∧Upd b w w'
theorem runs_append_numY {K:Value→World→Prop} {d:Option Tmp} {sz:Nat} 
 (hx:AccP sz w (σ x) A) (hy:σ y = .slice (some ⟨b2,0,none⟩) 1 1) (hB2:Blk w b2 37 [c1,c2,c3]) (hq:IsNum w (.agg #[c1,c2,c3]) q) (hA:A.length<4096) (hsz:sz≤w.heap.size)
 (hk:∀ v w',AppY (σ x) v w w'→AccP sz w' v (A++[q])→K v w') :
 Runs prog r ⟨d,.call { callee := .builtin .append,args := #[x,y],argTypes := #[25,25] },ty,pos,af,g⟩ σ w K:=by
 obtain ⟨p,c,h1,h2,h3⟩:=hx;have hq0:=hq;have hcells:Cells w (some ⟨b2,0,none⟩) 37 [c1,c2,c3]:=Cells.blk hB2;have hok:[c1,c2,c3].all zAp=true:=by
  obtain ⟨n,dd,he,hn,hd⟩:=hq;obtain ⟨p1,ds1,k1,rfl,-⟩:=hn;obtain ⟨p2,ds2,k2,rfl,-⟩:=hd;cases he;rfl
 have fin:∀ (w':World) (b c':Nat) (cs':List Value),sz≤b→A.length+1≤c'→Blk w' b 37 cs'→cs'.length=3*c'→(∀ i,i<A.length→IsNum w' (.agg ((cs'.drop (3*i)).take 3).toArray) (A.getD i 0))→((cs'.drop (3*A.length)).take 3=[c1,c2,c3])→IsNum w' (.agg #[c1,c2,c3]) q →
  AccP sz w' (.slice (some ⟨b,0,none⟩) (A.length+1) c') (A++[q]):=fun w' b c' cs' g1 g2 g3 g4 g5 g6 g7=>by
  refine ⟨_,c',by simp,by simpa using g2,.inr ⟨b,cs',rfl,g1,g3,g4,fun i hi => ?_⟩⟩;by_cases hi':i<A.length
  · rw [zDJ hi'];exact g5 i hi'
  · have:i=A.length:=by simp at hi;omega
    subst this;rw [g6,zDM];exact g7
 by_cases hc:A.length+1≤c
 · -- within the capacity
   rcases h3 with ⟨e1,e2,e3⟩ | ⟨b,cs,e1,e2,e3,e4,e5⟩
   · omega
   · subst e1;refine zAg (n:=3) zAc zAc zDx h1 hy e3 hcells rfl hc (by omega) hok fun w' hU hN=>hk _ w' ?_ ?_
     · exact .inr ⟨b,_,_,_,_,cs,h1,rfl,e3,hU⟩
     · rw [Nat.zero_add,show A.length*3=3*A.length from by omega] at hN;refine fin w' b c _ e2 hc hN (by rw [zAh];exact e4) (fun i hi => ?_) ?_ (hq0.upd hU e3 (by decide))
       · rw [zAz (by omega),if_neg (by omega)];exact (e5 i hi).upd hU e3 (by decide)
       · rw [zAz (by omega),if_pos rfl]
 · have hnew:=zAS (A.length+1) c;have hold:∃ old,Cells w p 37 old∧old.length=A.length*3∧∀ i,i<A.length→IsNum w (.agg ((old.drop (3*i)).take 3).toArray) (A.getD i 0):=by
    rcases h3 with ⟨e1,e2,e3⟩ | ⟨b,cs,e1,e2,e3,e4,e5⟩
    · subst e1;exact ⟨[],.inl rfl,rfl,fun i hi=>by simp at hi⟩
    · refine ⟨cs.take (A.length*3),.inr ⟨b,0,cs,e1,e3,by simp⟩,by simp;omega,fun i hi => ?_⟩;have:=e5 i hi;rwa [show ((cs.take (A.length*3)).drop (3*i)).take 3=(cs.drop (3*i)).take 3 from by
       rw [List.drop_take,List.take_take,Nat.min_eq_left (by omega)]]
   obtain ⟨old,o1,o2,o3⟩:=hold;refine zAO zAc zAc zDx rfl (by decide) h1 hy o1 o2 hcells rfl (by omega) (by omega) fun w' rest c' g1 hE hB g2 _=>hk _ w' ?_ ?_
   · exact .inl ⟨hE,_,_,rfl⟩
   · have hrl:rest.length=(c'-(A.length+1))*3:=by rw [g2];simp [Builtin.zeroCells,Value.cells]
     refine fin w' _ c' _ hsz g1 hB (by simp [o2,hrl];omega) (fun i hi => ?_) ?_ (hq0.ext hE)
     · rw [List.append_assoc,zCy (by omega)];exact (o3 i hi).ext hE
     · rw [List.append_assoc,List.drop_append_of_le_length (by omega),List.drop_of_length_le (by omega)];simp
def zBG (u:Value) (w:World) (v:Value) (l:List Rat):Prop:=∃ p cap,v = .slice p l.length cap∧l.length≤cap∧PRd w p l∧l.length≤4096∧∀ b n c,u = .slice (some ⟨b,0,none⟩) n c→∀ a,p=some a→l≠[]→a.block≠b
theorem zBG.poly (h:zBG u w v l):IsPoly w v l:=by
 obtain ⟨p,c,h1,h2,h3,h4,_⟩:=h;exact ⟨p,c,h1,h2,h3,h4⟩
theorem zBG.ext (h:zBG u w v l) (hx:Ext w w'):zBG u w' v l:=by
 obtain ⟨p,c,h1,h2,h3,h4,h5⟩:=h;exact ⟨p,c,h1,h2,h3.ext hx,h4,h5⟩
theorem zBG.nil (h:IsPoly w v l):zBG (.slice none 0 0) w v l:=by
 obtain ⟨p,c,h1,h2,h3,h4⟩:=h;exact ⟨p,c,h1,h2,h3,h4,fun b n c e=>by cases e⟩
theorem zBG.app {u':Value} (h:zBG u w v l) (hX:AppY u u' w w'):zBG u' w' v l:=by
 obtain ⟨p,c,h1,h2,h3,h4,h5⟩:=h;rcases hX with ⟨hE,l',c',rfl⟩ | ⟨b,n,k,n',k',cs,rfl,rfl,hB,hU⟩
 · refine ⟨p,c,h1,h2,h3.ext hE,h4,fun b n k e a ha h0 => ?_⟩;obtain ⟨a',e1,e2⟩:=h3.lt h0;rw [ha] at e1;cases e1;cases e;omega
 · refine ⟨p,c,h1,h2,h3.upd hU hB (h5 b n k rfl),h4,fun b2 n2 k2 e a ha h0 => ?_⟩;cases e;exact h5 b n k rfl a ha h0
theorem AccP.lt {sz:Nat} (h:AccP sz w v A):∀ b n c,v = .slice (some ⟨b,0,none⟩) n c→b<w.heap.size:=fun b n c e=>by
 obtain ⟨p,k,h1,h2,h3⟩:=h;rcases h3 with ⟨e1,e2,e3⟩ | ⟨b',cs,e1,e2,e3,e4,e5⟩
 · rw [h1,e2] at e;cases e
 · rw [h1,e1] at e;cases e;exact e3.lt
theorem IsOwn.off {sz:Nat} (h:IsOwn sz w v l) (hA:AccP sz' w0 u A) (hs:w0.heap.size≤sz):zBG u w v l:=by
 obtain ⟨p,c,h1,h2,h3,h4,h5⟩:=h;refine ⟨p,c,h1,h2,h3,h4,fun b n k e a ha h0 => ?_⟩;obtain ⟨b',e1,e2⟩:=h5 h0;have:=hA.lt b n k e;rw [ha] at e1;cases e1;show b'≠b;omega
theorem AppY.ext {sz:Nat} (h:AppY u v w w') (hA:AccP sz w u A) (hs:w0.heap.size≤sz) (hE:Ext w0 w):Ext w0 w':=by
 rcases h with ⟨h,_⟩ | ⟨b,l,c,l',c',cs,h1,h2,h3,h4⟩
 · exact hE.trans h
 · refine hE.upd h4 ?_;obtain ⟨p,k,g1,g2,g3⟩:=hA;rcases g3 with ⟨e1,e2,e3⟩ | ⟨b',cs',e1,e2,e3,e4,e5⟩
   · rw [h1,e2] at g1;cases g1
   · rw [h1,e1] at g1;cases g1;omega
variable {b c i:Nat} {cs:List Value} {w1 w2:World}
def zapL (P:Nat→Bool) (T:Poly) (i:Nat):Poly:=T.mapIdx fun k c=>if k<i∧P k=true then 0 else c
theorem zDX {P:Nat→Bool} {T:Poly}:(zapL P T i).length=T.length:=by unfold zapL;simp
theorem zKX {P:Nat→Bool} {T:Poly}:zapL P T 0=T:=by
 unfold zapL;apply List.ext_getElem (by simp);intro k h1 h2;simp
theorem zMO {P:Nat→Bool} {T:Poly} (h:P i=false):zapL P T (i+1)=zapL P T i:=by
 unfold zapL;apply List.ext_getElem (by simp);intro k h1 h2;simp only [List.getElem_mapIdx];by_cases e:k=i
 · subst e;rw [if_neg (by simp [h]),if_neg (by simp [h])]
 · by_cases e2:k<i∧P k=true
   · rw [if_pos e2,if_pos ⟨by omega,e2.2⟩]
   · rw [if_neg e2,if_neg (fun h=>e2 ⟨by omega,h.2⟩)]
theorem zLK {P:Nat→Bool} {T:Poly} (h:P i=true):zapL P T (i+1)=(zapL P T i).set i 0:=by
 unfold zapL;apply List.ext_getElem (by simp);intro k h1 h2;rw [List.getElem_set];simp only [List.getElem_mapIdx];by_cases e:i=k
 · subst e;rw [if_pos rfl,if_pos ⟨by omega,h⟩]
 · rw [if_neg e];by_cases e2:k<i∧P k=true
   · rw [if_pos e2,if_pos ⟨by omega,e2.2⟩]
   · rw [if_neg e2,if_neg (fun h=>e2 ⟨by omega,h.2⟩)]
theorem zLZ {P:Nat→Bool} {T:Poly}:zapL P T T.length=T.mapIdx fun k c=>if P k=true then 0 else c:=by
 unfold zapL;apply List.ext_getElem (by simp);intro k h1 h2;simp only [List.getElem_mapIdx];have:k<T.length:=by simpa using h1
 by_cases e:P k=true
 · rw [if_pos e,if_pos ⟨this,e⟩]
 · rw [if_neg e,if_neg (fun h=>e h.2)]
theorem zapL_fracA {T:Poly}:zapL (fun k=>decide ((T.length-1-k)%2≠0)) T T.length=fracA T:=by
 rw [zLZ];unfold fracA;congr 1;funext k c;by_cases e:(T.length-1-k)%2=0<;>simp [e]
theorem zapL_fracB {T:Poly}:trim (zapL (fun k=>decide ((T.length-1-k)%2=0)) T T.length)=fracB T:=by
 rw [zLZ];unfold fracB;congr 2;funext k c;by_cases e:(T.length-1-k)%2=0<;>simp [e]
theorem zDh {T:Poly}:(fracA T).length=T.length:=by unfold fracA;simp
theorem asked_zero {p:Poly} (h:asked p=0):trim p≠[]∧(trim p).length≤41:=by
 unfold asked at h;split at h
 · cases h
 · split at h
   · cases h
   · exact ⟨by assumption,by omega⟩
theorem Ext.ext {a b c:World} (h:Ext a b) (k:Ext b c):Ext a c:=h.trans k
theorem AppY.num (h:AppY u v w w') (hN:NumAt c q w) (hne:∀ b n k,u = .slice (some ⟨b,0,none⟩) n k→b≠c):NumAt c q w':=by
 rcases h with ⟨h,_⟩ | ⟨b,l,c',l',c'',cs,h1,h2,h3,h4⟩
 · exact hN.ext h
 · exact hN.upd h4 h3 (Ne.symm (hne b l c' h1))
theorem zBG.updN (h:zBG u w v l) (hE:Ext w w1) (hU:Upd c w1 w2) (hB:Blk w1 c 37 cs) (hc:w.heap.size≤c):zBG u w2 v l:=by
 obtain ⟨p,k,h1,h2,h3,h4,h5⟩:=h;exact ⟨p,k,h1,h2,(h3.ext hE).upd hU hB (h3.ne hc),h4,h5⟩
theorem AccP.updN {sz:Nat} (h:AccP sz w v A) (hE:Ext w w1) (hU:Upd c w1 w2) (hB:Blk w1 c 37 cs) (hc:w.heap.size≤c):AccP sz w2 v A :=
 (h.ext hE).upd hU hB (h.new hc)
theorem IsNum.pair {x y:Rat} {a1 a2 a3 b1 b2 b3:Value} (hB:Blk w b 37 [a1,a2,a3,b1,b2,b3]) (hx:IsNum w (.agg #[a1,a2,a3]) x) (hy:IsNum w (.agg #[b1,b2,b3]) y):IsPoly w (.slice (some ⟨b,0,none⟩) 2 2) [x,y] :=
 ⟨_,2,rfl,Nat.le_refl _,.inr ⟨b,0,_,rfl,hB,by simp,fun i hi=>match i,hi with
  | 0,_=>hx
  | 1,_=>hy⟩,by simp⟩
end Go.Proofs.YtjiendlfobjanaaGreatDoor
namespace Go.Proofs.YtjiendlfobjanaaGreatDoor
open Go Go.RowKit Go.Proofs Tryz
set_option maxRecDepth 10000
set_option maxHeartbeats 2000000
attribute [local irreducible] Runs WPE CallK Ret
variable {v:Value} {w:World}
theorem zHr {p:Poly} {R:Poly×Int} (hp:IsPoly w v p) (h:zFL p=some R):Ret prog 16 #[v] w (fun r w'=>∃ u,r = .tuple #[u,.int .i64 R.2]∧IsOwn w.heap.size w' u R.1):=by
 have E0:Ext w w:=Ext.refl w;refine J0 82 func16 rfl (rj fun K=>ag (ag (rm [0] K ?_)));refine zA (rJ fun K=>K1 (j1 E0 hp.ext hb67 (fasked_ok hp) fun vi w2 E0 hp hr => ?_));subst hr;refine ag (rm [0,4] K ?_);refine zA ?_;rcases zEK p with e | e | e
 · obtain ⟨hT0,hTl⟩:=asked_zero e;unfold zFL at h;rw [if_neg (by rw [e];decide)] at h;obtain ⟨Fo,hF,rfl⟩:=map_some h;rw [e];clear h e;refine rI fun K=>K8 rfl (rs [0,4,14] K ?_);refine wcf rfl (sk (rJ fun K=>K1 (j0 E0 hb34 (zCY hp) fun v17 w2 E0 N17 => ?_)));generalize trim p=T at hT0 hTl hF N17;have hTn:0<T.length:=List.length_pos_iff.2 hT0;obtain ⟨tp,tc,rfl,htc,hTR,htl,hto⟩:=N17;have hTP:IsPoly _ (.slice tp T.length tc) T:=⟨tp,tc,rfl,htc,hTR,htl⟩;clear hTR hto hp;refine ag (rm [0] K ?_);refine rJ fun K=>K1 (zI zAB rfl (K1 (zAJ (b:=1) (T.length-1) rfl rfl (by omega) (by omega) (ag (rm [0,5] K ?_)))));refine rj fun K=>mv ?_;have hsz:=E0.size;refine K1 (j1 E0 hTP.ext hb68 (zFp hTP) fun v22 w2 E0 hTP N22 => ?_);obtain ⟨xp,ac,rfl,hac,hXR,-,hXo⟩:=N22;obtain ⟨ab,rfl,hxab⟩:=hXo hT0;have hga:w.heap.size≤ab:=Nat.le_trans hsz hxab;have hA:=hXR.blk hT0;clear hXR hXo;clear hsz hxab;refine mv ?_;have hsz:=E0.size;have hlt:=hA.lt;refine K1 (j2 E0 hTP.ext hA.ext hb68 (zFp hTP) fun v24 w2 E0 hTP hA N24 => ?_);obtain ⟨xp,bc,rfl,hbc,hXR,-,hXo⟩:=N24;obtain ⟨bb,rfl,hxbb⟩:=hXo hT0;have hgb:w.heap.size≤bb:=Nat.le_trans hsz hxbb;have hB:=hXR.blk hT0;clear hXR hXo;have hne:ab≠bb:=by omega
   clear hsz hxbb hlt;refine ag (ag (rm [0,5,6,7] K ?_));refine zA (rJ fun K=>K1 (zI zAB rfl (mv (rm [5,6,7,26,27] K ?_))));refine zF ?_;refine zg (X:=Nat) (fun i ρ w'=>Keep ρ [(5,.int .i64 ((T.length-1:Nat):Int)),(6,.slice (some ⟨ab,0,none⟩) T.length ac),(7,.slice (some ⟨bb,0,none⟩) T.length bc),(26,.int .i64 (T.length:Int)),(27,.int .i64 (i:Int))]∧i≤T.length∧Ext w w'∧PBlk w' ab (zapL (fun k=>decide ((T.length-1-k)%2≠0)) T i)∧PBlk w' bb (zapL (fun k=>decide ((T.length-1-k)%2=0)) T i)) (fun i=>T.length-i) 0 ⟨(kp rfl),Nat.zero_le _,E0,by rw [zKX];exact hA,by rw [zKX];exact hB⟩ ?_;clear E0 hA hB hTP;rintro i ρ1 w1 ⟨hk,hil,E0,hA,hB⟩;refine wpe_k _ hk ?_;clear hk ρ1;refine rj fun K=>K8 rfl (rm [5,6,7,26,27,28] K ?_);refine zA ?_;refine K0 rfl ?_ ?_<;>intro hc
   · have hi:i<T.length:=t_lt hc;clear hc;refine sk (zA (zF (rJ fun K=>ag (rm [5,6,7,8,26,27] K ?_))));refine rJ fun K=>mv (K1 (zAJ (T.length-1-i) rfl rfl (by omega) (by omega) (K1 (zAH (b:=2) ((T.length-1-i)%2) rfl rfl (by decide) rfl (K8 rfl (rm [5,6,7,8,26,27,34] K ?_))))));refine K0 rfl ?_ ?_<;>intro hc
     · have hpar:(T.length-1-i)%2=0:=by have:=eq_of_beq hc;omega
       clear hc;refine rI fun K=>mv (K1 (zT (cs := #[.bool false,.slice none 0 0,.slice none 0 0]) (by kernel_rfl) (K1 (zBb (ix:=i) rfl rfl hi ?_))));refine K1 (zBC (k:=i) rfl rfl IsNum.zero hB (by rw [zDX];exact hi) fun v w2 hU hN => ?_);replace E0:=E0.upd hU hgb;replace hA:=(let ⟨cs,e1,_⟩:=hB;hA.upd hU e1 hne);clear hU hB;have hB:=hN;clear hN;rw [← zLK (by simp [hpar])] at hB;rw [← zMO (P:=(fun k=>decide ((T.length-1-k)%2≠0))) (T:=T) (i:=i) (by simp [hpar])] at hA;refine rl K (zR (zM (K5 [5,6,7,26,27] ?_)));exact K6 fun K=>K1 (zf (b:=1) (i+1) rfl rfl rfl (by omega) (mv (rl K (zO (⟨rfl,i+1,⟨(kp rfl),by omega,E0,hA,hB⟩,by omega⟩)))))
     · have hpar:(T.length-1-i)%2=1:=by have:=ne_of_beq_false hc;omega
       clear hc;refine rI fun K=>mv (K1 (zT (cs := #[.bool false,.slice none 0 0,.slice none 0 0]) (by kernel_rfl) (K1 (zBb (ix:=i) rfl rfl hi ?_))));refine K1 (zBC (k:=i) rfl rfl IsNum.zero hA (by rw [zDX];exact hi) fun v w2 hU hN => ?_);replace E0:=E0.upd hU hga;replace hB:=(let ⟨cs,e1,_⟩:=hA;hB.upd hU e1 (Ne.symm hne));clear hU hA;have hA:=hN;clear hN;rw [← zLK (by simp [hpar])] at hA;rw [← zMO (P:=(fun k=>decide ((T.length-1-k)%2=0))) (T:=T) (i:=i) (by simp [hpar])] at hB;refine rl K (zR (zM (K5 [5,6,7,26,27] ?_)));exact K6 fun K=>K1 (zf (b:=1) (i+1) rfl rfl rfl (by omega) (mv (rl K (zO (⟨rfl,i+1,⟨(kp rfl),by omega,E0,hA,hB⟩,by omega⟩)))))
   · obtain rfl:i=T.length:=by have:=f_lt hc;omega
     clear hc;refine zY (zx (zl (zL (zM (rj fun K=>mv ?_)))));rw [zapL_fracA] at hA;have hBp:IsPoly _ (.slice (some ⟨bb,0,none⟩) T.length bc) (zapL (fun k=>decide ((T.length-1-k)%2=0)) T T.length):=⟨_,bc,by rw [zDX],by rw [zDX];exact hbc,hB.rd,by rw [zDX];omega⟩;have hAp:IsPoly _ (.slice (some ⟨ab,0,none⟩) T.length ac) (fracA T):=⟨_,ac,by rw [zDh],by rw [zDh];exact hac,hA.rd,by rw [zDh];omega⟩;clear hA hB;refine K1 (j1 E0 hAp.ext hb34 (zCY hBp) fun v45 w2 E0 hAp N45 => ?_);rw [zapL_fracB] at N45;have N45:=N45.poly;clear hBp;refine ag (rm [5,6,7,26,27] K ?_);refine rj fun K=>ag (rm [5,6,7,9,26,27] K ?_);refine zA (rJ fun K=>mv (rm [5,6,7,9,26,27,46,47] K ?_));refine zF ?_;refine zg (X:=Nat) (fun m ρ w'=>∃ va vb vo A B O,Keep ρ [(6,va),(7,vb),(9,vo),(46,.int .i64 ((T.length-1:Nat):Int)),(47,.int .i64 (O.length:Int))]∧zBG vo w' va A∧zBG vo w' vb B∧AccP w.heap.size w' vo O∧Ext w w'∧(∃ M,fracL m A B=some M∧Fo=M.map (O ++ ·))∧A.length=m+1∧O.length+m=T.length-1) (fun m=>m) (T.length-1) ⟨_,_,_,fracA T,fracB T,[],(kp rfl),zBG.nil hAp,zBG.nil N45,AccP.nil,E0,⟨Fo,hF,by cases Fo<;>rfl⟩,by rw [zDh];omega,by simp⟩ ?_
     clear E0 hAp N45 hF;rintro m ρ1 w1 ⟨va,vb,vo,A,B,O,hk,hA,hB,hO,E0,⟨M,hM,hFo⟩,hAl,hOl⟩;refine wpe_k _ hk ?_;clear hk ρ1;have hX:Ext w1 w1:=Ext.refl w1;refine zA ?_;rcases m with _ | m
     · cases hM;obtain rfl:Fo=some O:=by rw [hFo];simp
       clear hFo;refine K6 fun K=>K8 rfl (rs [6,7,9,46,47,48] K ?_);refine zA (wcf (congrArg Value.bool (decide_eq_false (by omega))) (zY (zx (zl (zL (zM (rJ fun K=>ag (ag (rm [2,3,6,7,46,47] K ?_)))))))));exact zE (zQ ⟨rfl,_,zw rfl rfl rfl,E0,_,rfl,hO.own (by omega)⟩)
     · skip
       refine K6 fun K=>K8 rfl (rs [6,7,9,46,47,48] K ?_);refine zA (wct (congrArg Value.bool (decide_eq_true (by omega))) (sk (zA (zF (zA (zA ?_))))));obtain ⟨ap,ac',rfl,hac',hAR,hal,hao⟩:=hA;have hA:zBG vo w1 (.slice ap A.length ac') A:=⟨ap,ac',rfl,hac',hAR,hal,hao⟩;obtain ⟨bp,bc',rfl,hbc',hBR,hbl,hbo⟩:=hB;have hB:zBG vo w1 (.slice bp B.length bc') B:=⟨bp,bc',rfl,hbc',hBR,hbl,hbo⟩;clear hao hbo;refine rI fun K=>K1 (zI zAB rfl (mv (K1 (zI zAB rfl (K1 (zAJ (b:=1) (A.length-1) rfl rfl (by omega) (by omega) (K8 rfl (rs [6,7,9,46,47,54] K ?_))))))));refine K0 rfl ?_ ?_<;>intro hc
       · have hbad:B.length+1≠A.length:=by have:=bne_iff_ne.1 hc;omega
         clear hc;unfold fracL at hM;rw [if_pos hbad] at hM;cases hM;obtain rfl:Fo=none:=hFo;refine rj fun K=>ag (ag (rm [2,3,6,7,46,47] K ?_));exact zE (zU (zZ (zU (zAI (zZ (zU (zQ ⟨rfl,_,zw rfl rfl rfl,E0,_,rfl,IsOwn.nil⟩)))))))
       · have hgood:B.length+1=A.length:=by have:=bne_eq_false_iff_eq.1 hc;omega
         clear hc;unfold fracL at hM;rw [if_neg (by omega)] at hM;obtain ⟨q,hq,hM⟩:=bind_some hM;obtain ⟨m1,hm1,hM⟩:=bind_some hM;obtain ⟨c,hc1,hM⟩:=bind_some hM;obtain ⟨M2,hM2,rfl⟩:=map_some hM;clear hM;obtain ⟨hr1,hqe⟩:=zDz hq;clear hq;replace hFo:Fo=M2.map ((O++[q]) ++ ·):=by rw [hFo];cases M2<;>simp
         refine sk (zA ?_);have hE1:=E0
         refine zBy 14 [([(6,none)],none),([(6,none)],none),([(56,some 0)],none),([(57,some 0)],none),([(55,some 3),(58,some 0)],none),([(59,some 0)],none),([(7,none)],none),([(7,none)],none),([(62,some 0)],none),([(63,some 0)],none),([(61,some 3),(64,some 0)],none),([(65,some 0)],none),([(60,some 6),(66,some 0)],none),([],none)] mixed (by kernel_rfl) (by kernel_rfl) (by kernel_rfl) (by kernel_rfl) (by kernel_rfl) fun K hK=>dvp (fun σ wx hE hk=>zC ⟨Ext.refl _,hk.1⟩) (dvp (fun σ wx hE hk=>zC ⟨Ext.refl _,hk.1⟩) (dvp (fun σ wx hE hk=>zI zAB hk.1 ⟨Ext.refl _,rfl⟩) (dvp (fun σ wx hE hk=>zAJ (b:=1) (A.length-1) hk.1 rfl (by omega) (by omega) ⟨Ext.refl _,rfl⟩) (dcp (fun v _=>v = .pointer (ap.map fun a=>a.add (3*(A.length-1)))) (fun _ _ _ _ _ h=>h) (fun σ wx hE hk=>runs_pindex (hAR.ext hE) hk.1 hk.2.1 (by omega) ⟨Ext.refl _,rfl⟩) (dcp (fun v w'=>IsNum w' v (top A)) (fun _ _ _ _ hx h=>h.ext hx.toExt) (fun σ wx hE hk=>runs_pload (hAR.ext hE) (by omega) hk.1 fun v h=>⟨Ext.refl _,h⟩) (dvp (fun σ wx hE hk=>zC ⟨Ext.refl _,hk.1⟩) (dvp (fun σ wx hE hk=>zC ⟨Ext.refl _,hk.1⟩) (dvp (fun σ wx hE hk=>zI zAB hk.1 ⟨Ext.refl _,rfl⟩) (dvp (fun σ wx hE hk=>zAJ (b:=1) (B.length-1) hk.1 rfl (by omega) (by omega) ⟨Ext.refl _,rfl⟩) (dcp (fun v _=>v = .pointer (bp.map fun a=>a.add (3*(B.length-1)))) (fun _ _ _ _ _ h=>h) (fun σ wx hE hk=>runs_pindex (hBR.ext hE) hk.1 hk.2.1 (by omega) ⟨Ext.refl _,rfl⟩) (dcp (fun v w'=>IsNum w' v (top B)) (fun _ _ _ _ hx h=>h.ext hx.toExt) (fun σ wx hE hk=>runs_pload (hBR.ext hE) (by omega) hk.1 fun v h=>⟨Ext.refl _,h⟩) ?_)))))))))))
         refine dcp (fun v w'=>IsNum w' v q) (fun _ _ _ _ hx h=>h.ext hx.toExt) (fun σ wx hE hk=>zH hb69 (CallK.of_ret (zGw hk.1 hk.2.1 hr1) fun v w2 hX hr=>⟨hX,(by rw [hqe];exact hr)⟩) rfl) ?_;refine dcp (fun v w'=>∃ b,v = .pointer (some ⟨b,0,none⟩)∧Blk w' b 37 [.bool false,.slice none 0 0,.slice none 0 0]∧w1.heap.size≤b) (fun _ _ _ _ hx h=>(let ⟨b,e,hB,hg⟩:=h;⟨b,e,hB.ext hx.toExt,hg⟩)) (fun σ wx hE hk=>zV zAY fun b w2 hb hX hB hs=>⟨hX,b,rfl,hB,(by rw [hb];exact hE.size)⟩) ?_;refine zAi (hK _ fun wq hE => ?_);rintro _ rfl _ rfl _ rfl _ rfl v59 N59 v60 N60 _ rfl _ rfl _ rfl _ rfl v65 N65 v66 N66 v67 N67 v10 N10;refine zh ?_;replace E0:=E0.trans hE;replace hX:=hX.ext hE;clear hE;obtain ⟨gb,rfl,hBg,hgg⟩:=N10;have hg0:w.heap.size≤gb:=Nat.le_trans hE1.size hgg;have hAn:=hO.lt;refine K1 (zN rfl N67 (Cell3.of hBg rfl) fun _ w9 hU hNA => ?_);replace E0:=E0.upd hU hg0;replace hA:=hA.updN hX hU hBg hgg;replace hB:=hB.updN hX hU hBg hgg;replace hO:=hO.updN hX hU hBg hgg;clear hU hBg N67 N60 N66;refine zCh (zM (K5 [6,7,9,10,46,47] ?_));refine rJ fun K=>K1 (za rfl hNA fun v69 N69 => ?_);obtain ⟨n69,d69,rfl,hn69,hd69⟩:=N69;have N69:IsNum _ (.agg #[.bool (decide (q<0)),n69,d69]) q:=⟨_,_,rfl,hn69,hd69⟩;clear hn69 hd69
         refine K1 (zi (cs:=[.bool (decide (q<0)),n69,d69]) zAc info37' (by decide) (by decide) (by kernel_rfl) fun sb w10 hb hE hBb hs => ?_);replace E0:=E0.trans hE;replace hA:=hA.ext hE;replace hB:=hB.ext hE;replace hO:=hO.ext hE;replace N69:=N69.ext hE;replace hNA:=hNA.ext hE;clear hE hb hs;refine K1 (runs_append_numY hO rfl hBb N69 (by omega) E0.size fun v71 w11 hY hO2 => ?_);replace E0:=hY.ext hO (Nat.le_refl _) E0;replace hA:=hA.app hY;replace hB:=hB.app hY;replace hNA:=hY.num hNA (fun b n k e=>by have:=hAn b n k e;omega);clear hO hY hBb N69;have hO:=hO2;clear hO2;refine ag (rm [6,7,9,10,46,47] K ?_);refine rI fun K=>mv (mv (K1 (zT (cs := #[.bool false,.slice none 0 0,.slice none 0 0]) (by kernel_rfl) (K1 (za rfl hNA fun v76 N76 => ?_)))));obtain ⟨n76,d76,rfl,hn76,hd76⟩:=N76;have N76:IsNum _ (.agg #[.bool (decide (q<0)),n76,d76]) q:=⟨_,_,rfl,hn76,hd76⟩;clear hn76 hd76;refine K1 (zi (cs:=[.bool false,.slice none 0 0,.slice none 0 0,.bool (decide (q<0)),n76,d76]) zAc info37' (by decide) (by decide) (by kernel_rfl) fun sb w10 hb hE hBb hs => ?_);replace E0:=E0.trans hE;replace hA:=hA.ext hE;replace hB:=hB.ext hE;replace hO:=hO.ext hE;replace N76:=N76.ext hE;clear hE hb hs hNA;have hL:=IsNum.pair hBb IsNum.zero N76;clear hBb N76
         refine K1 (j3 E0 hA.ext hB.ext hO.ext hb71 (zFW hB.poly hL hm1) fun v78 w2 E0 hA hB hO N78 => ?_);have N78:=N78.poly;clear hL;refine K1 (zH hb70 (CallK.of_ret (zHf hA.poly N78 hc1) fun v79 w12 hE9 N79 => ?_) rfl);replace E0:=E0.trans hE9;replace hB:=hB.ext hE9;clear hA N78;refine ag (ag (rl K (zR (zM (K5 [6,7,9,46,47] ?_)))));refine K6 fun K=>K1 (zf (b:=1) (O.length+1) rfl rfl rfl (by omega) (mv (rl K (zO ?_))));exact ⟨rfl,m,⟨_,_,_,B,c,O++[q],⟨rfl,rfl,rfl,rfl,rfl,rfl,rfl,rfl,rfl,congrArg (fun z:Nat=>Value.int .i64 (z:Int)) (by simp),trivial⟩,hB,N79.off hO (Nat.le_refl _),hO.ext hE9,E0,⟨M2,hM2,hFo⟩,by omega,by simp;omega⟩,by omega⟩
 · unfold zFL at h;rw [if_pos (by rw [e];decide),e] at h;obtain rfl:=Option.some.inj h;rw [e];clear h;refine rI fun K=>K8 rfl (rs [0,4,14] K ?_);refine wct rfl (rJ fun K=>ag (ag (rm [2,3] K ?_)));exact zE (zU (zQ ⟨rfl,_,zw rfl rfl rfl,E0,_,rfl,IsOwn.nil⟩))
 · unfold zFL at h;rw [if_pos (by rw [e];decide),e] at h;obtain rfl:=Option.some.inj h;rw [e];clear h;refine rI fun K=>K8 rfl (rs [0,4,14] K ?_);refine wct rfl (rJ fun K=>ag (ag (rm [2,3] K ?_)));exact zE (zU (zQ ⟨rfl,_,zw rfl rfl rfl,E0,_,rfl,IsOwn.nil⟩))
theorem Ladder_ok {p:Poly} {R:Poly×Int} (hp:IsPoly w v p) (h:zMf p=some R):Ret prog 17 #[v] w (fun r w'=>∃ u,r = .tuple #[u,.int .i64 R.2]∧IsOwn w.heap.size w' u R.1):=by
 have E0:Ext w w:=Ext.refl w;refine J0 26 func17 rfl (rj fun K=>ag (ag (rm [0] K ?_)));refine zA ?_;unfold zMf at h;obtain ⟨rt,h1,h⟩:=bind_some h;refine rI fun K=>K1 (j1 E0 hp.ext hb72 (Routh_ok hp h1) fun vi w2 E0 hp hr => ?_);obtain ⟨rfl,hb1,hb2⟩:=hr;refine mv (xt rfl (xt rfl (xt rfl (ag (ag (ag (rs [0,4,5,6] K ?_)))))));refine zA (zF (rJ fun K=>K8 rfl (ag (rm [0,4,5,6,13] K ?_))));refine K0 rfl ?_ ?_<;>intro hc
 · have he:rt.2.2≠0:=bne_iff_ne.1 hc;clear hc;rw [if_pos he] at h;obtain rfl:=Option.some.inj h;refine rJ fun K=>ag (ag (rm [2,3] K ?_));exact zE (zZ (zU (zQ ⟨rfl,_,zw rfl rfl rfl,E0,_,rfl,IsOwn.nil⟩)))
 · have he:rt.2.2=0:=bne_eq_false_iff_eq.1 hc;clear hc;rw [if_neg (by omega)] at h;refine rJ fun K=>mv (K1 (zJ (v := .int .i64 (rt.1+rt.2.1)) rfl rfl (congrArg (fun z=>some (Value.int .i64 z)) (zm (by omega) (by omega))) (K8 rfl (ag (rm [0,17] K ?_)))));refine K0 rfl ?_ ?_<;>intro hc
   · have hl:0<rt.1+rt.2.1:=of_decide_eq_true hc;clear hc;rw [if_pos hl] at h;obtain rfl:=Option.some.inj h;refine rj fun K=>ag (ag (rm [2,3] K ?_));exact zE (zZ (zU (zQ ⟨rfl,_,zw rfl rfl rfl,E0,_,rfl,IsOwn.nil⟩)))
   · have hl:¬ 0<rt.1+rt.2.1:=of_decide_eq_false hc;clear hc;rw [if_neg hl] at h;refine zp (zR (zM (rj fun K=>mv ?_)));have hsz:=E0.size;refine K1 (j0 E0 hb16 (zHr hp h) fun v23 w2 E0 hr => ?_);obtain ⟨u,rfl,hu⟩:=hr;refine xt rfl (xt rfl (ag (ag (rm [2,3] K ?_))));exact zE (zQ ⟨rfl,_,zw rfl rfl rfl,E0,_,rfl,hu.sz hsz⟩)
end Go.Proofs.YtjiendlfobjanaaGreatDoor
namespace Go.Proofs.YtjiendlfobjanaaGreatDoor
open Go Go.RowKit Go.Proofs Tryz
set_option maxRecDepth 10000
set_option maxHeartbeats 2000000
variable {E a b c i ix len n o:Nat} {P:Program} {T T' ty:TypeId} {af:Array Edge} {cs cs':List Value} {g:Option (Nat×Bool)} {l:List Rat} {pos:String} {r:Option Nat} {v:Value} {w w':World} {x:Operand} {σ:Operand→Value}
section laws
variable {K:Value→World→Prop} {d:Option Tmp}
def ArrOf (P:Program) (T len E n:Nat):Prop:=P.underlying T=some (.array len E)∧(P.info? E).map (·.size)=some n
theorem zk {T:Nat} {i:Operand} {k:IntKind} {ix:Int} (hT:ArrOf P T len E n) (hx:σ x = .pointer (some ⟨b,o,none⟩)) (hi:σ i = .int k ix) (h0:0≤ix) (h1:ix<len)
 (hk:K (.pointer (some ⟨b,o+ix.toNat*n,none⟩)) w):Runs P r ⟨d,.indexAddr T x i,ty,pos,af,g⟩ σ w K:=by
 refine zo (fun _ e=>by cases e) ?_ hk;simp [execOp,Instr.indexAt,run_underlying hT.1,hx,hi,asIntOf,h0,h1,run_sizeOf' hT.2,zAa,Instr.sureAddr]
theorem zDk {T:Nat} {i:Operand} {cs:Array Value} {k:IntKind} (hT:ArrOf P T len E 1) (hE:Plain P E) (hx:σ x = .agg cs) (hi:σ i = .int k (ix:Int)) (h1:ix<len) (hv:cs[ix]? = some v)
 (hk:K v w):Runs P r ⟨d,.index T x i,ty,pos,af,g⟩ σ w K:=by
 refine zo (fun _ e=>by cases e) ?_ hk;have h2:((ix:Nat):Int)<(len:Int):=by omega
 have h3:(0:Int)≤(ix:Int):=by omega
 simp [execOp,Instr.index,run_underlying hT.1,hx,hi,asIntOf,h2,run_sizeOf' hT.2,part,hE.isAgg,hv,h1]
end laws
theorem zDr:ArrOf prog 245 2 25 1:=by unfold ArrOf;exact ⟨by kernel_rfl,by kernel_rfl⟩
theorem zKz:(prog.info? 245).bind (·.zero)=some (.agg #[.slice none 0 0,.slice none 0 0]):=by kernel_rfl
theorem zLC:(prog.info? 245).map (·.size)=some 2:=by kernel_rfl
theorem aggr245:Aggr prog 245 2:=by unfold Aggr;exact ⟨by kernel_rfl,by kernel_rfl⟩
theorem Blk.neT (h:Blk w a T cs) (k:Blk w b T' cs') (hT:T≠T'):a≠b:=fun e=>by
 subst e;unfold Blk at h k;rw [h] at k;cases k;exact hT rfl
theorem PBlk.updT (h:PBlk w b l) (hu:Upd c w w') (hc:Blk w c T cs) (h1:T≠37) (h2:T≠164):PBlk w' b l:=by
 obtain ⟨ds,e1,e2,e3⟩:=h;exact ⟨ds,e1.upd hu (e1.neT hc (Ne.symm h1)),e2,fun i hi=>(e3 i hi).updT hu hc h2⟩
theorem PBlk.ne (h:PBlk w b l) (hc:Blk w c T cs) (h1:T≠37):b≠c:=by
 obtain ⟨ds,e1,_⟩:=h;exact e1.neT hc (Ne.symm h1)
def fillL (P:Nat→Bool) (q:Poly) (i:Nat):Poly:=q.mapIdx fun k c=>if k<i∧P k=true then c else 0
theorem zBO {P:Nat→Bool} {q:Poly}:(fillL P q i).length=q.length:=by unfold fillL;simp
theorem zIM {P:Nat→Bool} {q:Poly}:fillL P q 0=List.replicate q.length 0:=by
 unfold fillL;apply List.ext_getElem (by simp);intro k h1 h2;simp
theorem zLT {P:Nat→Bool} {q:Poly} (h:P i=false):fillL P q (i+1)=fillL P q i:=by
 unfold fillL;apply List.ext_getElem (by simp);intro k h1 h2;simp only [List.getElem_mapIdx];by_cases e:k=i
 · subst e;rw [if_neg (by simp [h]),if_neg (by simp [h])]
 · by_cases e2:k<i∧P k=true
   · rw [if_pos e2,if_pos ⟨by omega,e2.2⟩]
   · rw [if_neg e2,if_neg (fun h=>e2 ⟨by omega,h.2⟩)]
theorem zKG {P:Nat→Bool} {q:Poly} (h:P i=true):fillL P q (i+1)=(fillL P q i).set i (q.getD i 0):=by
 unfold fillL;apply List.ext_getElem (by simp);intro k h1 h2;rw [List.getElem_set];simp only [List.getElem_mapIdx];have hk:k<q.length:=by simpa using h1
 by_cases e:i=k
 · subst e;rw [if_pos rfl,if_pos ⟨by omega,h⟩];simp [hk]
 · rw [if_neg e];by_cases e2:k<i∧P k=true
   · rw [if_pos e2,if_pos ⟨by omega,e2.2⟩]
   · rw [if_neg e2,if_neg (fun h=>e2 ⟨by omega,h.2⟩)]
theorem zKb {P:Nat→Bool} {q:Poly}:fillL P q q.length=q.mapIdx fun k c=>if P k=true then c else 0:=by
 unfold fillL;apply List.ext_getElem (by simp);intro k h1 h2;simp only [List.getElem_mapIdx];have:k<q.length:=by simpa using h1
 by_cases e:P k=true
 · rw [if_pos e,if_pos ⟨this,e⟩]
 · rw [if_neg e,if_neg (fun h=>e h.2)]
def turn4 (p:Poly):Poly:=p.mapIdx fun k c=>if 2≤k%4 then -c else c
theorem zAm {p:Poly}:(turn4 p).length=p.length:=by unfold turn4;simp
theorem zJu {p:Poly} (h:i<p.length):(turn4 p).getD i 0=if 2≤i%4 then -(p.getD i 0) else p.getD i 0:=by
 unfold turn4;simp [h]
theorem square_eq (p:Poly):zLy p=(pmul (fillL (fun k=>decide (k%2=0)) (turn4 p) (turn4 p).length) (fillL (fun k=>decide (k%2=0)) (turn4 p) (turn4 p).length)).bind fun x =>
 (pmul (fillL (fun k=>decide (k%2=1)) (turn4 p) (turn4 p).length) (fillL (fun k=>decide (k%2=1)) (turn4 p) (turn4 p).length)).bind fun y=>padd x y:=by
 rw [zKb,zKb];have e1:(turn4 p).mapIdx (fun k c=>if k%2=0 then c else 0)=(turn4 p).mapIdx fun k c=>if decide (k%2=0)=true then c else 0:=by
  congr 1;funext k c;by_cases e:k%2=0<;>simp [e]
 have e2:(turn4 p).mapIdx (fun k c=>if k%2=0 then 0 else c)=(turn4 p).mapIdx fun k c=>if decide (k%2=1)=true then c else 0:=by
  congr 1;funext k c;rcases Nat.mod_two_eq_zero_or_one k with e | e<;>simp [e]
 rw [← e1,← e2];rfl
end Go.Proofs.YtjiendlfobjanaaGreatDoor
namespace Go.Proofs.YtjiendlfobjanaaGreatDoor
open Go Go.RowKit Go.Proofs Tryz
set_option maxRecDepth 10000
set_option maxHeartbeats 2000000
attribute [local irreducible] Runs WPE CallK Ret
variable {v:Value} {w:World}
theorem zKj {p s:Poly} (hp:IsPoly w v p) (h:zLy p=some s):Ret prog 75 #[v] w (fun r w'=>IsOwn w.heap.size w' r s):=by
 obtain ⟨pp,pc,rfl,hpc,hpP,hpl⟩:=hp;have E0:Ext w w:=Ext.refl w;refine J0 44 func75 rfl (rj fun K=>ag (rm [0] K ?_));refine zA ?_;rw [square_eq] at h;obtain ⟨x,h1,h⟩:=bind_some h;obtain ⟨y,h2,h3⟩:=bind_some h;clear h;refine zId [2,5,7] [(6,fun σ=>(fun l => .agg l.toArray) ([8,11].map σ))] 8 [([(0,none)],none),([(6,some 0)],none),([(7,some 0),(7,some 0)],none),([(0,none)],none),([(9,some 0)],none),([(10,some 0),(10,some 0)],none),([(8,some 3),(11,some 0)],none),([],none)] mixed (by kernel_rfl) (by kernel_rfl) (by kernel_rfl) (by kernel_rfl) (by kernel_rfl) (fun i hi=>by simp [zCe] at hi;show i<8;omega) (zCr.cons [8,11] (fun l => .agg l.toArray) (by kernel_rfl) (zCr.nil)) fun K hK => ?_;refine dxv (by decide) (fun σ wx hE hk=>zC ⟨Ext.refl _,hk.1⟩) (dxv (by decide) (fun σ wx hE hk=>zI zAB hk.1 ⟨Ext.refl _,rfl⟩) ?_);refine dxn (fun v w'=>∃ b,v = .slice (some ⟨b,0,none⟩) p.length p.length∧PBlk w' b (List.replicate p.length 0)∧w.heap.size≤b) (by decide) (fun _ _ _ _ hx h=>(let ⟨b,e,hB,hg⟩:=h;⟨b,e,hB.ext hx.toExt,hg⟩)) (fun σ wx hE hk=>zAG zAc zDx rfl hk.1 hk.1 (by omega) (by omega) (by omega) fun b w2 hb hX hB hs=>⟨hX,⟨b,rfl,PBlk.zeros hB,(by rw [hb];exact hE.size)⟩,Xtra.new (by decide) fun c hc=>(by cases hc;exact ⟨Nat.le_of_eq hb.symm,by show b<_;omega⟩)⟩) ?_
 refine dxv (by decide) (fun σ wx hE hk=>zC ⟨Ext.refl _,hk.1⟩) (dxv (by decide) (fun σ wx hE hk=>zI zAB hk.1 ⟨Ext.refl _,rfl⟩) ?_);refine dxn (fun v w'=>∃ b,v = .slice (some ⟨b,0,none⟩) p.length p.length∧PBlk w' b (List.replicate p.length 0)∧w.heap.size≤b) (by decide) (fun _ _ _ _ hx h=>(let ⟨b,e,hB,hg⟩:=h;⟨b,e,hB.ext hx.toExt,hg⟩)) (fun σ wx hE hk=>zAG zAc zDx rfl hk.1 hk.1 (by omega) (by omega) (by omega) fun b w2 hb hX hB hs=>⟨hX,⟨b,rfl,PBlk.zeros hB,(by rw [hb];exact hE.size)⟩,Xtra.new (by decide) fun c hc=>(by cases hc;exact ⟨Nat.le_of_eq hb.symm,by show b<_;omega⟩)⟩) ?_;refine dxn (fun _ _=>True) (by decide) (fun _ _ _ _ _ h=>h) (fun σ wx hE hk=>(by obtain ⟨y1,e1,-⟩:=hk.1;obtain ⟨y2,e2,-⟩:=hk.2.1;refine zT (cs := #[.slice (some ⟨y1,0,none⟩) p.length p.length,.slice (some ⟨y2,0,none⟩) p.length p.length]) ?_ ⟨Ext.refl _,trivial,Xtra.one (by decide) (by show _=Value.agg #[σ 8,σ 11];rw [e1,e2])⟩;show prog.built 245 [(0,σ 8),(1,σ 11)]=_;rw [e1,e2];kernel_rfl)) ?_
 refine dxn (fun v w'=>∃ b,v = .pointer (some ⟨b,0,none⟩)∧Blk w' b 245 [.slice none 0 0,.slice none 0 0]∧w.heap.size≤b) (by decide) (fun _ _ _ _ hx h=>(let ⟨b,e,hB,hg⟩:=h;⟨b,e,hB.ext hx.toExt,hg⟩)) (fun σ wx hE hk=>zV zKz fun b w2 hb hX hB hs=>⟨hX,⟨b,rfl,hB,(by rw [hb];exact hE.size)⟩,Xtra.new (by decide) fun c hc=>(by cases hc;exact ⟨Nat.le_of_eq hb.symm,by show b<_;omega⟩)⟩) ?_;refine zMW (hK _ fun wq hE => ?_);rintro _ rfl _ rfl v8 N8 _ rfl _ rfl v11 N11 v12 N12 v3 N3;refine zh ?_;intro hsep;replace E0:=E0.trans hE;clear hE;obtain ⟨b1,rfl,hP1,hg1⟩:=N8;obtain ⟨b2,rfl,hP2,hg2⟩:=N11;obtain ⟨cb,rfl,hBc,hgc⟩:=N3;have e12:v12 = .agg #[.slice (some ⟨b1,0,none⟩) p.length p.length,.slice (some ⟨b2,0,none⟩) p.length p.length]:=hsep.2 6 _ (List.mem_singleton.2 rfl) 12 rfl;subst e12;have hne:b1≠b2:=fun e=>hsep.1 2 (by decide) 5 (by decide) (by decide) 8 11 rfl rfl b1 rfl (by rw [e];rfl);clear hsep N12;refine K1 (zc zLC rfl hBc rfl (Nat.le_of_ble_eq_true rfl) (by decide) rfl fun w9 hU hN => ?_);replace E0:=E0.upd hU hgc;replace hP1:=hP1.updT hU hBc (by decide) (by decide);replace hP2:=hP2.updT hU hBc (by decide) (by decide);clear hU hBc;have hBc:=hN;clear hN;refine zCh (zM (K5 [0,3] ?_));refine zA (rJ fun K=>K1 (zI zAB rfl (mv (rm [3,13,14,15] K ?_))));refine zF ?_
 refine zg (X:=Nat) (fun i ρ w'=>Keep ρ [(3,.pointer (some ⟨cb,0,none⟩)),(13,.slice pp p.length pc),(14,.int .i64 (p.length:Int)),(15,.int .i64 (i:Int))]∧i≤p.length∧Ext w w'∧Blk w' cb 245 [.slice (some ⟨b1,0,none⟩) p.length p.length,.slice (some ⟨b2,0,none⟩) p.length p.length]∧PBlk w' b1 (fillL (fun k=>decide (k%2=0)) (turn4 p) i)∧PBlk w' b2 (fillL (fun k=>decide (k%2=1)) (turn4 p) i)) (fun i=>p.length-i) 0 ⟨(kp rfl),Nat.zero_le _,E0,hBc,by rw [zIM,zAm];exact hP1,by rw [zIM,zAm];exact hP2⟩ ?_;clear E0 hBc hP1 hP2;rintro i ρ1 w1 ⟨hk,hil,E0,hBc,hP1,hP2⟩;refine wpe_k _ hk ?_;clear hk ρ1;refine rj fun K=>K8 rfl (rm [3,13,14,15,16] K ?_);refine zA ?_;refine K0 rfl ?_ ?_<;>intro hc
 · have hi:i<p.length:=t_lt hc;clear hc;refine sk (zA (zF (rJ fun K=>K1 (runs_pindex (hpP.ext E0) rfl rfl hi (K1 (runs_pload (hpP.ext E0) hi rfl fun v19 N19 => ?_))))));refine K1 (zV zAY fun gb w7 hb hE hBg hs => ?_);have hgg:w.heap.size≤gb:=by rw [hb];exact E0.size
   have hn1:gb≠b1:=by have:=hP1.lt;omega
   have hn2:gb≠b2:=by have:=hP2.lt;omega
   have hn3:cb≠gb:=by have:=hBc.lt;omega
   have hgl:[Value.bool false,.slice none 0 0,.slice none 0 0].length=3:=rfl;replace E0:=E0.trans hE;replace N19:=N19.ext hE;replace hBc:=hBc.ext hE;replace hP1:=hP1.ext hE;replace hP2:=hP2.ext hE;clear hE hb hs;refine ag (K1 (zN rfl N19 (Cell3.of hBg hgl) fun _ w9 hU hNA => ?_));replace E0:=E0.upd hU hgg;replace hP1:=hP1.upd hU hBg (Ne.symm hn1);replace hP2:=hP2.upd hU hBg (Ne.symm hn2);replace hBc:=hBc.upd hU hn3;clear hU hBg;clear N19 hgl;refine rm [3,4,5,13,14,15] K ?_;refine zAu (fun ρ w'=>∃ gb,Keep ρ [(3,.pointer (some ⟨cb,0,none⟩)),(4,.int .i64 (i:Int)),(5,.pointer (some ⟨gb,0,none⟩)),(13,.slice pp p.length pc),(14,.int .i64 (p.length:Int)),(15,.int .i64 (i:Int))]∧Ext w w'∧Blk w' cb 245 [.slice (some ⟨b1,0,none⟩) p.length p.length,.slice (some ⟨b2,0,none⟩) p.length p.length]∧PBlk w' b1 (fillL (fun k=>decide (k%2=0)) (turn4 p) i)∧PBlk w' b2 (fillL (fun k=>decide (k%2=1)) (turn4 p) i)∧NumAt gb ((turn4 p).getD i 0) w'∧w.heap.size≤gb) ?_ ?_
   · refine rJ fun K=>K1 (zAH (b:=4) (i%4) rfl rfl (by decide) rfl (K8 rfl (rm [3,4,5,13,14,15,22] K ?_)));refine K0 rfl ?_ ?_<;>intro hc
     · have h4:2≤i%4:=by have:=of_decide_eq_true hc;omega
       clear hc;refine K6 fun K=>K1 (za rfl hNA fun v23 N23=>K1 (j4 E0 hNA.ext hP1.ext hP2.ext hBc.ext hb132 (zNC N23) fun v24 w2 E0 hNA hP1 hP2 hBc N24 => ?_));obtain ⟨gcs,hBg,hgl,-⟩:=hNA;refine K1 (zN rfl N24 (Cell3.of hBg hgl) fun _ w9 hU hNA => ?_);replace E0:=E0.upd hU hgg;replace hP1:=hP1.upd hU hBg (Ne.symm hn1);replace hP2:=hP2.upd hU hBg (Ne.symm hn2);replace hBc:=hBc.upd hU hn3;clear hU hBg
       try clear N24
       refine rl K (zO ?_);exact ⟨rfl,gb,(kp rfl),E0,hBc,hP1,hP2,by rw [zJu hi,if_pos h4];exact hNA,hgg⟩
     · have h4:¬ 2≤i%4:=by have:=of_decide_eq_false hc;omega
       clear hc;refine zp (zO ?_);exact ⟨rfl,gb,(kp rfl),E0,hBc,hP1,hP2,by rw [zJu hi,if_neg h4];exact hNA,hgg⟩
   · clear E0 hBc hP1 hP2 hNA hgg hn1 hn2 hn3 gb;rintro ρ2 w2 ⟨gb,hk,E0,hBc,hP1,hP2,hNA,hgg⟩;refine wpe_k _ hk ?_;clear hk ρ2;rcases Nat.mod_two_eq_zero_or_one i with hpar | hpar
     · skip
       refine zBy 7 [([(4,none)],none),([(25,some 0)],none),([(3,none),(26,some 0)],none),([(27,some 0)],none),([(4,none)],none),([(5,none)],none),([(28,some 2),(29,some 1)],none)] mixed (by kernel_rfl) (by kernel_rfl) (by kernel_rfl) (by kernel_rfl) (by kernel_rfl) fun K hK=>dvp (fun σ wx hE hk=>zC ⟨Ext.refl _,hk.1⟩) (dvp (fun σ wx hE hk=>zAH (b:=2) (0) hk.1 rfl (by decide) hpar ⟨Ext.refl _,rfl⟩) (dcp (fun v _=>v = .pointer (some ⟨cb,0,none⟩)) (fun _ _ _ _ _ h=>h) (fun σ wx hE hk=>zk zDr hk.1 hk.2.1 (by decide) (by decide) ⟨Ext.refl _,rfl⟩) (dcp (fun v _=>v = .slice (some ⟨b1,0,none⟩) p.length p.length) (fun _ _ _ _ _ h=>h) (fun σ wx hE hk=>zD zBK hk.1 (hBc.ext hE) rfl ⟨Ext.refl _,rfl⟩) (dvp (fun σ wx hE hk=>zC ⟨Ext.refl _,hk.1⟩) (dcp (fun v w'=>IsNum w' v ((turn4 p).getD i 0)) (fun _ _ _ _ hx h=>h.ext hx.toExt) (fun σ wx hE hk=>za hk.1 (hNA.ext hE) fun v h=>⟨Ext.refl _,h⟩) (dcp (fun v _=>v = .pointer (some ⟨b1,3*i,none⟩)) (fun _ _ _ _ _ h=>h) (fun σ wx hE hk=>zBb hk.1 hk.2.1 hi ⟨Ext.refl _,rfl⟩) (zAi (hK _ fun wq hE => ?_))))))));rintro _ rfl _ rfl v27 N27 v28 N28 _ rfl v30 N30 v31 N31;refine zh ?_;replace E0:=E0.trans hE;replace hBc:=hBc.ext hE;replace hP1:=hP1.ext hE;replace hP2:=hP2.ext hE;replace hNA:=hNA.ext hE;clear hE;subst N27;subst N28;subst N31
       refine K1 (zBC (k:=i) rfl rfl N30 hP1 (by rw [zBO,zAm];exact hi) fun v w2 hU hN => ?_);replace E0:=E0.upd hU hg1;replace hBc:=hBc.upd hU (Ne.symm (hP1.ne hBc (by decide)));replace hP2:=(let ⟨cs,e1,_⟩:=hP1;hP2.upd hU e1 (Ne.symm hne));clear hU hP1 N30;have hP1:=hN;clear hN;rw [← zKG (by simp [hpar])] at hP1;rw [← zLT (P:=(fun k=>decide (k%2=1))) (q:=turn4 p) (i:=i) (by simp [hpar])] at hP2;refine zCh (zR (zM (K5 [3,4,5,13,14,15] ?_)));exact K6 fun K=>K1 (zf (b:=1) (i+1) rfl rfl rfl (by omega) (mv (rl K (zO (⟨rfl,i+1,⟨(kp rfl),by omega,E0,hBc,hP1,hP2⟩,by omega⟩)))))
     · skip
       refine zBy 7 [([(4,none)],none),([(25,some 0)],none),([(3,none),(26,some 0)],none),([(27,some 0)],none),([(4,none)],none),([(5,none)],none),([(28,some 2),(29,some 1)],none)] mixed (by kernel_rfl) (by kernel_rfl) (by kernel_rfl) (by kernel_rfl) (by kernel_rfl) fun K hK=>dvp (fun σ wx hE hk=>zC ⟨Ext.refl _,hk.1⟩) (dvp (fun σ wx hE hk=>zAH (b:=2) (1) hk.1 rfl (by decide) hpar ⟨Ext.refl _,rfl⟩) (dcp (fun v _=>v = .pointer (some ⟨cb,1,none⟩)) (fun _ _ _ _ _ h=>h) (fun σ wx hE hk=>zk zDr hk.1 hk.2.1 (by decide) (by decide) ⟨Ext.refl _,rfl⟩) (dcp (fun v _=>v = .slice (some ⟨b2,0,none⟩) p.length p.length) (fun _ _ _ _ _ h=>h) (fun σ wx hE hk=>zD zBK hk.1 (hBc.ext hE) rfl ⟨Ext.refl _,rfl⟩) (dvp (fun σ wx hE hk=>zC ⟨Ext.refl _,hk.1⟩) (dcp (fun v w'=>IsNum w' v ((turn4 p).getD i 0)) (fun _ _ _ _ hx h=>h.ext hx.toExt) (fun σ wx hE hk=>za hk.1 (hNA.ext hE) fun v h=>⟨Ext.refl _,h⟩) (dcp (fun v _=>v = .pointer (some ⟨b2,3*i,none⟩)) (fun _ _ _ _ _ h=>h) (fun σ wx hE hk=>zBb hk.1 hk.2.1 hi ⟨Ext.refl _,rfl⟩) (zAi (hK _ fun wq hE => ?_))))))));rintro _ rfl _ rfl v27 N27 v28 N28 _ rfl v30 N30 v31 N31;refine zh ?_;replace E0:=E0.trans hE;replace hBc:=hBc.ext hE;replace hP1:=hP1.ext hE;replace hP2:=hP2.ext hE;replace hNA:=hNA.ext hE;clear hE;subst N27;subst N28;subst N31
       refine K1 (zBC (k:=i) rfl rfl N30 hP2 (by rw [zBO,zAm];exact hi) fun v w2 hU hN => ?_);replace E0:=E0.upd hU hg2;replace hBc:=hBc.upd hU (Ne.symm (hP2.ne hBc (by decide)));replace hP1:=(let ⟨cs,e1,_⟩:=hP2;hP1.upd hU e1 hne);clear hU hP2 N30;have hP2:=hN;clear hN;rw [← zKG (by simp [hpar])] at hP2;rw [← zLT (P:=(fun k=>decide (k%2=0))) (q:=turn4 p) (i:=i) (by simp [hpar])] at hP1;refine zCh (zR (zM (K5 [3,4,5,13,14,15] ?_)));exact K6 fun K=>K1 (zf (b:=1) (i+1) rfl rfl rfl (by omega) (mv (rl K (zO (⟨rfl,i+1,⟨(kp rfl),by omega,E0,hBc,hP1,hP2⟩,by omega⟩)))))
 · obtain rfl:i=p.length:=by have:=f_lt hc;omega
   clear hc;refine zY (zx (zl (zL (zM (zA ?_)))));have hA1:IsPoly _ (.slice (some ⟨b1,0,none⟩) p.length p.length) (fillL (fun k=>decide (k%2=0)) (turn4 p) p.length):=⟨_,p.length,by rw [zBO,zAm],by rw [zBO,zAm];exact Nat.le_refl _,hP1.rd,by rw [zBO,zAm];exact hpl⟩;have hA2:IsPoly _ (.slice (some ⟨b2,0,none⟩) p.length p.length) (fillL (fun k=>decide (k%2=1)) (turn4 p) p.length):=⟨_,p.length,by rw [zBO,zAm],by rw [zBO,zAm];exact Nat.le_refl _,hP2.rd,by rw [zBO,zAm];exact hpl⟩;rw [zAm] at h1 h2
   refine zAK [([(3,none)],none),([(33,some 0)],none),([(3,none)],none),([(35,some 0)],none),([(34,some 2),(36,some 0)],none),([(3,none)],none),([(38,some 0)],none),([(3,none)],none),([(40,some 0)],none),([(39,some 2),(41,some 0)],none),([(37,some 5),(42,some 0)],none),([(43,some 0)],none)] mixed (by kernel_rfl) (by kernel_rfl) (by kernel_rfl) fun K hK=>dcp (fun v _=>v = .pointer (some ⟨cb,0,none⟩)) (fun _ _ _ _ _ h=>h) (fun σ wx hE hk=>zk (ix:=0) zDr hk.1 rfl (by decide) (by decide) ⟨Ext.refl _,rfl⟩) (dcp (fun v _=>v = .slice (some ⟨b1,0,none⟩) p.length p.length) (fun _ _ _ _ _ h=>h) (fun σ wx hE hk=>zD zBK hk.1 (hBc.ext hE) rfl ⟨Ext.refl _,rfl⟩) (dcp (fun v _=>v = .pointer (some ⟨cb,0,none⟩)) (fun _ _ _ _ _ h=>h) (fun σ wx hE hk=>zk (ix:=0) zDr hk.1 rfl (by decide) (by decide) ⟨Ext.refl _,rfl⟩) (dcp (fun v _=>v = .slice (some ⟨b1,0,none⟩) p.length p.length) (fun _ _ _ _ _ h=>h) (fun σ wx hE hk=>zD zBK hk.1 (hBc.ext hE) rfl ⟨Ext.refl _,rfl⟩) (dcp (fun v w'=>IsPoly w' v x) (fun _ _ _ _ hx h=>h.ext hx.toExt) (fun σ wx hE hk=>zH hb71 (CallK.eq2 hk.1 hk.2.1 (CallK.of_ret (zFW (hA1.ext hE) (hA1.ext hE) h1) fun v w2 hX hr=>⟨hX,hr.poly⟩)) rfl) (dcp (fun v _=>v = .pointer (some ⟨cb,1,none⟩)) (fun _ _ _ _ _ h=>h) (fun σ wx hE hk=>zk (ix:=1) zDr hk.1 rfl (by decide) (by decide) ⟨Ext.refl _,rfl⟩) (dcp (fun v _=>v = .slice (some ⟨b2,0,none⟩) p.length p.length) (fun _ _ _ _ _ h=>h) (fun σ wx hE hk=>zD zBK hk.1 (hBc.ext hE) rfl ⟨Ext.refl _,rfl⟩) (dcp (fun v _=>v = .pointer (some ⟨cb,1,none⟩)) (fun _ _ _ _ _ h=>h) (fun σ wx hE hk=>zk (ix:=1) zDr hk.1 rfl (by decide) (by decide) ⟨Ext.refl _,rfl⟩) (dcp (fun v _=>v = .slice (some ⟨b2,0,none⟩) p.length p.length) (fun _ _ _ _ _ h=>h) (fun σ wx hE hk=>zD zBK hk.1 (hBc.ext hE) rfl ⟨Ext.refl _,rfl⟩) (dcp (fun v w'=>IsPoly w' v y) (fun _ _ _ _ hx h=>h.ext hx.toExt) (fun σ wx hE hk=>zH hb71 (CallK.eq2 hk.1 hk.2.1 (CallK.of_ret (zFW (hA2.ext hE) (hA2.ext hE) h2) fun v w2 hX hr=>⟨hX,hr.poly⟩)) rfl) (dcp (fun v w'=>IsOwn w.heap.size w' v s) (fun _ _ _ _ hx h=>h.ext hx.toExt) (fun σ wx hE hk=>zH hb149 (CallK.of_ret (zJO hk.1 hk.2.1 h3) fun v w2 hX hr=>⟨hX,(hr.sz (Nat.le_trans E0.size hE.size))⟩) rfl) (dcp (fun v w'=>IsOwn w.heap.size w' v s) (fun _ _ _ _ hx h=>h.ext hx.toExt) (fun σ wx hE hk=>zS ⟨Ext.refl _,hk.1⟩) (zAi (hK _ fun wq hE => ?_)))))))))))))
   rintro v33 N33 v34 N34 v35 N35 v36 N36 v37 N37 v38 N38 v39 N39 v40 N40 v41 N41 v42 N42 v43 N43 v2 N2;refine zh ?_;replace E0:=E0.trans hE;clear hE;refine zM (K5 [2,3,13,14,15] ?_);exact zE (en rfl E0 N2)
end Go.Proofs.YtjiendlfobjanaaGreatDoor
namespace Go.Proofs.YtjiendlfobjanaaGreatDoor
open Go Go.RowKit Go.Proofs Tryz
set_option maxRecDepth 10000
set_option maxHeartbeats 2000000
variable {T:TypeId} {b c n:Nat} {cs:List Value} {l:List Rat} {low up:Poly} {v:Value} {w w' w1 w2:World}
def BandC (w:World) (c:List Value) (B:Band):Prop :=
 IsNum w (.agg ((c.drop 0).take 3).toArray) B.lo∧IsNum w (.agg ((c.drop 3).take 3).toArray) B.hi∧IsNum w (.agg ((c.drop 6).take 3).toArray) B.least∧IsNum w (.agg ((c.drop 9).take 3).toArray) B.most
def zKV (w:World) (v:Value) (B:Band):Prop:=∃ c:List Value,v = .agg c.toArray∧c.length=12∧BandC w c B
theorem BandC.ext {c:List Value} {B:Band} (h:BandC w c B) (hx:Ext w w'):BandC w' c B:=⟨h.1.ext hx,h.2.1.ext hx,h.2.2.1.ext hx,h.2.2.2.ext hx⟩
theorem BandC.updT {c:List Value} {B:Band} (h:BandC w c B) (hu:Upd b w w') (hb:Blk w b T cs) (hT:T≠164):BandC w' c B :=
 ⟨h.1.updT hu hb hT,h.2.1.updT hu hb hT,h.2.2.1.updT hu hb hT,h.2.2.2.updT hu hb hT⟩
theorem zGf:zAA prog 144 0 0:=by unfold zAA;kernel_rfl
theorem fo144_1:zAA prog 144 1 6:=by unfold zAA;kernel_rfl
theorem fo144_2:zAA prog 144 2 9:=by unfold zAA;kernel_rfl
theorem zKs:Aggr prog 144 12:=by unfold Aggr;exact ⟨by kernel_rfl,by kernel_rfl⟩
theorem aggr47:Aggr prog 47 6:=by unfold Aggr;exact ⟨by kernel_rfl,by kernel_rfl⟩
theorem BandC.span {c:List Value} {B:Band} (h:BandC w c B) (hl:c.length=12):zHn w (.agg ((c.drop 0).take 6).toArray) B.lo B.hi:=by
 obtain ⟨h1,h2,_⟩:=h
 match c,hl with
 | [c0,c1,c2,c3,c4,c5,c6,c7,c8,c9,c10,c11],_ =>
  obtain ⟨n1,d1,e1,hn1,hd1⟩:=h1;obtain ⟨n2,d2,e2,hn2,hd2⟩:=h2;cases e1;cases e2;exact ⟨_,_,_,_,rfl,⟨_,_,rfl,hn1,hd1⟩,⟨_,_,rfl,hn2,hd2⟩⟩
theorem BandC.ok {c:List Value} {B:Band} (h:BandC w c B) (hl:c.length=12):c.all zAp=true:=by
 obtain ⟨h1,h2,h3,h4⟩:=h
 match c,hl with
 | [c0,c1,c2,c3,c4,c5,c6,c7,c8,c9,c10,c11],_ =>
  have key:∀ {a b c:Value} {q:Rat},IsNum w (.agg #[a,b,c]) q→zAp a=true∧zAp b=true∧zAp c=true:=fun {a b c q} h=>by
   obtain ⟨n,d,e,hn,hd⟩:=h;obtain ⟨p1,ds1,k1,rfl,-⟩:=hn;obtain ⟨p2,ds2,k2,rfl,-⟩:=hd;cases e;exact ⟨rfl,rfl,rfl⟩
  have g1:=key h1;have g2:=key h2;have g3:=key h3;have g4:=key h4;simp [g1,g2,g3,g4]
theorem IsPoly.updN (h:IsPoly w v l) (hE:Ext w w1) (hU:Upd c w1 w2) (hB:Blk w1 c 37 cs) (hc:w.heap.size≤c):IsPoly w2 v l:=by
 obtain ⟨p,k,h1,h2,h3,h4⟩:=h;exact ⟨p,k,h1,h2,(h3.ext hE).upd hU hB (h3.ne hc),h4⟩
theorem zIk {c:List Value} (h:c.length=n):(c.drop 0).take n=c:=by rw [List.drop_zero,List.take_of_length_le (by omega)]
theorem witN_some {lo w x:Rat} {f:Nat} (h:witN up low lo w (f+1) n=some x):∃ r,witJ up low lo w n (n+1) 0=some r∧(match r with | some y=>some y | none=>witN up low lo w f (2*n))=some x:=by
 unfold witN at h;exact bind_some h
end Go.Proofs.YtjiendlfobjanaaGreatDoor
namespace Go.Proofs.YtjiendlfobjanaaGreatDoor
open Go Go.RowKit Go.Proofs Tryz
set_option maxRecDepth 10000
set_option maxHeartbeats 2000000
attribute [local irreducible] Runs WPE CallK Ret
variable {low num up:Poly} {u1 u2 v:Value} {w:World}
theorem zLL {B:Band} {den:Poly} (hb:zKV w v B) (hp1:IsPoly w u1 num) (hp2:IsPoly w u2 den) (h:rules num den B.least B.most=some (up,low)):Ret prog 186 #[v,u1,u2] w (fun r w'=>∃ a c,r = .agg #[a,c]∧IsPoly w' a up∧IsPoly w' c low):=by
 obtain ⟨c,rfl,hcl,hC⟩:=hb;refine J0 26 func186 rfl (rj fun K => ?_);refine K1 (zt fun b1 w1 hb hE hB1 hs => ?_);have hgb1:w.heap.size≤b1:=by rw [hb];exact E0.size
 replace E0:=E0.trans hE;clear hE hs hb;refine K1 (zV zKz fun b2 w2 hb hE hB2 hs => ?_);have hgb2:w.heap.size≤b2:=by rw [hb];exact E0.size
 have ne_b1_b2:b1≠b2:=by have:=hB1.lt;omega
 replace E0:=E0.trans hE;replace hB1:=hB1.ext hE;clear hE hs hb;refine rm [1,2,3,6] K ?_;refine zA ?_;unfold rules at h;obtain ⟨n,h1,h⟩:=bind_some h;obtain ⟨d,h2,h⟩:=bind_some h;obtain ⟨x,h3,h⟩:=bind_some h;obtain ⟨up',h4,h⟩:=bind_some h;obtain ⟨y,h5,h⟩:=bind_some h;obtain ⟨low',h6,h⟩:=bind_some h;cases h;replace hB1:Blk _ b1 144 c:=hB1;replace hC:=hC.ext E0;replace hp1:=hp1.ext E0;replace hp2:=hp2.ext E0;refine rI fun K=>K1 (j4 E0 hB1.ext hB2.ext hC.ext hp2.ext hb75 (zKj hp1 h1) fun v10 w2 E0 hB1 hB2 hC hp2 N10 => ?_);have N10:=N10.poly;refine mv (K1 (j4 E0 hB1.ext hB2.ext hC.ext N10.ext hb75 (zKj hp2 h2) fun v12 w2 E0 hB1 hB2 hC N10 N12 => ?_));have N12:=N12.poly;have hM:=hC.2.2.2;have hL:=hC.2.2.1;clear hC hp1 hp2;refine ag (ag (rs [3,6,7,8] K ?_));refine zA ?_
 refine zId [] [(12,fun σ=>(fun l => .agg l.toArray) ([18,24].map σ))] 13 [([(8,none)],none),([(3,none)],none),([(14,some 0)],none),([(13,some 2),(15,some 0)],none),([(7,none)],none),([(16,some 1),(17,some 0)],none),([(7,none)],none),([(8,none)],none),([(3,none)],none),([(21,some 0)],none),([(20,some 2),(22,some 0)],none),([(19,some 4),(23,some 0)],none),([(18,some 6),(24,some 0)],none)] mixed (by kernel_rfl) (by kernel_rfl) (by kernel_rfl) (by kernel_rfl) (by kernel_rfl) (fun i hi=>by simp [zCe] at hi;show i<13;omega) (zCr.cons [18,24] (fun l => .agg l.toArray) (by kernel_rfl) (zCr.nil)) fun K hK => ?_
 refine dxv (by decide) (fun σ wx hE hk=>zC ⟨Ext.refl _,hk.1⟩) (dxv (by decide) (fun σ wx hE hk=>zB fo144_2 hk.1 ⟨Ext.refl _,rfl⟩) (dxp (fun v w'=>IsNum w' v B.most) (by decide) (fun _ _ _ _ hx h=>h.ext hx.toExt) (fun σ wx hE hk=>zAo hk.1 (hB1.ext hE) (by omega) (hM.ext hE) fun v h=>⟨Ext.refl _,h⟩) (dxp (fun v w'=>IsPoly w' v x) (by decide) (fun _ _ _ _ hx h=>h.ext hx.toExt) (fun σ wx hE hk=>zH hb56 (CallK.of_ret (zFK (IsPoly.of_eq hk.1 (N12.ext hE)) hk.2.1 h3) fun v w2 hX hr=>⟨hX,hr.poly⟩) rfl) (dxv (by decide) (fun σ wx hE hk=>zC ⟨Ext.refl _,hk.1⟩) (dxp (fun v w'=>IsPoly w' v up) (by decide) (fun _ _ _ _ hx h=>h.ext hx.toExt) (fun σ wx hE hk=>zH hb70 (CallK.of_ret (zHf hk.1 (IsPoly.of_eq hk.2.1 (N10.ext hE)) h4) fun v w2 hX hr=>⟨hX,hr.poly⟩) rfl) (dxv (by decide) (fun σ wx hE hk=>zC ⟨Ext.refl _,hk.1⟩) (dxv (by decide) (fun σ wx hE hk=>zC ⟨Ext.refl _,hk.1⟩) (dxv (by decide) (fun σ wx hE hk=>zB fo144_1 hk.1 ⟨Ext.refl _,rfl⟩) (dxp (fun v w'=>IsNum w' v B.least) (by decide) (fun _ _ _ _ hx h=>h.ext hx.toExt) (fun σ wx hE hk=>zAo hk.1 (hB1.ext hE) (by omega) (hL.ext hE) fun v h=>⟨Ext.refl _,h⟩) (dxp (fun v w'=>IsPoly w' v y) (by decide) (fun _ _ _ _ hx h=>h.ext hx.toExt) (fun σ wx hE hk=>zH hb56 (CallK.of_ret (zFK (IsPoly.of_eq hk.1 (N12.ext hE)) hk.2.1 h5) fun v w2 hX hr=>⟨hX,hr.poly⟩) rfl) (dxp (fun v w'=>IsPoly w' v low) (by decide) (fun _ _ _ _ hx h=>h.ext hx.toExt) (fun σ wx hE hk=>zH hb70 (CallK.of_ret (zHf (IsPoly.of_eq hk.1 (N10.ext hE)) hk.2.1 h6) fun v w2 hX hr=>⟨hX,hr.poly⟩) rfl) ?_)))))))))))
 refine dxn (fun _ _=>True) (by decide) (fun _ _ _ _ _ h=>h) (fun σ wx hE hk=>(by obtain ⟨p1,k1,e1,-⟩:=hk.1;obtain ⟨p2,k2,e2,-⟩:=hk.2.1;refine zT (cs := #[.slice p1 up.length k1,.slice p2 low.length k2]) ?_ ⟨Ext.refl _,trivial,Xtra.one (by decide) (by show _=Value.agg #[σ 18,σ 24];rw [e1,e2])⟩;show prog.built 245 [(0,σ 18),(1,σ 24)]=_;rw [e1,e2];kernel_rfl)) ?_;refine zMW (hK _ fun wq hE => ?_);rintro _ rfl _ rfl v15 N15 v16 N16 _ rfl v18 N18 _ rfl _ rfl _ rfl v22 N22 v23 N23 v24 N24 v25 N25;refine zh ?_;intro hsep;replace E0:=E0.trans hE;replace hB1:=hB1.ext hE;replace hB2:=hB2.ext hE;clear hE;have e25:v25 = .agg #[v18,v24]:=hsep.2 12 _ (List.mem_singleton.2 rfl) 25 rfl;subst e25;clear hsep N25;obtain ⟨p1,k1,rfl,r1⟩:=N18;obtain ⟨p2,k2,rfl,r2⟩:=N24;have M1:IsPoly _ (.slice p1 up.length k1) up:=⟨p1,k1,rfl,r1⟩;have M2:IsPoly _ (.slice p2 low.length k2) low:=⟨p2,k2,rfl,r2⟩;clear r1 r2;refine K1 (zc zLC rfl hB2 rfl (Nat.le_of_ble_eq_true rfl) (by decide) rfl fun w9 hU hN => ?_);replace E0:=E0.upd hU hgb2;replace M1:=M1.updT hU hB2 (by decide) (by decide);replace M2:=M2.updT hU hB2 (by decide) (by decide);clear hU hB2;have hB2:=hN;clear hN;refine zCh (zM (K5 [6] ?_));exact zE (zQ ⟨rfl,_,zv rfl rfl rfl aggr245 hB2 rfl,E0,_,_,rfl,M1,M2⟩)
variable {s:Bool}
theorem zAl {x:Rat}:rsign x<0↔x<0:=by unfold rsign;rw [Int.sign_neg_iff,zBr]
theorem zDv {x:Rat}:rsign x=0↔x=0:=by unfold rsign;rw [Int.sign_eq_zero_iff_zero];exact Rat.num_eq_zero
theorem nsign_pos {x:Rat}:0<rsign x↔0<x:=by
 have h1 := @zAl x;have h2 := @zDv x;constructor
 · intro h;have a1:¬ x<0:=fun e=>by have:=h1.2 e;omega
   have a2:x≠0:=fun e=>by have:=h2.2 e;omega
   grind
 · intro h;have a1:¬ rsign x<0:=fun e=>by have:=h1.1 e;grind
   have a2:rsign x≠0:=fun e=>by have:=h2.1 e;grind
   omega
theorem zLO {x y:Rat} (h:x≠y):rcmpI x y≠0:=by
 unfold rcmpI;split
 · decide
 · first
   | (rw [if_neg h];decide)
   | decide
theorem nonneg_cases {p:Poly} {lo hi:Rat} (h:zGl p lo hi=some s):(∃ a,peval p lo=some a∧a<0∧s=false)∨(∃ a b,peval p lo=some a∧peval p hi=some b∧¬ a<0∧b<0∧s=false) ∨
 (∃ a b,peval p lo=some a∧peval p hi=some b∧¬ a<0∧¬ b<0∧asked p≠0∧s=true) ∨
 (∃ a b l z n,peval p lo=some a∧peval p hi=some b∧¬ a<0∧¬ b<0∧asked p=0∧parts p=some l∧rcmp lo hi=some z∧zFq lo hi l 0=some n∧(if n=false then s=false else if z<0 then zKB p lo (p.length+1) hi=some s else s=true)):=by
 unfold zGl at h;obtain ⟨a,ha,h⟩:=bind_some h;split at h
 · next h0=>cases h;exact .inl ⟨a,ha,h0,rfl⟩
 · next h0 =>
   obtain ⟨b,hb,h⟩:=bind_some h;split at h
   · next h1=>cases h;exact .inr (.inl ⟨a,b,ha,hb,h0,h1,rfl⟩)
   · next h1 =>
     split at h
     · next h2=>cases h;exact .inr (.inr (.inl ⟨a,b,ha,hb,h0,h1,h2,rfl⟩))
     · next h2 =>
       obtain ⟨l,hl,h⟩:=bind_some h;obtain ⟨z,hz,h⟩:=bind_some h;obtain ⟨n,hn,h⟩:=bind_some h;refine .inr (.inr (.inr ⟨a,b,l,z,n,ha,hb,h0,h1,by simpa using h2,hl,hz,hn,?_⟩));split at h
       · next e=>rw [if_pos e];cases h;rfl
       · next e =>
         rw [if_neg e];split at h
         · next e2=>rw [if_pos e2];exact h
         · next e2=>rw [if_neg e2];cases h;rfl
theorem zKC {p:Poly} {lo hi:Rat} (hp:IsPoly w v p) (hx:IsNum w u1 lo) (hy:IsNum w u2 hi) (h:zGl p lo hi=some s):Ret prog 80 #[v,u1,u2] w (fun r _=>r = .bool s):=by
 obtain ⟨n1,d1,rfl,hn1,hd1⟩:=hx;obtain ⟨n2,d2,rfl,hn2,hd2⟩:=hy;have E0:Ext w w:=Ext.refl w;refine J0 94 func80 rfl (rj fun K => ?_);refine K1 (zt fun b1 w1 hb hE hB1 hs => ?_);have hgb1:w.heap.size≤b1:=by rw [hb];exact E0.size
 replace E0:=E0.trans hE;clear hE hs hb;refine K1 (zt fun b2 w2 hb hE hB2 hs => ?_);have hgb2:w.heap.size≤b2:=by rw [hb];exact E0.size
 have ne_b1_b2:b1≠b2:=by have:=hB1.lt;omega
 replace E0:=E0.trans hE;replace hB1:=hB1.ext hE;clear hE hs hb;refine ag (rm [0,4,5] K ?_);refine zA (zA ?_);rcases nonneg_cases h with ⟨a,ha,ha0,rfl⟩ | ⟨a,b,ha,hb,ha0,hb0,rfl⟩ | ⟨a,b,ha,hb,ha0,hb0,h0,rfl⟩ | ⟨a,b,l,z,n,ha,hb,ha0,hb0,h0,hl,hz,hn,hs⟩
 · clear h;have hLo:NumAt b1 lo _:=⟨_,hB1,rfl,IsNum.ext (show IsNum w (.agg #[.bool (decide (lo<0)),n1,d1]) lo from ⟨n1,d1,rfl,hn1,hd1⟩) E0⟩;have hHi:NumAt b2 hi _:=⟨_,hB2,rfl,IsNum.ext (show IsNum w (.agg #[.bool (decide (hi<0)),n2,d2]) hi from ⟨n2,d2,rfl,hn2,hd2⟩) E0⟩;clear hB1 hB2 hn1 hd1 hn2 hd2 ne_b1_b2;refine rI fun K=>K1 (za rfl hLo fun v16 N16=>K1 (j2 E0 hLo.ext hHi.ext hb176 (zBp (hp.ext E0) N16 ha) fun v17 w2 E0 hLo hHi N17=>K1 (j2 E0 hLo.ext hHi.ext hb19 (Sign_ok N17) fun vi w2 E0 hLo hHi hr => ?_)));subst hr;refine K9 true rfl (decide_eq_true (zAl.2 ha0)) (mv (K3 (K3 (K3 (K3 (K3 (pk rfl (rs [0,4,5,26] K ?_))))))));refine wct rfl (rj fun K=>ag (rm [4,5,6] K ?_));exact zE (zU (en rfl E0 rfl))
 · clear h;have hLo:NumAt b1 lo _:=⟨_,hB1,rfl,IsNum.ext (show IsNum w (.agg #[.bool (decide (lo<0)),n1,d1]) lo from ⟨n1,d1,rfl,hn1,hd1⟩) E0⟩;have hHi:NumAt b2 hi _:=⟨_,hB2,rfl,IsNum.ext (show IsNum w (.agg #[.bool (decide (hi<0)),n2,d2]) hi from ⟨n2,d2,rfl,hn2,hd2⟩) E0⟩;clear hB1 hB2 hn1 hd1 hn2 hd2 ne_b1_b2;refine rI fun K=>K1 (za rfl hLo fun v16 N16=>K1 (j2 E0 hLo.ext hHi.ext hb176 (zBp (hp.ext E0) N16 ha) fun v17 w2 E0 hLo hHi N17=>K1 (j2 E0 hLo.ext hHi.ext hb19 (Sign_ok N17) fun vi w2 E0 hLo hHi hr => ?_)));subst hr;refine K9 false rfl (decide_eq_false (fun e=>ha0 (zAl.1 e))) (mv (K7 (K2 (za rfl hHi fun v22 N22=>K2 (j2 E0 hLo.ext hHi.ext hb176 (zBp (hp.ext E0) N22 hb) fun v23 w2 E0 hLo hHi N23=>K2 (j2 E0 hLo.ext hHi.ext hb19 (Sign_ok N23) fun vi w2 E0 hLo hHi hr => ?_))))));subst hr;refine K2 (zJ (v := .bool true) rfl rfl (congrArg (fun z=>some (Value.bool z)) (decide_eq_true (zAl.2 hb0))) (pk rfl (rs [0,4,5,26] K ?_)));refine wct rfl (rj fun K=>ag (rm [4,5,6] K ?_));exact zE (zU (en rfl E0 rfl))
 · clear h;have hLo:NumAt b1 lo _:=⟨_,hB1,rfl,IsNum.ext (show IsNum w (.agg #[.bool (decide (lo<0)),n1,d1]) lo from ⟨n1,d1,rfl,hn1,hd1⟩) E0⟩;have hHi:NumAt b2 hi _:=⟨_,hB2,rfl,IsNum.ext (show IsNum w (.agg #[.bool (decide (hi<0)),n2,d2]) hi from ⟨n2,d2,rfl,hn2,hd2⟩) E0⟩;clear hB1 hB2 hn1 hd1 hn2 hd2 ne_b1_b2;refine rI fun K=>K1 (za rfl hLo fun v16 N16=>K1 (j2 E0 hLo.ext hHi.ext hb176 (zBp (hp.ext E0) N16 ha) fun v17 w2 E0 hLo hHi N17=>K1 (j2 E0 hLo.ext hHi.ext hb19 (Sign_ok N17) fun vi w2 E0 hLo hHi hr => ?_)));subst hr;refine K9 false rfl (decide_eq_false (fun e=>ha0 (zAl.1 e))) (mv (K7 (K2 (za rfl hHi fun v22 N22=>K2 (j2 E0 hLo.ext hHi.ext hb176 (zBp (hp.ext E0) N22 hb) fun v23 w2 E0 hLo hHi N23=>K2 (j2 E0 hLo.ext hHi.ext hb19 (Sign_ok N23) fun vi w2 E0 hLo hHi hr => ?_))))));subst hr;refine K2 (zJ (v := .bool false) rfl rfl (congrArg (fun z=>some (Value.bool z)) (decide_eq_false (fun e=>hb0 (zAl.1 e)))) (pk rfl (rs [0,4,5,26] K ?_)));refine wcf rfl (sk (rJ fun K=>K1 (j2 E0 hLo.ext hHi.ext hb177 (zLv (L:=[]) (hp.ext E0) (fun e=>absurd e h0)) fun v29 w2 E0 hLo hHi hr => ?_)));obtain ⟨u,rfl,-⟩:=hr;refine mv (xt rfl (xt rfl (ag (ag (rm [0,4,5,7,8] K ?_)))));refine zA (rJ fun K=>K8 rfl (rm [0,4,5,7,33] K ?_));refine wct (congrArg Value.bool (bne_iff_ne.2 h0)) (rj fun K=>ag (rm [4,5,6] K ?_));exact zE (zU (en rfl E0 rfl))
 · clear h;have hLo:NumAt b1 lo _:=⟨_,hB1,rfl,IsNum.ext (show IsNum w (.agg #[.bool (decide (lo<0)),n1,d1]) lo from ⟨n1,d1,rfl,hn1,hd1⟩) E0⟩;have hHi:NumAt b2 hi _:=⟨_,hB2,rfl,IsNum.ext (show IsNum w (.agg #[.bool (decide (hi<0)),n2,d2]) hi from ⟨n2,d2,rfl,hn2,hd2⟩) E0⟩;clear hB1 hB2 hn1 hd1 hn2 hd2 ne_b1_b2;refine rI fun K=>K1 (za rfl hLo fun v16 N16=>K1 (j2 E0 hLo.ext hHi.ext hb176 (zBp (hp.ext E0) N16 ha) fun v17 w2 E0 hLo hHi N17=>K1 (j2 E0 hLo.ext hHi.ext hb19 (Sign_ok N17) fun vi w2 E0 hLo hHi hr => ?_)));subst hr;refine K9 false rfl (decide_eq_false (fun e=>ha0 (zAl.1 e))) (mv (K7 (K2 (za rfl hHi fun v22 N22=>K2 (j2 E0 hLo.ext hHi.ext hb176 (zBp (hp.ext E0) N22 hb) fun v23 w2 E0 hLo hHi N23=>K2 (j2 E0 hLo.ext hHi.ext hb19 (Sign_ok N23) fun vi w2 E0 hLo hHi hr => ?_))))));subst hr;refine K2 (zJ (v := .bool false) rfl rfl (congrArg (fun z=>some (Value.bool z)) (decide_eq_false (fun e=>hb0 (zAl.1 e)))) (pk rfl (rs [0,4,5,26] K ?_)));refine wcf rfl (sk (rJ fun K=>K1 (j2 E0 hLo.ext hHi.ext hb177 (zLv (hp.ext E0) (fun _=>hl)) fun v29 w2 E0 hLo hHi hr => ?_)));obtain ⟨u,rfl,hC⟩:=hr;replace hC:=hC h0;obtain ⟨cp,cc,rfl,hcc,hCR,hcl⟩:=hC;have hC:zAv _ (.slice cp l.length cc) l:=⟨cp,cc,rfl,hcc,hCR,hcl⟩;clear hCR;refine mv (xt rfl (xt rfl (ag (ag (rm [0,4,5,7,8] K ?_)))));refine zA (rJ fun K=>K8 rfl (rm [0,4,5,7,33] K ?_))
   refine wcf (congrArg Value.bool (by rw [h0];rfl)) ?_;refine sk (zA (rJ fun K=>K1 (zI zHE rfl (mv (rm [0,4,5,34,35,36] K ?_)))));refine zF ?_;obtain ⟨hrz,rfl⟩:=zCt hz;refine zg (X:=Nat) (fun i ρ w'=>Keep ρ [(0,v),(4,.pointer (some ⟨b1,0,none⟩)),(5,.pointer (some ⟨b2,0,none⟩)),(34,.slice cp l.length cc),(35,.int .i64 (l.length:Int)),(36,.int .i64 (i:Int))]∧i≤l.length∧Ext w w'∧NumAt b1 lo w'∧NumAt b2 hi w'∧zAv w' (.slice cp l.length cc) l∧zFq lo hi (l.drop i) i=some n) (fun i=>l.length-i) 0 ⟨(kp rfl),Nat.zero_le _,E0,hLo,hHi,hC,hn⟩ ?_;clear E0 hLo hHi hC hn hcc;rintro i ρ1 w1 ⟨hk,hil,E0,hLo,hHi,hC,hn⟩;refine wpe_k _ hk ?_;clear hk ρ1;refine rj fun K=>K8 rfl (rm [0,4,5,34,35,36,37] K ?_);refine zA ?_;refine K0 rfl ?_ ?_<;>intro hc
   · have hi':i<l.length:=t_lt hc;clear hc;rw [zIi hi'] at hn;unfold zFq at hn;refine sk (zA (zF (rj fun K=>mv ?_)));refine K1 (zFU (let ⟨_,_,e1,_,e2,_⟩:=hC;by cases e1;exact e2) rfl rfl hi' ?_);refine K1 (zGQ (let ⟨_,_,e1,_,e2,_⟩:=hC;by cases e1;exact e2) hi' rfl fun v40 N40 => ?_);refine ag (ag (rm [0,4,5,9,10,34,35,36] K ?_));refine zA (zA ?_);rcases (show i%2=1∨(i%2≠1∧(trim (l.getD i [])).length≤1)∨(i%2≠1∧¬ (trim (l.getD i [])).length≤1∧lo=hi)∨(i%2≠1∧¬ (trim (l.getD i [])).length≤1∧lo≠hi) from by by_cases q1:i%2=1;exact .inl q1;by_cases q2:(trim (l.getD i [])).length≤1;exact .inr (.inl ⟨q1,q2⟩);by_cases q3:lo=hi;exact .inr (.inr (.inl ⟨q1,q2,q3⟩));exact .inr (.inr (.inr ⟨q1,q2,q3⟩))) with q1 | ⟨q1,q2⟩ | ⟨q1,q2,q3⟩ | ⟨q1,q2,q3⟩
     · rw [if_pos (.inl q1)] at hn;refine rI fun K=>K1 (zAH (b:=2) (i%2) rfl rfl (by decide) rfl ?_);refine K9 true rfl (by rw [q1];rfl) ?_;refine mv (K3 (K3 (K3 (pk rfl (mv (K3 (K3 (K3 (K3 (pk rfl (rs [0,4,5,10,34,35,36,45,46,47,50,51,52,53,54] K ?_)))))))))));exact wct rfl (zY (zx (zL (zM (K6 fun K=>K1 (zf (b:=1) (i+1) rfl rfl rfl (by omega) (mv (rl K (zO (⟨rfl,i+1,⟨(kp rfl),by omega,E0,hLo,hHi,hC,hn⟩,by omega⟩))))))))))
     · rw [if_pos (.inr (.inl q2))] at hn;refine rI fun K=>K1 (zAH (b:=2) (i%2) rfl rfl (by decide) rfl (K9 false rfl (beq_eq_false_iff_ne.2 (by omega)) (mv (K7 (K2 (j3 E0 hLo.ext hHi.ext hC.ext hb18 (zDw N40) fun vi w2 E0 hLo hHi hC hr => ?_))))));subst hr;refine K2 (zJ (v := .bool true) rfl rfl (congrArg (fun z=>some (Value.bool z)) (decide_eq_true (by omega))) (pk rfl (mv (K3 (K3 (K3 (K3 (pk rfl (rs [0,4,5,10,34,35,36,45,46,47,50,51,52,53,54] K ?_)))))))));exact wct rfl (zY (zx (zL (zM (K6 fun K=>K1 (zf (b:=1) (i+1) rfl rfl rfl (by omega) (mv (rl K (zO (⟨rfl,i+1,⟨(kp rfl),by omega,E0,hLo,hHi,hC,hn⟩,by omega⟩))))))))))
     · rw [if_pos (.inr (.inr q3))] at hn;refine rI fun K=>K1 (zAH (b:=2) (i%2) rfl rfl (by decide) rfl (K9 false rfl (beq_eq_false_iff_ne.2 (by omega)) (mv (K7 (K2 (j3 E0 hLo.ext hHi.ext hC.ext hb18 (zDw N40) fun vi w2 E0 hLo hHi hC hr => ?_))))));subst hr;refine K2 (zJ (v := .bool false) rfl rfl (congrArg (fun z=>some (Value.bool z)) (decide_eq_false (by omega))) (pk rfl (mv (K2 (za rfl hLo fun v50 N50=>K2 (za rfl hHi fun v51 N51=>K2 (j3 E0 hLo.ext hHi.ext hC.ext hb73 (zDq N50 N51 hrz) fun vi w2 E0 hLo hHi hC hr => ?_)))))));subst hr;refine K2 (zJ (v := .bool true) rfl rfl (congrArg (fun z=>some (Value.bool z)) (by subst q3;unfold rcmpI;rw [if_neg (by grind),if_pos rfl];rfl)) ?_);refine pk rfl (rs [0,4,5,10,34,35,36,45,46,47,50,51,52,53,54] K ?_);exact wct rfl (zY (zx (zL (zM (K6 fun K=>K1 (zf (b:=1) (i+1) rfl rfl rfl (by omega) (mv (rl K (zO (⟨rfl,i+1,⟨(kp rfl),by omega,E0,hLo,hHi,hC,hn⟩,by omega⟩))))))))))
     · rw [if_neg (fun e=>e.elim q1 fun e=>e.elim q2 q3)] at hn;obtain ⟨cn,hcn,hn⟩:=bind_some hn;refine rI fun K=>K1 (zAH (b:=2) (i%2) rfl rfl (by decide) rfl (K9 false rfl (beq_eq_false_iff_ne.2 (by omega)) (mv (K7 (K2 (j4 E0 hLo.ext hHi.ext hC.ext N40.ext hb18 (zDw N40) fun vi w2 E0 hLo hHi hC N40 hr => ?_))))));subst hr;refine K2 (zJ (v := .bool false) rfl rfl (congrArg (fun z=>some (Value.bool z)) (decide_eq_false (by omega))) (pk rfl (mv (K2 (za rfl hLo fun v50 N50=>K2 (za rfl hHi fun v51 N51=>K2 (j4 E0 hLo.ext hHi.ext hC.ext N40.ext hb73 (zDq N50 N51 hrz) fun vi w2 E0 hLo hHi hC N40 hr => ?_)))))));subst hr;refine K2 (zJ (v := .bool false) rfl rfl (congrArg (fun z=>some (Value.bool z)) (beq_eq_false_iff_ne.2 (zLO q3))) (pk rfl (rs [0,4,5,10,34,35,36,45,46,47,50,51,52,53,54] K ?_)));refine wcf rfl (sk (rJ fun K=>K1 (za rfl hLo fun v57 N57=>K1 (za rfl hHi fun v58 N58=>K1 (j4 E0 hLo.ext hHi.ext hC.ext N40.ext hb178 (Count_ok N40 N57 N58 hcn) fun vi w2 E0 hLo hHi hC N40 hr => ?_)))));subst hr;refine mv (xt rfl (xt rfl (ag (ag (rm [0,4,5,10,11,34,35,36,45,46,47,50,51,52,53] K ?_)))));refine zA ?_
       rcases (show 1<cn.1∨(cn.1=1∧∃ y,peval (l.getD i []) hi=some y∧y≠0)∨(cn.1=1∧∃ y,peval (l.getD i []) hi=some y∧y=0)∨(¬ 1<cn.1∧cn.1≠1) from by by_cases q1:1<cn.1;exact .inl q1;by_cases q2:cn.1=1;(rw [if_neg q1,if_pos q2] at hn;obtain ⟨y,hy,-⟩:=bind_some hn;by_cases q3:y=0;exact .inr (.inr (.inl ⟨q2,y,hy,q3⟩));exact .inr (.inl ⟨q2,y,hy,q3⟩));exact .inr (.inr (.inr ⟨q1,q2⟩))) with q1 | ⟨q2,y,hy,q4⟩ | ⟨q2,y,hy,q4⟩ | ⟨q1,q2⟩
       · rw [if_pos q1] at hn;obtain rfl:false=n:=Option.some.inj hn;rw [if_pos rfl] at hs;subst hs;refine rI fun K=>K9 true rfl (decide_eq_true q1) (mv (K3 (K3 (K3 (K3 (K3 (K3 (K3 (K3 (K3 (pk rfl (rl K ?_))))))))))));refine zM (K5 [0,4,5,34,35,36,45,46,47,50,51,52,53,65,66,67,68,69,70,71,72,73,74] ?_);refine wct rfl (rj fun K=>ag (rm [4,5,6,34,35,36] K ?_));exact zE (zZ (zU (zAI (zZ (zU (en rfl E0 rfl))))))
       · rw [if_neg (by omega),if_pos q2,hy] at hn;replace hn:(if y=0 then zFq lo hi (l.drop (i+1)) (i+1) else some false)=some n:=hn;rw [if_neg q4] at hn;obtain rfl:false=n:=Option.some.inj hn;rw [if_pos rfl] at hs;subst hs;refine rI fun K=>K9 false rfl (decide_eq_false (by omega)) (mv (K7 ?_));refine K2 (zJ (v := .bool true) rfl rfl (congrArg (fun z=>some (Value.bool z)) (by rw [q2];rfl)) ?_);refine K7 (K7 (K2 (za rfl hHi fun v69 N69=>K2 (j3 E0 hLo.ext hHi.ext hC.ext hb176 (zBp N40 N69 hy) fun v70 w2 E0 hLo hHi hC N70=>K2 (j3 E0 hLo.ext hHi.ext hC.ext hb19 (Sign_ok N70) fun vi w2 E0 hLo hHi hC hr => ?_)))));subst hr;refine K2 (zJ (v := .bool true) rfl rfl (congrArg (fun z=>some (Value.bool z)) (bne_iff_ne.2 (fun e=>q4 (zDv.1 e)))) (K2 (zu rfl (pk rfl (rs [0,4,5,34,35,36,45,46,47,50,51,52,53,65,66,67,68,69,70,71,72,73,74] K ?_)))));refine wct rfl (rj fun K=>ag (rm [4,5,6,34,35,36] K ?_));exact zE (zZ (zU (zAI (zZ (zU (en rfl E0 rfl))))))
       · rw [if_neg (by omega),if_pos q2,hy] at hn;replace hn:(if y=0 then zFq lo hi (l.drop (i+1)) (i+1) else some false)=some n:=hn;rw [if_pos q4] at hn;refine rI fun K=>K9 false rfl (decide_eq_false (by omega)) (mv (K7 ?_));refine K2 (zJ (v := .bool true) rfl rfl (congrArg (fun z=>some (Value.bool z)) (by rw [q2];rfl)) ?_);refine K7 (K7 (K2 (za rfl hHi fun v69 N69=>K2 (j3 E0 hLo.ext hHi.ext hC.ext hb176 (zBp N40 N69 hy) fun v70 w2 E0 hLo hHi hC N70=>K2 (j3 E0 hLo.ext hHi.ext hC.ext hb19 (Sign_ok N70) fun vi w2 E0 hLo hHi hC hr => ?_)))));subst hr;refine K2 (zJ (v := .bool false) rfl rfl (congrArg (fun z=>some (Value.bool z)) (by rw [zDv.2 q4];rfl)) ?_);refine K2 (zu rfl (pk rfl (rs [0,4,5,34,35,36,45,46,47,50,51,52,53,65,66,67,68,69,70,71,72,73,74] K ?_)));exact wcf rfl (zp (zR (zM (K6 fun K=>K1 (zf (b:=1) (i+1) rfl rfl rfl (by omega) (mv (rl K (zO (⟨rfl,i+1,⟨(kp rfl),by omega,E0,hLo,hHi,hC,hn⟩,by omega⟩)))))))))
       · rw [if_neg q1,if_neg q2] at hn;refine rI fun K=>K9 false rfl (decide_eq_false q1) (mv (K7 (K2 (zJ (v := .bool false) rfl rfl (congrArg (fun z=>some (Value.bool z)) (beq_eq_false_iff_ne.2 q2)) (K7 (K3 (K3 (K3 (K3 (K3 (K2 (zu rfl (pk rfl (rl K ?_))))))))))))));refine zM (K5 [0,4,5,34,35,36,45,46,47,50,51,52,53,65,66,67,68,69,70,71,72,73,74] ?_);exact wcf rfl (zp (zR (zM (K6 fun K=>K1 (zf (b:=1) (i+1) rfl rfl rfl (by omega) (mv (rl K (zO (⟨rfl,i+1,⟨(kp rfl),by omega,E0,hLo,hHi,hC,hn⟩,by omega⟩)))))))))
   · obtain rfl:i=l.length:=by have:=f_lt hc;omega
     clear hc;rw [List.drop_length] at hn;obtain rfl:true=n:=Option.some.inj hn;rw [if_neg (by decide)] at hs;refine zY (zx (zl (zL (zM (zA (rj fun K=>K1 (za rfl hHi fun v76 N76 => ?_)))))));clear hC;refine K1 (zV zAY fun gb w7 hb hE hBg hs => ?_);have hgg:w.heap.size≤gb:=by rw [hb];exact E0.size
     have hn1:gb≠b1:=by have:=hLo.lt;omega
     have hn2:gb≠b2:=by have:=hHi.lt;omega
     replace E0:=E0.trans hE;replace N76:=N76.ext hE;replace hLo:=hLo.ext hE;replace hHi:=hHi.ext hE;clear hE hb hs;refine K1 (zN rfl N76 (Cell3.of hBg rfl) fun _ w9 hU hNA => ?_);replace E0:=E0.upd hU hgg;replace hLo:=hLo.upd hU hBg (Ne.symm hn1);replace hHi:=hHi.upd hU hBg (Ne.symm hn2);clear hU hBg N76;refine rm [0,4,5,13,34,35,36] K ?_;refine zF (zg (X:=Nat) (fun f ρ w'=>∃ gb x,Keep ρ [(0,v),(4,.pointer (some ⟨b1,0,none⟩)),(5,.pointer (some ⟨b2,0,none⟩)),(13,.pointer (some ⟨gb,0,none⟩))]∧Ext w w'∧NumAt b1 lo w'∧NumAt b2 hi w'∧NumAt gb x w'∧w.heap.size≤gb∧gb≠b1∧gb≠b2∧(if rcmpI lo hi<0 then zKB p lo f x=some s else s=true)) (fun f=>f) (p.length+1) ⟨gb,hi,(kp rfl),E0,hLo,hHi,hNA,hgg,hn1,hn2,hs⟩ ?_);clear E0 hLo hHi hNA hgg hn1 hn2 hs gb;rintro f ρ1 w1 ⟨gb,x,hk,E0,hLo,hHi,hNA,hgg,hn1,hn2,hs⟩;refine wpe_k _ hk ?_;clear hk ρ1;refine zA (rj fun K=>K1 (za rfl hLo fun v77 N77=>K1 (za rfl hHi fun v78 N78=>K1 (j3 E0 hLo.ext hHi.ext hNA.ext hb73 (zDq N77 N78 hrz) fun vi w2 E0 hLo hHi hNA hr => ?_))));subst hr;refine K8 rfl (rm [0,4,5,13,80] K ?_);refine K0 rfl ?_ ?_<;>intro hc
     · have hz0:rcmpI lo hi<0:=of_decide_eq_true hc;clear hc;rw [if_pos hz0] at hs;rcases f with _ | f
       · cases hs
       unfold zKB at hs;obtain ⟨sm,hs1,hs⟩:=bind_some hs;obtain ⟨m,hs2,hs⟩:=bind_some hs;obtain ⟨y,hy,hs⟩:=bind_some hs;obtain ⟨hr1,rfl⟩:=zEr hs1;obtain ⟨hr2,rfl⟩:=zCq hs2;clear hs1 hs2;refine sk (zA (zF (rj fun K=>K1 (za rfl hLo fun v81 N81 => ?_))));obtain ⟨n1,d1,rfl,hn81,hd81⟩:=N81;refine K1 (za rfl hNA fun v82 N82 => ?_);obtain ⟨n2,d2,rfl,hn82,hd82⟩:=N82;refine K1 (zT (cs := #[.bool (decide (lo<0)),n1,d1,.bool (decide (x<0)),n2,d2]) (by kernel_rfl) (K1 (j3 E0 hLo.ext hHi.ext hNA.ext hb138 (SpanMid_ok ⟨n1,d1,n2,d2,rfl,⟨_,_,rfl,hn81,hd81⟩,⟨_,_,rfl,hn82,hd82⟩⟩ hr1 hr2) fun v84 w2 E0 hLo hHi hNA N84 => ?_)));clear hn81 hd81 hn82 hd82;obtain ⟨gcs,hBg,hgl,-⟩:=hNA;refine K1 (zN rfl N84 (Cell3.of hBg hgl) fun _ w9 hU hNA => ?_);replace E0:=E0.upd hU hgg;replace hLo:=hLo.upd hU hBg (Ne.symm hn1);replace hHi:=hHi.upd hU hBg (Ne.symm hn2);clear hU hBg N84;refine rm [0,4,5,13] K ?_;refine rJ fun K=>K1 (za rfl hNA fun v86 N86=>K1 (j3 E0 hLo.ext hHi.ext hNA.ext hb176 (zBp (hp.ext E0) N86 hy) fun v87 w2 E0 hLo hHi hNA N87=>K1 (j3 E0 hLo.ext hHi.ext hNA.ext hb19 (Sign_ok N87) fun vi w2 E0 hLo hHi hNA hr => ?_)));subst hr;refine ag (rm [0,4,5,13,14] K ?_);refine rJ fun K=>K8 rfl (rm [0,4,5,13,14,90] K ?_);refine K0 rfl ?_ ?_<;>intro hc
       · have hy0:y≠0:=fun e=>(bne_iff_ne.1 hc) (zDv.2 e);clear hc;rw [if_neg hy0] at hs;obtain rfl:=Option.some.inj hs;refine rJ fun K=>K8 rfl (ag (rm [4,5,6,13] K ?_));exact zE (zZ (zU (zAI (zZ (zU (en rfl E0 (congrArg Value.bool (decide_eq_decide.2 nsign_pos))))))))
       · have hy0:y=0:=zDv.1 (bne_eq_false_iff_eq.1 hc);clear hc;rw [if_pos hy0] at hs;refine zp (zR (zM (rj fun K=>K1 (za rfl hNA fun v93 N93 => ?_))));clear hNA hgg hn1 hn2;refine rm [0,4,5,13,93] K ?_;refine K6 fun K => ?_;refine K1 (zV zAY fun gb2 w7 hb hE hBg hs => ?_);have hgg:w.heap.size≤gb2:=by rw [hb];exact E0.size
         have hn1:gb2≠b1:=by have:=hLo.lt;omega
         have hn2:gb2≠b2:=by have:=hHi.lt;omega
         replace E0:=E0.trans hE;replace N93:=N93.ext hE;replace hLo:=hLo.ext hE;replace hHi:=hHi.ext hE;clear hE hb hs;refine K1 (zN rfl N93 (Cell3.of hBg rfl) fun _ w9 hU hNA => ?_);replace E0:=E0.upd hU hgg;replace hLo:=hLo.upd hU hBg (Ne.symm hn1);replace hHi:=hHi.upd hU hBg (Ne.symm hn2);clear hU hBg N93;refine rl K (zO ?_);exact ⟨rfl,f,⟨_,_,(kp rfl),E0,hLo,hHi,hNA,hgg,hn1,hn2,by rw [if_pos hz0];exact hs⟩,by omega⟩
     · have hz0:¬ rcmpI lo hi<0:=of_decide_eq_false hc;clear hc;rw [if_neg hz0] at hs;subst hs;refine zY (zx (zl (zL (zM (rj fun K=>ag (rm [4,5,6,13] K ?_))))));exact zE (en rfl E0 rfl)
variable {fuel:Nat}
theorem witness_ok {B:Band} {den:Poly} {x:Rat} (hb:zKV w v B) (hp1:IsPoly w u1 num) (hp2:IsPoly w u2 den) (hr:rules num den B.least B.most=some (up,low)) (hrw:rroom B.hi B.lo=true) (hw:witN up low B.lo (rabs (B.hi-B.lo)) fuel 1=some x) (hfu:2^fuel≤1099511627776):Ret prog 89 #[v,u1,u2] w (fun r w'=>IsNum w' r x):=by
 obtain ⟨c,rfl,hcl,hC⟩:=hb;have E0:Ext w w:=Ext.refl w;refine J0 49 func89 rfl (rj fun K => ?_);refine K1 (zt fun b1 w1 hb hE hB1 hs => ?_);have hgb1:w.heap.size≤b1:=by rw [hb];exact E0.size
 replace E0:=E0.trans hE;clear hE hs hb;refine K1 (zV zAY fun b2 w2 hb hE hB2 hs => ?_);have hgb2:w.heap.size≤b2:=by rw [hb];exact E0.size
 have ne_b1_b2:b1≠b2:=by have:=hB1.lt;omega
 replace E0:=E0.trans hE;replace hB1:=hB1.ext hE;clear hE hs hb;refine rm [1,2,3,6] K ?_;refine zA ?_;replace hB1:Blk _ b1 144 c:=hB1;replace hB2:Blk _ b2 37 [.bool false,.slice none 0 0,.slice none 0 0]:=hB2;replace hC:=hC.ext E0;replace hp1:=hp1.ext E0;replace hp2:=hp2.ext E0;refine K6 fun K=>K1 (zX zKs rfl hB1 (by omega) ?_);rw [zIk hcl];refine mv (mv (K1 (j3 E0 hB1.ext hC.ext hB2.ext hb186 (zLL ⟨c,rfl,hcl,hC⟩ hp1 hp2 hr) fun v14 w2 E0 hB1 hC hB2 hr3 => ?_)));obtain ⟨va,vb,rfl,hU,hL⟩:=hr3;clear hp1 hp2;refine K1 (zV zKz fun b3 w7 hb hE hB3 hs => ?_);have hg3:w.heap.size≤b3:=by rw [hb];exact E0.size
 have ne13:b1≠b3:=by have:=hB1.lt;omega
 have ne23:b2≠b3:=by have:=hB2.lt;omega
 replace E0:=E0.trans hE;replace hB1:=hB1.ext hE;replace hB2:=hB2.ext hE;replace hC:=hC.ext hE;replace hU:=hU.ext hE;replace hL:=hL.ext hE;clear hE hb hs;refine K1 (zc zLC rfl hB3 rfl (Nat.le_of_ble_eq_true rfl) (by decide) (by obtain ⟨q1,q2,rfl,-⟩:=hU;obtain ⟨q3,q4,rfl,-⟩:=hL;kernel_rfl) fun w9 hUp hN => ?_);replace E0:=E0.upd hUp hg3;replace hB1:=hB1.upd hUp ne13;replace hB2:=hB2.upd hUp ne23;replace hC:=hC.updT hUp hB3 (by decide);replace hU:=hU.updT hUp hB3 (by decide) (by decide);replace hL:=hL.updT hUp hB3 (by decide) (by decide);clear hUp hB3 ne13 ne23;have hB3:=hN;clear hN;refine rs [3,6,7] K ?_;refine rj fun K=>ag (rm [3,6,7,8] K ?_);refine zF (zg (X:=Nat) (fun f ρ w'=>∃ n:Nat,Keep ρ [(3,.pointer (some ⟨b1,0,none⟩)),(6,.pointer (some ⟨b2,0,none⟩)),(7,.pointer (some ⟨b3,0,none⟩)),(8,.int .i64 (n:Int))]∧Ext w w'∧Blk w' b1 144 c∧BandC w' c B∧Blk w' b2 37 [.bool false,.slice none 0 0,.slice none 0 0]∧Blk w' b3 245 [va,vb]∧IsPoly w' va up∧IsPoly w' vb low∧witN up low B.lo (rabs (B.hi-B.lo)) f n=some x∧0<n∧n*2^f≤1099511627776) (fun f=>f) fuel ⟨1,(kp rfl),E0,hB1,hC,hB2,hB3,hU,hL,hw,by decide,by omega⟩ ?_);clear E0 hB1 hC hB2 hB3 hU hL hw hfu;rintro f ρ1 w1 ⟨n,hk,E0,hB1,hC,hB2,hB3,hU,hL,hw,hn0,hfu⟩;refine wpe_k _ hk ?_;clear hk ρ1;rcases f with _ | f
 · cases hw
 obtain ⟨r,hJ,hw⟩:=witN_some hw;have hpw:n*2^(f+1)=2*n*2^f:=by rw [Nat.pow_succ,Nat.mul_comm 2 n,Nat.mul_assoc,Nat.mul_comm 2]
 have hp2:1≤2^f:=Nat.one_le_two_pow;have hn2:2*n≤2*n*2^f:=Nat.le_mul_of_pos_right _ hp2;refine zA (zF (rJ fun K=>K1 (zf (b:=1) (n+1) rfl rfl rfl (by omega) (mv (rm [3,6,7,8,18,19] K ?_)))));refine zF (zg (X:=Nat) (fun g ρ w'=>∃ j:Nat,Keep ρ [(3,.pointer (some ⟨b1,0,none⟩)),(6,.pointer (some ⟨b2,0,none⟩)),(7,.pointer (some ⟨b3,0,none⟩)),(8,.int .i64 (n:Int)),(18,.int .i64 ((n+1:Nat):Int)),(19,.int .i64 (j:Int))]∧Ext w w'∧Blk w' b1 144 c∧BandC w' c B∧Blk w' b2 37 [.bool false,.slice none 0 0,.slice none 0 0]∧Blk w' b3 245 [va,vb]∧IsPoly w' va up∧IsPoly w' vb low∧witJ up low B.lo (rabs (B.hi-B.lo)) n g j=some r∧j+g=n+1) (fun g=>g) (n+1) ⟨0,(kp rfl),E0,hB1,hC,hB2,hB3,hU,hL,hJ,by omega⟩ ?_);clear E0 hB1 hC hB2 hB3 hU hL hJ;rintro g ρ1 w1 ⟨j,hk,E0,hB1,hC,hB2,hB3,hU,hL,hJ,hjg⟩;refine wpe_k _ hk ?_;clear hk ρ1;have hX:Ext w1 w1:=Ext.refl w1;refine zA ?_;rcases g with _ | g
 · obtain rfl:none=r:=Option.some.inj hJ;replace hw:witN up low B.lo (rabs (B.hi-B.lo)) f (2*n)=some x:=hw;refine K6 fun K=>K8 rfl (rs [3,6,7,8,18,19,20] K ?_);exact zA (wcf (congrArg Value.bool (decide_eq_false (by omega))) (zY (zx (zl (zL (zR (zM (rI fun K=>K1 (zBH (b:=2) (2*n) rfl rfl (by omega) (by omega) (ag (rl K (zO (⟨rfl,f,⟨2*n,(kp rfl),E0,hB1,hC,hB2,hB3,hU,hL,hw,by omega,by omega⟩,by omega⟩)))))))))))))
 · unfold witJ at hJ;obtain ⟨q,hq,hJ⟩:=bind_some hJ;obtain ⟨m,hm,hJ⟩:=bind_some hJ;obtain ⟨y,hy,hJ⟩:=bind_some hJ;obtain ⟨a,ha,hJ⟩:=bind_some hJ;obtain ⟨hr1,rfl⟩:=zDz hq;obtain ⟨hr2,rfl⟩:=zCq hm;obtain ⟨hr3,rfl⟩:=zEr hy;clear hq hm hy;refine K6 fun K=>K8 rfl (rs [3,6,7,8,18,19,20] K ?_);refine zA (wct (congrArg Value.bool (decide_eq_true (by omega))) (sk (zA (zF (rJ fun K=>ag (rm [3,6,7,8,9,18,19] K ?_))))));refine zA ?_;have hE1:=E0;have hlt2:b2<w1.heap.size:=hB2.lt
   refine zBy 12 [([(3,none)],none),([(22,some 0)],none),([(23,some 0)],none),([(3,none)],none),([(25,some 0)],none),([(26,some 0)],none),([(9,none)],none),([(8,none)],none),([(28,some 1),(29,some 0)],none),([(27,some 3),(30,some 0)],none),([(24,some 7),(31,some 0)],none),([],none)] mixed (by kernel_rfl) (by kernel_rfl) (by kernel_rfl) (by kernel_rfl) (by kernel_rfl) fun K hK=>dvp (fun σ wx hE hk=>zB zGf hk.1 ⟨Ext.refl _,rfl⟩) (dvp (fun σ wx hE hk=>zB zJp hk.1 ⟨Ext.refl _,rfl⟩) (dcp (fun v w'=>IsNum w' v B.lo) (fun _ _ _ _ hx h=>h.ext hx.toExt) (fun σ wx hE hk=>zAo hk.1 (hB1.ext hE) (by omega) (hC.ext hE).1 fun v h=>⟨Ext.refl _,h⟩) (dvp (fun σ wx hE hk=>zB zGf hk.1 ⟨Ext.refl _,rfl⟩) (dcp (fun v w'=>zHn w' v B.lo B.hi) (fun _ _ _ _ hx h=>h.ext hx.toExt) (fun σ wx hE hk=>zX aggr47 hk.1 (hB1.ext hE) (by omega) ⟨Ext.refl _,(hC.ext hE).span hcl⟩) (dcp (fun v w'=>IsNum w' v (rabs (B.hi-B.lo))) (fun _ _ _ _ hx h=>h.ext hx.toExt) (fun σ wx hE hk=>zH hb147 (CallK.of_ret (SpanWidth_ok hk.1 hrw) fun v w2 hX hr=>⟨hX,hr⟩) rfl) (dvp (fun σ wx hE hk=>zC ⟨Ext.refl _,hk.1⟩) (dvp (fun σ wx hE hk=>zC ⟨Ext.refl _,hk.1⟩) (dcp (fun v w'=>IsNum w' v ((j:Rat)/(n:Rat))) (fun _ _ _ _ hx h=>h.ext hx.toExt) (fun σ wx hE hk=>zH hb96 (CallK.eq2 hk.1 hk.2.1 (CallK.of_ret (zHJ (a:=(j:Int)) (b:=(n:Int)) (by omega) (by omega) (by omega) (by omega) hr1) fun v w2 hX hr=>⟨hX,hr⟩)) rfl) (dcp (fun v w'=>IsNum w' v (rabs (B.hi-B.lo)*((j:Rat)/(n:Rat)))) (fun _ _ _ _ hx h=>h.ext hx.toExt) (fun σ wx hE hk=>zH hb101 (CallK.of_ret (zEi hk.1 hk.2.1 hr2) fun v w2 hX hr=>⟨hX,hr⟩) rfl) (dcp (fun v w'=>IsNum w' v (B.lo+rabs (B.hi-B.lo)*((j:Rat)/(n:Rat)))) (fun _ _ _ _ hx h=>h.ext hx.toExt) (fun σ wx hE hk=>zH hb146 (CallK.of_ret (Add_ok hk.1 hk.2.1 hr3) fun v w2 hX hr=>⟨hX,hr⟩) rfl) ?_))))))))))
   refine dcp (fun v w'=>∃ b,v = .pointer (some ⟨b,0,none⟩)∧Blk w' b 37 [.bool false,.slice none 0 0,.slice none 0 0]∧w1.heap.size≤b) (fun _ _ _ _ hx h=>(let ⟨b,e,hB,hg⟩:=h;⟨b,e,hB.ext hx.toExt,hg⟩)) (fun σ wx hE hk=>zV zAY fun b w2 hb hX hB hs=>⟨hX,b,rfl,hB,(by rw [hb];exact hE.size)⟩) ?_;refine zAi (hK _ fun wq hE => ?_);rintro _ rfl _ rfl v24 N24 _ rfl v26 N26 v27 N27 _ rfl _ rfl v30 N30 v31 N31 v32 N32 v10 N10;refine zh ?_;replace E0:=E0.trans hE;replace hX:=hX.ext hE;replace hB1:=hB1.ext hE;replace hB2:=hB2.ext hE;replace hB3:=hB3.ext hE;replace hC:=hC.ext hE;clear hE;obtain ⟨gb,rfl,hBg,hgg⟩:=N10;have hg0:w.heap.size≤gb:=Nat.le_trans hE1.size hgg;have hb1:b1≠gb:=hB1.neT hBg (by decide);have hb3:b3≠gb:=hB3.neT hBg (by decide);have hb2:b2≠gb:=by have:=hlt2;omega
   refine K1 (zN rfl N32 (Cell3.of hBg rfl) fun _ w9 hUp hNA => ?_);replace E0:=E0.upd hUp hg0;replace hU:=hU.updN hX hUp hBg hgg;replace hL:=hL.updN hX hUp hBg hgg;replace hB1:=hB1.upd hUp hb1;replace hB2:=hB2.upd hUp hb2;replace hB3:=hB3.upd hUp hb3;replace hC:=hC.updT hUp hBg (by decide);clear hUp hBg N32 N24 N26 N27 N30 N31 hX;refine zCh (zM (K5 [3,6,7,8,10,18,19] ?_));refine zA ?_;rcases (show (a<0)∨(¬ a<0∧∃ b,peval low (B.lo+rabs (B.hi-B.lo)*((j:Rat)/(n:Rat)))=some b∧b<0)∨(¬ a<0∧∃ b,peval low (B.lo+rabs (B.hi-B.lo)*((j:Rat)/(n:Rat)))=some b∧¬ b<0) from by by_cases q1:a<0;exact .inl q1;rw [if_neg q1] at hJ;obtain ⟨b,hb,-⟩:=bind_some hJ;by_cases q2:b<0;exact .inr (.inl ⟨q1,b,hb,q2⟩);exact .inr (.inr ⟨q1,b,hb,q2⟩)) with ha0 | ⟨ha0,b,hb,hb0⟩ | ⟨ha0,b,hb,hb0⟩
   · rw [if_pos ha0] at hJ;obtain rfl:=Option.some.inj hJ;obtain rfl:=Option.some.inj hw;refine K6 fun K=>K1 (zk (ix:=0) zDr rfl rfl (by decide) (by decide) (K1 (zD zBK rfl hB3 rfl (K1 (za rfl hNA fun v35 N35=>K1 (j7 E0 hB1.ext hC.ext hB2.ext hB3.ext hU.ext hL.ext hNA.ext hb176 (zBp hU N35 ha) fun v36 w2 E0 hB1 hC hB2 hB3 hU hL hNA N36=>K1 (j7 E0 hB1.ext hC.ext hB2.ext hB3.ext hU.ext hL.ext hNA.ext hb19 (Sign_ok N36) fun vi w2 E0 hB1 hC hB2 hB3 hU hL hNA hr => ?_)))))));subst hr;refine K9 true rfl (decide_eq_true (zAl.2 ha0)) (mv (K3 (K3 (K3 (K3 (K3 (K3 (pk rfl (rs [3,6,7,8,10,18,19,40,41,42,43,44,45,46] K ?_)))))))));refine wct rfl (rj fun K=>K1 (za rfl hNA fun v47 N47=>K1 (zN rfl N47 (Cell3.of hB2 rfl) fun _ w9 hUp hN4 => ?_)));replace E0:=E0.upd hUp hgb2;obtain ⟨cs4,hB4,hl4,hN4⟩:=hN4;refine rm [3,6,7,8,18,19] K ?_;exact zE (zZ (zU (zAI (zZ (zZ (zU (zAI (zZ (zQ ⟨rfl,_,zv rfl rfl rfl zy hB4 hl4,E0,hN4⟩)))))))))
   · rw [if_neg ha0,hb] at hJ;replace hJ:(if b<0 then some (some (B.lo+rabs (B.hi-B.lo)*((j:Rat)/(n:Rat)))) else witJ up low B.lo (rabs (B.hi-B.lo)) n g (j+1))=some r:=hJ;rw [if_pos hb0] at hJ;obtain rfl:=Option.some.inj hJ;obtain rfl:=Option.some.inj hw;refine K6 fun K=>K1 (zk (ix:=0) zDr rfl rfl (by decide) (by decide) (K1 (zD zBK rfl hB3 rfl (K1 (za rfl hNA fun v35 N35=>K1 (j7 E0 hB1.ext hC.ext hB2.ext hB3.ext hU.ext hL.ext hNA.ext hb176 (zBp hU N35 ha) fun v36 w2 E0 hB1 hC hB2 hB3 hU hL hNA N36=>K1 (j7 E0 hB1.ext hC.ext hB2.ext hB3.ext hU.ext hL.ext hNA.ext hb19 (Sign_ok N36) fun vi w2 E0 hB1 hC hB2 hB3 hU hL hNA hr => ?_)))))));subst hr;refine K9 false rfl (decide_eq_false (fun e=>ha0 (zAl.1 e))) (mv (K2 (zk (ix:=1) zDr rfl rfl (by decide) (by decide) (K2 (zD zBK rfl hB3 rfl (K2 (za rfl hNA fun v42 N42=>K2 (j7 E0 hB1.ext hC.ext hB2.ext hB3.ext hU.ext hL.ext hNA.ext hb176 (zBp hL N42 hb) fun v43 w2 E0 hB1 hC hB2 hB3 hU hL hNA N43=>K2 (j7 E0 hB1.ext hC.ext hB2.ext hB3.ext hU.ext hL.ext hNA.ext hb19 (Sign_ok N43) fun vi w2 E0 hB1 hC hB2 hB3 hU hL hNA hr => ?_)))))))));subst hr;refine K2 (zJ (v := .bool true) rfl rfl (congrArg (fun z=>some (Value.bool z)) (decide_eq_true (zAl.2 hb0))) (pk rfl (rs [3,6,7,8,10,18,19,40,41,42,43,44,45,46] K ?_)))
     refine wct rfl (rj fun K=>K1 (za rfl hNA fun v47 N47=>K1 (zN rfl N47 (Cell3.of hB2 rfl) fun _ w9 hUp hN4 => ?_)));replace E0:=E0.upd hUp hgb2;obtain ⟨cs4,hB4,hl4,hN4⟩:=hN4;refine rm [3,6,7,8,18,19] K ?_;exact zE (zZ (zU (zAI (zZ (zZ (zU (zAI (zZ (zQ ⟨rfl,_,zv rfl rfl rfl zy hB4 hl4,E0,hN4⟩)))))))))
   · rw [if_neg ha0,hb] at hJ;replace hJ:(if b<0 then some (some (B.lo+rabs (B.hi-B.lo)*((j:Rat)/(n:Rat)))) else witJ up low B.lo (rabs (B.hi-B.lo)) n g (j+1))=some r:=hJ;rw [if_neg hb0] at hJ;refine K6 fun K=>K1 (zk (ix:=0) zDr rfl rfl (by decide) (by decide) (K1 (zD zBK rfl hB3 rfl (K1 (za rfl hNA fun v35 N35=>K1 (j7 E0 hB1.ext hC.ext hB2.ext hB3.ext hU.ext hL.ext hNA.ext hb176 (zBp hU N35 ha) fun v36 w2 E0 hB1 hC hB2 hB3 hU hL hNA N36=>K1 (j7 E0 hB1.ext hC.ext hB2.ext hB3.ext hU.ext hL.ext hNA.ext hb19 (Sign_ok N36) fun vi w2 E0 hB1 hC hB2 hB3 hU hL hNA hr => ?_)))))));subst hr;refine K9 false rfl (decide_eq_false (fun e=>ha0 (zAl.1 e))) (mv (K2 (zk (ix:=1) zDr rfl rfl (by decide) (by decide) (K2 (zD zBK rfl hB3 rfl (K2 (za rfl hNA fun v42 N42=>K2 (j7 E0 hB1.ext hC.ext hB2.ext hB3.ext hU.ext hL.ext hNA.ext hb176 (zBp hL N42 hb) fun v43 w2 E0 hB1 hC hB2 hB3 hU hL hNA N43=>K2 (j7 E0 hB1.ext hC.ext hB2.ext hB3.ext hU.ext hL.ext hNA.ext hb19 (Sign_ok N43) fun vi w2 E0 hB1 hC hB2 hB3 hU hL hNA hr => ?_)))))))));subst hr;refine K2 (zJ (v := .bool false) rfl rfl (congrArg (fun z=>some (Value.bool z)) (decide_eq_false (fun e=>hb0 (zAl.1 e)))) (pk rfl (rs [3,6,7,8,10,18,19,40,41,42,43,44,45,46] K ?_)))
     exact wcf rfl (zp (zR (zM (K6 fun K=>K1 (zf (b:=1) (j+1) rfl rfl rfl (by omega) (mv (rl K (zO (⟨rfl,g,⟨j+1,(kp rfl),E0,hB1,hC,hB2,hB3,hU,hL,hJ,by omega⟩,by omega⟩)))))))))
end Go.Proofs.YtjiendlfobjanaaGreatDoor
namespace Go.Proofs.YtjiendlfobjanaaGreatDoor
open Go Go.RowKit Go.Proofs Tryz
variable {P:Program} {T t' ty:TypeId} {af:Array Edge} {g:Option (Nat×Bool)} {n:Nat} {pos:String} {r:Option Nat} {w:World} {x y:Operand} {σ:Operand→Value}
abbrev S (l:List UInt8):Value := .string ⟨l.toArray⟩
theorem S_of (s:ByteArray):Value.string s=S s.data.toList:=by cases s;simp [S]
theorem zKK (l:List UInt8):(⟨l.toArray⟩:ByteArray).toList=l:=by
 rw [ByteArray.toList_eq]
theorem zFZ (l:List UInt8):(⟨l.toArray⟩:ByteArray).size=l.length:=rfl
theorem zHo {b:Nat} {s:ByteArray} (h:w.heap[b]? = some (.stringIter s n)):(getObj b).run P w = .ok (.stringIter s n) w:=by simp [getObj,Sem.run,h]
theorem run_setIter {b:Nat} {s:ByteArray} (o:Obj) (h:w.heap[b]? = some (.stringIter s n)):(setObj b o).run P w = .ok () (w.putObj b o):=by simp [setObj,Sem.run,h,World.putObj]
section laws
variable {K:Value→World→Prop} {d:Option Tmp} {i:Operand} {a b l:List UInt8}
theorem zDP {op:BinOp} {t:TypeId} {a b:ByteArray}:(eqGuard op t x y (.string a) (.string b)).run P w = .ok () w:=by
 unfold eqGuard;cases op<;>simp
theorem zz (hT:P.underlying T=some .string) (hx:σ x=S l) (hk:K (.int .i64 (l.length:Int)) w):Runs P r ⟨d,.call { callee := .builtin .len,args := #[x],argTypes := #[T] },ty,pos,af,g⟩ σ w K :=
 zBY hT hx (by rw [zFZ];exact hk)
theorem zAR (hx:σ x=S a) (hy:σ y=S b) (hk:K (.bool (a==b)) w):Runs P r ⟨d,.binOp .eql T x y t',ty,pos,af,g⟩ σ w K:=by
 refine zo (fun _ e=>by cases e) ?_ hk;simp [execOp,binOp,hx,hy,zDP,Op.stringOp,zKK]
theorem zJv (hx:σ x=S a) (hy:σ y=S b) (hk:K (.bool (a != b)) w):Runs P r ⟨d,.binOp .neq T x y t',ty,pos,af,g⟩ σ w K:=by
 refine zo (fun _ e=>by cases e) ?_ hk;simp [execOp,binOp,hx,hy,zDP,Op.stringOp,zKK];cases h:a==b<;>simp_all [bne]
theorem zBA (hx:σ x=S a) (hy:σ y=S b) (hl:a.length+b.length<9223372036854775808) (hk:K (S (a++b)) w):Runs P r ⟨d,.binOp .add T x y t',ty,pos,af,g⟩ σ w K:=by
 refine zo (fun _ e=>by cases e) ?_ hk;have e:(⟨a.toArray⟩:ByteArray)++(⟨b.toArray⟩:ByteArray)=⟨(a++b).toArray⟩:=by
  apply ByteArray.ext;simp [ByteArray.data_append]
 have hm:¬ (((a.length+b.length:Nat):Int)>IntKind.i64.max):=by
  have:IntKind.i64.max=9223372036854775807:=by decide
  omega
 simp only [execOp,binOp,hx,hy,Sem.run_bind,zDP,Op.stringOp,zFZ,e,if_neg hm,Result.andThen_ok,Sem.run_pure]
theorem zAU {k:IntKind} (hT:P.underlying T=some .string) (hx:σ x=S l) (hi:σ i = .int k (n:Int)) (h1:n<l.length) (hk:K (.int .u8 ((l.getD n 0).toNat:Int)) w):Runs P r ⟨d,.index T x i,ty,pos,af,g⟩ σ w K:=by
 refine zo (fun _ e=>by cases e) ?_ hk;have e:(⟨l.toArray⟩:ByteArray)[n]? = some (l.getD n 0):=by
  have h2:n<(⟨l.toArray⟩:ByteArray).size:=by rw [zFZ];exact h1
  rw [getElem?_pos (⟨l.toArray⟩:ByteArray) n h2];congr 1;rw [List.getD_eq_getElem?_getD,List.getElem?_eq_getElem h1];rfl
 simp [execOp,Instr.index,run_underlying hT,hx,hi,asIntOf,e]
theorem zCW {k:IntKind} (hT:P.underlying T=some .string) (hx:σ x=S l) (hi:σ i = .int k (n:Int)) (h1:n≤l.length) (hk:K (S (l.drop n)) w):Runs P r ⟨d,.slice T x (some i) none none,ty,pos,af,g⟩ σ w K:=by
 refine zo (fun _ e=>by cases e) ?_ hk;have hb:=fun (y:Nat) (code:BoundsCode) (hy:n≤y)=>zBg (P:=P) (k:=k) (i:=(n:Int)) (y:=y) (code:=code) (by omega) (by omega) w;have e:(⟨l.toArray⟩:ByteArray).extract n l.length=⟨(l.drop n).toArray⟩:=by
  apply ByteArray.ext;simp [ByteArray.data_extract,List.drop_take,List.take_of_length_le]
 simp [execOp,Instr.sliceAt,Instr.slice,Instr.sliceBounds,run_underlying hT,hx,hi,zFZ,hb _ _ h1,e]
theorem zEG {k:IntKind} (hT:P.underlying T=some .string) (hx:σ x=S l) (hi:σ i = .int k (n:Int)) (h1:n≤l.length) (hk:K (S (l.take n)) w):Runs P r ⟨d,.slice T x none (some i) none,ty,pos,af,g⟩ σ w K:=by
 refine zo (fun _ e=>by cases e) ?_ hk;have hb:=fun (y:Nat) (code:BoundsCode) (hy:n≤y)=>zBg (P:=P) (k:=k) (i:=(n:Int)) (y:=y) (code:=code) (by omega) (by omega) w;have e:(⟨l.toArray⟩:ByteArray).extract 0 n=⟨(l.take n).toArray⟩:=by
  apply ByteArray.ext;simp [ByteArray.data_extract]
 simp [execOp,Instr.sliceAt,Instr.slice,Instr.sliceBounds,run_underlying hT,hx,hi,zFZ,hb _ _ h1,e]
theorem runs_srange (hT:P.underlying T=some .string) (hx:σ x=S l) (hk:∀ b w',b=w.heap.size→Ext w w'→w'.heap[b]? = some (.stringIter ⟨l.toArray⟩ 0)→K (.pointer (some ⟨b,0,none⟩)) w'):Runs P r ⟨d,.range T x,ty,pos,af,g⟩ σ w K:=by
 refine zBD (fun _ e=>by cases e) (v := .pointer (some ⟨w.heap.size,0,none⟩)) (w':={ w with heap:=w.heap.push (.stringIter ⟨l.toArray⟩ 0) }) ?_ (hk _ _ rfl (Ext.push _) (by simp));simp [execOp,Instr.range,run_underlying hT,hx]
theorem runs_snext_end {b:Nat} (hx:σ x = .pointer (some ⟨b,0,none⟩)) (hi:w.heap[b]? = some (.stringIter ⟨l.toArray⟩ n)) (h1:l.length≤n) (hk:K (.tuple #[.bool false]) w):Runs P r ⟨d,.next x true,ty,pos,af,g⟩ σ w K:=by
 refine zo (fun _ e=>by cases e) ?_ hk;have h2:¬ n<l.length:=by omega
 simp only [execOp,Instr.next,hx,Sem.run_bind,zHo hi,Result.andThen_ok,zFZ,if_neg h2,Sem.run_pure]
theorem runs_snext {b:Nat} (hx:σ x = .pointer (some ⟨b,0,none⟩)) (hi:w.heap[b]? = some (.stringIter ⟨l.toArray⟩ n)) (h1:n<l.length) (ha:(l.getD n 0).toNat<128)
 (hk:∀ w',OthX b w w'→w'.heap[b]? = some (.stringIter ⟨l.toArray⟩ (n+1))→K (.tuple #[.bool true,.int .i64 (n:Int),.int .i32 ((l.getD n 0).toNat:Int)]) w'):Runs P r ⟨d,.next x true,ty,pos,af,g⟩ σ w K:=by
 have hd:Utf8.decode ⟨l.toArray⟩ n=((l.getD n 0).toNat,1):=by
  have e:(⟨l.toArray⟩:ByteArray).get! n=l.getD n 0:=by
   simp [ByteArray.get!,Array.getElem!_eq_getD,List.getD_eq_getElem?_getD];rfl
  unfold Utf8.decode;simp only [Nat.add_zero,e];rw [if_pos ha]
 have hlt:b<w.heap.size:=(Array.getElem?_eq_some_iff.1 hi).1;refine zBD (fun _ e=>by cases e) (v := .tuple #[.bool true,.int .i64 (n:Int),.int .i32 ((l.getD n 0).toNat:Int)]) (w':=w.putObj b (.stringIter ⟨l.toArray⟩ (n+1))) ?_ (hk _ (zDt _ hi rfl) (by simp [World.putObj,hlt]));simp only [execOp,Instr.next,hx,Sem.run_bind,zHo hi,Result.andThen_ok,zFZ,if_pos h1,hd,run_setIter _ hi,Sem.run_pure,goInt]
end laws
theorem zAD:prog.underlying 9=some .string:=by kernel_rfl
def isDig (b:UInt8):Bool:=decide (48≤b.toNat)&&decide (b.toNat≤57)
def zDa:List UInt8:=[48,49,50,51,52,53,54,55,56,57]
theorem digSet_contains (x:UInt8):zDa.contains x=isDig x:=by
 have key:∀ n:Fin 256,zDa.contains (UInt8.ofFin n)=isDig (UInt8.ofFin n):=by decide +kernel
 exact key x.toFin
def zAQ (l:List UInt8):Bool:=l != []&&l.all isDig
def zAN (l:List UInt8):Bool:=zAQ l&&(l==[48] || l.getD 0 0 != 48)
def cutAt (c:UInt8):List UInt8→List UInt8×List UInt8×Bool
 | []=>([],[],false)
 | b :: l=>if b=c then ([],l,true) else (b :: (cutAt c l).1,(cutAt c l).2.1,(cutAt c l).2.2)
def natS (l:List UInt8):Nat:=l.foldl (fun n b=>10*n+(b.toNat-48)) 0
def below (l:List UInt8):Bool:=l.head? == some 45
def zP (l:List UInt8):List UInt8:=if below l then l.tail else l
def zK (l:List UInt8):Rat×Int :=
 let c:=cutAt 47 (zP l)
 if !zAN c.1 || (c.1==[48]&&(below l || c.2.2)) then (0,6)
 else if c.2.2&&(!zAN c.2.1 || c.2.1==[48] || c.2.1==[49]) then (0,6)
 else if 1000<c.1.length∨1000<c.2.1.length then (0,3)
 else if !c.2.2 then (qOf (below l) (natS c.1) 1,0)
 else if Nat.gcd (natS c.1) (natS c.2.1)≠1 then (0,6) else (qOf (below l) (natS c.1) (natS c.2.1),0)
theorem trimR (l:List UInt8) (x:UInt8) (h:isDig x=true):(l++[x]).all isDig=l.all isDig:=by simp [h]
theorem zHs {l:List UInt8} (h:l.length=n+1):l=l.take n++[l.getD n 0]:=by
 have h2:n<l.length:=by omega
 rw [List.getD_eq_getElem?_getD,List.getElem?_eq_getElem h2,Option.getD_some,← List.take_succ_eq_append_getElem h2,List.take_of_length_le (by omega)]
theorem zKi (c:UInt8):∀ l:List UInt8,(Lib.indexByte l c = -1∧cutAt c l=(l,[],false))∨(∃ n:Nat,Lib.indexByte l c=n∧n<l.length∧cutAt c l=(l.take n,l.drop (n+1),true))
 | [] => .inl ⟨rfl,rfl⟩
 | b :: l=>by
  unfold Lib.indexByte cutAt;by_cases e:b=c
  · subst e;right;exact ⟨0,by simp,by simp,by simp⟩
  · rcases zKi c l with ⟨h1,h2⟩ | ⟨n,h1,h2,h3⟩
    · left;simp [e,h1,h2]
    · right;refine ⟨n+1,?_,by simp;omega,by simp [e,h3]⟩;rw [h1];have:((n:Int) == -1)=false:=by rw [beq_eq_false_iff_ne];omega
      simp [e,this]
theorem zHx (l:List UInt8) (b:UInt8):natS (l++[b])=10*natS l+(b.toNat-48):=by unfold natS;simp
theorem zGN:∀ (n:Nat) (l:List UInt8),l.length=n→l.all isDig=true→natS l<10^n
 | 0,l,h,_=>by rw [List.length_eq_zero_iff.1 h];decide
 | n+1,l,h,hd=>by
  have e:=zHs h;rw [e] at hd ⊢;rw [zHx];simp only [List.all_append,List.all_cons,List.all_nil,Bool.and_true,Bool.and_eq_true] at hd;have h1:=zGN n (l.take n) (by simp;omega) hd.1;have h2:=hd.2;unfold isDig at h2;simp only [Bool.and_eq_true,decide_eq_true_eq] at h2;rw [Nat.pow_succ];omega
theorem zEF {l:List UInt8} (h:l.length≤1000) (hd:l.all isDig=true):Fit (natS l):=by
 have h1:=zGN l.length l rfl hd;have h2:10^l.length≤2^(4*l.length):=by rw [Nat.pow_mul];exact Nat.pow_le_pow_left (by decide) _
 by_cases h0:natS l=0
 · rw [h0];unfold Fit;decide
 · have:=(Nat.log2_lt h0 (k:=4*l.length)).2 (Nat.lt_of_lt_of_le h1 h2);unfold Fit;omega
end Go.Proofs.YtjiendlfobjanaaGreatDoor
namespace Go.Proofs.YtjiendlfobjanaaGreatDoor
open Go Go.RowKit Go.Proofs Tryz
set_option maxRecDepth 10000
set_option maxHeartbeats 2000000
variable {b:Nat} {l0:List UInt8} {w:World}
theorem zHc {x:UInt8} (hB:Blk w b 392 (Lib.setCells zDa).toList):Ret prog 364 #[.pointer (some ⟨b,0,none⟩),.int .u8 (x.toNat:Int)] w (fun v w'=>w'=w∧v = .bool (isDig x)) :=
 (Tryz.asciiSet_contains b x (isDig x) w (by rw [hB.cell,Array.getElem?_toList,Lib.setCells_at,digSet_contains])).mono fun e w' ⟨he,hw⟩=>⟨_,he,by rw [hw];exact Ext.refl w,hw,rfl⟩
theorem hv392 (w:World):(zeroValue 392).run prog w = .ok (.agg (Array.replicate 256 (.bool false))) w:=by
 have h:(prog.info? 392).bind (·.zero)=some (.agg (Array.replicate 256 (.bool false))):=by kernel_rfl
 cases hi:prog.info? 392 with
 | none=>simp [hi] at h
 | some i=>simp [hi] at h;simp [zeroValue,typeInfo,hi,h]
theorem makeSet_ok:Ret prog 344 #[S zDa] w (fun v w'=>v = .tuple #[.agg (Lib.setCells zDa),.bool true]) :=
 (Tryz.strings_makeASCIISet hv392 ⟨zDa.toArray⟩ w (by decide) (fun j b h=>by
  have hm:b∈zDa:=List.mem_of_getElem? (by simpa using h);have key:∀ b∈zDa,b.toNat<128:=by decide +kernel
  exact key b hm)).mono fun e w' ⟨he,hw⟩=>⟨_,he,by rw [hw];exact Ext.push _,rfl⟩
theorem index47_ok {l:List UInt8} {c:UInt8}:Ret prog 306 #[S l,S [c]] w (fun v _=>v = .int .i64 (Lib.indexByte l c)) :=
 (Tryz.stringslite_Index_one ⟨l.toArray⟩ c w).mono fun e w' ⟨he,hw⟩=>⟨_,he,by rw [hw];exact Ext.refl w,rfl⟩
theorem cutPrefix_ok {l:List UInt8}:Ret prog 151 #[S l,S [45]] w (fun v _=>v = .tuple #[S (zP l),.bool (below l)]) :=
 (Tryz.strings_CutPrefix ⟨l.toArray⟩ ⟨#[45]⟩ w).mono fun e w' ⟨he,hw⟩=>⟨_,he,by rw [hw];exact Ext.refl w,by
  have hb:Lib.hasPrefix l [45]=below l:=by
   cases l with
   | nil=>rfl
   | cons b l =>
    unfold Lib.hasPrefix below;by_cases e:b=45
    · subst e;simp [List.isPrefixOf]
    · have h1:((45:UInt8)==b)=false:=beq_eq_false_iff_ne.2 fun h=>e h.symm;have h2:(some b==some (45:UInt8))=false:=beq_eq_false_iff_ne.2 fun h=>e (Option.some.inj h);simp only [List.head?_cons,List.isPrefixOf,h1,h2,Bool.false_and]
  have hu:Lib.trimPrefix l [45]=zP l:=by
   unfold Lib.trimPrefix zP;rw [hb];by_cases e:below l=true
   · rw [if_pos e,if_pos e];cases l<;>rfl
   · rw [if_neg e,if_neg e]
  show Value.tuple #[S (Lib.trimPrefix l [45]),.bool (Lib.hasPrefix l [45])]=_;rw [hu,hb]⟩
theorem size392:(prog.info? 392).map (·.size)=some 256:=by kernel_rfl
theorem zero392:(prog.info? 392).bind (·.zero)=some (.agg (Array.replicate 256 (.bool false))):=by kernel_rfl
theorem zHO:∀ (vs cs:List Value) (o:Nat),o+vs.length≤cs.length→zBI cs o vs=cs.take o++(vs++cs.drop (o+vs.length))
 | [],cs,o,h=>by show cs=_;simp
 | v :: vs,cs,o,h=>by
  simp at h;show zBI (cs.set o v) (o+1) vs=_;rw [zHO vs (cs.set o v) (o+1) (by simp;omega),List.set_eq_take_append_cons_drop,if_pos (by omega)];have h1:(cs.take o).length=o:=by simp;omega
  rw [List.take_append,List.drop_append,h1,List.take_of_length_le (by omega),List.drop_of_length_le (l:=cs.take o) (by omega),show o+1-o=1 by omega,show o+1+vs.length-o=vs.length+1 by omega,show o+(v :: vs).length=o+1+vs.length by simp;omega];simp
theorem splice_all (cs l:List Value) (h:cs.length=l.length):zBI cs 0 l=l:=by
 rw [zHO _ _ _ (by omega),Nat.zero_add,List.drop_of_length_le (by omega)];simp
attribute [local irreducible] Runs WPE CallK Ret
theorem trimRight_ok (hlen:l0.length<1000000000) (hB:Blk w b 392 (Lib.setCells zDa).toList):Ret prog 346 #[S l0,.pointer (some ⟨b,0,none⟩)] w (fun r _=>∃ l,r=S l∧l.length≤l0.length∧(l0.all isDig=l.all isDig)∧(l=[]∨isDig (l.getD (l.length-1) 0)=false)):=by
 have E0:Ext w w:=Ext.refl w;refine J0 22 func346 rfl (rj fun K=>ag (rm [0,1] K ?_));refine zA (zF (zg (X:=Nat) (fun n ρ w'=>∃ l:List UInt8,l.length=n∧Keep ρ [(0,S l),(1,.pointer (some ⟨b,0,none⟩))]∧Ext w w'∧l.length≤l0.length∧(l0.all isDig=l.all isDig)∧(l0.all isDig=true→True)) (fun n=>n) l0.length ⟨l0,rfl,(kp rfl),E0,Nat.le_refl _,rfl,fun _=>trivial⟩ ?_));clear E0;rintro n ρ1 w1 ⟨l,hln,hk,E0,hll,hall,-⟩;refine wpe_k _ hk ?_;clear hk ρ1;refine zA (rJ fun K=>K1 (zz zAD rfl (K8 rfl (rm [0,1,7] K ?_))));refine K0 rfl ?_ ?_<;>intro hc
 · rcases n with _ | n
   · have:=of_decide_eq_true hc;omega
   clear hc;refine sk (zF (zA (rJ fun K=>mv (mv (K1 (zz zAD rfl (K1 (zAJ (b:=1) (n) rfl rfl (by omega) (by omega) (K1 (zAU zAD rfl rfl (by omega) (K1 (j0 E0 hb364 ((zHc (hB.ext E0)).mono fun _ _ _ h=>h.2) fun vi w2 E0 hr => ?_))))))))))));subst hr;refine K1 (zq rfl (rm [0,1,15] K ?_));refine K0 rfl ?_ ?_<;>intro hc
   · have hd:isDig (l.getD n 0)=false:=by simpa using hc
     clear hc;refine zY (zx (zCj (by decide) (zl (zL (zM (rJ fun K=>ag (rm [1,4] K ?_)))))));refine zE (zQ ?_);exact ⟨rfl,_,zj rfl rfl,E0,l,rfl,hll,hall,by first | exact .inl hl0 | exact .inr (by rw [hln];exact hd)⟩
   · have hd:isDig (l.getD n 0)=true:=by simpa using hc
     clear hc;refine sk (rI fun K=>mv (K1 (zz zAD rfl (K1 (zAJ (b:=1) (n) rfl rfl (by omega) (by omega) (K1 (zEG (n:=n) zAD rfl rfl (by omega) (ag (rl K (zR (zO ?_)))))))))));exact ⟨rfl,n,⟨l.take n,by simp;omega,(kp rfl),E0,by simp;omega,by rw [hall];conv=>{ lhs;rw [zHs hln] };rw [trimR _ _ hd],fun _=>trivial⟩,by omega⟩
 · have hl0:l=[]:=List.length_eq_zero_iff.1 (by have:=of_decide_eq_false hc;omega);clear hc;refine zY (zx (zl (zL (zM (rJ fun K=>ag (rm [1,4] K ?_))))));refine zE (zQ ?_);exact ⟨rfl,_,zj rfl rfl,E0,l,rfl,hll,hall,by first | exact .inl hl0 | exact .inr (by rw [hln];exact hd)⟩
theorem trimLeft_ok (hlen:l0.length<1000000000) (hB:Blk w b 392 (Lib.setCells zDa).toList):Ret prog 345 #[S l0,.pointer (some ⟨b,0,none⟩)] w (fun r _=>∃ l,r=S l∧l.length≤l0.length∧(l0.all isDig=l.all isDig)∧(l=[]∨isDig (l.getD 0 0)=false)):=by
 have E0:Ext w w:=Ext.refl w;refine J0 16 func345 rfl (rj fun K=>ag (rm [0,1] K ?_));refine zA (zF (zg (X:=Nat) (fun n ρ w'=>∃ l:List UInt8,l.length=n∧Keep ρ [(0,S l),(1,.pointer (some ⟨b,0,none⟩))]∧Ext w w'∧l.length≤l0.length∧(l0.all isDig=l.all isDig)∧(l0.all isDig=true→True)) (fun n=>n) l0.length ⟨l0,rfl,(kp rfl),E0,Nat.le_refl _,rfl,fun _=>trivial⟩ ?_));clear E0;rintro n ρ1 w1 ⟨l,hln,hk,E0,hll,hall,-⟩;refine wpe_k _ hk ?_;clear hk ρ1;refine zA (rJ fun K=>K1 (zz zAD rfl (K8 rfl (rm [0,1,7] K ?_))));refine K0 rfl ?_ ?_<;>intro hc
 · rcases n with _ | n
   · have:=of_decide_eq_true hc;omega
   clear hc;refine sk (zF (zA (rJ fun K=>mv (K1 (zAU (n:=0) zAD rfl rfl (by omega) (K1 (j0 E0 hb364 ((zHc (hB.ext E0)).mono fun _ _ _ h=>h.2) fun vi w2 E0 hr => ?_)))))));subst hr;refine K1 (zq rfl (rm [0,1,12] K ?_));refine K0 rfl ?_ ?_<;>intro hc
   · have hd:isDig (l.getD 0 0)=false:=by simpa using hc
     clear hc;refine zY (zx (zCj (by decide) (zl (zL (zM (rJ fun K=>ag (rm [1,4] K ?_)))))));exact zE (en rfl E0 ⟨l,rfl,hll,hall,by first | exact .inl hl0 | exact .inr hd⟩)
   · have hd:isDig (l.getD 0 0)=true:=by simpa using hc
     clear hc;refine sk (rI fun K=>K1 (zCW (n:=1) zAD rfl rfl (by omega) (ag (rl K (zR (zO ?_))))));exact ⟨rfl,n,⟨l.drop 1,by simp;omega,(kp rfl),E0,by simp;omega,by rw [hall];cases l with | nil=>rfl | cons x t=>(simp at hd;simp [hd]),fun _=>trivial⟩,by omega⟩
 · have hl0:l=[]:=List.length_eq_zero_iff.1 (by have:=of_decide_eq_false hc;omega);clear hc;refine zY (zx (zl (zL (zM (rJ fun K=>ag (rm [1,4] K ?_))))));exact zE (en rfl E0 ⟨l,rfl,hll,hall,by first | exact .inl hl0 | exact .inr hd⟩)
end Go.Proofs.YtjiendlfobjanaaGreatDoor
namespace Go.Proofs.YtjiendlfobjanaaGreatDoor
open Go Go.RowKit Go.Proofs Tryz
set_option maxRecDepth 10000
set_option maxHeartbeats 2000000
attribute [local irreducible] Runs WPE CallK Ret
variable {l0:List UInt8} {w:World}
theorem setOk:(Lib.setCells zDa).toList.all zAp=true:=by
 rw [List.all_eq_true];intro v hv;rw [Lib.setCells_eq] at hv;simp at hv;obtain ⟨n,_,rfl⟩:=hv;rfl
theorem zJA {l:List UInt8} (h:l≠[]):(l==[])=false:=beq_eq_false_iff_ne.2 h
theorem TrimD_ok (hlen:l0.length<1000000000):Ret prog 307 #[S l0,S zDa] w (fun r _=>∃ t,r=S t∧(t=[]→l0.all isDig=true)∧(l0.all isDig=true→t=[])):=by
 refine J0 43 func307 rfl (rj fun K=>ag (rm [0,1] K ?_));refine zA (zA ?_);by_cases h0:l0=[]
 · subst h0;refine rI fun K=>K1 (zAR rfl rfl (mv (K3 (K3 (pk rfl (rs [0,1,12] K ?_))))));refine wct rfl (rJ fun K=>ag (rm [4] K ?_));exact zE (zU (en rfl E0 ⟨[],rfl,fun _=>rfl,fun _=>rfl⟩))
 · skip
   refine rI fun K=>K1 (zAR rfl rfl ?_);rw [zJA h0];refine mv (K7 (K2 (zAR rfl rfl (pk rfl (rs [0,1,12] K ?_)))));refine wcf rfl (sk (zA (rJ fun K=>K1 (zz zAD rfl (K8 rfl (mv (K3 (K3 (K3 (pk rfl (rm [0,1,21] K ?_)))))))))));refine wcf rfl (sk (zA (rJ fun K=>K1 (j0 E0 hb344 (makeSet_ok) fun vi w2 E0 hr => ?_))));subst hr;refine mv (xt rfl (xt rfl ?_));refine K1 (zV zero392 fun b1 w7 hb hE hB1 hs => ?_);have hg1:w.heap.size≤b1:=by rw [hb];exact E0.size
   replace E0:=E0.trans hE;clear hE hb hs;refine K1 (zc (n:=256) size392 rfl hB1 (Lib.setCells_size _) (by simp [Value.cells]) (by decide) setOk fun w9 hU hN => ?_);replace E0:=E0.upd hU hg1;have hB:Blk w9 b1 392 (Lib.setCells zDa).toList:=by
    have e:zBI (Value.agg (Array.replicate 256 (Value.bool false))).cells.toList 0 (Lib.setCells zDa).toList=(Lib.setCells zDa).toList:=splice_all _ _ (by simp [Value.cells,Lib.setCells_size]);rw [← e];exact hN
   clear hU hB1 hN;refine ag (rm [0,1,5,6] K ?_);refine rJ fun K=>rm [0,1,5,34] K ?_;refine wct rfl (rJ fun K=>K1 (j1 E0 hB.ext hb346 (trimRight_ok hlen hB) fun v36 w2 E0 hB hr => ?_));obtain ⟨l1,rfl,q1,q2,-⟩:=hr;refine K1 (j0 E0 hb345 (trimLeft_ok (by omega) hB) fun v37 w2 E0 hr => ?_);obtain ⟨l2,rfl,q3,q4,q5⟩:=hr;refine ag (rm [4] K ?_);refine zE (zU (en rfl E0 ⟨l2,rfl,fun e => ?_,fun e => ?_⟩))
   · rw [q2,q4,e];rfl
   · rcases q5 with q5 | q5
     · exact q5
     · cases l2 with
       | nil=>rfl
       | cons x t =>
        rw [q2,q4] at e;simp at e q5;rw [e.1] at q5;cases q5
theorem zAd {l:List UInt8} (hlen:l.length<1000000000):Ret prog 246 #[S l] w (fun r _=>r = .bool (zAQ l)):=by
 refine J0 10 func246 rfl (rj fun K=>ag (rm [0] K ?_));refine zA ?_;by_cases h0:l=[]
 · subst h0;refine rI fun K=>K1 (zJv rfl rfl (mv (K3 (K3 (K3 (pk rfl (ag (rs [2] K ?_))))))));refine zE (zQ ?_)
   first
   | exact ⟨rfl,_,zj rfl rfl,E0,rfl⟩
   | (refine ⟨rfl,_,zj rfl rfl,E0,congrArg Value.bool ?_⟩
      unfold zAQ;rw [show (l != [])=true from bne_iff_ne.2 h0,Bool.true_and];by_cases e:l.all isDig=true
      · rw [e,q2 e];rfl
      · rw [Bool.eq_false_iff.2 e,zJA (fun h=>e (q1 h))])
 · skip
   refine rI fun K=>K1 (zJv rfl rfl ?_);rw [show (l != [])=true from bne_iff_ne.2 h0];refine mv (K7 (K2 (j0 E0 hb307 (TrimD_ok hlen) fun v7 w2 E0 hr => ?_)));obtain ⟨t,rfl,q1,q2⟩:=hr;refine K2 (zAR rfl rfl (pk rfl (ag (rs [2] K ?_))));refine zE (zQ ?_)
   first
   | exact ⟨rfl,_,zj rfl rfl,E0,rfl⟩
   | (refine ⟨rfl,_,zj rfl rfl,E0,congrArg Value.bool ?_⟩
      unfold zAQ;rw [show (l != [])=true from bne_iff_ne.2 h0,Bool.true_and];by_cases e:l.all isDig=true
      · rw [e,q2 e];rfl
      · rw [Bool.eq_false_iff.2 e,zJA (fun h=>e (q1 h))])
theorem zDG {l:List UInt8} (hlen:l.length<1000000000):Ret prog 153 #[S l] w (fun r _=>r = .bool (zAN l)):=by
 refine J0 14 func153 rfl (rj fun K=>ag (rm [0] K ?_));refine zA ?_;rcases (show zAQ l=false∨(zAQ l=true∧(l==[48])=true)∨(zAQ l=true∧(l==[48])=false) from by cases zAQ l<;>cases (l==[48])<;>simp) with hd | ⟨hd,hz⟩ | ⟨hd,hz⟩
 · skip
   refine rI fun K=>K1 (j0 E0 hb246 (zAd hlen) fun vi w2 E0 hr => ?_);subst hr;rw [hd];refine mv (K3 (K3 (K3 (K3 (K3 (K3 (K3 (pk rfl (ag (rs [2] K ?_))))))))));refine zE (zQ ?_);exact ⟨rfl,_,zj rfl rfl,E0,by unfold zAN;rw [hd];rfl⟩
 · skip
   refine rI fun K=>K1 (j0 E0 hb246 (zAd hlen) fun vi w2 E0 hr => ?_);subst hr;rw [hd];refine mv (K7 (K2 (zAR rfl rfl ?_)));rw [hz];refine K7 (K3 (K3 (K3 (K2 (zu rfl (pk rfl (ag (rs [2] K ?_))))))));refine zE (zQ ?_);exact ⟨rfl,_,zj rfl rfl,E0,by unfold zAN;rw [hd,hz];rfl⟩
 · have hl0:0<l.length:=by
    cases l with
    | nil=>cases hd
    | cons x t=>simp
   refine rI fun K=>K1 (j0 E0 hb246 (zAd hlen) fun vi w2 E0 hr => ?_);subst hr;rw [hd];refine mv (K7 (K2 (zAR rfl rfl ?_)));rw [hz];refine K7 (K7 (K2 (zAU (n:=0) zAD rfl rfl hl0 (K2 (zJ rfl rfl rfl (K2 (zu rfl (pk rfl (ag (rs [2] K ?_))))))))));refine zE (en rfl E0 (congrArg Value.bool ?_));unfold zAN;rw [hd,hz,Bool.true_and,Bool.false_or];by_cases e:l.getD 0 0=48
   · rw [e];rfl
   · have e2:(l.getD 0 0 != 48)=true:=bne_iff_ne.2 e;have e3:(l.getD 0 0).toNat≠48:=fun h=>e (UInt8.toNat_inj.1 h);rw [e2];exact bne_iff_ne.2 (fun h=>e3 (by omega))
variable {a b k:Nat}
theorem natS_take {l:List UInt8} (h:k<l.length):natS (l.take (k+1))=10*natS (l.take k)+((l.getD k 0).toNat-48):=by
 rw [List.take_succ_eq_append_getElem h,zHx,List.getD_eq_getElem?_getD,List.getElem?_eq_getElem h];rfl
theorem zMi {l:List UInt8} (h:k<l.length) (hd:l.all isDig=true):48≤(l.getD k 0).toNat∧(l.getD k 0).toNat≤57:=by
 have h1:=List.all_eq_true.1 hd (l.getD k 0) (by rw [List.getD_eq_getElem?_getD,List.getElem?_eq_getElem h];exact List.getElem_mem h);unfold isDig at h1;simpa using h1
theorem wrap32 {x:Int} (h0:0≤x) (h1:x<1000):IntKind.i32.wrap x=x:=by
 have:x%4294967296=x:=by omega
 simp [IntKind.wrap,IntKind.bits,IntKind.signed,this];omega
theorem under21':prog.underlying 21=some (.int .i32):=by kernel_rfl
theorem under164':prog.underlying 164=some (.int .u64):=by kernel_rfl
theorem zLm (h:a≤b) (hb:Fit b):Fit a:=hb.le h
theorem zFv (h:a<18446744073709551616):Fit a:=by
 unfold Fit;by_cases h0:a=0
 · subst h0;decide
 · have h1:a<2^64:=h;have:=(Nat.log2_lt h0).2 h1;omega
theorem cut2_ok {l:List UInt8} {c:UInt8} (hlen:l.length<1000000000):Ret prog 245 #[S l,S [c]] w (fun r _=>r = .tuple #[S (cutAt c l).1,S (cutAt c l).2.1,.bool (cutAt c l).2.2]):=by
 refine J0 23 func245 rfl (rj fun K=>ag (ag (ag (rm [0,1] K ?_))));refine zA (rJ fun K=>mv (K1 (j0 E0 hb306 (index47_ok) fun vi w2 E0 hr => ?_)));subst hr;refine ag (rm [0,1,7] K ?_);refine zA ?_;rcases zKi c l with ⟨h1,h2⟩ | ⟨n,h1,h2,h3⟩
 · rw [h1];refine rI fun K=>K8 rfl (rs [0,1,7,12] K ?_);refine wcf rfl (sk (rJ fun K=>ag (ag (ag (rm [4,5,6] K ?_)))));refine zE (zQ ?_);exact ⟨rfl,_,zBi rfl rfl rfl rfl,E0,by rw [h2];rfl⟩
 · rw [h1];refine rI fun K=>K8 rfl (rs [0,1,7,12] K ?_);refine wct (congrArg Value.bool (decide_eq_true (by omega))) (zA (zBt mixed rfl rfl fun K hK=>qr rfl (fun wx hE=>zC ⟨rfl,Ext.refl _⟩) (qr rfl (fun wx hE=>zC ⟨rfl,Ext.refl _⟩) (qr rfl (fun wx hE=>zEG (n:=n) zAD rfl rfl (by omega) ⟨rfl,Ext.refl _⟩) (qr rfl (fun wx hE=>zC ⟨rfl,Ext.refl _⟩) (qr rfl (fun wx hE=>zC ⟨rfl,Ext.refl _⟩) (qr rfl (fun wx hE=>zC ⟨rfl,Ext.refl _⟩) (qr rfl (fun wx hE=>zz zAD rfl ⟨rfl,Ext.refl _⟩) (qr rfl (fun wx hE=>zf (b:=1) (n+1) rfl rfl rfl (by omega) ⟨rfl,Ext.refl _⟩) (qr rfl (fun wx hE=>zCW (n:=n+1) zAD rfl rfl (by omega) ⟨rfl,Ext.refl _⟩) (qr rfl (fun wx hE=>zS ⟨rfl,Ext.refl _⟩) (qr rfl (fun wx hE=>zS ⟨rfl,Ext.refl _⟩) (qr rfl (fun wx hE=>zS ⟨rfl,Ext.refl _⟩) ?_)))))))))))));refine hK _ fun wq hE => ?_;replace E0:=E0.trans hE;clear hE;refine zM (K5 [4,5,6] ?_);refine zE (zU (zQ ?_));exact ⟨rfl,_,zBi rfl rfl rfl rfl,E0,by rw [h3];rfl⟩
theorem Cut_ok {l:List UInt8} {c:UInt8} (hlen:l.length<1000000000):Ret prog 152 #[S l,S [c]] w (fun r _=>r = .tuple #[S (cutAt c l).1,S (cutAt c l).2.1,.bool (cutAt c l).2.2]):=by
 refine J0 13 func152 rfl (rj fun K=>ag (ag (ag (rm [0,1] K ?_))));refine rJ fun K=>mv (K1 (j0 E0 hb245 (cut2_ok hlen) fun vi w2 E0 hr => ?_));subst hr;refine xt rfl (xt rfl (xt rfl (ag (ag (ag (rm [4,5,6] K ?_))))));exact zE (zQ ⟨rfl,_,zBi rfl rfl rfl rfl,E0,rfl⟩)
theorem zGt {l:List UInt8} (hl:l.length≤1000) (hd:l.all isDig=true):Ret prog 154 #[S l] w (fun r w'=>IsW w' r (natS l)):=by
 have E0:Ext w w:=Ext.refl w;refine J0 37 func154 rfl (rj fun K=>ag (rm [0] K ?_));refine rj fun K=>ag (rm [0,3] K ?_);refine rj fun K=>ag (ag (rm [0,3,4,5] K ?_));refine zA (rJ fun K=>K1 (runs_srange zAD rfl fun ib w7 hb hE hI => ?_));have hib:w.heap.size≤ib:=by rw [hb];exact E0.size
 replace E0:=E0.trans hE;clear hE hb;refine rm [3,4,5,9] K ?_;refine zF (zg (X:=Nat) (fun k ρ w'=>∃ (va:Value) (n p f j:Nat),Keep ρ [(3,va),(4,.int .u64 (p:Int)),(5,.int .u64 (f:Int)),(9,.pointer (some ⟨ib,0,none⟩))]∧k≤l.length∧Ext w w'∧w'.heap[ib]? = some (.stringIter ⟨l.toArray⟩ k)∧IsW w' va n∧p<f∧f=10^j∧j<18∧natS (l.take k)=n*f+p) (fun k=>l.length-k) 0 ⟨_,0,0,1,0,(kp rfl),Nat.zero_le _,E0,hI,IsW.nil rfl,by decide,rfl,by decide,rfl⟩ ?_);clear E0 hI;rintro k ρ1 w1 ⟨va,n,p,f,j,hk,hkl,E0,hI,hA,hpf,hfj,hj,hnat⟩;refine wpe_k _ hk ?_;clear hk ρ1;have hfl:f≤100000000000000000:=by rw [hfj];exact Nat.le_trans (Nat.pow_le_pow_right (by decide) (show j≤17 by omega)) (by decide)
 have hf1:1≤f:=by rw [hfj];exact Nat.one_le_pow _ _ (by decide)
 refine zA ?_;by_cases hkk:k<l.length
 · obtain ⟨hd1,hd2⟩:=zMi hkk hd;have hnat2:natS (l.take (k+1))=n*(10*f)+(10*p+((l.getD k 0).toNat-48)):=by
    rw [natS_take hkk,hnat,Nat.mul_add,Nat.mul_left_comm];omega
   refine K6 fun K=>K1 (runs_snext rfl hI hkk (by omega) fun w7 hO hI2 => ?_);replace E0:=E0.oth hO hib;replace hA:=hA.le hO.le;clear hO hI hnat;have hnat:=hnat2;clear hnat2;have hfit:Fit (natS (l.take (k+1))):=zEF (by simp;omega) (by rw [List.all_eq_true] at hd ⊢;exact fun x hx=>hd x (List.mem_of_mem_take hx));refine xt rfl (rs [3,4,5,9,10,11] K ?_);refine zA (wct rfl (sk (zF (rj fun K=>xt rfl (ag (rm [3,4,5,7,9] K ?_))))));refine rJ fun K=>K1 (zCb (a:=10) (10*p) rfl rfl rfl (by omega) (mv ?_));refine K1 (zJ (v := .int .i32 (((l.getD k 0).toNat-48:Nat):Int)) rfl rfl (congrArg (fun z=>some (Value.int .i32 z)) (by rw [wrap32 (by omega) (by omega)];omega)) ?_);refine K1 (zFB ((l.getD k 0).toNat-48) under21' under164' rfl (by omega) (K1 (zBv (10*p+((l.getD k 0).toNat-48)) rfl rfl rfl (by omega) (mv (K1 (zCb (a:=10) (10*f) rfl rfl rfl (by omega) (ag (ag (rm [3,4,5,9] K ?_)))))))));refine rJ fun K=>K8 rfl (rm [3,4,5,9,22] K ?_);refine K0 rfl ?_ ?_<;>intro hc
   · have h18:10*f=1000000000000000000:=t_beq hc;clear hc;refine rI fun K=>mv (K1 (zH hb105 (CallK.of_ret (zEo (d:=10*f) (by omega)) fun v1 w2 hE N1 => ?_) rfl));replace E0:=E0.trans hE;replace hA:=hA.ext hE;replace hI2:=hE.heap hI2;clear hE;refine K1 (zH hb103 (CallK.of_ret (zEe hA N1 (zLm (by rw [hnat];exact Nat.le_trans (Nat.le_mul_of_pos_right _ (by omega)) (Nat.le_add_right _ _)) hfit) (zFv (by omega))) fun v2 w2 hE N2 => ?_) rfl);replace E0:=E0.trans hE;replace hI2:=hE.heap hI2;clear hE;clear hA N1;refine mv (K1 (zH hb105 (CallK.of_ret (zEo (d:=10*p+((l.getD k 0).toNat-48)) (by omega)) fun v3 w2 hE N3 => ?_) rfl));replace E0:=E0.trans hE;replace N2:=N2.ext hE;replace hI2:=hE.heap hI2;clear hE;refine K1 (zH hb234 (CallK.of_ret (zMT N2 N3 (zLm (by rw [hnat];exact Nat.le_add_right _ _) hfit) (zFv (by omega))) fun v4 w2 hE N4 => ?_) rfl);replace E0:=E0.trans hE;replace hI2:=hE.heap hI2;clear hE;clear N2 N3;refine ag (ag (ag (rl K (zR (zO ?_)))));exact ⟨rfl,k+1,⟨v4,n*(10*f)+(10*p+((l.getD k 0).toNat-48)),0,1,0,(kp rfl),by omega,E0,hI2,N4,by decide,rfl,by decide,by rw [hnat];simp⟩,by omega⟩
   · have h18:10*f≠1000000000000000000:=f_beq hc;have hj17:j≠17:=fun e=>h18 (by rw [hfj,e]);clear hc;exact zp (zR (zO (⟨rfl,k+1,⟨va,n,10*p+((l.getD k 0).toNat-48),10*f,j+1,(kp rfl),by omega,E0,hI2,hA,by omega,by rw [hfj,Nat.pow_succ,Nat.mul_comm],by omega,hnat⟩,by omega⟩)))
 · obtain rfl:k=l.length:=by omega
   rw [List.take_length] at hnat;have hfit:=zEF hl hd;refine K6 fun K=>K1 (runs_snext_end rfl hI (Nat.le_refl _) ?_);clear hI;refine xt rfl (rs [3,4,5,9,10,11] K ?_);refine zA (wcf rfl (zY (zx (zl (zL (zM (rJ fun K=>mv (K1 (j1 E0 hA.ext hb105 (zEo (d:=f) (by omega)) fun v1 w2 E0 hA N1 => ?_)))))))));refine K1 (j0 E0 hb103 (zEe hA N1 (zLm (by rw [hnat];exact Nat.le_trans (Nat.le_mul_of_pos_right _ (by omega)) (Nat.le_add_right _ _)) hfit) (zFv (by omega))) fun v2 w2 E0 N2 => ?_);clear hA N1;refine mv (K1 (j1 E0 N2.ext hb105 (zEo (d:=p) (by omega)) fun v3 w2 E0 N2 N3 => ?_));refine K1 (j0 E0 hb234 (zMT N2 N3 (zLm (by rw [hnat];exact Nat.le_add_right _ _) hfit) (zFv (by omega))) fun v4 w2 E0 N4 => ?_);clear N2 N3;refine ag (rm [2,4,5,9] K ?_);refine zE (zQ ?_);exact ⟨rfl,_,zj rfl rfl,E0,by rw [hnat];exact N4⟩
variable {s:Bool}
theorem zAn {l:List UInt8} (h:zAN l=true):l.all isDig=true:=by
 unfold zAN zAQ at h;simp only [Bool.and_eq_true] at h;exact h.1.2
theorem zGH (c:UInt8):∀ l:List UInt8,(cutAt c l).1.length≤l.length∧(cutAt c l).2.1.length≤l.length
 | []=>⟨Nat.le_refl _,Nat.le_refl _⟩
 | b :: l=>by
  have h:=zGH c l;unfold cutAt;split
  · simp
  · simp;omega
theorem zEb (l:List UInt8):(zP l).length≤l.length:=by
 unfold zP;split<;>simp
theorem zDy {l:List UInt8} (h:zAN l=true) (h0:(l==[48])=false):natS l≠0∧((l==[49])=false→natS l≠1):=by
 have hd:=zAn h;unfold zAN zAQ at h;simp only [Bool.and_eq_true,h0,Bool.false_or] at h;cases l with
 | nil=>exact absurd h.1.1 (by decide)
 | cons b t =>
  have hb:b≠48:=by have:=h.2;simpa using this
  have hbd:isDig b=true:=by simp at hd;exact hd.1
  have hb2:1≤b.toNat-48:=by
   unfold isDig at hbd;simp at hbd;have:b.toNat≠48:=fun e=>hb (UInt8.toNat_inj.1 e);omega
  have key:∀ (t:List UInt8) (n:Nat),n≤t.foldl (fun n b=>10*n+(b.toNat-48)) n∧(t≠[]→1≤n→10≤t.foldl (fun n b=>10*n+(b.toNat-48)) n):=fun t=>by
   induction t with
   | nil=>intro n;exact ⟨Nat.le_refl _,fun h=>absurd rfl h⟩
   | cons c t ih =>
    intro n;have h1:=(ih (10*n+(c.toNat-48))).1;simp only [List.foldl_cons];exact ⟨by omega,fun _ h=>by omega⟩
  have e:natS (b :: t)=t.foldl (fun n b=>10*n+(b.toNat-48)) (b.toNat-48):=by unfold natS;simp
  rw [e];have h1:=key t (b.toNat-48);refine ⟨by omega,fun h49 => ?_⟩;by_cases ht:t=[]
  · subst ht;simp at h49 ⊢;intro e1;have:b.toNat=49:=by omega
    exact h49 (UInt8.toNat_inj.1 this)
  · have:=h1.2 ht hb2;omega
theorem zAj (l:List UInt8):zK l =
 if (!zAN (cutAt 47 (zP l)).1 || ((cutAt 47 (zP l)).1==[48]&&(below l || (cutAt 47 (zP l)).2.2)))=true then (0,6)
 else if ((cutAt 47 (zP l)).2.2&&(!zAN (cutAt 47 (zP l)).2.1 || (cutAt 47 (zP l)).2.1==[48] || (cutAt 47 (zP l)).2.1==[49]))=true then (0,6)
 else if 1000<(cutAt 47 (zP l)).1.length∨1000<(cutAt 47 (zP l)).2.1.length then (0,3)
 else if (!(cutAt 47 (zP l)).2.2)=true then (qOf (below l) (natS (cutAt 47 (zP l)).1) 1,0)
 else if Nat.gcd (natS (cutAt 47 (zP l)).1) (natS (cutAt 47 (zP l)).2.1)≠1 then (0,6) else (qOf (below l) (natS (cutAt 47 (zP l)).1) (natS (cutAt 47 (zP l)).2.1),0):=rfl
theorem numOf_ratio {n d:Value} (hn:IsW w n a) (hd:IsW w d b) (ha:a≠0) (hb:b≠0) (hb1:b≠1) (hg:Nat.gcd a b=1):IsNum w (.agg #[.bool s,n,d]) (qOf s a b):=by
 have h1:=zGa (s:=s) (a:=a) hb;have h2:=zHz (s:=s) (a:=a) hb;have h3:=zKq (s:=s) ha hb;rw [hg,Nat.div_one] at h1 h2;refine ⟨n,d,by rw [h3],by rw [h1];exact hn,by rw [h2,if_neg hb1];exact hd⟩
theorem Parse_ok {l:List UInt8} (hlen:l.length<1000000000):Ret prog 65 #[S l] w (fun r w'=>∃ u,r = .tuple #[u,.int .i64 (zK l).2]∧IsNum w' u (zK l).1):=by
 refine J0 85 func65 rfl (rj fun K => ?_);refine K1 (zV zAY fun b1 w1 hb hE hB1 hs => ?_);have hgb1:w.heap.size≤b1:=by rw [hb];exact E0.size
 replace E0:=E0.trans hE;clear hE hs hb;refine ag (rm [0,2] K ?_);refine zA ?_;have hul:=zEb l;have hcl:=zGH 47 (zP l);refine rI fun K=>K1 (j1 E0 hB1.ext hb151 (cutPrefix_ok) fun vi w2 E0 hB1 hr => ?_);subst hr;refine mv (xt rfl (xt rfl (ag (ag (rs [2,4,5] K ?_)))));refine rJ fun K=>K1 (j1 E0 hB1.ext hb152 (Cut_ok (by omega)) fun vi w2 E0 hB1 hr => ?_);subst hr;refine mv (xt rfl (xt rfl (xt rfl (ag (ag (ag (rm [2,5,6,7,8] K ?_)))))));refine zA (zF (zA ?_));rcases (show zAN (cutAt 47 (zP l)).1=false∨(zAN (cutAt 47 (zP l)).1=true∧((cutAt 47 (zP l)).1==[48])=false)∨(zAN (cutAt 47 (zP l)).1=true∧((cutAt 47 (zP l)).1==[48])=true∧below l=true)∨(zAN (cutAt 47 (zP l)).1=true∧((cutAt 47 (zP l)).1==[48])=true∧below l=false∧(cutAt 47 (zP l)).2.2=true)∨(zAN (cutAt 47 (zP l)).1=true∧((cutAt 47 (zP l)).1==[48])=true∧below l=false∧(cutAt 47 (zP l)).2.2=false) from by cases zAN (cutAt 47 (zP l)).1<;>cases ((cutAt 47 (zP l)).1==[48])<;>cases below l<;>cases (cutAt 47 (zP l)).2.2<;>simp) with hp | ⟨hp,hz⟩ | ⟨hp,hz,hbl⟩ | ⟨hp,hz,hbl,ht⟩ | ⟨hp,hz,hbl,ht⟩
 · have hA:(!zAN (cutAt 47 (zP l)).1 || ((cutAt 47 (zP l)).1==[48]&&(below l || (cutAt 47 (zP l)).2.2)))=true:=by rw [hp];simp
   have he:zK l=(0,6):=by rw [zAj,hA,if_pos rfl]
   refine rI fun K=>K1 (j1 E0 hB1.ext hb153 (zDG (by omega)) fun vi w2 E0 hB1 hr => ?_);subst hr;rw [hp];refine K1 (zq rfl (mv (K3 (K3 (K3 (K3 (K3 (K3 (K3 (K3 (pk rfl (ag (rs [2,5,6,7,8,22] K ?_)))))))))))));refine wct rfl (rj fun K=>K1 (zT (cs := #[.bool false,.slice none 0 0,.slice none 0 0]) (by kernel_rfl) (K1 (zN rfl IsNum.zero (Cell3.of hB1 rfl) fun _ w9 hU hN4 => ?_))));replace E0:=E0.upd hU hgb1;obtain ⟨cs4,hB4,hl4,hN4⟩:=hN4;refine ag (rm [2,3] K ?_);refine zE (zZ (zU (zQ ?_)));exact ⟨rfl,_,zW rfl rfl rfl rfl zy hB4 hl4,E0,_,by rw [he];rfl,by rw [he];exact hN4⟩
 · have hA:(!zAN (cutAt 47 (zP l)).1 || ((cutAt 47 (zP l)).1==[48]&&(below l || (cutAt 47 (zP l)).2.2)))=false:=by rw [hp,hz];simp
   refine rI fun K=>K1 (j1 E0 hB1.ext hb153 (zDG (by omega)) fun vi w2 E0 hB1 hr => ?_);subst hr;rw [hp];refine K1 (zq rfl (mv (K7 (K2 (zAR rfl rfl ?_)))));rw [hz];refine K7 (K3 (K3 (K3 (K3 (K2 (zu rfl (pk rfl (ag (rs [2,5,6,7,8,22] K ?_)))))))));refine wcf rfl (zA ?_);rcases (show (cutAt 47 (zP l)).2.2=false∨((cutAt 47 (zP l)).2.2=true∧zAN (cutAt 47 (zP l)).2.1=false)∨((cutAt 47 (zP l)).2.2=true∧zAN (cutAt 47 (zP l)).2.1=true∧((cutAt 47 (zP l)).2.1==[48])=true)∨((cutAt 47 (zP l)).2.2=true∧zAN (cutAt 47 (zP l)).2.1=true∧((cutAt 47 (zP l)).2.1==[48])=false∧((cutAt 47 (zP l)).2.1==[49])=true)∨((cutAt 47 (zP l)).2.2=true∧zAN (cutAt 47 (zP l)).2.1=true∧((cutAt 47 (zP l)).2.1==[48])=false∧((cutAt 47 (zP l)).2.1==[49])=false) from by cases (cutAt 47 (zP l)).2.2<;>cases zAN (cutAt 47 (zP l)).2.1<;>cases ((cutAt 47 (zP l)).2.1==[48])<;>cases ((cutAt 47 (zP l)).2.1==[49])<;>simp) with h2 | ⟨h2,hq⟩ | ⟨h2,hq,h48⟩ | ⟨h2,hq,h48,h49⟩ | ⟨h2,hq,h48,h49⟩
   · have hBf:((cutAt 47 (zP l)).2.2&&(!zAN (cutAt 47 (zP l)).2.1 || (cutAt 47 (zP l)).2.1==[48] || (cutAt 47 (zP l)).2.1==[49]))=false:=by rw [h2];rfl
     refine K6 fun K=>mv ?_
     try rw [h2]
     refine mv (K3 (K3 (K3 (K3 (K3 (K3 (K3 (K3 (K3 (K3 (K3 (pk rfl (ag (rl K ?_))))))))))))));refine zM (K5 [2,5,6,7,8,37] ?_);refine wcf rfl (zA ?_);rcases (show 1000<(cutAt 47 (zP l)).1.length∨(¬ 1000<(cutAt 47 (zP l)).1.length∧1000<(cutAt 47 (zP l)).2.1.length)∨(¬ 1000<(cutAt 47 (zP l)).1.length∧¬ 1000<(cutAt 47 (zP l)).2.1.length) from by omega) with k1 | ⟨k1,k2⟩ | ⟨k1,k2⟩
     · have he:zK l=(0,3):=by rw [zAj,hA,if_neg (by decide),hBf,if_neg (by decide),if_pos (.inl k1)]
       refine rI fun K=>K1 (zz zAD rfl (K9 true rfl (decide_eq_true (by omega)) (mv (K3 (K3 (K3 (pk rfl (ag (rs [2,5,6,7,8,53] K ?_)))))))));refine wct rfl (rj fun K=>K1 (zT (cs := #[.bool false,.slice none 0 0,.slice none 0 0]) (by kernel_rfl) (K1 (zN rfl IsNum.zero (Cell3.of hB1 rfl) fun _ w9 hU hN4 => ?_))));replace E0:=E0.upd hU hgb1;obtain ⟨cs4,hB4,hl4,hN4⟩:=hN4;refine ag (rm [2,3] K ?_);refine zE (zZ (zU (zQ ?_)));exact ⟨rfl,_,zW rfl rfl rfl rfl zy hB4 hl4,E0,_,by rw [he];rfl,by rw [he];exact hN4⟩
     · have he:zK l=(0,3):=by rw [zAj,hA,if_neg (by decide),hBf,if_neg (by decide),if_pos (.inr k2)]
       refine rI fun K=>K1 (zz zAD rfl (K9 false rfl (decide_eq_false (by omega)) (mv (K7 (K2 (zz zAD rfl (K2 (zJ (v := .bool true) rfl rfl (congrArg (fun z=>some (Value.bool z)) (decide_eq_true (by omega))) (pk rfl (ag (rs [2,5,6,7,8,53] K ?_)))))))))));refine wct rfl (rj fun K=>K1 (zT (cs := #[.bool false,.slice none 0 0,.slice none 0 0]) (by kernel_rfl) (K1 (zN rfl IsNum.zero (Cell3.of hB1 rfl) fun _ w9 hU hN4 => ?_))));replace E0:=E0.upd hU hgb1;obtain ⟨cs4,hB4,hl4,hN4⟩:=hN4;refine ag (rm [2,3] K ?_);refine zE (zZ (zU (zQ ?_)));exact ⟨rfl,_,zW rfl rfl rfl rfl zy hB4 hl4,E0,_,by rw [he];rfl,by rw [he];exact hN4⟩
     · have hlen7:¬ (1000<(cutAt 47 (zP l)).1.length∨1000<(cutAt 47 (zP l)).2.1.length):=by omega
       have he:zK l=(qOf (below l) (natS (cutAt 47 (zP l)).1) 1,0):=by rw [zAj,hA,if_neg (by decide),hBf,if_neg (by decide),if_neg hlen7,h2];rfl
       refine rI fun K=>K1 (zz zAD rfl (K9 false rfl (decide_eq_false (by omega)) (mv (K7 (K2 (zz zAD rfl (K2 (zJ (v := .bool false) rfl rfl (congrArg (fun z=>some (Value.bool z)) (decide_eq_false (by omega))) (pk rfl (ag (rs [2,5,6,7,8,53] K ?_)))))))))));refine wcf rfl (rj fun K=>mv ?_)
       try rw [h2]
       refine K1 (zq rfl (ag (rm [2,5,6,7,63] K ?_)));refine wct rfl (rJ fun K=>mv (K1 (j1 E0 hB1.ext hb154 (zGt (by omega) (zAn hp)) fun v68 w2 E0 hB1 N68=>K1 (j2 E0 hB1.ext N68.ext hb106 (zFz _) fun v69 w2 E0 hB1 N68 N69=>K1 (j1 E0 hB1.ext hb102 (zBZ N68 N69 (by decide) (zEF (by omega) (zAn hp)) zJS) fun v70 w2 E0 hB1 N70=>K1 (zN rfl N70 (Cell3.of hB1 rfl) fun _ w9 hU hN4 => ?_))))));replace E0:=E0.upd hU hgb1;obtain ⟨cs4,hB4,hl4,hN4⟩:=hN4;refine ag (rm [2,3] K ?_);refine zE (zZ (zU (zQ ?_)));exact ⟨rfl,_,zW rfl rfl rfl rfl zy hB4 hl4,E0,_,by rw [he];rfl,by rw [he];exact hN4⟩
   · have he:zK l=(0,6):=by rw [zAj,hA,if_neg (by decide),if_pos (by rw [h2];simp [hq])]
     refine K6 fun K=>mv ?_
     try rw [h2]
     refine mv (K7 (K2 (j1 E0 hB1.ext hb153 (zDG (by omega)) fun vi w2 E0 hB1 hr => ?_)));subst hr;rw [hq];refine K2 (zq rfl (K7 (K3 (K3 (K2 (zu rfl (K7 (K3 (K3 (K2 (zu rfl (pk rfl (ag (rs [2,5,6,7,8,37] K ?_))))))))))))));refine wct rfl (rj fun K=>K1 (zT (cs := #[.bool false,.slice none 0 0,.slice none 0 0]) (by kernel_rfl) (K1 (zN rfl IsNum.zero (Cell3.of hB1 rfl) fun _ w9 hU hN4 => ?_))));replace E0:=E0.upd hU hgb1;obtain ⟨cs4,hB4,hl4,hN4⟩:=hN4;refine ag (rm [2,3] K ?_);refine zE (zZ (zU (zQ ?_)));exact ⟨rfl,_,zW rfl rfl rfl rfl zy hB4 hl4,E0,_,by rw [he];rfl,by rw [he];exact hN4⟩
   · have he:zK l=(0,6):=by rw [zAj,hA,if_neg (by decide),if_pos (by rw [h2];simp [hq,h48])]
     refine K6 fun K=>mv ?_
     try rw [h2]
     refine mv (K7 (K2 (j1 E0 hB1.ext hb153 (zDG (by omega)) fun vi w2 E0 hB1 hr => ?_)));subst hr;rw [hq];refine K2 (zq rfl (K7 (K7 (K2 (zAR rfl rfl ?_)))));rw [h48];refine K2 (zu rfl (K7 (K3 (K3 (K2 (zu rfl (pk rfl (ag (rs [2,5,6,7,8,37] K ?_)))))))));refine wct rfl (rj fun K=>K1 (zT (cs := #[.bool false,.slice none 0 0,.slice none 0 0]) (by kernel_rfl) (K1 (zN rfl IsNum.zero (Cell3.of hB1 rfl) fun _ w9 hU hN4 => ?_))));replace E0:=E0.upd hU hgb1;obtain ⟨cs4,hB4,hl4,hN4⟩:=hN4;refine ag (rm [2,3] K ?_);refine zE (zZ (zU (zQ ?_)));exact ⟨rfl,_,zW rfl rfl rfl rfl zy hB4 hl4,E0,_,by rw [he];rfl,by rw [he];exact hN4⟩
   · have he:zK l=(0,6):=by rw [zAj,hA,if_neg (by decide),if_pos (by rw [h2];simp [hq,h48,h49])]
     refine K6 fun K=>mv ?_
     try rw [h2]
     refine mv (K7 (K2 (j1 E0 hB1.ext hb153 (zDG (by omega)) fun vi w2 E0 hB1 hr => ?_)));subst hr;rw [hq];refine K2 (zq rfl (K7 (K7 (K2 (zAR rfl rfl ?_)))));rw [h48];refine K2 (zu rfl (K7 (K7 (K2 (zAR rfl rfl ?_)))));rw [h49];refine K2 (zu rfl (pk rfl (ag (rs [2,5,6,7,8,37] K ?_))));refine wct rfl (rj fun K=>K1 (zT (cs := #[.bool false,.slice none 0 0,.slice none 0 0]) (by kernel_rfl) (K1 (zN rfl IsNum.zero (Cell3.of hB1 rfl) fun _ w9 hU hN4 => ?_))));replace E0:=E0.upd hU hgb1;obtain ⟨cs4,hB4,hl4,hN4⟩:=hN4;refine ag (rm [2,3] K ?_);refine zE (zZ (zU (zQ ?_)));exact ⟨rfl,_,zW rfl rfl rfl rfl zy hB4 hl4,E0,_,by rw [he];rfl,by rw [he];exact hN4⟩
   · have hBf:((cutAt 47 (zP l)).2.2&&(!zAN (cutAt 47 (zP l)).2.1 || (cutAt 47 (zP l)).2.1==[48] || (cutAt 47 (zP l)).2.1==[49]))=false:=by rw [h2,hq,h48,h49];rfl
     have hn0:natS (cutAt 47 (zP l)).1≠0:=(zDy hp (by cases hz:((cutAt 47 (zP l)).1==[48])<;>simp_all)).1;refine K6 fun K=>mv ?_
     try rw [h2]
     refine mv (K7 (K2 (j1 E0 hB1.ext hb153 (zDG (by omega)) fun vi w2 E0 hB1 hr => ?_)));subst hr;rw [hq];refine K2 (zq rfl (K7 (K7 (K2 (zAR rfl rfl ?_)))));rw [h48];refine K2 (zu rfl (K7 (K7 (K2 (zAR rfl rfl ?_)))));rw [h49];refine K2 (zu rfl (pk rfl (ag (rs [2,5,6,7,8,37] K ?_))));refine wcf rfl (zA ?_);rcases (show 1000<(cutAt 47 (zP l)).1.length∨(¬ 1000<(cutAt 47 (zP l)).1.length∧1000<(cutAt 47 (zP l)).2.1.length)∨(¬ 1000<(cutAt 47 (zP l)).1.length∧¬ 1000<(cutAt 47 (zP l)).2.1.length) from by omega) with k1 | ⟨k1,k2⟩ | ⟨k1,k2⟩
     · have he:zK l=(0,3):=by rw [zAj,hA,if_neg (by decide),hBf,if_neg (by decide),if_pos (.inl k1)]
       refine rI fun K=>K1 (zz zAD rfl (K9 true rfl (decide_eq_true (by omega)) (mv (K3 (K3 (K3 (pk rfl (ag (rs [2,5,6,7,8,53] K ?_)))))))));refine wct rfl (rj fun K=>K1 (zT (cs := #[.bool false,.slice none 0 0,.slice none 0 0]) (by kernel_rfl) (K1 (zN rfl IsNum.zero (Cell3.of hB1 rfl) fun _ w9 hU hN4 => ?_))));replace E0:=E0.upd hU hgb1;obtain ⟨cs4,hB4,hl4,hN4⟩:=hN4;refine ag (rm [2,3] K ?_);refine zE (zZ (zU (zQ ?_)));exact ⟨rfl,_,zW rfl rfl rfl rfl zy hB4 hl4,E0,_,by rw [he];rfl,by rw [he];exact hN4⟩
     · have he:zK l=(0,3):=by rw [zAj,hA,if_neg (by decide),hBf,if_neg (by decide),if_pos (.inr k2)]
       refine rI fun K=>K1 (zz zAD rfl (K9 false rfl (decide_eq_false (by omega)) (mv (K7 (K2 (zz zAD rfl (K2 (zJ (v := .bool true) rfl rfl (congrArg (fun z=>some (Value.bool z)) (decide_eq_true (by omega))) (pk rfl (ag (rs [2,5,6,7,8,53] K ?_)))))))))));refine wct rfl (rj fun K=>K1 (zT (cs := #[.bool false,.slice none 0 0,.slice none 0 0]) (by kernel_rfl) (K1 (zN rfl IsNum.zero (Cell3.of hB1 rfl) fun _ w9 hU hN4 => ?_))));replace E0:=E0.upd hU hgb1;obtain ⟨cs4,hB4,hl4,hN4⟩:=hN4;refine ag (rm [2,3] K ?_);refine zE (zZ (zU (zQ ?_)));exact ⟨rfl,_,zW rfl rfl rfl rfl zy hB4 hl4,E0,_,by rw [he];rfl,by rw [he];exact hN4⟩
     · have hlen7:¬ (1000<(cutAt 47 (zP l)).1.length∨1000<(cutAt 47 (zP l)).2.1.length):=by omega
       refine rI fun K=>K1 (zz zAD rfl (K9 false rfl (decide_eq_false (by omega)) (mv (K7 (K2 (zz zAD rfl (K2 (zJ (v := .bool false) rfl rfl (congrArg (fun z=>some (Value.bool z)) (decide_eq_false (by omega))) (pk rfl (ag (rs [2,5,6,7,8,53] K ?_)))))))))));refine wcf rfl (rj fun K=>mv ?_)
       try rw [h2]
       refine K1 (zq rfl (ag (rm [2,5,6,7,63] K ?_)));refine wcf rfl (zp (zR (zM (rJ fun K=>K1 (j1 E0 hB1.ext hb154 (zGt (by omega) (zAn hp)) fun v72 w2 E0 hB1 N72=>mv (K1 (j2 E0 hB1.ext N72.ext hb154 (zGt (by omega) (zAn hq)) fun v74 w2 E0 hB1 N72 N74=>ag (ag (rm [2,5,9,10] K ?_)))))))));refine zA (rJ fun K=>mv (K1 (j3 E0 hB1.ext N72.ext N74.ext hb155 (zDu N72 N74 (zEF (by omega) (zAn hp)) (zEF (by omega) (zAn hq))) fun v77 w2 E0 hB1 N72 N74 N77=>K1 (j3 E0 hB1.ext N72.ext N74.ext hb156 (zBc N77) fun vi w2 E0 hB1 N72 N74 hr => ?_))));subst hr;refine K1 (zq rfl (rm [2,5,9,10,79] K ?_));refine K0 rfl ?_ ?_<;>intro hc
       · have hg:Nat.gcd (natS (cutAt 47 (zP l)).1) (natS (cutAt 47 (zP l)).2.1)≠1:=by simpa using hc
         clear hc;have he:zK l=(0,6):=by rw [zAj,hA,if_neg (by decide),hBf,if_neg (by decide),if_neg hlen7,h2,if_neg (by decide),if_pos hg]
         refine rj fun K=>K1 (zT (cs := #[.bool false,.slice none 0 0,.slice none 0 0]) (by kernel_rfl) (K1 (zN rfl IsNum.zero (Cell3.of hB1 rfl) fun _ w9 hU hN4 => ?_)));replace E0:=E0.upd hU hgb1;obtain ⟨cs4,hB4,hl4,hN4⟩:=hN4;refine ag (rm [2,3] K ?_);refine zE (zU (zQ ?_));exact ⟨rfl,_,zW rfl rfl rfl rfl zy hB4 hl4,E0,_,by rw [he];rfl,by rw [he];exact hN4⟩
       · have hg:Nat.gcd (natS (cutAt 47 (zP l)).1) (natS (cutAt 47 (zP l)).2.1)=1:=by simpa using hc
         clear hc;have he:zK l=(qOf (below l) (natS (cutAt 47 (zP l)).1) (natS (cutAt 47 (zP l)).2.1),0):=by rw [zAj,hA,if_neg (by decide),hBf,if_neg (by decide),if_neg hlen7,h2,if_neg (by decide),if_neg (fun h=>h hg)]
         refine sk (rJ fun K=>mv (mv ?_));have M:=numOf_ratio (s:=below l) N72 N74 hn0 (zDy hq h48).1 ((zDy hq h48).2 h49) hg;obtain ⟨p1,ds1,k1,rfl,-⟩:=N72;obtain ⟨p2,ds2,k2,rfl,-⟩:=N74;refine K1 (zT (cs := #[.bool (below l),.slice p1 ds1.length k1,.slice p2 ds2.length k2]) (by kernel_rfl) (K1 (zN rfl M (Cell3.of hB1 rfl) fun _ w9 hU hN4 => ?_)));replace E0:=E0.upd hU hgb1;obtain ⟨cs4,hB4,hl4,hN4⟩:=hN4;refine ag (rm [2,3] K ?_);refine zE (zQ ?_);exact ⟨rfl,_,zW rfl rfl rfl rfl zy hB4 hl4,E0,_,by rw [he];rfl,by rw [he];exact hN4⟩
 · have hA:(!zAN (cutAt 47 (zP l)).1 || ((cutAt 47 (zP l)).1==[48]&&(below l || (cutAt 47 (zP l)).2.2)))=true:=by rw [hp,hz,hbl];simp
   have he:zK l=(0,6):=by rw [zAj,hA,if_pos rfl]
   refine rI fun K=>K1 (j1 E0 hB1.ext hb153 (zDG (by omega)) fun vi w2 E0 hB1 hr => ?_);subst hr;rw [hp];refine K1 (zq rfl (mv (K7 (K2 (zAR rfl rfl ?_)))));rw [hz];refine K7 (K7 ?_);rw [hbl];refine K7 (K3 (K2 (zu rfl (K2 (zu rfl (pk rfl (ag (rs [2,5,6,7,8,22] K ?_))))))));refine wct rfl (rj fun K=>K1 (zT (cs := #[.bool false,.slice none 0 0,.slice none 0 0]) (by kernel_rfl) (K1 (zN rfl IsNum.zero (Cell3.of hB1 rfl) fun _ w9 hU hN4 => ?_))));replace E0:=E0.upd hU hgb1;obtain ⟨cs4,hB4,hl4,hN4⟩:=hN4;refine ag (rm [2,3] K ?_);refine zE (zZ (zU (zQ ?_)));exact ⟨rfl,_,zW rfl rfl rfl rfl zy hB4 hl4,E0,_,by rw [he];rfl,by rw [he];exact hN4⟩
 · have hA:(!zAN (cutAt 47 (zP l)).1 || ((cutAt 47 (zP l)).1==[48]&&(below l || (cutAt 47 (zP l)).2.2)))=true:=by rw [hp,hz,hbl,ht];simp
   have he:zK l=(0,6):=by rw [zAj,hA,if_pos rfl]
   refine rI fun K=>K1 (j1 E0 hB1.ext hb153 (zDG (by omega)) fun vi w2 E0 hB1 hr => ?_);subst hr;rw [hp];refine K1 (zq rfl (mv (K7 (K2 (zAR rfl rfl ?_)))));rw [hz];refine K7 (K7 ?_);rw [hbl];refine K7 (K7 ?_);rw [ht];refine K2 (zu rfl (K2 (zu rfl (pk rfl (ag (rs [2,5,6,7,8,22] K ?_))))));refine wct rfl (rj fun K=>K1 (zT (cs := #[.bool false,.slice none 0 0,.slice none 0 0]) (by kernel_rfl) (K1 (zN rfl IsNum.zero (Cell3.of hB1 rfl) fun _ w9 hU hN4 => ?_))));replace E0:=E0.upd hU hgb1;obtain ⟨cs4,hB4,hl4,hN4⟩:=hN4;refine ag (rm [2,3] K ?_);refine zE (zZ (zU (zQ ?_)));exact ⟨rfl,_,zW rfl rfl rfl rfl zy hB4 hl4,E0,_,by rw [he];rfl,by rw [he];exact hN4⟩
 · have hA:(!zAN (cutAt 47 (zP l)).1 || ((cutAt 47 (zP l)).1==[48]&&(below l || (cutAt 47 (zP l)).2.2)))=false:=by rw [hp,hz,hbl,ht];simp
   refine rI fun K=>K1 (j1 E0 hB1.ext hb153 (zDG (by omega)) fun vi w2 E0 hB1 hr => ?_);subst hr;rw [hp];refine K1 (zq rfl (mv (K7 (K2 (zAR rfl rfl ?_)))));rw [hz];refine K7 (K7 ?_);rw [hbl];refine K7 (K7 ?_);rw [ht];refine K2 (zu rfl (K2 (zu rfl (pk rfl (ag (rs [2,5,6,7,8,22] K ?_))))));refine wcf rfl (zA ?_);have h2:=ht
   · have hBf:((cutAt 47 (zP l)).2.2&&(!zAN (cutAt 47 (zP l)).2.1 || (cutAt 47 (zP l)).2.1==[48] || (cutAt 47 (zP l)).2.1==[49]))=false:=by rw [h2];rfl
     refine K6 fun K=>mv ?_
     try rw [h2]
     refine mv (K3 (K3 (K3 (K3 (K3 (K3 (K3 (K3 (K3 (K3 (K3 (pk rfl (ag (rl K ?_))))))))))))));refine zM (K5 [2,5,6,7,8,37] ?_);refine wcf rfl (zA ?_);rcases (show 1000<(cutAt 47 (zP l)).1.length∨(¬ 1000<(cutAt 47 (zP l)).1.length∧1000<(cutAt 47 (zP l)).2.1.length)∨(¬ 1000<(cutAt 47 (zP l)).1.length∧¬ 1000<(cutAt 47 (zP l)).2.1.length) from by omega) with k1 | ⟨k1,k2⟩ | ⟨k1,k2⟩
     · have he:zK l=(0,3):=by rw [zAj,hA,if_neg (by decide),hBf,if_neg (by decide),if_pos (.inl k1)]
       refine rI fun K=>K1 (zz zAD rfl (K9 true rfl (decide_eq_true (by omega)) (mv (K3 (K3 (K3 (pk rfl (ag (rs [2,5,6,7,8,53] K ?_)))))))));refine wct rfl (rj fun K=>K1 (zT (cs := #[.bool false,.slice none 0 0,.slice none 0 0]) (by kernel_rfl) (K1 (zN rfl IsNum.zero (Cell3.of hB1 rfl) fun _ w9 hU hN4 => ?_))));replace E0:=E0.upd hU hgb1;obtain ⟨cs4,hB4,hl4,hN4⟩:=hN4;refine ag (rm [2,3] K ?_);refine zE (zZ (zU (zQ ?_)));exact ⟨rfl,_,zW rfl rfl rfl rfl zy hB4 hl4,E0,_,by rw [he];rfl,by rw [he];exact hN4⟩
     · have he:zK l=(0,3):=by rw [zAj,hA,if_neg (by decide),hBf,if_neg (by decide),if_pos (.inr k2)]
       refine rI fun K=>K1 (zz zAD rfl (K9 false rfl (decide_eq_false (by omega)) (mv (K7 (K2 (zz zAD rfl (K2 (zJ (v := .bool true) rfl rfl (congrArg (fun z=>some (Value.bool z)) (decide_eq_true (by omega))) (pk rfl (ag (rs [2,5,6,7,8,53] K ?_)))))))))));refine wct rfl (rj fun K=>K1 (zT (cs := #[.bool false,.slice none 0 0,.slice none 0 0]) (by kernel_rfl) (K1 (zN rfl IsNum.zero (Cell3.of hB1 rfl) fun _ w9 hU hN4 => ?_))));replace E0:=E0.upd hU hgb1;obtain ⟨cs4,hB4,hl4,hN4⟩:=hN4;refine ag (rm [2,3] K ?_);refine zE (zZ (zU (zQ ?_)));exact ⟨rfl,_,zW rfl rfl rfl rfl zy hB4 hl4,E0,_,by rw [he];rfl,by rw [he];exact hN4⟩
     · have hlen7:¬ (1000<(cutAt 47 (zP l)).1.length∨1000<(cutAt 47 (zP l)).2.1.length):=by omega
       have he:zK l=(qOf (below l) (natS (cutAt 47 (zP l)).1) 1,0):=by rw [zAj,hA,if_neg (by decide),hBf,if_neg (by decide),if_neg hlen7,h2];rfl
       refine rI fun K=>K1 (zz zAD rfl (K9 false rfl (decide_eq_false (by omega)) (mv (K7 (K2 (zz zAD rfl (K2 (zJ (v := .bool false) rfl rfl (congrArg (fun z=>some (Value.bool z)) (decide_eq_false (by omega))) (pk rfl (ag (rs [2,5,6,7,8,53] K ?_)))))))))));refine wcf rfl (rj fun K=>mv ?_)
       try rw [h2]
       refine K1 (zq rfl (ag (rm [2,5,6,7,63] K ?_)));refine wct rfl (rJ fun K=>mv (K1 (j1 E0 hB1.ext hb154 (zGt (by omega) (zAn hp)) fun v68 w2 E0 hB1 N68=>K1 (j2 E0 hB1.ext N68.ext hb106 (zFz _) fun v69 w2 E0 hB1 N68 N69=>K1 (j1 E0 hB1.ext hb102 (zBZ N68 N69 (by decide) (zEF (by omega) (zAn hp)) zJS) fun v70 w2 E0 hB1 N70=>K1 (zN rfl N70 (Cell3.of hB1 rfl) fun _ w9 hU hN4 => ?_))))));replace E0:=E0.upd hU hgb1;obtain ⟨cs4,hB4,hl4,hN4⟩:=hN4;refine ag (rm [2,3] K ?_);refine zE (zZ (zU (zQ ?_)));exact ⟨rfl,_,zW rfl rfl rfl rfl zy hB4 hl4,E0,_,by rw [he,hbl];rfl,by rw [he,hbl];exact hN4⟩
end Go.Proofs.YtjiendlfobjanaaGreatDoor
namespace Go.Proofs.YtjiendlfobjanaaGreatDoor
open Go Go.RowKit Go.Proofs Tryz
variable {T ty:TypeId} {af:Array Edge} {b b2 c i k m n o:Nat} {cs:List Value} {g:Option (Nat×Bool)} {l:List Rat} {pos:String} {q:Rat} {r:Option Nat} {v:Value} {w w' w0:World} {x y:Operand} {σ:Operand→Value}
structure BandT where
 lo:List UInt8
 hi:List UInt8
 least:List UInt8
 most:List UInt8
def zIw (a b c d:Rat):Option Bool:=if a<0 then some true else (rcmp a b).bind fun z=>if 0<z then some true else if c<0 then some true else (rcmp c d).map fun y=>decide (0<y)
def zFR:List BandT→List Band→Option (List Band×Int)
 | [],acc=>some (acc,0)
 | t :: l,acc =>
  if (zK t.lo).2≠0 then some ([],(zK t.lo).2) else if (zK t.hi).2≠0 then some ([],(zK t.hi).2) else
  if (zK t.least).2≠0 then some ([],(zK t.least).2) else if (zK t.most).2≠0 then some ([],(zK t.most).2) else
  (zIw (zK t.lo).1 (zK t.hi).1 (zK t.least).1 (zK t.most).1).bind fun bad=>if bad=true then some ([],7) else
   zFR l (acc++[⟨(zK t.lo).1,(zK t.hi).1,(zK t.least).1,(zK t.most).1⟩])
def zHl (m:List BandT):Option (List Band×Int):=if m.length=0∨6<m.length then some ([],7) else zFR m []
def chunk (n:Nat) (cs:List Value) (i:Nat):List Value:=(cs.drop (n*i)).take n
theorem zEq {vs:List Value} (hv:vs.length=n) (hm:n*m+n≤cs.length):chunk n (zBI cs (n*m) vs) i=if i=m then vs else chunk n cs i:=by
 rw [zHO _ _ _ (by omega)];unfold chunk;have h1:(cs.take (n*m)).length=n*m:=by simp;omega
 by_cases e:i=m
 · subst e;rw [if_pos rfl,List.drop_append_of_le_length (by omega),List.drop_of_length_le (by omega),List.nil_append,List.take_append_of_le_length (by omega),List.take_of_length_le (by omega)]
 · rw [if_neg e];rcases Nat.lt_or_gt_of_ne e with h | h
   · have h2:n*i+n≤n*m:=by have:=Nat.mul_le_mul_left n (show i+1≤m from h);rw [Nat.mul_add] at this;omega
     rw [List.drop_append_of_le_length (by omega),List.take_append_of_le_length (by simp;omega),List.drop_take,List.take_take,Nat.min_eq_left (by omega)]
   · have h2:n*m+n≤n*i:=by have:=Nat.mul_le_mul_left n (show m+1≤i from h);rw [Nat.mul_add] at this;omega
     obtain ⟨k,hk⟩:∃ k,n*i=n*m+n+k:=⟨n*i-(n*m+n),by omega⟩;rw [hk,show n*m+n+k=n*m+(n+k) by omega,List.drop_append,h1,List.drop_of_length_le (l:=cs.take (n*m)) (by omega),List.nil_append,show n*m+(n+k)-n*m=n+k by omega,List.drop_append,hv,List.drop_of_length_le (l:=vs) (by omega),List.nil_append,show n+k-n=k by omega,List.drop_drop,show n*m+n+k=n*m+(n+k) by omega]
theorem chunk_app {a b:List Value} (h:n*i+n≤a.length):chunk n (a++b) i=chunk n a i:=by
 unfold chunk;rw [List.drop_append_of_le_length (by omega),List.take_append_of_le_length (by simp;omega)]
theorem chunk_take {a:List Value} (h:n*i+n≤m) (hm:m≤a.length):chunk n (a.take m) i=chunk n a i:=by
 unfold chunk;rw [List.drop_take,List.take_take,Nat.min_eq_left (by omega)]
def zJb (w:World) (cs:List Value) (o:Nat) (A:List Band):Prop:=∀ i B,A[i]? = some B→BandC w (chunk 12 (cs.drop o) i) B
def AccBd (sz:Nat) (w:World) (v:Value) (A:List Band):Prop :=
 ∃ p c,v = .slice p A.length c∧A.length≤c∧((A=[]∧p=none∧c=0)∨∃ b cs,p=some ⟨b,0,none⟩∧sz≤b∧Blk w b 144 cs∧cs.length=12*c∧zJb w cs 0 A)
theorem AccBd.nil {sz:Nat}:AccBd sz w (.slice none 0 0) []:=⟨none,0,rfl,Nat.le_refl _,.inl ⟨rfl,rfl,rfl⟩⟩
theorem AccBd.ext {sz:Nat} {A:List Band} (h:AccBd sz w v A) (hx:Ext w w'):AccBd sz w' v A:=by
 obtain ⟨p,c,h1,h2,h3⟩:=h;refine ⟨p,c,h1,h2,?_⟩;rcases h3 with h3 | ⟨b,cs,e1,e2,e3,e4,e5⟩
 · exact .inl h3
 · exact .inr ⟨b,cs,e1,e2,e3.ext hx,e4,fun i B hB=>(e5 i B hB).ext hx⟩
theorem AccBd.upd {sz:Nat} {A:List Band} (h:AccBd sz w v A) (hu:Upd b w w') (hb:Blk w b T cs) (h2:T≠164) (h3:T≠144):AccBd sz w' v A:=by
 obtain ⟨p,c,g1,g2,g3⟩:=h;refine ⟨p,c,g1,g2,?_⟩;rcases g3 with g3 | ⟨b',cs',e1,e2,e3,e4,e5⟩
 · exact .inl g3
 · exact .inr ⟨b',cs',e1,e2,e3.upd hu (e3.neT hb (Ne.symm h3)),e4,fun i B hB=>(e5 i B hB).updT hu hb h2⟩
def zGX (w:World) (v:Value) (A:List Band):Prop:=∃ p c,v = .slice p A.length c∧(A=[]∨∃ b cs,p=some ⟨b,0,none⟩∧Blk w b 144 cs∧12*A.length≤cs.length∧zJb w cs 0 A)
theorem zGX.ext {A:List Band} (h:zGX w v A) (hx:Ext w w'):zGX w' v A:=by
 obtain ⟨p,c,h1,h2⟩:=h;refine ⟨p,c,h1,?_⟩;rcases h2 with h2 | ⟨b,cs,e1,e2,e3,e4⟩
 · exact .inl h2
 · exact .inr ⟨b,cs,e1,e2.ext hx,e3,fun i B hB=>(e4 i B hB).ext hx⟩
theorem AccBd.bands {sz:Nat} {A:List Band} (h:AccBd sz w v A):zGX w v A:=by
 obtain ⟨p,c,h1,h2,h3⟩:=h;refine ⟨p,c,h1,?_⟩;rcases h3 with ⟨e1,e2,e3⟩ | ⟨b,cs,e1,e2,e3,e4,e5⟩
 · exact .inl e1
 · exact .inr ⟨b,cs,e1,e3,by omega,e5⟩
theorem zGF:prog.underlying 139=some (.slice 144):=by kernel_rfl
theorem zJF:zAV prog 139 144 12:=by unfold zAV;exact ⟨by kernel_rfl,by kernel_rfl⟩
def bandZ:List Value:=[.bool false,.slice none 0 0,.slice none 0 0,.bool false,.slice none 0 0,.slice none 0 0,.bool false,.slice none 0 0,.slice none 0 0,.bool false,.slice none 0 0,.slice none 0 0]
theorem zMY:(prog.info? 144).map (fun i=>(i.zero,i.size,i.bytes))=some (some (.agg bandZ.toArray),12,224):=by kernel_rfl
theorem info144':(prog.info? 144).map (fun i=>(i.zero,i.size))=some (some (.agg bandZ.toArray),12):=by kernel_rfl
def AppBd (sz:Nat) (w w':World):Prop:=Ext w w'∨∃ b cs,sz≤b∧Blk w b 144 cs∧Upd b w w'
theorem AppBd.ext {sz:Nat} (h:AppBd sz w w') (hs:w0.heap.size≤sz) (hE:Ext w0 w):Ext w0 w':=by
 rcases h with h | ⟨b,cs,h1,h2,h3⟩
 · exact hE.trans h
 · exact hE.upd h3 (by omega)
theorem runs_append_band {K:Value→World→Prop} {d:Option Tmp} {sz:Nat} {A:List Band} {q:Band} {u:List Value}
 (hx:AccBd sz w (σ x) A) (hy:σ y = .slice (some ⟨b2,0,none⟩) 1 1) (hB2:Blk w b2 144 u) (hul:u.length=12) (hq:BandC w u q) (hA:A.length<8192) (hsz:sz≤w.heap.size)
 (hk:∀ v w',AppBd sz w w'→AccBd sz w' v (A++[q])→K v w') :
 Runs prog r ⟨d,.call { callee := .builtin .append,args := #[x,y],argTypes := #[139,139] },ty,pos,af,g⟩ σ w K:=by
 obtain ⟨p,c,h1,h2,h3⟩:=hx;have hok:u.all zAp=true:=hq.ok hul;have getc:∀ (cs':List Value) (w':World),(∀ i B,A[i]? = some B→BandC w' (chunk 12 cs' i) B)→chunk 12 cs' A.length=u→BandC w' u q→∀ i B,(A++[q])[i]? = some B→BandC w' (chunk 12 (cs'.drop 0) i) B:=fun cs' w' g1 g2 g3 i B hB=>by
  rw [List.drop_zero];by_cases hi:i<A.length
  · rw [List.getElem?_append_left hi] at hB;exact g1 i B hB
  · rw [List.getElem?_append_right (by omega)] at hB;have:i=A.length:=by
     have:=(List.getElem?_eq_some_iff.1 hB).1;simp at this;omega
    subst this;simp at hB;subst hB;rw [g2];exact g3
 by_cases hc:A.length+1≤c
 · rcases h3 with ⟨e1,e2,e3⟩ | ⟨b,cs,e1,e2,e3,e4,e5⟩
   · omega
   · subst e1;refine zAg (n:=12) zGF zGF zMY h1 hy e3 (Cells.blk hB2) (by omega) hc (by omega) hok fun w' hU hN=>hk _ w' (.inr ⟨b,cs,e2,e3,hU⟩) ?_;rw [Nat.zero_add,Nat.mul_comm A.length 12] at hN;refine ⟨_,c,by simp,by simpa using hc,.inr ⟨b,_,rfl,e2,hN,by rw [zAh];exact e4,getc _ _ (fun i B hB => ?_) ?_ (hq.updT hU e3 (by decide))⟩⟩
     · have hi:i<A.length:=(List.getElem?_eq_some_iff.1 hB).1;rw [zEq hul (by omega),if_neg (by omega)];have:=e5 i B hB;rw [List.drop_zero] at this;exact this.updT hU e3 (by decide)
     · rw [zEq hul (by omega),if_pos rfl]
 · have hnew:=zAS (A.length+1) c;have hold:∃ old,Cells w p 144 old∧old.length=A.length*12∧∀ i B,A[i]? = some B→BandC w (chunk 12 old i) B:=by
    rcases h3 with ⟨e1,e2,e3⟩ | ⟨b,cs,e1,e2,e3,e4,e5⟩
    · subst e1;exact ⟨[],.inl rfl,rfl,fun i B hB=>by simp at hB⟩
    · refine ⟨cs.take (12*A.length),.inr ⟨b,0,cs,e1,e3,by simp [Nat.mul_comm]⟩,by simp;omega,fun i B hB => ?_⟩;have hi:i<A.length:=(List.getElem?_eq_some_iff.1 hB).1;have:=e5 i B hB;rw [List.drop_zero] at this;rw [chunk_take (by omega) (by omega)];exact this
   obtain ⟨old,o1,o2,o3⟩:=hold;refine zAO zGF zGF zMY rfl (by decide) h1 hy o1 o2 (Cells.blk hB2) (by omega) (by omega) (by omega) fun w' rest c' g1 hE hB g2 _=>hk _ w' (.inl hE) ?_;have hrl:rest.length=(c'-(A.length+1))*12:=by rw [g2];simp [Builtin.zeroCells,Value.cells,bandZ]
   refine ⟨_,c',by simp,by simpa using g1,.inr ⟨w.heap.size,_,rfl,hsz,hB,by simp [o2,hul,hrl];omega,getc _ _ (fun i B hB' => ?_) ?_ (hq.ext hE)⟩⟩
   · have hi:i<A.length:=(List.getElem?_eq_some_iff.1 hB').1;rw [List.append_assoc,chunk_app (by omega)];exact (o3 i B hB').ext hE
   · unfold chunk;rw [List.append_assoc,List.drop_append,List.drop_of_length_le (by omega),List.nil_append,o2,show 12*A.length-A.length*12=0 by omega,List.drop_zero,List.take_append_of_le_length (by omega),List.take_of_length_le (by omega)]
theorem zGD {K:Value→World→Prop} {d:Option Tmp} {A:List Band} {B:Band}
 (hx:σ x = .pointer (some ⟨b,12*i,none⟩)) (hB:Blk w b 144 cs) (hl:12*A.length≤cs.length) (hA:zJb w cs 0 A) (hi:A[i]? = some B) (hk:∀ v,zKV w v B→K v w):Runs prog r ⟨d,.load 144 x,ty,pos,af,g⟩ σ w K:=by
 have hlt:i<A.length:=(List.getElem?_eq_some_iff.1 hi).1;refine zX zKs hx hB (by omega) (hk _ ⟨(cs.drop (12*i)).take 12,rfl,by simp;omega,?_⟩);have:=hA i B hi;rw [List.drop_zero] at this;exact this
def XBlk (w:World) (b:Nat) (l:List Rat):Prop:=∃ cs,Blk w b 258 cs∧cs.length=12∧l.length=4∧∀ i,i<4→IsNum w (.agg (chunk 3 cs i).toArray) (l.getD i 0)
theorem XBlk.ext (h:XBlk w b l) (hx:Ext w w'):XBlk w' b l:=by
 obtain ⟨cs,h1,h2,h3,h4⟩:=h;exact ⟨cs,h1.ext hx,h2,h3,fun i hi=>(h4 i hi).ext hx⟩
theorem XBlk.updT (h:XBlk w b l) (hu:Upd c w w') (hb:Blk w c T cs) (h1:T≠258) (h2:T≠164):XBlk w' b l:=by
 obtain ⟨ds,e1,e2,e3,e4⟩:=h;exact ⟨ds,e1.upd hu (e1.neT hb (Ne.symm h1)),e2,e3,fun i hi=>(e4 i hi).updT hu hb h2⟩
theorem zBU:ArrOf prog 258 4 37 3:=by unfold ArrOf;exact ⟨by kernel_rfl,by kernel_rfl⟩
theorem zero258:(prog.info? 258).bind (·.zero)=some (.agg bandZ.toArray):=by kernel_rfl
theorem XBlk.zero (h:Blk w b 258 bandZ):XBlk w b [0,0,0,0]:=⟨_,h,rfl,rfl,fun i hi=>by
 match i,hi with
 | 0,_=>exact IsNum.zero
 | 1,_=>exact IsNum.zero
 | 2,_=>exact IsNum.zero
 | 3,_=>exact IsNum.zero⟩
section laws
variable {K:Value→World→Prop} {d:Option Tmp}
theorem runs_xstore (hx:σ x = .pointer (some ⟨b,o,none⟩)) (ho:o=3*k) (hy:IsNum w (σ y) q) (hB:XBlk w b l) (hk:k<4)
 (hc:∀ v w',Upd b w w'→XBlk w' b (l.set k q)→K v w'):Runs prog r ⟨d,.store 37 x y,ty,pos,af,g⟩ σ w K:=by
 subst ho;obtain ⟨cs,hB,hl,hl2,hN⟩:=hB;have hy0:=hy;obtain ⟨n,dd,he,hn,hd⟩:=hy;obtain ⟨p1,ds1,c1,rfl,-⟩:=hn;obtain ⟨p2,ds2,c2,rfl,-⟩:=hd;refine zc zGp hx hB (by rw [he];rfl) (by omega) (by decide) (by rw [he];rfl) fun w' hU hS=>hc _ w' hU ?_;rw [he] at hS hy0;refine ⟨_,hS,by rw [zAh];exact hl,by rw [List.length_set];exact hl2,fun i hi => ?_⟩;show IsNum w' (.agg (chunk 3 (zBI cs (3*k) [_,_,_]) i).toArray) _;rw [zEq (n:=3) rfl (by omega)];by_cases hik:i=k
 · subst hik;rw [if_pos rfl,show (l.set i q).getD i 0=q from by simp [hl2,hi]];exact hy0.upd hU hB (by decide)
 · rw [if_neg hik,show (l.set k q).getD i 0=l.getD i 0 from by simp [List.getElem?_set_ne (Ne.symm hik)]];exact (hN i hi).upd hU hB (by decide)
theorem zAL (hx:σ x = .pointer (some ⟨b,o,none⟩)) (ho:o=3*k) (hB:XBlk w b l) (hk:k<4) (hc:∀ v,IsNum w v (l.getD k 0)→K v w):Runs prog r ⟨d,.load 37 x,ty,pos,af,g⟩ σ w K:=by
 subst ho;obtain ⟨cs,hB,hl,hl2,hN⟩:=hB;exact zX zy hx hB (by omega) (hc _ (hN k hk))
end laws
def zIt (t:BandT):List Value:=[S t.lo,S t.hi,S t.least,S t.most]
def zIY (w:World) (v:Value) (m:List BandT):Prop:=∃ p c,v = .slice p m.length c∧(m=[]∨∃ b o cs,p=some ⟨b,o,none⟩∧Blk w b 54 cs∧o+4*m.length≤cs.length∧∀ i t,m[i]? = some t→(cs.drop (o+4*i)).take 4=zIt t)
theorem zIY.ext {m:List BandT} (h:zIY w v m) (hx:Ext w w'):zIY w' v m:=by
 obtain ⟨p,c,h1,h2⟩:=h;refine ⟨p,c,h1,?_⟩;rcases h2 with h2 | ⟨b,o,cs,e1,e2,e3,e4⟩
 · exact .inl h2
 · exact .inr ⟨b,o,cs,e1,e2.ext hx,e3,e4⟩
theorem zFe:zAV prog 41 54 4:=by unfold zAV;exact ⟨by kernel_rfl,by kernel_rfl⟩
theorem aggr54:Aggr prog 54 4:=by unfold Aggr;exact ⟨by kernel_rfl,by kernel_rfl⟩
theorem size54:(prog.info? 54).map (·.size)=some 4:=by kernel_rfl
theorem zero54:(prog.info? 54).bind (·.zero)=some (.agg #[S [],S [],S [],S []]):=by kernel_rfl
theorem fo54_0:zAA prog 54 0 0:=by unfold zAA;kernel_rfl
theorem fo54_1:zAA prog 54 1 1:=by unfold zAA;kernel_rfl
theorem fo54_2:zAA prog 54 2 2:=by unfold zAA;kernel_rfl
theorem fo54_3:zAA prog 54 3 3:=by unfold zAA;kernel_rfl
theorem zBq:Plain prog 52:=by unfold Plain;exact ⟨by kernel_rfl,by kernel_rfl⟩
def txt (t:BandT):List (List UInt8):=[t.lo,t.hi,t.least,t.most]
theorem txt_at (t:BandT) (h:k<4):(#[S t.lo,S t.hi,S t.least,S t.most]:Array Value)[k]? = some (S ((txt t).getD k [])):=by
 match k,h with
 | 0,_=>rfl
 | 1,_=>rfl
 | 2,_=>rfl
 | 3,_=>rfl
theorem bandsL_err {t:BandT} {l:List BandT} {A:List Band} {R:List Band×Int} (hk:k<4) (h0:∀ j,j<k→(zK ((txt t).getD j [])).2=0) (h1:(zK ((txt t).getD k [])).2≠0) (h:zFR (t :: l) A=some R):R=([],(zK ((txt t).getD k [])).2):=by
 unfold zFR at h
 match k,hk with
 | 0,_=>rw [if_pos (show (zK t.lo).2≠0 from h1)] at h;exact (Option.some.inj h).symm
 | 1,_ =>
  have a0:(zK t.lo).2=0:=h0 0 (by omega);rw [if_neg (fun e=>e a0),if_pos (show (zK t.hi).2≠0 from h1)] at h;exact (Option.some.inj h).symm
 | 2,_ =>
  have a0:(zK t.lo).2=0:=h0 0 (by omega);have a1:(zK t.hi).2=0:=h0 1 (by omega);rw [if_neg (fun e=>e a0),if_neg (fun e=>e a1),if_pos (show (zK t.least).2≠0 from h1)] at h;exact (Option.some.inj h).symm
 | 3,_ =>
  have a0:(zK t.lo).2=0:=h0 0 (by omega);have a1:(zK t.hi).2=0:=h0 1 (by omega);have a2:(zK t.least).2=0:=h0 2 (by omega);rw [if_neg (fun e=>e a0),if_neg (fun e=>e a1),if_neg (fun e=>e a2),if_pos (show (zK t.most).2≠0 from h1)] at h;exact (Option.some.inj h).symm
theorem bandsL_go {t:BandT} {l:List BandT} {A:List Band} {R:List Band×Int} (h0:∀ j,j<4→(zK ((txt t).getD j [])).2=0) (h:zFR (t :: l) A=some R) :
 ∃ bad,zIw (zK t.lo).1 (zK t.hi).1 (zK t.least).1 (zK t.most).1=some bad∧(if bad=true then some ([],7) else zFR l (A++[⟨(zK t.lo).1,(zK t.hi).1,(zK t.least).1,(zK t.most).1⟩]))=some R:=by
 have a0:(zK t.lo).2=0:=h0 0 (by omega);have a1:(zK t.hi).2=0:=h0 1 (by omega);have a2:(zK t.least).2=0:=h0 2 (by omega);have a3:(zK t.most).2=0:=h0 3 (by omega);unfold zFR at h;rw [if_neg (fun e=>e a0),if_neg (fun e=>e a1),if_neg (fun e=>e a2),if_neg (fun e=>e a3)] at h;exact bind_some h
theorem badBand_cases {a b c d:Rat} {bad:Bool} (h:zIw a b c d=some bad):(a<0∧bad=true)∨(∃ z,¬ a<0∧rcmp a b=some z∧0<z∧bad=true)∨(∃ z,¬ a<0∧rcmp a b=some z∧¬ 0<z∧c<0∧bad=true) ∨
 (∃ z y,¬ a<0∧rcmp a b=some z∧¬ 0<z∧¬ c<0∧rcmp c d=some y∧0<y∧bad=true)∨(∃ z y,¬ a<0∧rcmp a b=some z∧¬ 0<z∧¬ c<0∧rcmp c d=some y∧¬ 0<y∧bad=false):=by
 unfold zIw at h;split at h
 · next h0=>cases h;exact .inl ⟨h0,rfl⟩
 · next h0 =>
   obtain ⟨z,hz,h⟩:=bind_some h;split at h
   · next h1=>cases h;exact .inr (.inl ⟨z,h0,hz,h1,rfl⟩)
   · next h1 =>
     split at h
     · next h2=>cases h;exact .inr (.inr (.inl ⟨z,h0,hz,h1,h2,rfl⟩))
     · next h2 =>
       obtain ⟨y,hy,h⟩:=map_some h;by_cases h3:0<y
       · exact .inr (.inr (.inr (.inl ⟨z,y,h0,hz,h1,h2,hy,h3,by rw [← h];exact decide_eq_true h3⟩)))
       · exact .inr (.inr (.inr (.inr ⟨z,y,h0,hz,h1,h2,hy,h3,by rw [← h];exact decide_eq_false h3⟩)))
theorem arr259:ArrOf prog 259 4 52 1:=by unfold ArrOf;exact ⟨by kernel_rfl,by kernel_rfl⟩
end Go.Proofs.YtjiendlfobjanaaGreatDoor
namespace Go.Proofs.YtjiendlfobjanaaGreatDoor
open Go Go.RowKit Go.Proofs Tryz
set_option maxRecDepth 10000
set_option maxHeartbeats 2000000
attribute [local irreducible] Runs WPE CallK Ret
variable {v:Value} {w:World}
theorem bands_ok {m:List BandT} {R:List Band×Int} (hm:zIY w v m) (hlen:∀ (i:Nat) (t:BandT),m[i]? = some t→t.lo.length<1000000000∧t.hi.length<1000000000∧t.least.length<1000000000∧t.most.length<1000000000) (h:zHl m=some R):Ret prog 87 #[v] w (fun r w'=>∃ u,r = .tuple #[u,.int .i64 R.2]∧AccBd w.heap.size w' u R.1):=by
 obtain ⟨mp,mc,rfl,hmk⟩:=hm;have E0:Ext w w:=Ext.refl w;refine J0 92 func87 rfl (rj fun K=>ag (ag (rm [0] K ?_)));refine zA (zA ?_);rcases (show m.length=0∨(m.length≠0∧6<m.length)∨(m.length≠0∧¬ 6<m.length) from by omega) with k1 | ⟨k1,k2⟩ | ⟨k1,k2⟩
 · unfold zHl at h;rw [if_pos (.inl k1)] at h;obtain rfl:=Option.some.inj h;refine rI fun K=>K1 (zI zFe rfl ?_);refine K9 true rfl (by rw [k1];rfl) ?_;refine mv (K3 (K3 (K3 (pk rfl (rs [0,19] K ?_)))));refine wct rfl (rj fun K=>ag (ag (rm [2,3] K ?_)));exact zE (zU (zQ ⟨rfl,_,zw rfl rfl rfl,E0,_,rfl,AccBd.nil⟩))
 · unfold zHl at h;rw [if_pos (.inr k2)] at h;obtain rfl:=Option.some.inj h;refine rI fun K=>K1 (zI zFe rfl (K9 false rfl (beq_eq_false_iff_ne.2 (by omega)) (mv (K7 (K2 (zI zFe rfl (K2 (zJ (v := .bool true) rfl rfl (congrArg (fun z=>some (Value.bool z)) (decide_eq_true (by omega))) (pk rfl (rs [0,19] K ?_))))))))));refine wct rfl (rj fun K=>ag (ag (rm [2,3] K ?_)));exact zE (zU (zQ ⟨rfl,_,zw rfl rfl rfl,E0,_,rfl,AccBd.nil⟩))
 · unfold zHl at h;rw [if_neg (by omega)] at h;refine rI fun K=>K1 (zI zFe rfl (K9 false rfl (beq_eq_false_iff_ne.2 (by omega)) (mv (K7 (K2 (zI zFe rfl (K2 (zJ (v := .bool false) rfl rfl (congrArg (fun z=>some (Value.bool z)) (decide_eq_false (by omega))) (pk rfl (rs [0,19] K ?_))))))))));refine wcf rfl (sk (rj fun K=>ag (rm [0,4] K ?_)));refine zA (rJ fun K=>K1 (zI zFe rfl (mv (rm [4,20,21,22] K ?_))));refine zF (zg (X:=Nat) (fun i ρ w'=>∃ va A,Keep ρ [(4,va),(20,.slice mp m.length mc),(21,.int .i64 (m.length:Int)),(22,.int .i64 (i:Int))]∧i≤m.length∧Ext w w'∧AccBd w.heap.size w' va A∧A.length=i∧zFR (m.drop i) A=some R) (fun i=>m.length-i) 0 ⟨_,[],(kp rfl),Nat.zero_le _,E0,AccBd.nil,rfl,h⟩ ?_);clear E0 h;rintro i ρ1 w1 ⟨va,A,hk,hil,E0,hA,hAl,h⟩;refine wpe_k _ hk ?_;clear hk ρ1;refine zA ?_;rcases Nat.lt_or_ge i m.length with hi | hi
   · obtain ⟨t,ht⟩:∃ t,m[i]? = some t:=⟨m[i],List.getElem?_eq_getElem hi⟩;have hdr:m.drop i=t :: m.drop (i+1):=by rw [List.drop_eq_getElem_cons hi];congr 1;rw [List.getElem?_eq_getElem hi] at ht;exact Option.some.inj ht
     rw [hdr] at h;obtain ⟨mb,mo,mcs,hmp,hMB,hml,hmt⟩:=(hmk.resolve_left (fun e=>by subst e;simp at hi));replace hMB:=hMB.ext E0;have hmt:=hmt i t ht;have htl:=hlen i t ht;refine K6 fun K=>K8 rfl (rs [4,20,21,22,23] K ?_);refine zA (wct (congrArg Value.bool (decide_eq_true (by omega))) (sk (zA (zF (rj fun K=>K1 (zG zFe (congrArg (fun q=>Value.slice q m.length mc) hmp) rfl (by omega) (by omega) ?_))))));refine K1 (zX aggr54 rfl hMB (by rw [Int.toNat_natCast];omega) ?_);rw [Int.toNat_natCast,Nat.mul_comm i 4,hmt];refine K1 (zV zero54 fun b6 w7 hb hE hB6 hs => ?_);have hg6:w.heap.size≤b6:=by rw [hb];exact E0.size
     replace E0:=E0.trans hE;replace hA:=hA.ext hE;clear hE hb hs hMB;refine K1 (zc size54 rfl hB6 rfl (Nat.le_of_ble_eq_true rfl) (by decide) rfl fun w9 hU hN => ?_);replace E0:=E0.upd hU hg6;replace hA:=hA.upd hU hB6 (by decide) (by decide);clear hU hB6;have hB6:Blk _ b6 54 (zIt t):=hN;clear hN;refine rm [4,6,20,21,22] K ?_;refine rj fun K => ?_;refine K1 (zV zero258 fun xb w7 hb hE hBx hs => ?_);have hgx:w.heap.size≤xb:=by rw [hb];exact E0.size
     replace E0:=E0.trans hE;replace hA:=hA.ext hE;replace hB6:=hB6.ext hE;clear hE hb hs;have hX:=XBlk.zero hBx;clear hBx;refine rm [4,6,7,20,21,22] K ?_;refine zA (rj fun K=>K1 (zB fo54_0 rfl (K1 (zD zBq rfl hB6 rfl (K1 (zB fo54_1 rfl (K1 (zD zBq rfl hB6 rfl (K1 (zB fo54_2 rfl (K1 (zD zBq rfl hB6 rfl (K1 (zB fo54_3 rfl (K1 (zD zBq rfl hB6 rfl (K1 (zT (cs := #[S t.lo,S t.hi,S t.least,S t.most]) (by kernel_rfl) (mv (rm [4,7,20,21,22,34,35] K ?_))))))))))))))))))));refine zF (zg (X:=Nat) (fun k ρ w'=>∃ l4,Keep ρ [(4,va),(7,.pointer (some ⟨xb,0,none⟩)),(20,.slice mp m.length mc),(21,.int .i64 (m.length:Int)),(22,.int .i64 (i:Int)),(34,.agg #[S t.lo,S t.hi,S t.least,S t.most]),(35,.int .i64 (k:Int))]∧k≤4∧Ext w w'∧AccBd w.heap.size w' va A∧XBlk w' xb l4∧(∀ j,j<k→(zK ((txt t).getD j [])).2=0∧l4.getD j 0=(zK ((txt t).getD j [])).1)) (fun k=>4-k) 0 ⟨_,(kp rfl),Nat.zero_le _,E0,hA,hX,fun j hj=>absurd hj (by omega)⟩ ?_);clear E0 hA hX hB6;rintro k ρ1 w1 ⟨l4,hk,hkl,E0,hA,hX,hq⟩;refine wpe_k _ hk ?_;clear hk ρ1;refine zA ?_;rcases Nat.lt_or_ge k 4 with hk4 | hk4
     · have htk:((txt t).getD k []).length<1000000000:=by
        match k,hk4 with
        | 0,_=>exact htl.1
        | 1,_=>exact htl.2.1
        | 2,_=>exact htl.2.2.1
        | 3,_=>exact htl.2.2.2
       refine K6 fun K=>K8 rfl (rs [4,7,20,21,22,34,35,36] K ?_);refine zA (wct (congrArg Value.bool (decide_eq_true (by omega))) (sk (zA (zF (rJ fun K=>K1 (zDk arr259 zBq rfl rfl hk4 (txt_at t hk4) (ag (ag (rm [4,7,8,9,20,21,22,34,35] K ?_)))))))));refine rJ fun K=>K1 (j2 E0 hA.ext hX.ext hb65 (Parse_ok htk) fun v41 w2 E0 hA hX hr => ?_);obtain ⟨u,rfl,N42⟩:=hr;refine mv (xt rfl (xt rfl ?_));refine K1 (zV zAY fun gb w7 hb hE hBg hs => ?_);have hgg:w.heap.size≤gb:=by rw [hb];exact E0.size
       replace E0:=E0.trans hE;replace hA:=hA.ext hE;replace hX:=hX.ext hE;replace N42:=N42.ext hE;clear hE hb hs;refine K1 (zN rfl N42 (Cell3.of hBg rfl) fun _ w9 hU hNA => ?_);replace E0:=E0.upd hU hgg;replace hA:=hA.upd hU hBg (by decide) (by decide);replace hX:=hX.updT hU hBg (by decide) (by decide);clear hU hBg N42;refine ag (rm [4,7,8,10,11,20,21,22,34,35] K ?_);refine zA (rJ fun K=>K8 rfl (rm [4,7,8,10,11,20,21,22,34,35,45] K ?_));refine K0 rfl ?_ ?_<;>intro hc
       · have he0:(zK ((txt t).getD k [])).2≠0:=bne_iff_ne.1 hc;clear hc;obtain rfl:=bandsL_err hk4 (fun j hj=>(hq j hj).1) he0 h;refine rJ fun K=>ag (ag (rm [2,3,7,20,21,22,34,35] K ?_));exact zE (zU (zZ (zU (zAI (zZ (zU (zZ (zU (zAI (zZ (zU (zQ ⟨rfl,_,zw rfl rfl rfl,E0,_,rfl,AccBd.nil⟩))))))))))))
       · have he0:(zK ((txt t).getD k [])).2=0:=bne_eq_false_iff_eq.1 hc;clear hc;refine sk (rI fun K=>K1 (za rfl hNA fun v48 N48=>K1 (zk (ix:=(k:Int)) zBU rfl rfl (by omega) (by omega) ?_)));have hl4:=hX;obtain ⟨_,_,_,hl4,_⟩:=hl4;refine K1 (runs_xstore (k:=k) rfl (by rw [Int.toNat_natCast];omega) N48 hX hk4 fun v w2 hU hN => ?_);replace E0:=E0.upd hU hgx;replace hA:=(let ⟨_,e1,_⟩:=hX;hA.upd hU e1 (by decide) (by decide));clear hU hX N48 hNA;have hX:=hN;clear hN;refine rl K (zR (zM (K5 [4,7,20,21,22,34,35] ?_)));refine K6 fun K=>K1 (zf (b:=1) (k+1) rfl rfl rfl (by omega) (mv (rl K (zO (⟨rfl,k+1,⟨_,(kp rfl),by omega,E0,hA,hX,fun j hj => ?_⟩,by omega⟩)))));have hl4:l4.length=4:=hl4;by_cases hjk:j=k
         · subst hjk;exact ⟨he0,by simp [hl4,hk4]⟩
         · obtain ⟨a1,a2⟩:=hq j (by omega);exact ⟨a1,by rw [← a2];simp [List.getElem?_set_ne (Ne.symm hjk)]⟩
     · obtain rfl:k=4:=by omega
       obtain ⟨bd,hbd,hgo⟩:=bandsL_go (fun j hj=>(hq j hj).1) h;have q0:l4.getD 0 0=(zK t.lo).1:=(hq 0 (by omega)).2;have q1:l4.getD 1 0=(zK t.hi).1:=(hq 1 (by omega)).2;have q2:l4.getD 2 0=(zK t.least).1:=(hq 2 (by omega)).2;have q3:l4.getD 3 0=(zK t.most).1:=(hq 3 (by omega)).2;clear hq h;refine K6 fun K=>K8 rfl (rs [4,7,20,21,22,34,35,36] K ?_);refine zA (wcf (congrArg Value.bool (decide_eq_false (by omega))) (zY (zx (zl (zL (zM (zA (zA ?_))))))));rcases badBand_cases hbd with ⟨c0,hbd⟩ | ⟨z,c0,hz,c1,hbd⟩ | ⟨z,c0,hz,c1,c2,hbd⟩ | ⟨z,y,c0,hz,c1,c2,hy,c3,hbd⟩ | ⟨z,y,c0,hz,c1,c2,hy,c3,hbd⟩
       · subst hbd;rw [if_pos rfl] at hgo;obtain rfl:=Option.some.inj hgo;refine K6 fun K=>K1 (zk (ix:=0) zBU rfl rfl (by decide) (by decide) (K1 (zAL (k:=0) rfl rfl hX (by decide) fun v52 N52 => ?_)));rw [q0] at N52;refine K1 (j2 E0 hA.ext hX.ext hb19 (Sign_ok N52) fun vi w2 E0 hA hX hr => ?_);subst hr;refine K9 true rfl (decide_eq_true (zAl.2 c0)) (mv (K3 (K3 (K3 (K3 (K3 (K3 (pk rfl (mv (K3 (K3 (K3 (K3 (pk rfl ?_))))))))))))));refine mv (K3 (K3 (K3 (K3 (K3 (K3 (pk rfl (rs [4,7,20,21,22,34,35,56,57,58,59,60,61,64,65,66,67,70,71,72,73,74,75,76] K ?_))))))));refine wct rfl (rj fun K=>ag (ag (rm [2,3,7,20,21,22,34,35] K ?_)));exact zE (zU (zZ (zU (zAI (zZ (zU (zQ ⟨rfl,_,zw rfl rfl rfl,E0,_,rfl,AccBd.nil⟩)))))))
       · subst hbd;rw [if_pos rfl] at hgo;obtain rfl:=Option.some.inj hgo;obtain ⟨r1,rfl⟩:=zCt hz;refine K6 fun K=>K1 (zk (ix:=0) zBU rfl rfl (by decide) (by decide) (K1 (zAL (k:=0) rfl rfl hX (by decide) fun v52 N52 => ?_)));rw [q0] at N52;refine K1 (j2 E0 hA.ext hX.ext hb19 (Sign_ok N52) fun vi w2 E0 hA hX hr => ?_);subst hr;refine K9 false rfl (decide_eq_false (fun e=>c0 (zAl.1 e))) (mv (K2 (zk (ix:=0) zBU rfl rfl (by decide) (by decide) (K2 (zAL (k:=0) rfl rfl hX (by decide) fun v57 N57 => ?_)))));rw [q0] at N57;refine K2 (zk (ix:=1) zBU rfl rfl (by decide) (by decide) (K2 (zAL (k:=1) rfl rfl hX (by decide) fun v59 N59 => ?_)));rw [q1] at N59;refine K2 (j2 E0 hA.ext hX.ext hb73 (zDq N57 N59 r1) fun vi w2 E0 hA hX hr => ?_);subst hr;refine K2 (zJ (v := .bool true) rfl rfl (congrArg (fun z=>some (Value.bool z)) (decide_eq_true c1)) (pk rfl (mv (K3 (K3 (K3 (K3 (pk rfl (mv (K3 (K3 (K3 (K3 (K3 (K3 ?_)))))))))))))));refine pk rfl (rs [4,7,20,21,22,34,35,56,57,58,59,60,61,64,65,66,67,70,71,72,73,74,75,76] K ?_);refine wct rfl (rj fun K=>ag (ag (rm [2,3,7,20,21,22,34,35] K ?_)));exact zE (zU (zZ (zU (zAI (zZ (zU (zQ ⟨rfl,_,zw rfl rfl rfl,E0,_,rfl,AccBd.nil⟩)))))))
       · subst hbd;rw [if_pos rfl] at hgo;obtain rfl:=Option.some.inj hgo;obtain ⟨r1,rfl⟩:=zCt hz;refine K6 fun K=>K1 (zk (ix:=0) zBU rfl rfl (by decide) (by decide) (K1 (zAL (k:=0) rfl rfl hX (by decide) fun v52 N52 => ?_)));rw [q0] at N52;refine K1 (j2 E0 hA.ext hX.ext hb19 (Sign_ok N52) fun vi w2 E0 hA hX hr => ?_);subst hr;refine K9 false rfl (decide_eq_false (fun e=>c0 (zAl.1 e))) (mv (K2 (zk (ix:=0) zBU rfl rfl (by decide) (by decide) (K2 (zAL (k:=0) rfl rfl hX (by decide) fun v57 N57 => ?_)))));rw [q0] at N57;refine K2 (zk (ix:=1) zBU rfl rfl (by decide) (by decide) (K2 (zAL (k:=1) rfl rfl hX (by decide) fun v59 N59 => ?_)));rw [q1] at N59;refine K2 (j2 E0 hA.ext hX.ext hb73 (zDq N57 N59 r1) fun vi w2 E0 hA hX hr => ?_);subst hr;refine K2 (zJ (v := .bool false) rfl rfl (congrArg (fun z=>some (Value.bool z)) (decide_eq_false c1)) (pk rfl (mv (K2 (zk (ix:=2) zBU rfl rfl (by decide) (by decide) (K2 (zAL (k:=2) rfl rfl hX (by decide) fun v65 N65 => ?_)))))));rw [q2] at N65;refine K2 (j2 E0 hA.ext hX.ext hb19 (Sign_ok N65) fun vi w2 E0 hA hX hr => ?_);subst hr
         refine K2 (zJ (v := .bool true) rfl rfl (congrArg (fun z=>some (Value.bool z)) (decide_eq_true (zAl.2 c2))) (pk rfl (mv (K3 (K3 (K3 (K3 (K3 (K3 (pk rfl (rs [4,7,20,21,22,34,35,56,57,58,59,60,61,64,65,66,67,70,71,72,73,74,75,76] K ?_)))))))))));refine wct rfl (rj fun K=>ag (ag (rm [2,3,7,20,21,22,34,35] K ?_)));exact zE (zU (zZ (zU (zAI (zZ (zU (zQ ⟨rfl,_,zw rfl rfl rfl,E0,_,rfl,AccBd.nil⟩)))))))
       · subst hbd;rw [if_pos rfl] at hgo;obtain rfl:=Option.some.inj hgo;obtain ⟨r1,rfl⟩:=zCt hz;obtain ⟨r2,rfl⟩:=zCt hy;refine K6 fun K=>K1 (zk (ix:=0) zBU rfl rfl (by decide) (by decide) (K1 (zAL (k:=0) rfl rfl hX (by decide) fun v52 N52 => ?_)));rw [q0] at N52;refine K1 (j2 E0 hA.ext hX.ext hb19 (Sign_ok N52) fun vi w2 E0 hA hX hr => ?_);subst hr;refine K9 false rfl (decide_eq_false (fun e=>c0 (zAl.1 e))) (mv (K2 (zk (ix:=0) zBU rfl rfl (by decide) (by decide) (K2 (zAL (k:=0) rfl rfl hX (by decide) fun v57 N57 => ?_)))));rw [q0] at N57;refine K2 (zk (ix:=1) zBU rfl rfl (by decide) (by decide) (K2 (zAL (k:=1) rfl rfl hX (by decide) fun v59 N59 => ?_)));rw [q1] at N59;refine K2 (j2 E0 hA.ext hX.ext hb73 (zDq N57 N59 r1) fun vi w2 E0 hA hX hr => ?_);subst hr;refine K2 (zJ (v := .bool false) rfl rfl (congrArg (fun z=>some (Value.bool z)) (decide_eq_false c1)) (pk rfl (mv (K2 (zk (ix:=2) zBU rfl rfl (by decide) (by decide) (K2 (zAL (k:=2) rfl rfl hX (by decide) fun v65 N65 => ?_)))))));rw [q2] at N65;refine K2 (j2 E0 hA.ext hX.ext hb19 (Sign_ok N65) fun vi w2 E0 hA hX hr => ?_);subst hr
         refine K2 (zJ (v := .bool false) rfl rfl (congrArg (fun z=>some (Value.bool z)) (decide_eq_false (fun e=>c2 (zAl.1 e)))) (pk rfl (mv (K2 (zk (ix:=2) zBU rfl rfl (by decide) (by decide) (K2 (zAL (k:=2) rfl rfl hX (by decide) fun v71 N71 => ?_)))))));rw [q2] at N71;refine K2 (zk (ix:=3) zBU rfl rfl (by decide) (by decide) (K2 (zAL (k:=3) rfl rfl hX (by decide) fun v73 N73 => ?_)));rw [q3] at N73;refine K2 (j2 E0 hA.ext hX.ext hb73 (zDq N71 N73 r2) fun vi w2 E0 hA hX hr => ?_);subst hr;refine K2 (zJ (v := .bool true) rfl rfl (congrArg (fun z=>some (Value.bool z)) (decide_eq_true c3)) (pk rfl (rs [4,7,20,21,22,34,35,56,57,58,59,60,61,64,65,66,67,70,71,72,73,74,75,76] K ?_)));refine wct rfl (rj fun K=>ag (ag (rm [2,3,7,20,21,22,34,35] K ?_)));exact zE (zU (zZ (zU (zAI (zZ (zU (zQ ⟨rfl,_,zw rfl rfl rfl,E0,_,rfl,AccBd.nil⟩)))))))
       · subst hbd;rw [if_neg (by decide)] at hgo;obtain ⟨r1,rfl⟩:=zCt hz;obtain ⟨r2,rfl⟩:=zCt hy;refine K6 fun K=>K1 (zk (ix:=0) zBU rfl rfl (by decide) (by decide) (K1 (zAL (k:=0) rfl rfl hX (by decide) fun v52 N52 => ?_)));rw [q0] at N52;refine K1 (j2 E0 hA.ext hX.ext hb19 (Sign_ok N52) fun vi w2 E0 hA hX hr => ?_);subst hr;refine K9 false rfl (decide_eq_false (fun e=>c0 (zAl.1 e))) (mv (K2 (zk (ix:=0) zBU rfl rfl (by decide) (by decide) (K2 (zAL (k:=0) rfl rfl hX (by decide) fun v57 N57 => ?_)))));rw [q0] at N57;refine K2 (zk (ix:=1) zBU rfl rfl (by decide) (by decide) (K2 (zAL (k:=1) rfl rfl hX (by decide) fun v59 N59 => ?_)));rw [q1] at N59;refine K2 (j2 E0 hA.ext hX.ext hb73 (zDq N57 N59 r1) fun vi w2 E0 hA hX hr => ?_);subst hr;refine K2 (zJ (v := .bool false) rfl rfl (congrArg (fun z=>some (Value.bool z)) (decide_eq_false c1)) (pk rfl (mv (K2 (zk (ix:=2) zBU rfl rfl (by decide) (by decide) (K2 (zAL (k:=2) rfl rfl hX (by decide) fun v65 N65 => ?_)))))));rw [q2] at N65;refine K2 (j2 E0 hA.ext hX.ext hb19 (Sign_ok N65) fun vi w2 E0 hA hX hr => ?_);subst hr
         refine K2 (zJ (v := .bool false) rfl rfl (congrArg (fun z=>some (Value.bool z)) (decide_eq_false (fun e=>c2 (zAl.1 e)))) (pk rfl (mv (K2 (zk (ix:=2) zBU rfl rfl (by decide) (by decide) (K2 (zAL (k:=2) rfl rfl hX (by decide) fun v71 N71 => ?_)))))));rw [q2] at N71;refine K2 (zk (ix:=3) zBU rfl rfl (by decide) (by decide) (K2 (zAL (k:=3) rfl rfl hX (by decide) fun v73 N73 => ?_)));rw [q3] at N73;refine K2 (j2 E0 hA.ext hX.ext hb73 (zDq N71 N73 r2) fun vi w2 E0 hA hX hr => ?_);subst hr;refine K2 (zJ (v := .bool false) rfl rfl (congrArg (fun z=>some (Value.bool z)) (decide_eq_false c3)) (pk rfl (rs [4,7,20,21,22,34,35,56,57,58,59,60,61,64,65,66,67,70,71,72,73,74,75,76] K ?_)));refine wcf rfl (sk (rI fun K=>K1 (zk (ix:=0) zBU rfl rfl (by decide) (by decide) (K1 (zAL (k:=0) rfl rfl hX (by decide) fun v79 N79 => ?_)))));rw [q0] at N79;obtain ⟨n79,d79,rfl,hn79,hd79⟩:=N79;refine K1 (zk (ix:=1) zBU rfl rfl (by decide) (by decide) (K1 (zAL (k:=1) rfl rfl hX (by decide) fun v81 N81 => ?_)));rw [q1] at N81;obtain ⟨n81,d81,rfl,hn81,hd81⟩:=N81
         refine K1 (zT (cs := #[.bool (decide ((zK t.lo).1<0)),n79,d79,.bool (decide ((zK t.hi).1<0)),n81,d81]) (by kernel_rfl) (K1 (zk (ix:=2) zBU rfl rfl (by decide) (by decide) (K1 (zAL (k:=2) rfl rfl hX (by decide) fun v84 N84 => ?_)))));rw [q2] at N84;obtain ⟨n84,d84,rfl,hn84,hd84⟩:=N84;refine K1 (zk (ix:=3) zBU rfl rfl (by decide) (by decide) (K1 (zAL (k:=3) rfl rfl hX (by decide) fun v86 N86 => ?_)));rw [q3] at N86;obtain ⟨n86,d86,rfl,hn86,hd86⟩:=N86;refine K1 (zT (cs := #[.bool (decide ((zK t.lo).1<0)),n79,d79,.bool (decide ((zK t.hi).1<0)),n81,d81,.bool (decide ((zK t.least).1<0)),n84,d84,.bool (decide ((zK t.most).1<0)),n86,d86]) (by kernel_rfl) ?_);refine K1 (zi (cs:=[.bool (decide ((zK t.lo).1<0)),n79,d79,.bool (decide ((zK t.hi).1<0)),n81,d81,.bool (decide ((zK t.least).1<0)),n84,d84,.bool (decide ((zK t.most).1<0)),n86,d86]) zGF info144' (by decide) (by decide) (by kernel_rfl) fun sb w10 hb hE hBb hs => ?_)
         have hC:BandC w10 [.bool (decide ((zK t.lo).1<0)),n79,d79,.bool (decide ((zK t.hi).1<0)),n81,d81,.bool (decide ((zK t.least).1<0)),n84,d84,.bool (decide ((zK t.most).1<0)),n86,d86] ⟨(zK t.lo).1,(zK t.hi).1,(zK t.least).1,(zK t.most).1⟩ :=
          ⟨⟨_,_,rfl,hn79.ext hE,hd79.ext hE⟩,⟨_,_,rfl,hn81.ext hE,hd81.ext hE⟩,⟨_,_,rfl,hn84.ext hE,hd84.ext hE⟩,⟨_,_,rfl,hn86.ext hE,hd86.ext hE⟩⟩
         replace E0:=E0.trans hE;replace hA:=hA.ext hE;clear hE hb hs hX;refine K1 (runs_append_band hA rfl hBb rfl hC (by omega) E0.size fun v89 w11 hY hA2 => ?_);replace E0:=hY.ext (Nat.le_refl _) E0;clear hA hY hBb hC;refine ag (rl K (zR (zM (K5 [4,7,20,21,22,34,35,56,57,58,59,60,61,64,65,66,67,70,71,72,73,74,75] ?_))));exact K6 fun K=>K1 (zf (b:=1) (i+1) rfl rfl rfl (by omega) (mv (rl K (zO (⟨rfl,i+1,⟨_,_,(kp rfl),by omega,E0,hA2,by simp [hAl],hgo⟩,by omega⟩)))))
   · obtain rfl:i=m.length:=by omega
     rw [List.drop_length] at h;obtain rfl:(A,(0:Int))=R:=Option.some.inj h;refine K6 fun K=>K8 rfl (rs [4,20,21,22,23] K ?_);refine zA (wcf (congrArg Value.bool (decide_eq_false (by omega))) (zY (zx (zl (zL (zM (rJ fun K=>ag (ag (rm [2,3,20,21,22] K ?_)))))))));exact zE (zQ ⟨rfl,_,zw rfl rfl rfl,E0,_,rfl,hA⟩)
variable {c1 c2 cv u1 u2:Value} {num:Poly}
theorem fails_some {den:Poly} {B:Band} {f:Bool} (h:fails num den B=some f):∃ up low a,rules num den B.least B.most=some (up,low)∧zGl up B.lo B.hi=some a∧((a=false∧f=true)∨(a=true∧∃ c,zGl low B.lo B.hi=some c∧f = !c)):=by
 unfold fails at h;obtain ⟨⟨up,low⟩,h1,h⟩:=bind_some h;obtain ⟨a,h2,h⟩:=bind_some h;refine ⟨up,low,a,h1,h2,?_⟩;split at h
 · next e=>exact .inl ⟨e,(Option.some.inj h).symm⟩
 · next e =>
   obtain ⟨c,h3,h4⟩:=map_some h;exact .inr ⟨by simpa using e,c,h3,h4.symm⟩
theorem failing1_ok {vn vd:Value} {bn bd:Nat} {B:Band} {den:Poly} {f:Bool} (hb:zKV w v B) (hN:Blk w bn 25 [vn]) (hD:Blk w bd 25 [vd]) (h1:IsPoly w vn num) (h2:IsPoly w vd den) (h:fails num den B=some f):Ret prog 185 #[v,.pointer (some ⟨bn,0,none⟩),.pointer (some ⟨bd,0,none⟩)] w (fun r _=>r = .bool f):=by
 obtain ⟨c,rfl,hcl,hC⟩:=hb;have E0:Ext w w:=Ext.refl w;refine J0 24 func185 rfl (rj fun K => ?_);refine K1 (zt fun b1 w1 hb hE hB1 hs => ?_);have hgb1:w.heap.size≤b1:=by rw [hb];exact E0.size
 replace E0:=E0.trans hE;clear hE hs hb;refine ag (rm [1,2,3] K ?_);refine zA (zA ?_);obtain ⟨up,low,a,hr,hu,hf⟩:=fails_some h;clear h;replace hB1:Blk _ b1 144 c:=hB1;replace hC:=hC.ext E0;replace hN:=hN.ext E0;replace hD:=hD.ext E0;replace h1:=h1.ext E0;replace h2:=h2.ext E0;refine K6 fun K=>K1 (zX zKs rfl hB1 (by omega) ?_);rw [zIk hcl];refine K1 (zD zBK rfl hN rfl (K1 (zD zBK rfl hD rfl (K1 (j2 E0 hB1.ext hC.ext hb186 (zLL ⟨c,rfl,hcl,hC⟩ h1 h2 hr) fun v14 w2 E0 hB1 hC hr3 => ?_)))));obtain ⟨va,vb,rfl,hU,hL⟩:=hr3;clear h1 h2 hN hD;refine mv (rs [3,10,11] K ?_);refine zF (zg (X:=Nat) (fun i ρ w'=>Keep ρ [(3,.pointer (some ⟨b1,0,none⟩)),(10,.agg #[va,vb]),(11,.int .i64 (i:Int))]∧i≤2∧Ext w w'∧Blk w' b1 144 c∧BandC w' c B∧IsPoly w' va up∧IsPoly w' vb low∧(i=0∨(a=true∧∃ q,zGl low B.lo B.hi=some q∧f = !q))∧(i=2→f=false)) (fun i=>2-i) 0 ⟨(kp rfl),by omega,E0,hB1,hC,hU,hL,.inl rfl,fun e=>by cases e⟩ ?_);clear E0 hB1 hC hU hL;rintro i ρ1 w1 ⟨hk,hil,E0,hB1,hC,hU,hL,hi0,hi2⟩;refine wpe_k _ hk ?_;clear hk ρ1;refine zA ?_;rcases (show i=0∨i=1∨i=2 from by omega) with rfl | rfl | rfl
 · skip
   refine K6 fun K=>K8 rfl (rs [3,10,11,12] K ?_);refine zA (wct rfl (sk (zA (zF (rj fun K=>K1 (zDk (ix:=0) zDr zBK rfl rfl (by decide) rfl (ag (rm [3,6,10,11] K ?_))))))));refine rJ fun K=>K1 (zB zGf rfl (K1 (zB zJp rfl (K1 (zAo rfl hB1 (by omega) hC.1 fun v17 N17=>K1 (zB zGf rfl (K1 (zB zMI rfl (K1 (zAo rfl hB1 (by omega) hC.2.1 fun v20 N20=>K1 (j4 E0 hB1.ext hC.ext hU.ext hL.ext hb80 (zKC hU N17 N20 hu) fun vi w2 E0 hB1 hC hU hL hr => ?_)))))))))));subst hr;refine K1 (zq rfl (rm [3,10,11,22] K ?_));refine K0 rfl ?_ ?_<;>intro hc
   · have ha:a=false:=by simpa using hc
     clear hc;have hft:f=true:=(hf.resolve_right (fun e=>by rw [ha] at e;exact absurd e.1 (by decide))).2;subst hft;refine rj fun K=>ag (rm [3,4,10,11] K ?_);exact zE (zZ (zU (zAI (zZ (zU (en rfl E0 rfl))))))
   · have ha:a=true:=by simpa using hc
     clear hc;refine zp (zR (zM (K6 fun K=>K1 (zf (a:=0) (b:=1) (1) rfl rfl rfl (by decide) (mv (rl K (zO ?_)))))))
     first
     | exact ⟨rfl,1,⟨(kp rfl),by omega,E0,hB1,hC,hU,hL,.inr (hf.resolve_left (fun e=>by rw [e.1] at ha;cases ha)),fun e=>by cases e⟩,by omega⟩
     | exact ⟨rfl,2,⟨(kp rfl),by omega,E0,hB1,hC,hU,hL,.inr ⟨ha1,q,hq,hfq⟩,fun _=>by rw [hfq,hq1];rfl⟩,by omega⟩
 · obtain ⟨ha1,q,hq,hfq⟩:=hi0.resolve_left (by decide);refine K6 fun K=>K8 rfl (rs [3,10,11,12] K ?_);refine zA (wct rfl (sk (zA (zF (rj fun K=>K1 (zDk (ix:=1) zDr zBK rfl rfl (by decide) rfl (ag (rm [3,6,10,11] K ?_))))))));refine rJ fun K=>K1 (zB zGf rfl (K1 (zB zJp rfl (K1 (zAo rfl hB1 (by omega) hC.1 fun v17 N17=>K1 (zB zGf rfl (K1 (zB zMI rfl (K1 (zAo rfl hB1 (by omega) hC.2.1 fun v20 N20=>K1 (j4 E0 hB1.ext hC.ext hU.ext hL.ext hb80 (zKC hL N17 N20 hq) fun vi w2 E0 hB1 hC hU hL hr => ?_)))))))))));subst hr;refine K1 (zq rfl (rm [3,10,11,22] K ?_));refine K0 rfl ?_ ?_<;>intro hc
   · have hq0:q=false:=by simpa using hc
     clear hc;subst hq0;obtain rfl:f=true:=hfq;refine rj fun K=>ag (rm [3,4,10,11] K ?_);exact zE (zZ (zU (zAI (zZ (zU (en rfl E0 rfl))))))
   · have hq1:q=true:=by simpa using hc
     clear hc;refine zp (zR (zM (K6 fun K=>K1 (zf (a:=1) (b:=1) (2) rfl rfl rfl (by decide) (mv (rl K (zO ?_)))))))
     first
     | exact ⟨rfl,1,⟨(kp rfl),by omega,E0,hB1,hC,hU,hL,.inr (hf.resolve_left (fun e=>by rw [e.1] at ha;cases ha)),fun e=>by cases e⟩,by omega⟩
     | exact ⟨rfl,2,⟨(kp rfl),by omega,E0,hB1,hC,hU,hL,.inr ⟨ha1,q,hq,hfq⟩,fun _=>by rw [hfq,hq1];rfl⟩,by omega⟩
 · have hff:=hi2 rfl;subst hff;refine K6 fun K=>K8 rfl (rs [3,10,11,12] K ?_);refine zA (wcf rfl (zY (zx (zl (zL (zM (rj fun K=>ag (rm [3,4,10,11] K ?_))))))));exact zE (en rfl E0 rfl)
theorem IndexB_ok {fn:FuncId} {A:List Band} {den:Poly} {R:Int} (hc:zGX w cv A) (hAl0:A.length≤8192) (hfb:zAs prog fn) (h:zGb num den A 0=some R) (hsig:∀ (i:Nat) (B:Band) (f:Bool),A[i]? = some B→fails num den B=some f→∀ (w':World) (v:Value),Ext w w'→zKV w' v B→Ret prog fn #[v,c1,c2] w' (fun u _=>u = .bool f)):Ret prog 184 #[cv,.func (.func fn) #[] #[c1,c2]] w (fun r _=>r = .int .i64 R):=by
 obtain ⟨ap,ac,rfl,hA⟩:=hc;have E0:Ext w w:=Ext.refl w;refine J0 19 func184 rfl (rj fun K=>ag (rm [0,1] K ?_));refine zA (rJ fun K=>K1 (zI zJF rfl (mv (rm [0,1,7,8] K ?_))));refine zF (zg (X:=Nat) (fun i ρ w'=>Keep ρ [(0,.slice ap A.length ac),(1,.func (.func fn) #[] #[c1,c2]),(7,.int .i64 (A.length:Int)),(8,.int .i64 (i:Int))]∧i≤A.length∧Ext w w'∧zGb num den (A.drop i) i=some R) (fun i=>A.length-i) 0 ⟨(kp rfl),Nat.zero_le _,E0,h⟩ ?_);clear E0 h;rintro i ρ1 w1 ⟨hk,hil,E0,h⟩;refine wpe_k _ hk ?_;clear hk ρ1;refine zA ?_;rcases Nat.lt_or_ge i A.length with hi | hi
 · obtain ⟨B,hB⟩:∃ B,A[i]? = some B:=⟨A[i],List.getElem?_eq_getElem hi⟩;have hdr:A.drop i=B :: A.drop (i+1):=by rw [List.drop_eq_getElem_cons hi];congr 1;rw [List.getElem?_eq_getElem hi] at hB;exact Option.some.inj hB
   rw [hdr] at h;unfold zGb at h;obtain ⟨f,hf0,h⟩:=bind_some h;obtain ⟨ab,cs,hap,hAB,hAl,hAt⟩:=(hA.resolve_left (fun e=>by subst e;simp at hi));replace hAB:=hAB.ext E0;replace hAt:zJb w1 cs 0 A:=fun i B hB=>(hAt i B hB).ext E0;refine K6 fun K=>K8 rfl (rs [0,1,7,8,9] K ?_);refine zA (wct (congrArg Value.bool (decide_eq_true (by omega))) (sk (zA (zF (rJ fun K=>ag (rm [0,1,5,7,8] K ?_))))));refine rJ fun K=>mv (mv (K1 (zG zJF (congrArg (fun q=>Value.slice q A.length ac) hap) rfl (by omega) (by omega) ?_)));rw [Int.toNat_natCast,Nat.zero_add,Nat.mul_comm];refine K1 (zGD rfl hAB hAl hAt hB fun v15 N15=>K1 (zBm rfl hfb (CallK.of_ret (hsig i B f hB hf0 _ v15 E0 N15) fun vi w2 hE hr => ?_)));replace E0:=E0.trans hE;clear hE;subst hr;refine rm [0,1,5,7,8,16] K ?_;refine K0 rfl ?_ ?_<;>intro hc
   · have hft:f=true:=hc;subst hft;clear hc;rw [if_pos rfl] at h;obtain rfl:=Option.some.inj h;refine rJ fun K=>ag (rm [0,1,4,7,8] K ?_);exact zE (zZ (zU (zAI (zZ (zU (en rfl E0 rfl))))))
   · have hft:f=false:=hc;subst hft;clear hc;rw [if_neg (by decide)] at h;exact zp (zR (zM (K6 fun K=>K1 (zf (b:=1) (i+1) rfl rfl rfl (by omega) (mv (rl K (zO (⟨rfl,i+1,⟨(kp rfl),by omega,E0,h⟩,by omega⟩))))))))
 · obtain rfl:i=A.length:=by omega
   rw [List.drop_length] at h;obtain rfl:(-1:Int)=R:=Option.some.inj h;refine K6 fun K=>K8 rfl (rs [0,1,7,8,9] K ?_);refine zA (wcf (congrArg Value.bool (decide_eq_false (by omega))) (zY (zx (zl (zL (zM (rj fun K=>ag (rm [0,1,4,7,8] K ?_))))))));exact zE (en rfl E0 rfl)
theorem failing_ok {den:Poly} {A:List Band} {R:Int} (h1:IsPoly w u1 num) (h2:IsPoly w u2 den) (hl:zGX w v A) (hl0:A.length≤8192) (h:zGb num den A 0=some R):Ret prog 88 #[u1,u2,v] w (fun r _=>r = .int .i64 R):=by
 obtain ⟨p1,k1,rfl,e1⟩:=h1;obtain ⟨p2,k2,rfl,e2⟩:=h2;have h1:IsPoly w (.slice p1 num.length k1) num:=⟨p1,k1,rfl,e1⟩;have h2:IsPoly w (.slice p2 den.length k2) den:=⟨p2,k2,rfl,e2⟩;refine J0 10 func88 rfl (rj fun K => ?_);refine K1 (zt fun b1 w1 hb hE hB1 hs => ?_);have hgb1:w.heap.size≤b1:=by rw [hb];exact E0.size
 replace E0:=E0.trans hE;clear hE hs hb;refine K1 (zt fun b2 w2 hb hE hB2 hs => ?_);have hgb2:w.heap.size≤b2:=by rw [hb];exact E0.size
 have ne_b1_b2:b1≠b2:=by have:=hB1.lt;omega
 replace E0:=E0.trans hE;replace hB1:=hB1.ext hE;clear hE hs hb;refine ag (rm [2,3,4] K ?_);refine rJ fun K=>K1 (zBj (K1 (zH hb184 (CallK.of_ret (IndexB_ok (hl.ext E0) hl0 hb185 h fun i B f hB hf w' v hE hv => ?_) fun vi w2 hE hr => ?_) rfl)))
 · exact failing1_ok hv (hB1.ext hE) (hB2.ext hE) ((h1.ext E0).ext hE) ((h2.ext E0).ext hE) hf
 replace E0:=E0.trans hE;clear hE;subst hr;refine ag (rm [6] K ?_);exact zE (en rfl E0 rfl)
end Go.Proofs.YtjiendlfobjanaaGreatDoor
namespace Go.Proofs.YtjiendlfobjanaaGreatDoor
open Go Go.RowKit Go.Proofs Tryz
set_option maxRecDepth 10000
set_option maxHeartbeats 2000000
variable {N b fuel n t:Nat} {P:Program} {T T':TypeId} {cs:List Value} {fn:Func} {num:Poly} {u1 u2 v:Value} {w:World} {ρ:Env}
section gives
theorem zFi {s u:Nat} (h:fn.results = #[.tmp s,.cell t T,.tmp u]) (hs:(dom ρ).contains s=true) (hd:(dom ρ).contains t=true) (hu:(dom ρ).contains u=true) (hv:look1 ρ t = .pointer (some ⟨b,0,none⟩)) (hT:Aggr P T n) (hB:Blk w b T' cs) (hn:cs.length=n):Gives P fn N ρ w (.tuple #[look1 ρ s,.agg cs.toArray,look1 ρ u]):=fun a hf=>by
 have h0:=hf.at_ s (by simpa using hs);have h1:=hf.at_ t (by simpa using hd);have h4:=hf.at_ u (by simpa using hu);rw [hv] at h1;have h2:=zCA (o:=0) hT hB (by omega);have h3:((cs.drop 0).take n).toArray=cs.toArray:=by rw [List.drop_zero,List.take_of_length_le (by omega)]
 rw [h3] at h2;rw [Array.getD_eq_getD_getElem?] at h1;simp only [results,h];rw [← h0,← h4];simp [h1,asAddr,h2]
end gives
attribute [local irreducible] Runs WPE CallK Ret
def zLz (num den:Poly) (m:List BandT) (fuel:Nat):Option (Int×Rat×Int) :=
 if 21<max (trim num).length (trim den).length then some (0,0,3) else (zHl m).bind fun l=>if l.2≠0 then some (0,0,l.2) else
  (zGb num den l.1 0).bind fun k=>if 0≤k then (l.1[k.toNat]?).bind fun B=>(rules num den B.least B.most).bind fun r=>(rsub B.hi B.lo).bind fun d=>(witN r.1 r.2 B.lo (rabs d) fuel 1).map fun x=>(k,x,0)
  else some (k,0,0)
theorem zIP:∀ {l:List BandT} {A:List Band} {R:List Band×Int},zFR l A=some R→R.1.length≤A.length+l.length
 | [],A,R,h=>by cases h;simp
 | t :: l,A,R,h=>by
  unfold zFR at h;split at h
  · cases h;simp
  · split at h
    · cases h;simp
    · split at h
      · cases h;simp
      · split at h
        · cases h;simp
        · obtain ⟨bad,_,h⟩:=bind_some h;split at h
          · cases h;simp
          · have:=zIP h;simp at this ⊢;omega
theorem bandsS_len {m:List BandT} {R:List Band×Int} (h:zHl m=some R):R.1.length≤6:=by
 unfold zHl at h;split at h
 · cases h;simp
 · have:=zIP h;simp at this;omega
theorem Meets_ok {den:Poly} {m:List BandT} {R:Int×Rat×Int} (h1:IsPoly w u1 num) (h2:IsPoly w u2 den) (hm:zIY w v m) (hlen:∀ (i:Nat) (t:BandT),m[i]? = some t→t.lo.length<1000000000∧t.hi.length<1000000000∧t.least.length<1000000000∧t.most.length<1000000000) (hfu:2^fuel≤1099511627776) (h:zLz num den m fuel=some R):Ret prog 29 #[u1,u2,v] w (fun r w'=>∃ u,r = .tuple #[.int .i64 R.1,u,.int .i64 R.2.2]∧IsNum w' u R.2.1):=by
 have hnl:num.length≤4096:=by obtain ⟨_,_,_,_,_,h4⟩:=h1;exact h4
 have hdl:den.length≤4096:=by obtain ⟨_,_,_,_,_,h4⟩:=h2;exact h4
 have htn:=zCF num;have htd:=zCF den;refine J0 41 func29 rfl (rj fun K=>ag ?_);refine K1 (zV zAY fun b1 w1 hb hE hB1 hs => ?_);have hgb1:w.heap.size≤b1:=by rw [hb];exact E0.size
 replace E0:=E0.trans hE;clear hE hs hb;refine ag (rm [0,1,2,7] K ?_);refine zA (zA ?_);replace hB1:Blk _ b1 37 [.bool false,.slice none 0 0,.slice none 0 0]:=hB1;refine rI fun K=>K1 (j1 E0 hB1.ext hb18 (zDw (h1.ext E0)) fun vi w2 E0 hB1 hr => ?_);subst hr;refine mv (K1 (j1 E0 hB1.ext hb18 (zDw (h2.ext E0)) fun vi w2 E0 hB1 hr => ?_));subst hr;refine K1 (zDn rfl rfl ?_);have hmx:(if (((trim num).length:Int)-1)<(((trim den).length:Int)-1) then (((trim den).length:Int)-1) else (((trim num).length:Int)-1))=max ((trim num).length:Int) (trim den).length-1:=by split<;>omega
 rw [hmx];refine K8 rfl (rs [0,1,2,7,15] K ?_);refine K0 rfl ?_ ?_<;>intro hc
 · have hb:21<max (trim num).length (trim den).length:=by have:=of_decide_eq_true hc;omega
   clear hc;unfold zLz at h;rw [if_pos hb] at h;obtain rfl:=Option.some.inj h;refine rj fun K=>K1 (zT (cs := #[.bool false,.slice none 0 0,.slice none 0 0]) (by kernel_rfl) (ag (K1 (zN rfl IsNum.zero (Cell3.of hB1 rfl) fun _ w9 hU hNA => ?_))));replace E0:=E0.upd hU hgb1;refine ag (rm [6,7,8] K ?_);refine zE (zU (zQ ?_));obtain ⟨cs4,hB4,hl4,hN4⟩:=hNA;exact ⟨rfl,_,zFi rfl rfl rfl rfl rfl zy hB4 hl4,E0,_,rfl,hN4⟩
 · have hb:¬ 21<max (trim num).length (trim den).length:=by have:=of_decide_eq_false hc;omega
   clear hc;unfold zLz at h;rw [if_neg hb] at h;obtain ⟨l,hl,h⟩:=bind_some h;have hll:=bandsS_len hl;refine sk (rJ fun K=>K1 (j1 E0 hB1.ext hb87 (bands_ok (hm.ext E0) hlen hl) fun v19 w2 E0 hB1 hr => ?_));obtain ⟨u,rfl,hA⟩:=hr;have hA:=hA.bands;refine mv (xt rfl (xt rfl (ag (ag (rm [0,1,7,8,9] K ?_)))));refine zA (rJ fun K=>K8 rfl (rm [0,1,7,8,9,23] K ?_));refine K0 rfl ?_ ?_<;>intro hc
   · have he:l.2≠0:=bne_iff_ne.1 hc;clear hc;rw [if_pos he] at h;obtain rfl:=Option.some.inj h;refine rj fun K=>K1 (zT (cs := #[.bool false,.slice none 0 0,.slice none 0 0]) (by kernel_rfl) (mv (ag (K1 (zN rfl IsNum.zero (Cell3.of hB1 rfl) fun _ w9 hU hNA => ?_)))));replace E0:=E0.upd hU hgb1;refine ag (rm [6,7,8] K ?_);refine zE (zU (zQ ?_));obtain ⟨cs4,hB4,hl4,hN4⟩:=hNA;exact ⟨rfl,_,zFi rfl rfl rfl rfl rfl zy hB4 hl4,E0,_,rfl,hN4⟩
   · have he:l.2=0:=bne_eq_false_iff_eq.1 hc;clear hc;rw [if_neg (by omega)] at h;obtain ⟨k,hk,h⟩:=bind_some h;refine sk (zA (rJ fun K=>mv (mv (K1 (j2 E0 hB1.ext hA.ext hb88 (failing_ok (h1.ext E0) (h2.ext E0) hA (by omega) hk) fun vi w2 E0 hB1 hA hr => ?_)))));subst hr;refine ag (rm [0,1,6,7,9] K ?_);refine rJ fun K=>K8 rfl (rm [0,1,6,7,9,31] K ?_);refine K0 rfl ?_ ?_<;>intro hc
     · have hk0:0≤k:=by have:=of_decide_eq_true hc;omega
       clear hc;rw [if_pos hk0] at h;obtain ⟨B,hB,h⟩:=bind_some h;obtain ⟨⟨up,low⟩,hr1,h⟩:=bind_some h;obtain ⟨d,hr2,h⟩:=bind_some h;obtain ⟨x,hr3,hR⟩:=map_some h;obtain ⟨hrw,rfl⟩:=zKY hr2;obtain ⟨n,rfl⟩:∃ n:Nat,k=n:=⟨k.toNat,by omega⟩;rw [Int.toNat_natCast] at hB;have hlt:n<l.1.length:=(List.getElem?_eq_some_iff.1 hB).1;obtain ⟨ap,ac,rfl,hAA⟩:=hA;obtain ⟨ab,cs,hap,hAB,hAl,hAt⟩:=(hAA.resolve_left (fun e=>by rw [e] at hlt;simp at hlt));refine rI fun K=>mv (K1 (zG zJF (congrArg (fun q=>Value.slice q l.1.length ac) hap) rfl (by omega) (by omega) ?_));rw [Int.toNat_natCast,Nat.zero_add,Nat.mul_comm];refine K1 (zGD rfl hAB hAl hAt hB fun v35 N35 => ?_);clear hAB hAt hAA;refine mv (mv (K1 (j1 E0 hB1.ext hb89 (witness_ok N35 (h1.ext E0) (h2.ext E0) hr1 hrw hr3 hfu) fun v38 w2 E0 hB1 N38=>K1 (zN rfl N38 (Cell3.of hB1 rfl) fun _ w9 hU hNA => ?_))));replace E0:=E0.upd hU hgb1
       try clear N38
       rw [show x=R.2.1 from by rw [← hR]] at hNA;refine rs [6,7] K ?_;refine zA (zBy 3 [([(6,none)],none),([(7,none)],none),([(39,some 1)],none)] mixed (by kernel_rfl) (by kernel_rfl) (by kernel_rfl) (by kernel_rfl) (by kernel_rfl) fun K hK=>dvp (fun σ wx hE hk=>zC ⟨Ext.refl _,hk.1⟩) (dcp (fun v w'=>IsNum w' v R.2.1) (fun _ _ _ _ hx h=>h.ext hx.toExt) (fun σ wx hE hk=>za hk.1 (hNA.ext hE) fun v h=>⟨Ext.refl _,h⟩) (dvp (fun σ wx hE hk=>zS ⟨Ext.refl _,hk.1⟩) (zAi (hK _ fun wq hE => ?_)))));rintro _ rfl v40 N40 _ rfl;refine zh ?_;replace E0:=E0.trans hE;replace hNA:=hNA.ext hE;clear hE;obtain ⟨cs4,hB4,hl4,-⟩:=hNA;refine K1 (zN rfl N40 (Cell3.of hB4 hl4) fun _ w9 hU hNA => ?_);replace E0:=E0.upd hU hgb1;refine ag (zCh (zM (K5 [6,7,8] ?_)));refine zE (zQ ?_);obtain ⟨cs5,hB5,hl5,hN5⟩:=hNA;exact ⟨rfl,_,zFi rfl rfl rfl rfl rfl zy hB5 hl5,E0,_,by rw [← hR];rfl,hN5⟩
     · have hk0:¬ 0≤k:=by have:=of_decide_eq_false hc;omega
       clear hc;rw [if_neg hk0] at h;have hR:(k,0,0)=R:=Option.some.inj h;have hNA:NumAt b1 0 _:=⟨_,hB1,rfl,IsNum.zero⟩;rw [show (0:Rat)=R.2.1 from by rw [← hR]] at hNA;refine sk (zA (zBy 3 [([(6,none)],none),([(7,none)],none),([(39,some 1)],none)] mixed (by kernel_rfl) (by kernel_rfl) (by kernel_rfl) (by kernel_rfl) (by kernel_rfl) fun K hK=>dvp (fun σ wx hE hk=>zC ⟨Ext.refl _,hk.1⟩) (dcp (fun v w'=>IsNum w' v R.2.1) (fun _ _ _ _ hx h=>h.ext hx.toExt) (fun σ wx hE hk=>za hk.1 (hNA.ext hE) fun v h=>⟨Ext.refl _,h⟩) (dvp (fun σ wx hE hk=>zS ⟨Ext.refl _,hk.1⟩) (zAi (hK _ fun wq hE => ?_))))));rintro _ rfl v40 N40 _ rfl;refine zh ?_;replace E0:=E0.trans hE;replace hNA:=hNA.ext hE;clear hE;obtain ⟨cs4,hB4,hl4,-⟩:=hNA;refine K1 (zN rfl N40 (Cell3.of hB4 hl4) fun _ w9 hU hNA => ?_);replace E0:=E0.upd hU hgb1;refine ag (zCh (zM (K5 [6,7,8] ?_)));refine zE (zQ ?_);obtain ⟨cs5,hB5,hl5,hN5⟩:=hNA;exact ⟨rfl,_,zFi rfl rfl rfl rfl rfl zy hB5 hl5,E0,_,by rw [← hR];rfl,hN5⟩
end Go.Proofs.YtjiendlfobjanaaGreatDoor
namespace Go.Proofs.YtjiendlfobjanaaGreatDoor
open Go Go.RowKit Go.Proofs Tryz
set_option maxRecDepth 10000
set_option maxHeartbeats 2000000
variable {b c i:Nat} {cs:List Value} {w:World}
theorem zKc (h:i<100):Ret prog 331 #[.int .i64 (i:Int)] w (fun v _=>v=S (Lib.decDigits i)) :=
 (Tryz.internal_strconv_small i h w).mono fun e w' ⟨he,hw⟩=>⟨_,he,by rw [hw];exact Ext.refl w,rfl⟩
theorem join1_ok {x:List UInt8} (hB:Blk w b 9 cs) (h0:cs[0]? = some (S x)) (hc:1≤c) (hx:x.length≤1000000):Ret prog 243 #[.slice (some ⟨b,0,none⟩) 1 c,S []] w (fun v _=>v=S x):=by
 have hj:Lib.join ([(⟨x.toArray⟩:ByteArray)].map (·.data.toList)) (⟨#[]⟩:ByteArray).data.toList=x:=by simp [Lib.join]
 have:=Tryz.strings_Join b 0 c [⟨x.toArray⟩] ⟨#[]⟩ w (fun j y hy=>by
  cases j with
  | zero=>simp at hy;subst hy;rw [hB.cell];exact h0
  | succ j=>simp at hy) hB.lt (by simp) (by simpa using hc) (by rw [hj];omega)
 rw [hj] at this;exact this.mono fun e w' ⟨he,hw⟩=>⟨_,he,hw,rfl⟩
theorem zDi:prog.underlying 304=some (.slice 9):=by kernel_rfl
theorem slice304:zAV prog 304 9 1:=by unfold zAV;exact ⟨by kernel_rfl,by kernel_rfl⟩
theorem info9:(prog.info? 9).map (fun i=>(i.zero,i.size,i.bytes))=some (some (S []),1,16):=by kernel_rfl
theorem info9':(prog.info? 9).map (fun i=>(i.zero,i.size))=some (some (S []),1):=by kernel_rfl
attribute [local irreducible] Runs WPE CallK Ret
theorem fmt2_ok (h:i<100):Ret prog 298 #[.int .u64 (i:Int),.int .i64 10] w (fun r _=>r=S (Lib.decDigits i)):=by
 refine J0 32 func298 rfl (rj fun K=>ag (rm [0,1] K ?_));refine zA (rJ fun K=>K8 rfl (rm [0,1,10] K ?_));refine wct rfl (zA (rJ fun K=>K9 true rfl (decide_eq_true (by omega)) (rm [0,12] K ?_)));refine wct rfl (rJ fun K=>K1 (zBM under164' under3' rfl ?_));rw [show IntKind.i64.wrap (i:Int)=(i:Int) from zm (by omega) (by omega)];refine K1 (j0 E0 hb331 (zKc h) fun vi w2 E0 hr => ?_);subst hr;refine ag (rm [4] K ?_);exact zE (zU (zU (en rfl E0 rfl)))
theorem fmt_ok (h:i<100):Ret prog 240 #[.int .u64 (i:Int),.int .i64 10] w (fun r _=>r=S (Lib.decDigits i)):=by
 refine J0 8 func240 rfl (rj fun K=>ag (rm [0,1] K ?_));refine rJ fun K=>mv (K1 (j0 E0 hb298 (fmt2_ok h) fun vi w2 E0 hr => ?_));subst hr;refine ag (rm [4] K ?_);exact zE (en rfl E0 rfl)
end Go.Proofs.YtjiendlfobjanaaGreatDoor
namespace Go.Proofs.YtjiendlfobjanaaGreatDoor
open Go Go.RowKit Go.Proofs Tryz
set_option maxRecDepth 10000
set_option maxHeartbeats 2000000
attribute [local irreducible] Runs WPE CallK Ret
variable {N b c n:Nat} {P:Program} {fn:Func} {q:Rat} {v:Value} {w:World} {ρ:Env}
theorem zFf:Lib.decDigits 0=[48]:=by unfold Lib.decDigits;rfl
theorem zCR (h:n<100):(Lib.decDigits n).length≤2:=by
 unfold Lib.decDigits;split
 · simp
 · unfold Lib.decDigits;rw [dif_pos (by omega)];simp
theorem fit_100 (h:n<100):Fit n:=zFv (by omega)
def textS (q:Rat):List UInt8:=(if q<0 then [45] else [])++Lib.decDigits q.num.natAbs++(if q.den=1 then [] else 47 :: Lib.decDigits q.den)
theorem gives_0 (h:fn.results = #[]):Gives P fn N ρ w (.tuple #[]):=fun a hf=>by
 simp only [results,h];simp
theorem rev1_ok:Ret prog 242 #[.slice (some ⟨b,0,none⟩) 1 c] w (fun _ _=>True):=by
 have E0:Ext w w:=Ext.refl w;refine J0 28 func242 rfl (rJ fun K=>K1 (zI slice304 rfl (K1 (zAJ (a:=1) (b:=1) (0) rfl rfl (by decide) (by decide) (ag (ag (rm [0,2,3] K ?_)))))));refine zF (zg (X:=Nat) (fun _ ρ w'=>Keep ρ [(2,.int .i64 0),(3,.int .i64 ((0:Nat):Int))]∧Ext w w') (fun _=>0) 0 ⟨(kp rfl),E0⟩ ?_);clear E0;rintro k ρ1 w1 ⟨hk,E0⟩;refine wpe_k _ hk ?_;clear hk ρ1;refine zA (rJ fun K=>mv (K8 rfl (rm [2,3,9] K ?_)));exact wcf rfl (zY (zx (zl (zL (zLl ⟨rfl,_,gives_0 rfl,E0,trivial⟩)))))
theorem zKa (hx:IsW w v n) (hn:n<100):Ret prog 150 #[v] w (fun r _=>r=S (Lib.decDigits n)):=by
 obtain ⟨p,l,c,rfl,hl0⟩:=hx.form;have E0:Ext w w:=Ext.refl w;refine J0 38 func150 rfl (rj fun K=>ag (rm [0] K ?_));refine zA (rJ fun K=>K1 (zI zd rfl (K8 rfl (rm [0,9] K ?_))));refine K0 rfl ?_ ?_<;>intro hc
 · have hn0:n=0:=hl0.1 (by have:=eq_of_beq hc;omega);clear hc;refine rj fun K=>ag (rm [0,2] K ?_);refine zE (zU (zQ ?_));exact ⟨rfl,_,zj rfl rfl,E0,by rw [hn0,zFf];rfl⟩
 · have hln:l≠0:=fun e=>by subst e;cases hc
   clear hc;refine sk (rj fun K=>ag (rm [0,3] K ?_));refine zA (zF (zg (X:=Nat) (fun k ρ w'=>(k=1∧Keep ρ [(0,.slice p l c),(3,.slice none 0 0)]∧Ext w w'∧IsW w' (.slice p l c) n)∨(k=0∧∃ (q:Value) (b cc:Nat) (cs:List Value),Keep ρ [(0,q),(3,.slice (some ⟨b,0,none⟩) 1 cc)]∧Ext w w'∧IsW w' q 0∧Blk w' b 9 cs∧cs[0]? = some (S (Lib.decDigits n))∧1≤cc)) (fun k=>k) 1 (.inl ⟨rfl,(kp rfl),E0,hx.ext E0⟩) ?_));clear E0;rintro k ρ1 w1 hF;refine zA (zA ?_);rcases hF with ⟨rfl,hk,E0,hA⟩ | ⟨rfl,q,b,cc,cs,hk,E0,hA,hB,hcs,hcc⟩
   · refine wpe_k _ hk ?_;clear hk ρ1;refine rI fun K=>K1 (zI zd rfl (K8 rfl (rs [0,3,12] K ?_)));refine wct (congrArg Value.bool (decide_eq_true (by omega))) (sk (zF (rJ fun K=>K1 (j0 E0 hb239 (zLa (b:=1000000000000000000) hA (fit_100 hn) (by decide) (by decide)) fun v15 w2 E0 hr => ?_))));obtain ⟨q,rfl,N15⟩:=hr;rw [Nat.div_eq_of_lt (by omega)] at N15;rw [Nat.mod_eq_of_lt (show n<1000000000000000000 by omega)];clear hA;refine mv (xt rfl (xt rfl (ag (ag (rm [0,3,4,5] K ?_)))));refine rJ fun K=>K1 (j1 E0 N15.ext hb240 (fmt_ok hn) fun vi w2 E0 N15 hr => ?_);subst hr;refine ag (rm [0,3,4,6] K ?_);refine zA (rj fun K=>mv ?_);obtain ⟨qp,ql,qc,rfl,hql⟩:=N15.form;have hql0:ql=0:=hql.2 rfl;refine K1 (zI zd rfl (K8 rfl (rm [0,3,4,6,22] K ?_)));refine wcf (congrArg Value.bool (decide_eq_false (by omega))) (sk (rJ fun K=>mv ?_));refine K1 (zi (cs:=[S (Lib.decDigits n)]) zDi info9' (by decide) (by decide) (by kernel_rfl) fun sb w10 hb hE hBb hs => ?_);replace E0:=E0.trans hE;replace N15:=N15.ext hE;clear hE hb hs;have hnew:=zAS (0+1) 0;refine K1 (zAO (n:=1) (old:=[]) zDi zDi info9 rfl (by decide) rfl rfl (.inl rfl) rfl (Cells.blk hBb) rfl (by decide) (by omega) fun w11 rest c9 hc9 hE hB9 _ _ => ?_);replace E0:=E0.trans hE;replace N15:=N15.ext hE;clear hE hBb hnew;refine ag (rm [0,3,4] K ?_)
     exact rI fun K=>ag (rl K (zR (zO (⟨rfl,0,.inr ⟨rfl,_,_,_,_,(kp rfl),E0,N15,hB9,rfl,hc9⟩,by omega⟩))))
   · obtain ⟨qp,ql,qc,rfl,hql⟩:=hA.form;have hql0:ql=0:=hql.2 rfl;refine wpe_k _ hk ?_;clear hk ρ1;refine rI fun K=>K1 (zI zd rfl (K8 rfl (rs [0,3,12] K ?_)));refine wcf (congrArg Value.bool (decide_eq_false (by omega))) (zY (zx (zl (zL (zM (rJ fun K=>K1 (j1 E0 hB.ext hb242 (rev1_ok) fun vr w2 E0 hB _=>rm [0,3] K ?_)))))));refine rj fun K=>mv ?_;refine K1 (j0 E0 hb243 (join1_ok hB hcs hcc (by have:=zCR hn;omega)) fun vi w2 E0 hr => ?_);subst hr;refine ag (rm [0,2,3] K ?_);exact zE (en rfl E0 rfl)
theorem zIU (hx:IsNum w v q) (hq1:q.num.natAbs<100) (hq2:q.den<100):Ret prog 64 #[v] w (fun r _=>r=S (textS q)):=by
 obtain ⟨n,d,rfl,hn,hd⟩:=hx;have E0:Ext w w:=Ext.refl w;refine J0 22 func64 rfl (rj fun K => ?_);refine K1 (zt fun b1 w1 hb hE hB1 hs => ?_);have hgb1:w.heap.size≤b1:=by rw [hb];exact E0.size
 replace E0:=E0.trans hE;clear hE hs hb;refine ag (rm [1] K ?_);refine zA ?_;replace hB1:Blk _ b1 37 [.bool (decide (q<0)),n,d]:=hB1;replace hn:=hn.ext E0;replace hd:=hd.ext E0;refine K6 fun K=>K1 (zB zCJ rfl (K1 (zD zAb rfl hB1 rfl (K1 (j3 E0 hB1.ext hn.ext hd.ext hb150 (zKa hn hq1) fun vi w2 E0 hB1 hn hd hr => ?_)))));subst hr;refine ag (rs [1,3] K ?_);refine zAu (fun ρ w'=>Keep ρ [(1,.pointer (some ⟨b1,0,none⟩)),(3,S ((if q<0 then [45] else [])++Lib.decDigits q.num.natAbs))]∧Ext w w'∧Blk w' b1 37 [.bool (decide (q<0)),n,d]∧IsW w' d (if q.den=1 then 0 else q.den)) ?_ ?_
 · refine rj fun K=>K1 (zB zDC rfl (K1 (zD zCg rfl hB1 rfl (rm [1,3,8] K ?_))));refine K0 rfl ?_ ?_<;>intro hc
   · have hneg:q<0:=of_decide_eq_true hc;clear hc;refine K6 fun K=>mv ?_;refine K1 (zBA (a:=[45]) rfl rfl (by have:=zCR hq1;simp;omega) ?_);refine ag (rl K (zO ?_));exact ⟨rfl,⟨rfl,rfl,rfl,by rw [if_pos hneg];rfl,trivial⟩,E0,hB1,hd⟩
   · have hneg:¬ q<0:=of_decide_eq_false hc;clear hc;refine zp (zO ?_);exact ⟨rfl,⟨rfl,rfl,rfl,by rw [if_neg hneg];rfl,trivial⟩,E0,hB1,hd⟩
 · clear E0 hB1 hd hn;rintro ρ2 w2 ⟨hk,E0,hB1,hd⟩;refine wpe_k _ hk ?_;clear hk ρ2;refine zA (rj fun K=>K1 (zB zEa rfl (K1 (zD zAb rfl hB1 rfl ?_))));obtain ⟨dp,dl,dc,rfl,hdl⟩:=hd.form;refine K1 (zI zd rfl (K8 rfl (rm [1,3,14] K ?_)));refine K0 rfl ?_ ?_<;>intro hc
   · have hd1:q.den≠1:=fun e=>by
      have h1:dl=0:=hdl.2 (if_pos e);have:=of_decide_eq_true hc;omega
     clear hc;rw [if_neg hd1] at hd;refine rI fun K=>K1 (zB zEa rfl (K1 (zD zAb rfl hB1 rfl (K1 (j0 E0 hb150 (zKa hd hq2) fun vi w2 E0 hr => ?_)))));subst hr;refine K1 (zBA (a:=[47]) rfl rfl (by have:=zCR hq2;simp;omega) ?_);refine K1 (zBA rfl rfl (by have:=zCR hq1;have:=zCR hq2;simp;split<;>simp<;>omega) ?_);refine ag (rs [1,3] K ?_);refine rJ fun K=>ag (rm [1,2] K ?_);refine zE (zQ ?_)
     first
     | exact ⟨rfl,_,zj rfl rfl,E0,by unfold textS;rw [if_neg hd1];rfl⟩
     | exact ⟨rfl,_,zj rfl rfl,E0,by unfold textS;rw [if_pos hd1,List.append_nil];rfl⟩
   · have hd1:q.den=1:=by
      have h1:dl=0:=by have:=of_decide_eq_false hc;omega
      have h2:=hdl.1 h1;have h3:=q.den_pos;split at h2
      · assumption
      · omega
     clear hc;refine sk (rJ fun K=>ag (rm [1,2] K ?_));refine zE (zQ ?_)
     first
     | exact ⟨rfl,_,zj rfl rfl,E0,by unfold textS;rw [if_neg hd1];rfl⟩
     | exact ⟨rfl,_,zj rfl rfl,E0,by unfold textS;rw [if_pos hd1,List.append_nil];rfl⟩
variable {i:Nat} {u:Value}
theorem zAq:prog.underlying 48=some (.slice 2):=by kernel_rfl
theorem zn:zAV prog 48 2 1:=by unfold zAV;exact ⟨by kernel_rfl,by kernel_rfl⟩
theorem info2':(prog.info? 2).map (fun i=>(i.zero,i.size))=some (some (.int .i64 0),1):=by kernel_rfl
theorem zBF:Plain prog 2:=by unfold Plain;exact ⟨by kernel_rfl,by kernel_rfl⟩
theorem under41:prog.underlying 41=some (.slice 54):=by kernel_rfl
theorem info54':(prog.info? 54).map (fun i=>(i.zero,i.size))=some (some (.agg #[S [],S [],S [],S []]),4):=by kernel_rfl
def intL (l:List Int):Poly:=l.map fun n=>((n:Int):Rat)
theorem intL_take {l:List Int} (h:i<l.length):intL (l.take (i+1))=intL (l.take i)++[((l.getD i 0:Int):Rat)]:=by
 unfold intL;rw [List.take_succ_eq_append_getElem h,List.map_append,List.getD_eq_getElem?_getD,List.getElem?_eq_getElem h];rfl
theorem zIs {x y:Rat}:rcmpI x y=0↔x=y:=by
 constructor
 · intro h;exact Classical.byContradiction fun e=>zLO e h
 · intro h;subst h;unfold rcmpI;rw [if_neg (by grind),if_pos rfl]
theorem zJU {l:List Int} (hB:Blk w b 2 (l.map fun n => .int .i64 n)) (hll:l.length<4096) (hl:∀ n∈l,-9223372036854775808≤n∧n≤9223372036854775807):Ret prog 63 #[.slice (some ⟨b,0,none⟩) l.length l.length] w (fun r w'=>IsOwn w.heap.size w' r (intL l)):=by
 have E0:Ext w w:=Ext.refl w;refine J0 20 func63 rfl (rj fun K=>ag (rm [0] K ?_));refine rj fun K=>ag (rm [0,3] K ?_);refine zA (rj fun K=>ag (rm [0,3,4] K ?_));refine zF (zg (X:=Nat) (fun i ρ w'=>∃ vo,Keep ρ [(0,.slice (some ⟨b,0,none⟩) l.length l.length),(3,vo),(4,.int .i64 (i:Int))]∧i≤l.length∧Ext w w'∧AccP w.heap.size w' vo (intL (l.take i))) (fun i=>l.length-i) 0 ⟨_,(kp rfl),Nat.zero_le _,E0,AccP.nil⟩ ?_);clear E0;rintro i ρ1 w1 ⟨vo,hk,hil,E0,hA⟩;refine wpe_k _ hk ?_;clear hk ρ1;refine zA (rJ fun K=>mv (K1 (zI zn rfl (K8 rfl (rm [0,3,4,8] K ?_)))));refine K0 rfl ?_ ?_<;>intro hc
 · have hi:i<l.length:=t_lt hc;clear hc;refine sk (zA (zF (rI fun K=>mv (mv (K1 (zG zn rfl rfl (by omega) (by omega) ?_))))));have hbd:=hl (l.getD i 0) (by rw [List.getD_eq_getElem?_getD,List.getElem?_eq_getElem hi];exact List.getElem_mem hi);refine K1 (zD (v := .int .i64 (l.getD i 0)) zBF rfl (hB.ext E0) (by rw [Int.toNat_natCast,Nat.zero_add,Nat.mul_one,List.getElem?_map,List.getD_eq_getElem?_getD,List.getElem?_eq_getElem hi];rfl) ?_);refine K1 (j1 E0 hA.ext hb38 (Int_ok hbd.1 hbd.2) fun v16 w2 E0 hA N16 => ?_);obtain ⟨n16,d16,rfl,hn16,hd16⟩:=N16;have N16:IsNum _ (.agg #[.bool (decide (((l.getD i 0:Int):Rat)<0)),n16,d16]) ((l.getD i 0:Int):Rat):=⟨_,_,rfl,hn16,hd16⟩;clear hn16 hd16;refine K1 (zi (cs:=[.bool (decide (((l.getD i 0:Int):Rat)<0)),n16,d16]) zAc info37' (by decide) (by decide) (by kernel_rfl) fun sb w10 hb hE hBb hs => ?_);replace E0:=E0.trans hE;replace hA:=hA.ext hE;replace N16:=N16.ext hE;clear hE hb hs;refine K1 (zEh hA rfl hBb N16 (by unfold intL;simp;omega) E0.size fun v18 w11 hX hA2 => ?_);replace E0:=hX.ext (Nat.le_refl _) E0;clear hA hX hBb N16;refine ag (rl K (zR (zM (K5 [0,3,4] ?_))));refine rI fun K=>K1 (zf (b:=1) (i+1) rfl rfl rfl (by omega) (ag (rl K (zO ?_))));exact ⟨rfl,i+1,⟨_,(kp rfl),by omega,E0,by rw [intL_take hi];exact hA2⟩,by omega⟩
 · obtain rfl:i=l.length:=by have:=f_lt hc;omega
   clear hc;rw [List.take_length] at hA;refine zY (zx (zl (zL (zM (rJ fun K=>ag (rm [0,2,4] K ?_))))));refine zE (zQ ?_);exact ⟨rfl,_,zj rfl rfl,E0,hA.own (by unfold intL;simp;omega)⟩
theorem equal_ok {p q:Poly} (hp:IsPoly w u p) (hq:IsPoly w v q) (hr:p.length=q.length→∀ i,i<p.length→rroom (p.getD i 0) (q.getD i 0)=true):Ret prog 21 #[u,v] w (fun r _=>r = .bool (decide (p=q))):=by
 obtain ⟨pp,pc,rfl,hpc,hpP,hpl⟩:=hp;obtain ⟨qp,qc,rfl,hqc,hqP,hql⟩:=hq;have E0:Ext w w:=Ext.refl w;refine J0 27 func21 rfl (rj fun K=>ag (rm [0,1] K ?_));refine zA (rJ fun K=>K1 (zI zAB rfl (mv (K1 (zI zAB rfl (K8 rfl (rm [0,1,10] K ?_)))))));refine K0 rfl ?_ ?_<;>intro hc
 · have hne:p.length≠q.length:=by have:=bne_iff_ne.1 hc;omega
   clear hc;refine rj fun K=>ag (rm [0,1,4] K ?_);exact zE (zU (en rfl E0 (congrArg Value.bool (decide_eq_false (fun e=>hne (by rw [e]))).symm)))
 · have hle:p.length=q.length:=by have:=bne_eq_false_iff_eq.1 hc;omega
   clear hc;refine sk (zA (rj fun K=>ag (rm [0,1,5] K ?_)));refine zF (zg (X:=Nat) (fun i ρ w'=>Keep ρ [(0,.slice pp p.length pc),(1,.slice qp q.length qc),(5,.int .i64 (i:Int))]∧i≤p.length∧Ext w w'∧∀ j,j<i→p.getD j 0=q.getD j 0) (fun i=>p.length-i) 0 ⟨(kp rfl),Nat.zero_le _,E0,fun j hj=>absurd hj (by omega)⟩ ?_);clear E0;rintro i ρ1 w1 ⟨hk,hil,E0,heq⟩;refine wpe_k _ hk ?_;clear hk ρ1;refine zA (rJ fun K=>mv (K1 (zI zAB rfl (K8 rfl (rm [0,1,5,14] K ?_)))));refine K0 rfl ?_ ?_<;>intro hc
   · have hi:i<p.length:=t_lt hc;clear hc;refine sk (zA (zF (zA ?_)));have hpP1:=hpP.ext E0;have hqP1:=hqP.ext E0
     refine zAK [([(0,none)],none),([(5,none)],none),([(17,some 1),(18,some 0)],none),([(19,some 0)],none),([(1,none)],none),([(5,none)],none),([(21,some 1),(22,some 0)],none),([(23,some 0)],none),([(20,some 4),(24,some 0)],none),([(25,some 0)],none)] mixed (by kernel_rfl) (by kernel_rfl) (by kernel_rfl) fun K hK=>dvp (fun σ wx hE hk=>zC ⟨Ext.refl _,hk.1⟩) (dvp (fun σ wx hE hk=>zC ⟨Ext.refl _,hk.1⟩) (dcp (fun v _=>v = .pointer (pp.map fun a=>a.add (3*i))) (fun _ _ _ _ _ h=>h) (fun σ wx hE hk=>runs_pindex (hpP1.ext hE) hk.1 hk.2.1 hi ⟨Ext.refl _,rfl⟩) (dcp (fun v w'=>IsNum w' v (p.getD i 0)) (fun _ _ _ _ hx h=>h.ext hx.toExt) (fun σ wx hE hk=>runs_pload (hpP1.ext hE) hi hk.1 fun v h=>⟨Ext.refl _,h⟩) (dvp (fun σ wx hE hk=>zC ⟨Ext.refl _,hk.1⟩) (dvp (fun σ wx hE hk=>zC ⟨Ext.refl _,hk.1⟩) (dcp (fun v _=>v = .pointer (qp.map fun a=>a.add (3*i))) (fun _ _ _ _ _ h=>h) (fun σ wx hE hk=>runs_pindex (hqP1.ext hE) hk.1 hk.2.1 (by omega) ⟨Ext.refl _,rfl⟩) (dcp (fun v w'=>IsNum w' v (q.getD i 0)) (fun _ _ _ _ hx h=>h.ext hx.toExt) (fun σ wx hE hk=>runs_pload (hqP1.ext hE) (by omega) hk.1 fun v h=>⟨Ext.refl _,h⟩) (dvp (fun σ wx hE hk=>zH hb73 (CallK.of_ret (zDq hk.1 hk.2.1 (hr hle i hi)) fun v w2 hX hr=>⟨hX,hr⟩) rfl) (dvp (fun σ wx hE hk=>zJ hk.1 rfl rfl ⟨Ext.refl _,rfl⟩) (zAi (hK _ fun wq hE => ?_)))))))))))
     rintro _ rfl _ rfl v19 N19 v20 N20 _ rfl _ rfl v23 N23 v24 N24 _ rfl _ rfl;refine zh ?_;replace E0:=E0.trans hE;clear hE;refine zM (K5 [0,1,5,26] ?_);refine K0 rfl ?_ ?_<;>intro hc
     · have he:p.getD i 0≠q.getD i 0:=fun e=>(bne_iff_ne.1 hc) (zIs.2 e);clear hc;refine rj fun K=>ag (rm [0,1,4,5] K ?_);exact zE (zZ (zU (zAI (zZ (zU (en rfl E0 (congrArg Value.bool (decide_eq_false (fun e=>he (by rw [e]))).symm)))))))
     · have he:p.getD i 0=q.getD i 0:=zIs.1 (bne_eq_false_iff_eq.1 hc);clear hc;refine zp (zR (zM (rI fun K=>K1 (zf (b:=1) (i+1) rfl rfl rfl (by omega) (ag (rl K (zO ?_)))))));exact ⟨rfl,i+1,⟨(kp rfl),by omega,E0,fun j hj=>by by_cases e:j=i;(rw [e];exact he);exact heq j (by omega)⟩,by omega⟩
   · obtain rfl:i=p.length:=by have:=f_lt hc;omega
     clear hc;refine zY (zx (zl (zL (zM (rj fun K=>ag (rm [0,1,4,5] K ?_))))));refine zE (zQ ?_);exact ⟨rfl,_,zj rfl rfl,E0,congrArg Value.bool (decide_eq_true (List.ext_getElem hle fun j h1 h2=>by have:=heq j h1;rwa [List.getD_eq_getElem?_getD,List.getD_eq_getElem?_getD,List.getElem?_eq_getElem h1,List.getElem?_eq_getElem h2] at this)).symm⟩
end Go.Proofs.YtjiendlfobjanaaGreatDoor
namespace Go.Proofs.YtjiendlfobjanaaGreatDoor
open Go
variable {i k n:Nat}
def padD:Nat→Nat→List UInt8
 | 0,_=>[]
 | k+1,r=>padD k (r/10)++[UInt8.ofNat (48+r%10)]
def dec0 (n:Nat):List UInt8:=if n=0 then [] else Lib.decDigits n
theorem zLA (h:10≤n):Lib.decDigits n=Lib.decDigits (n/10)++[UInt8.ofNat (48+n%10)]:=by
 rw [Lib.decDigits,dif_neg (by omega)]
theorem dec_ne (n:Nat):Lib.decDigits n≠[]:=by
 rw [Lib.decDigits];split
 · simp
 · simp
theorem dec_split (k:Nat):∀ n,10^k≤n→Lib.decDigits n=dec0 (n/10^k)++padD k (n%10^k):=by
 induction k with
 | zero =>
  intro n h;have h0:n≠0:=by have:10^0=1:=rfl;omega
  simp [padD,dec0,h0]
 | succ k ih =>
  intro n h;have e:10^(k+1)=10*10^k:=by rw [Nat.pow_succ,Nat.mul_comm]
  have h1:0<10^k:=Nat.pow_pos (by decide);have h10:10≤n:=by rw [e] at h;omega
  have hq:10^k≤n/10:=by rw [e] at h;omega
  rw [zLA h10,ih _ hq,Nat.div_div_eq_div_mul,← e,List.append_assoc];congr 1;show _=padD k (n%10^(k+1)/10)++[UInt8.ofNat (48+n%10^(k+1)%10)];rw [e,Nat.mod_mul_right_div_self,Nat.mod_mod_of_dvd n (Nat.dvd_mul_right 10 _)]
theorem zKD:∀ k,padD k 0=List.replicate k 48
 | 0=>rfl
 | k+1=>by rw [padD,zKD k,List.replicate_succ'];rfl
theorem zJT:∀ (k r:Nat),0<k→r<10^k→padD k r=List.replicate (k-(Lib.decDigits r).length) 48++Lib.decDigits r∧(Lib.decDigits r).length≤k
 | 0,_,h,_=>absurd h (by decide)
 | k+1,r,_,hr=>by
  by_cases h:r<10
  · have e:Lib.decDigits r=[UInt8.ofNat (48+r)]:=by rw [Lib.decDigits,dif_pos h]
    rw [e,padD,show r/10=0 by omega,show r%10=r by omega,zKD];simp
  · have e:=zLA (n:=r) (by omega);have e2:10^(k+1)=10*10^k:=by rw [Nat.pow_succ,Nat.mul_comm]
    have hk:0<k:=by
     rcases Nat.eq_zero_or_pos k with rfl | hk
     · have:10^(0+1)=10:=rfl;omega
     · exact hk
    obtain ⟨h1,h2⟩:=zJT k (r/10) hk (by rw [e2] at hr;omega);rw [e,padD,h1];simp only [List.length_append,List.length_cons,List.length_nil,List.append_assoc];refine ⟨?_,by omega⟩;rw [show k+1-((Lib.decDigits (r/10)).length+(0+1))=k-(Lib.decDigits (r/10)).length by omega]
theorem padD_len:∀ k r,(padD k r).length=k
 | 0,_=>rfl
 | k+1,r=>by simp [padD,padD_len k]
theorem zJj (hn:n≠0):dec0 n=dec0 (n/10^k)++(if n/10^k=0 then dec0 (n%10^k) else padD k (n%10^k)):=by
 have hp:0<10^k:=Nat.pow_pos (by decide);by_cases h:n/10^k=0
 · have hlt:n<10^k:=(Nat.div_eq_zero_iff_lt hp).1 h;rw [if_pos h,h,Nat.mod_eq_of_lt hlt];simp [dec0]
 · rw [if_neg h];have hle:10^k≤n:=by
    rcases Nat.lt_or_ge n (10^k) with h1 | h1
    · exact absurd (Nat.div_eq_of_lt h1) h
    · exact h1
   rw [← dec_split k n hle,dec0,if_neg hn]
theorem dec0_ten (hn:n≠0):dec0 n=dec0 (n/10)++[UInt8.ofNat (48+n%10)]:=by
 by_cases h:n<10
 · rw [dec0,if_neg hn,Lib.decDigits,dif_pos h,show n/10=0 by omega,show n%10=n by omega];rfl
 · rw [dec0,if_neg hn,zLA (by omega),dec0,if_neg (by omega)]
theorem dec_len_le:∀ (k n:Nat),n<10^(k+1)→(Lib.decDigits n).length≤k+1:=fun k n h=>(zJT (k+1) n (Nat.succ_pos k) h).2
theorem zFh (n:Nat):(Lib.decDigits n).length≤n.log2+1:=by
 rcases Nat.eq_zero_or_pos n with rfl | h
 · rw [Lib.decDigits,dif_pos (by decide)];simp
 · refine dec_len_le _ _ ?_;have h1:n<2^(n.log2+1):=Nat.lt_log2_self;exact Nat.lt_of_lt_of_le h1 (Nat.pow_le_pow_left (by decide) _)
theorem zJm:∀ (k r:Nat),padD (k+1) (r%10^(k+1))=UInt8.ofNat (48+r/10^k%10) :: padD k (r%10^k)
 | 0,r=>by
  show padD 0 _++[UInt8.ofNat (48+r%10^1%10)]=UInt8.ofNat (48+r/1%10) :: [];rw [Nat.pow_one,Nat.mod_mod,Nat.div_one];rfl
 | k+1,r=>by
  have e:10^(k+1+1)=10*10^(k+1):=by rw [Nat.pow_succ,Nat.mul_comm]
  have e':10^(k+1)=10*10^k:=by rw [Nat.pow_succ,Nat.mul_comm]
  show padD (k+1) (r%10^(k+1+1)/10)++[UInt8.ofNat (48+r%10^(k+1+1)%10)]=_ :: (padD k (r%10^(k+1)/10)++[UInt8.ofNat (48+r%10^(k+1)%10)]);have h1:r%(10*10^(k+1))/10=r/10%10^(k+1):=Nat.mod_mul_right_div_self ..;have h2:r%(10*10^k)/10=r/10%10^k:=Nat.mod_mul_right_div_self ..;rw [e,h1,Nat.mod_mod_of_dvd _ (Nat.dvd_mul_right 10 _),zJm k (r/10),Nat.div_div_eq_div_mul,← e',e',h2,Nat.mod_mod_of_dvd _ (Nat.dvd_mul_right 10 _)];rfl
theorem zKU:dec0 0=[]:=rfl
theorem zGy (h:n≠0):dec0 n=Lib.decDigits n:=if_neg h
def zGj (all:Bool) (r i:Nat) (part:List UInt8):Prop:=if all then part=padD i (r%10^i) else dec0 r=dec0 (r/10^i)++part
theorem frontD_0 (all:Bool) (r:Nat):zGj all r 0 []:=by
 unfold zGj;split
 · rw [padD]
 · simp
theorem zHK {all:Bool} {r:Nat} {part:List UInt8} (h:zGj all r i part) (hr:all=true∨0<r/10^i):zGj all r (i+1) (UInt8.ofNat (48+r/10^i%10) :: part):=by
 unfold zGj at h ⊢;cases all with
 | true =>
  simp only [if_true] at h ⊢;rw [zJm,h]
 | false =>
  simp only [Bool.false_eq_true,if_false,false_or] at h hr ⊢;rw [h,dec0_ten (n:=r/10^i) (by omega),Nat.div_div_eq_div_mul,← Nat.pow_succ,List.append_assoc];rfl
theorem zIv {part:List UInt8} (hn:n≠0) (h:zGj (decide (n/10^9≠0)) (n%10^9) i part) (hi:i=9∨(n/10^9=0∧n%10^9/10^i=0)):dec0 n=dec0 (n/10^9)++part:=by
 rw [zJj (k:=9) hn];congr 1;unfold zGj at h;by_cases h0:n/10^9=0
 · rw [if_pos h0];simp only [h0,ne_eq,not_true_eq_false,decide_false,Bool.false_eq_true,if_false] at h;have:n%10^9/10^i=0:=by
    rcases hi with rfl | ⟨_,h⟩
    · exact Nat.div_eq_of_lt (Nat.mod_lt _ (by decide))
    · exact h
   rw [h,this];rfl
 · rw [if_neg h0];simp only [h0,ne_eq,not_false_eq_true,decide_true,if_true] at h;rcases hi with rfl | ⟨h1,_⟩
   · rw [h,Nat.mod_mod]
   · exact absurd h1 h0
end Go.Proofs.YtjiendlfobjanaaGreatDoor
namespace Go.Proofs.YtjiendlfobjanaaGreatDoor
open Go Go.RowKit Go.Proofs Tryz Go.Shelf Go.Sort
variable {E N b b2 c cap e n o:Nat} {K':Value→World→Prop} {P:Program} {T ty:TypeId} {af:Array Edge} {args:Array Value} {cs:List Value} {f:FuncId} {g:Option (Nat×Bool)} {pos:String} {ps:List (List UInt8)} {r:Option Nat} {v:Value} {w w':World} {x y:Operand} {α:Type} {σ:Operand→Value}
def StrB (sz:Nat) (w:World) (v:Value) (ps:List (List UInt8)):Prop :=
 ∃ p c,v = .slice p ps.length c∧ps.length≤c∧((ps=[]∧p=none∧c=0)∨∃ b cs,p=some ⟨b,0,none⟩∧sz≤b∧Blk w b 9 cs∧cs.length=c∧cs.take ps.length=ps.map S)
theorem StrB.nil (sz:Nat) (w:World):StrB sz w (.slice none 0 0) []:=⟨none,0,rfl,Nat.le_refl _,.inl ⟨rfl,rfl,rfl⟩⟩
theorem StrB.ext {sz:Nat} (h:StrB sz w v ps) (hx:Ext w w'):StrB sz w' v ps:=by
 obtain ⟨p,c,h1,h2,h3⟩:=h;refine ⟨p,c,h1,h2,?_⟩;rcases h3 with h | ⟨b,cs,e1,e2,e3,e4,e5⟩
 · exact .inl h
 · exact .inr ⟨b,cs,e1,e2,e3.ext hx,e4,e5⟩
structure Near (sz:Nat) (w w':World):Prop where
 ext:∀ W:World,W.heap.size=sz→Ext W w→Ext W w'
 words:∀ v n,IsW w v n→IsW w' v n
theorem Near.of_ext {sz:Nat} (h:Ext w w'):Near sz w w':=⟨fun _ _ hx=>hx.trans h,fun _ _ hw=>hw.ext h⟩
theorem Near.of_upd {sz:Nat} (h:Upd b w w') (hB:Blk w b 9 cs) (hs:sz≤b):Near sz w w' :=
 ⟨fun _ e hx=>hx.upd h (by omega),fun _ _ hw=>hw.upd h hB (by decide)⟩
theorem splice_one_take (v:Value) (h:n<cs.length):(zBI cs n [v]).take (n+1)=cs.take n++[v]:=by
 show (cs.set n v).take (n+1)=_;rw [List.take_succ_eq_append_getElem (by rw [List.length_set];exact h),List.take_set_of_le (Nat.le_refl n),List.getElem_set_self]
section laws
variable {K:Value→World→Prop} {d:Option Tmp}
theorem runs_app_str {sz c2:Nat} {s:List UInt8} (hx:σ x=v) (hA:StrB sz w v ps) (hy:σ y = .slice (some ⟨b2,0,none⟩) 1 c2) (hB:Blk w b2 9 [S s]) (hl:ps.length≤1099511627776) (hs:sz≤w.heap.size)
 (hk:∀ v' w',Near sz w w'→StrB sz w' v' (ps++[s])→K v' w'):Runs prog r ⟨d,.call { callee := .builtin .append,args := #[x,y],argTypes := #[304,304] },ty,pos,af,g⟩ σ w K:=by
 obtain ⟨p,c,h1,h2,h3⟩:=hA;have e:v = .slice p ps.length c:=h1;subst e;by_cases hc:ps.length+1≤c
 · rcases h3 with ⟨_,_,e3⟩ | ⟨b,cs,e1,e2,e3,e4,e5⟩
   · omega
   · subst e1;refine zAg (n:=1) zDi zDi info9 hx hy e3 (Cells.blk hB) rfl hc (by omega) rfl fun w' hU hN=>hk _ _ (Near.of_upd hU e3 e2) ⟨_,c,by simp,by simpa using hc,.inr ⟨b,_,rfl,e2,hN,by rw [zAh];exact e4,?_⟩⟩;rw [Nat.zero_add,Nat.mul_one,List.length_append,show [s].length=1 from rfl,splice_one_take _ (by omega),e5,List.map_append];rfl
 · have hnew:=zAS (ps.length+1) c;have hold:Cells w p 9 (ps.map S):=by
    rcases h3 with ⟨e1,_,_⟩ | ⟨b,cs,e1,e2,e3,e4,e5⟩
    · subst e1;exact .inl rfl
    · exact .inr ⟨b,0,cs,e1,e3,by rw [List.length_map,List.drop_zero];exact e5⟩
   refine zAO zDi zDi info9 rfl (by decide) hx hy hold (by simp) (Cells.blk hB) rfl (by omega) (by omega) fun w' rest c' g1 hE hB' g2 _=>hk _ _ (Near.of_ext hE) ⟨_,c',by simp,by simpa using g1,.inr ⟨w.heap.size,_,rfl,hs,hB',?_,?_⟩⟩
   · rw [g2];simp [Builtin.zeroCells,Value.cells];omega
   · rw [List.take_append_of_le_length (by simp),List.take_of_length_le (by simp),List.map_append];rfl
theorem zGV {sT dT:Nat} {l:List UInt8} (hS:prog.underlying sT=some (.slice e)) (he:prog.underlying e=some (.int .u8)) (hD:prog.underlying dT=some .string) (hx:σ x = .slice (some ⟨b,o,none⟩) n cap) (hn:n=l.length) (hB:Blk w b T cs)
 (hl:∀ j (h:j<l.length),cs[o+j]? = some (.int .u8 (l[j].toNat:Int))) (hk:K (S l) w):Runs prog r ⟨d,.convert sT dT x,ty,pos,af,g⟩ σ w K:=by
 subst hn;refine zo (fun _ e=>by cases e) ?_ hk;have:=run_convert_bytes_back (P:=prog) w sT dT e ⟨b,o,none⟩ cap l hS he hD (fun j hj=>by rw [zAa,hB.cell];exact hl j hj);simp [execOp,hx,this]
end laws
theorem putCells_list [Inhabited α] (enc:α→Value) (d:Array α) (cs:List Value) (h:d.size≤cs.length):(putCells enc 0 d ⟨cs⟩).toList=d.toList.map enc++cs.drop d.size:=by
 refine List.ext_getElem? fun k => ?_;unfold putCells;rw [Array.getElem?_toList,Array.getElem?_mapIdx];by_cases hk:k<d.size
 · have:cs[k]? = some cs[k]:=by simp
   rw [List.getElem?_append_left (by simpa using hk)];simp [hk,this,getElem!_pos]
 · rw [List.getElem?_append_right (by simp;omega)];simp only [Nat.zero_le,true_and,Nat.zero_add,if_neg hk,List.getElem?_drop,List.length_map,Array.length_toList];rw [show d.size+(k-d.size)=k by omega];simp
theorem zIp [Inhabited α] (enc:α→Value) (d:Array α) (h:Blk w b T cs) (hd:d.size≤cs.length) (w':World) (e:w'=(putRow enc w b 0 d).drewN n∨w'=putRow enc (Go.Sort.ahead w n) b 0 d):Upd b w w'∧Blk w' b T (d.toList.map enc++cs.drop d.size):=by
 have hb:w.heap[b]? = some (.cells ⟨cs⟩ T (0,0)):=h;have hw:w'.heap=w.heap.modify b (onCells (putCells enc 0 d))∧w'.os=w.os∧w'.tape=w.tape∧w'.output=w.output:=by
  rcases e with rfl | rfl<;>exact ⟨rfl,rfl,rfl,rfl⟩
 have hheap:∀ k,w'.heap[k]? = if b=k then (w.heap[k]?).map (onCells (putCells enc 0 d)) else w.heap[k]? := fun k=>by
  rw [hw.1,Array.getElem?_modify]
 have hB':Blk w' b T (d.toList.map enc++cs.drop d.size):=by
  show w'.heap[b]? = _;rw [hheap,if_pos rfl,hb,← putCells_list enc d cs hd];rfl
 refine ⟨⟨hw.2.1,hw.2.2.1,hw.2.2.2,by rw [hw.1];simp,fun k hk=>by rw [hheap,if_neg (Ne.symm hk)],fun T cs' hk => ?_⟩,hB'⟩;obtain ⟨rfl,rfl⟩:=h.inj hk;exact ⟨_,hB'⟩
theorem zKP [Inhabited α] (enc:α→Value) (d:Array α) (h:Blk w b T cs) (hd:cs.take d.size=d.toList.map enc):Holds enc w b 0 d:=fun j hj=>by
 refine ⟨?_,?_⟩
 · rw [Blk.cell h,Nat.zero_add,← List.getElem?_take_of_lt hj,hd];simp [hj]
 · unfold World.frozen?;rw [show w.heap[(⟨b,0+j,none⟩:Addr).block]? = _ from h];simp
theorem zMm:encStr=S:=by funext l;rfl
theorem revS_ok {sz:Nat} (h:StrB sz w v ps) (hne:ps≠[]) (hl:ps.length≤1099511627776):CallK prog 242 #[v] w (fun _ w'=>Near sz w w'∧StrB sz w' v ps.reverse):=by
 obtain ⟨p,c,rfl,h2,h3⟩:=h;rcases h3 with ⟨e,_⟩ | ⟨b,cs,rfl,e2,e3,e4,e5⟩
 · exact absurd e hne
 · have hc:=Tryz.slices_Reverse_string b 0 c ps w (zKP encStr _ e3 (by rw [zMm];simpa using e5)) (by omega);refine Calls.mono hc ?_;rintro e w' ⟨rfl,n,hw⟩;obtain ⟨hU,hB⟩:=zIp encStr _ e3 (by simp;omega) w' (.inr hw);refine ⟨_,rfl,Near.of_upd hU e3 e2,_,c,by simp,by simpa using h2,.inr ⟨b,_,rfl,e2,hB,?_,?_⟩⟩
   · simp;omega
   · rw [List.take_append_of_le_length (by simp),List.take_of_length_le (by simp),zMm]
theorem join_nil_sep (ps:List (List UInt8)):Lib.join ps []=ps.flatten:=by
 cases ps with
 | nil=>rfl
 | cons x r=>rw [Lib.join_cons];simp [Lib.joinTail]
theorem joinS_ok {sz:Nat} (h:StrB sz w v ps) (hne:ps≠[]) (hl:ps.length≤1099511627776) (hj:ps.flatten.length≤140737488355328):Ret prog 243 #[v,S []] w (fun r _=>r=S ps.flatten):=by
 obtain ⟨p,c,rfl,h2,h3⟩:=h;rcases h3 with ⟨e,_⟩ | ⟨b,cs,rfl,e2,e3,e4,e5⟩
 · exact absurd e hne
 · have hm:(ps.map fun l=>(⟨l.toArray⟩:ByteArray)).map (·.data.toList)=ps:=by
    rw [List.map_map]
    conv=>rhs;rw [← List.map_id ps]
    exact List.map_congr_left fun l _=>by simp
   have hjj:Lib.join ((ps.map fun l=>(⟨l.toArray⟩:ByteArray)).map (·.data.toList)) (⟨#[]⟩:ByteArray).data.toList=ps.flatten:=by
    rw [hm];exact join_nil_sep ps
   have:=Tryz.strings_Join b 0 c (ps.map fun l=>⟨l.toArray⟩) ⟨#[]⟩ w (fun j y hy=>by
    have hjl:j<ps.length:=by
     have:=(List.getElem?_eq_some_iff.1 hy).1;simpa using this
    rw [Blk.cell e3,Nat.zero_add,← List.getElem?_take_of_lt hjl,e5];simp only [List.getElem?_map] at hy ⊢;cases hp:ps[j]? with
    | none=>rw [hp] at hy;cases hy
    | some l=>rw [hp] at hy;cases hy;rfl) e3.lt (by simp;omega) (by simpa using h2) (by rw [hjj];exact hj)
   rw [hjj,List.length_map] at this;exact this.mono fun e w' ⟨he,hw⟩=>⟨_,he,hw,rfl⟩
theorem zIu:∀ n,Lib.repeatL [48] n=List.replicate n (48:UInt8)
 | 0=>rfl
 | n+1=>by rw [Lib.repeatL,zIu n];rfl
theorem row_num {u v':Nat} {dk:Array UInt8} (h:Lib.FmtInv (Lib.nDigits u) u 0 v' dk) (j:Nat) (hj:j<(Lib.decDigits u).length):(Lib.decDigits u)[j]=dk[j]! := by
 have hl:j<Lib.nDigits u:=by rw [Lib.decDigits_length] at hj;exact hj
 rw [h.done j (Nat.zero_le _) hl];simp only [Lib.decDigits_eq u,List.getElem_map,List.getElem_range]
theorem repeat0_ok (hc:c≤100):Ret prog 241 #[S [48],.int .i64 (c:Int)] w (fun r _=>r=S (List.replicate c 48)):=by
 have:=Tryz.strings_Repeat ⟨[48].toArray⟩ c w (by omega) (by show 1*c≤_;omega);have e:Lib.repeatL (⟨[48].toArray⟩:ByteArray).data.toList c=List.replicate c 48:=zIu c;rw [e] at this;exact this.mono fun e w' ⟨he,hw⟩=>⟨_,he,hw,rfl⟩
def Pow10 (w:World):Prop:=Lib.TabIs prog w "internal/strconv.uint64pow10" .u64 Lib.pow10Tab
theorem Pow10.ext (h:Pow10 w) (hx:Ext w w'):Pow10 w':=by
 unfold Pow10 Lib.TabIs World.var? at *;cases hg:prog.globalNamed "internal/strconv.uint64pow10" with
 | none=>rw [hg] at h;cases h
 | some g =>
  rw [hg] at h;simp only [Option.bind_some] at h ⊢;cases ho:w.heap[g]? with
  | none=>rw [ho] at h;simp at h
  | some o=>rw [hx.heap ho];rw [ho] at h;exact h
theorem CallK.weak {K:Value→World→Prop} (h:CallK P f args w K) (hk:∀ v w',K v w'→K' v w'):CallK P f args w K':=by
 unfold CallK at *;exact Calls.mono h fun _ _ ⟨v,e,q⟩=>⟨v,e,hk v _ q⟩
theorem fmt10_ok {u:Nat} (hB:Blk w b 380 (List.replicate 24 (.int .u8 0))) (h1:1≤u) (h2:u<18446744073709551616):CallK prog 333 #[.slice (some ⟨b,0,none⟩) (Lib.nDigits u) 24,.int .u64 (u:Int)] w (fun _ w'=>Upd b w w'∧∃ cs,Blk w' b 380 cs∧∀ j (h:j<(Lib.decDigits u).length),cs[0+j]? = some (.int .u8 ((Lib.decDigits u)[j].toNat:Int))):=by
 have hnd:Lib.nDigits u≤20:=by have:=Lib.numDigits_eq u h1 h2;split at this<;>omega
 have hH:=zKP (fun (b:UInt8)=>Value.int .u8 (b.toNat:Int)) (Array.replicate (Lib.nDigits u) 0) hB (by rw [Array.size_replicate,List.take_replicate,Nat.min_eq_left (by omega)];simp);have hc:=Tryz.internal_strconv_formatBase10 b 0 24 u (Array.replicate (Lib.nDigits u) 0) w hH (by rw [Array.size_replicate];exact Lib.lt_pow_nDigits u) h2 (by rw [Array.size_replicate];omega);rw [Array.size_replicate] at hc;refine Calls.mono hc ?_;rintro e w' ⟨rfl,n,v',dk,hw,hF⟩;have hsz:=hF.size;obtain ⟨hU,hB'⟩:=zIp _ dk hB (by rw [hsz];simp;omega) w' (.inl hw);refine ⟨_,rfl,hU,_,hB',fun j hj => ?_⟩;have hj':j<dk.size:=by rw [hsz];rw [Lib.decDigits_length] at hj;exact hj
 rw [Nat.zero_add,List.getElem?_append_left (by simpa using hj'),row_num hF j hj,getElem!_pos dk j hj'];simp [hj']
theorem zMD:prog.underlying 380=some (.array 24 5):=by kernel_rfl
theorem zero380:((prog.info? 380).bind (·.zero))=some (.agg (Array.replicate 24 (.int .u8 0))):=by kernel_rfl
theorem numDigits_ok {u:Nat} (h1:1≤u) (h2:u<18446744073709551616) (hP:Pow10 w):Ret prog 332 #[.int .u64 (u:Int)] w (fun r _=>r = .int .i64 (Lib.nDigits u)) :=
 (Tryz.internal_strconv_numDigits u h1 h2 w hP).mono fun e w' ⟨he,hw⟩=>⟨_,he,by rw [hw];exact Ext.refl w,rfl⟩
theorem zIQ {K:Value→World→Prop} {d:Option Tmp} {T h:Nat} {hi:Operand} (hT:P.underlying T=some (.array N E)) (hE:(P.info? E).map (·.size)=some 1) (hx:σ x = .pointer (some ⟨b,0,none⟩)) (hh:σ hi = .int .i64 (h:Int)) (hn:h≤N) (hk:K (.slice (some ⟨b,0,none⟩) h N) w):Runs P r ⟨d,.slice T x none (some hi) none,ty,pos,af,g⟩ σ w K:=by
 refine zo (fun _ e=>by cases e) ?_ hk;have hl:P.arrayLen T=N:=by simp [Program.arrayLen,hT]
 cases hi:P.info? E with
 | none=>rw [hi] at hE;cases hE
 | some i =>
  rw [hi] at hE;simp at hE;simp only [execOp,Option.map_none,Option.map_some,hx,hh];have hh2:=run_sliceAt_array_h (P:=P) w T ⟨b,0,none⟩ (by simp [Program.arrayLen,Program.elem,hT]) .i64 (h:Int) (by omega) (by rw [hl];omega);simp [Program.elem,hT,sizeOf,typeInfo,hi,hE,slicedAt,hl] at hh2;simp [hh2,zAa]
end Go.Proofs.YtjiendlfobjanaaGreatDoor
namespace Go.Proofs.YtjiendlfobjanaaGreatDoor
open Go Go.RowKit Go.Proofs Tryz
set_option maxRecDepth 10000
set_option maxHeartbeats 2000000
attribute [local irreducible] Runs WPE CallK Ret
variable {i m n:Nat} {ps:List (List UInt8)} {q:Rat} {v:Value} {w:World}
def Fine (n:Nat):Prop:=n.log2<1000000000
theorem Fine.fit (h:Fine n):Fit n:=Nat.lt_trans h (by decide)
theorem Fine.len (h:Fine n):(Lib.decDigits n).length≤1000000000:=Nat.le_trans (zFh n) h
theorem Fine.le (h:Fine n) (hm:m≤n):Fine m:=by
 unfold Fine at *;rcases Nat.eq_zero_or_pos m with rfl | hp
 · decide
 · exact Nat.lt_of_le_of_lt ((Nat.le_log2 (by omega)).2 (Nat.le_trans ((Nat.le_log2 (by omega)).1 (Nat.le_refl _)) hm)) h
theorem ndigits_le {u:Nat} (h1:1≤u) (h2:u<18446744073709551616):Lib.nDigits u≤20:=by have:=Lib.numDigits_eq u h1 h2;split at this<;>omega
theorem zEv:prog.underlying 109=some (.slice 5):=by kernel_rfl
theorem under5m:prog.underlying 5=some (.int .u8):=by kernel_rfl
theorem size5:(prog.info? 5).map (·.size)=some 1:=by kernel_rfl
theorem fmt2_all (h:i<18446744073709551616) (hP:Pow10 w):Ret prog 298 #[.int .u64 (i:Int),.int .i64 10] w (fun r _=>r=S (Lib.decDigits i)):=by
 refine J0 32 func298 rfl (rj fun K=>ag (rm [0,1] K ?_));refine zA (rJ fun K=>K8 rfl (rm [0,1,10] K ?_));refine wct rfl (zA (rJ fun K=>K8 rfl (rm [0,12] K ?_)));refine K0 rfl ?_ ?_<;>intro hc
 · have h100:i<100:=by have:=of_decide_eq_true hc;omega
   clear hc;refine rJ fun K=>K1 (zBM under164' under3' rfl ?_);rw [show IntKind.i64.wrap (i:Int)=(i:Int) from zm (by omega) (by omega)];refine K1 (j0 E0 hb331 (zKc h100) fun vi w2 E0 hr => ?_);subst hr;refine ag (rm [4] K ?_);exact zE (zU (zU (en rfl E0 rfl)))
 · have h100:100≤i:=by have:=of_decide_eq_false hc;omega
   clear hc;refine sk (rj fun K => ?_);refine K1 (zV zero380 fun b w1 hb hE hB hs => ?_);replace E0:=E0.trans hE;replace hP:=hP.ext hE;clear hE hs;have hge:w.heap.size≤b:=by omega
   clear hb;replace hB:Blk _ b 380 (List.replicate 24 (.int .u8 0)):=hB;refine rm [0,5] K ?_;refine rJ fun K=>K1 (j1 E0 hB.ext hb332 (numDigits_ok (by omega) h hP) fun vi w2 E0 hB hr => ?_);subst hr;refine ag (rm [0,5,6] K ?_);refine rj fun K=>mv ?_;have hnd:=ndigits_le (by omega) h;refine K1 (zIQ zMD size5 rfl rfl (by omega) (mv (K1 (zH hb333 (CallK.weak (fmt10_ok hB (by omega) h) fun vr w2 hr => ?_) rfl))));obtain ⟨hU,cs,hB2,hcs⟩:=hr;replace E0:=E0.upd hU hge;clear hU hB hP;refine rm [5,6] K ?_;refine rJ fun K=>K1 (zIQ zMD size5 rfl rfl (by omega) (K1 (zGV zEv under5m zAD rfl (Lib.decDigits_length i).symm hB2 hcs (ag (rm [4] K ?_)))));exact zE (zU (en rfl E0 rfl))
theorem fmt_all (h:i<18446744073709551616) (hP:Pow10 w):Ret prog 240 #[.int .u64 (i:Int),.int .i64 10] w (fun r _=>r=S (Lib.decDigits i)):=by
 refine J0 8 func240 rfl (rj fun K=>ag (rm [0,1] K ?_));refine rJ fun K=>mv (K1 (j0 E0 hb298 (fmt2_all h hP) fun vi w2 E0 hr => ?_));subst hr;refine ag (rm [4] K ?_);exact zE (en rfl E0 rfl)
theorem dec0_step18 (hn:n≠0):dec0 n=dec0 (n/1000000000000000000)++(if n/1000000000000000000=0 then dec0 (n%1000000000000000000) else padD 18 (n%1000000000000000000)):=zJj (k:=18) hn
theorem padD_dec18 {r:Nat} (h:r<1000000000000000000):padD 18 r=List.replicate (18-(Lib.decDigits r).length) 48++Lib.decDigits r∧(Lib.decDigits r).length≤18:=zJT 18 r (by decide) h
theorem grp_le {s:List UInt8} (h:2^(8*ps.length)*m≤n):2^(8*(ps++[s]).length)*(m/1000000000000000000)≤n:=by
 refine Nat.le_trans ?_ h;rw [List.length_append,List.length_singleton,Nat.mul_add,Nat.pow_add,Nat.mul_assoc];refine Nat.mul_le_mul_left _ ?_;omega
theorem zMo (hm:m≠0) (h:2^(8*ps.length)*m≤n):8*ps.length≤n.log2:=by
 have h1:2^(8*ps.length)≤n:=Nat.le_trans (Nat.le_mul_of_pos_right _ (by omega)) h;have h2:0<2^(8*ps.length):=Nat.pow_pos (by decide);exact (Nat.le_log2 (by omega)).2 h1
theorem zMQ (hx:IsW w v n) (hn:Fine n) (hP:Pow10 w):Ret prog 150 #[v] w (fun r _=>r=S (Lib.decDigits n)):=by
 obtain ⟨p,l,c,rfl,hl0⟩:=hx.form;have E0:Ext w w:=Ext.refl w;refine J0 38 func150 rfl (rj fun K=>ag (rm [0] K ?_));refine zA (rJ fun K=>K1 (zI zd rfl (K8 rfl (rm [0,9] K ?_))));refine K0 rfl ?_ ?_<;>intro hc
 · have hn0:n=0:=hl0.1 (by have:=eq_of_beq hc;omega);clear hc;refine rj fun K=>ag (rm [0,2] K ?_);refine zE (zU (zQ ?_));exact ⟨rfl,_,zj rfl rfl,E0,by rw [hn0,zFf];rfl⟩
 · have hn0:n≠0:=fun e=>by rw [hl0.2 e] at hc;cases hc
   clear hc;refine sk (rj fun K=>ag (rm [0,3] K ?_));refine zA (zF (zg (X:=Nat×List (List UInt8)) (fun (x:Nat×List (List UInt8)) ρ w'=>∃ va vp,Keep ρ [(0,va),(3,vp)]∧Ext w w'∧IsW w' va x.1∧StrB w.heap.size w' vp x.2∧dec0 x.1++x.2.reverse.flatten=dec0 n∧2^(8*x.2.length)*x.1≤n∧8*x.2.length≤n.log2+8) (fun x=>x.1) (n,[]) ⟨_,_,(kp rfl),E0,hx.ext E0,StrB.nil _ _,by simp,by simp,by simp⟩ ?_));clear E0;rintro ⟨m,ps⟩ ρ1 w1 ⟨va,vp,hk,E0,hA,hS,hd,hle,hps⟩;dsimp only at hA hS hd hle hps;obtain ⟨p1,l1,c1,rfl,hl1⟩:=hA.form;refine wpe_k _ hk ?_;clear hk ρ1;refine zA (rJ fun K=>K1 (zI zd rfl (K8 rfl (rm [0,3,12] K ?_))));refine K0 rfl ?_ ?_<;>intro hc
   · have hm:m≠0:=fun e=>by have h1:=hl1.2 e;have:=of_decide_eq_true hc;omega
     clear hc;refine sk (zF (rj fun K=>mv ?_));have hmn:m≤n:=Nat.le_trans (Nat.le_mul_of_pos_left _ (Nat.pow_pos (by decide))) hle;have hpl:ps.length≤1099511627776:=by have:=zMo hm hle;have:n.log2<1000000000:=hn;omega
     refine K1 (j1 E0 hS.ext hb239 (zLa (b:=1000000000000000000) hA (hn.le hmn).fit (by decide) (by decide)) fun v15 w2 E0 hS hr => ?_);obtain ⟨q,rfl,N15⟩:=hr;replace N15:IsW _ q (m/1000000000000000000):=N15;clear hA hl1 hmn;refine mv (xt rfl (xt rfl (ag (ag (rm [0,3,4,5] K ?_)))));refine rJ fun K=>K1 (j2 E0 N15.ext hS.ext hb240 (fmt_all (Nat.lt_of_lt_of_le (Nat.mod_lt m (by decide)) (by decide)) (hP.ext E0)) fun vi w2 E0 N15 hS hr => ?_);subst hr;obtain ⟨qp,ql,qc,rfl,hql⟩:=N15.form;refine ag (rm [0,3,4,6] K ?_);refine zAu (fun ρ w'=>Keep ρ [(3,vp),(4,.slice qp ql qc),(6,S (if m/1000000000000000000=0 then dec0 (m%1000000000000000000) else padD 18 (m%1000000000000000000)))]∧Ext w w'∧IsW w' (.slice qp ql qc) (m/1000000000000000000)∧StrB w.heap.size w' vp ps) ?_ ?_
     · refine rJ fun K=>K1 (zI zd rfl (K8 rfl (rm [0,3,4,6,22] K ?_)));refine K0 rfl ?_ ?_<;>intro hc
       · have hq:m/1000000000000000000≠0:=fun e=>by have h1:=hql.2 e;have:=of_decide_eq_true hc;omega
         clear hc;obtain ⟨hpad,hlen⟩:=padD_dec18 (Nat.mod_lt m (by decide));refine rI fun K=>K1 (zz zAD rfl (K1 (zAJ (a:=18) (b:=(Lib.decDigits (m%1000000000000000000)).length) (18-(Lib.decDigits (m%1000000000000000000)).length) rfl rfl (by omega) (by omega) (K1 (j2 E0 N15.ext hS.ext hb241 (repeat0_ok (by omega)) fun vi w2 E0 N15 hS hr => ?_)))));subst hr;refine mv ?_;refine K1 (zBA rfl rfl (by simp;omega) ?_);refine ag (rl K (zO ?_));exact ⟨rfl,⟨rfl,rfl,rfl,rfl,rfl,by rw [if_neg hq,hpad];rfl,trivial⟩,E0,N15,hS⟩
       · have hq:m/1000000000000000000=0:=hql.1 (by have:=of_decide_eq_false hc;omega);clear hc;refine zp (zO ?_);exact ⟨rfl,⟨rfl,rfl,rfl,rfl,rfl,by rw [if_pos hq,zGy (fun e=>hm (by have:=Nat.div_add_mod m 1000000000000000000;rw [hq,e] at this;exact this.symm))];rfl,trivial⟩,E0,N15,hS⟩
     · clear E0 N15 hS hql;rintro ρ2 w2 ⟨hk,E0,N15,hS⟩;refine wpe_k _ hk ?_;clear hk ρ2;refine rJ fun K=>mv ?_;refine K1 (zi (cs:=[S (if m/1000000000000000000=0 then dec0 (m%1000000000000000000) else padD 18 (m%1000000000000000000))]) zDi info9' (by decide) (by decide) (by kernel_rfl) fun sb w10 hb hE hBb hs => ?_);replace E0:=E0.trans hE;replace N15:=N15.ext hE;replace hS:=hS.ext hE;clear hE hb hs;refine K1 (runs_app_str rfl hS rfl hBb hpl E0.size fun v' w' hN hS => ?_);replace E0:=hN.ext _ rfl E0;replace N15:=hN.words _ _ N15;clear hBb hN;refine ag (rm [3,4] K ?_);refine rI fun K=>ag (rl K (zR (zO (⟨rfl,(m/1000000000000000000,ps++[if m/1000000000000000000=0 then dec0 (m%1000000000000000000) else padD 18 (m%1000000000000000000)]),⟨_,_,(kp rfl),E0,N15,hS,?_,?_,?_⟩,?_⟩))))
       · rw [List.reverse_append,List.reverse_singleton,List.singleton_append,List.flatten_cons,← List.append_assoc,← dec0_step18 hm];exact hd
       · exact grp_le hle
       · have:=zMo hm hle;simp;omega
       · show m/1000000000000000000<m;exact Nat.div_lt_self (by omega) (by decide)
   · have hm:m=0:=hl1.1 (by have:=of_decide_eq_false hc;omega);clear hc;subst hm;rw [zKU,List.nil_append,zGy hn0] at hd;have hne:ps≠[]:=fun e=>by subst e;exact dec_ne n hd.symm
     have hfl:ps.reverse.flatten.length≤1000000000:=by rw [hd];exact hn.len
     have hpl:ps.length≤1099511627776:=by have:n.log2<1000000000:=hn;omega
     clear hle hps hA hl1;refine zY (zx (zl (zL (zM (rJ fun K=>K1 (zH hb242 (CallK.weak (revS_ok hS hne hpl) fun vr w2 hr => ?_) rfl))))));obtain ⟨hN,hS⟩:=hr;replace E0:=hN.ext _ rfl E0;clear hN;refine rm [0,3] K ?_;refine rJ fun K=>K1 (j0 E0 hb243 (joinS_ok hS (by simpa using hne) (by simpa using hpl) (by omega)) fun vi w2 E0 hr => ?_);subst hr;refine ag (rm [0,2] K ?_);refine zE (zQ ?_);exact ⟨rfl,_,zj rfl rfl,E0,by rw [hd];rfl⟩
theorem zLb (hx:IsNum w v q) (hq1:Fine q.num.natAbs) (hq2:Fine q.den) (hP:Pow10 w):Ret prog 64 #[v] w (fun r _=>r=S (textS q)):=by
 obtain ⟨n,d,rfl,hn,hd⟩:=hx;have E0:Ext w w:=Ext.refl w;refine J0 22 func64 rfl (rj fun K => ?_);refine K1 (zt fun b1 w1 hb hE hB1 hs => ?_);have hgb1:w.heap.size≤b1:=by rw [hb];exact E0.size
 replace E0:=E0.trans hE;clear hE hs hb;refine ag (rm [1] K ?_);refine zA ?_;replace hB1:Blk _ b1 37 [.bool (decide (q<0)),n,d]:=hB1;replace hn:=hn.ext E0;replace hd:=hd.ext E0;refine K6 fun K=>K1 (zB zCJ rfl (K1 (zD zAb rfl hB1 rfl (K1 (j3 E0 hB1.ext hn.ext hd.ext hb150 (zMQ hn hq1 (hP.ext E0)) fun vi w2 E0 hB1 hn hd hr => ?_)))));subst hr;refine ag (rs [1,3] K ?_);refine zAu (fun ρ w'=>Keep ρ [(1,.pointer (some ⟨b1,0,none⟩)),(3,S ((if q<0 then [45] else [])++Lib.decDigits q.num.natAbs))]∧Ext w w'∧Blk w' b1 37 [.bool (decide (q<0)),n,d]∧IsW w' d (if q.den=1 then 0 else q.den)) ?_ ?_
 · refine rj fun K=>K1 (zB zDC rfl (K1 (zD zCg rfl hB1 rfl (rm [1,3,8] K ?_))));refine K0 rfl ?_ ?_<;>intro hc
   · have hneg:q<0:=of_decide_eq_true hc;clear hc;refine K6 fun K=>mv ?_;refine K1 (zBA (a:=[45]) rfl rfl (by have:=hq1.len;simp;omega) ?_);refine ag (rl K (zO ?_));exact ⟨rfl,⟨rfl,rfl,rfl,by rw [if_pos hneg];rfl,trivial⟩,E0,hB1,hd⟩
   · have hneg:¬ q<0:=of_decide_eq_false hc;clear hc;refine zp (zO ?_);exact ⟨rfl,⟨rfl,rfl,rfl,by rw [if_neg hneg];rfl,trivial⟩,E0,hB1,hd⟩
 · clear E0 hB1 hd hn;rintro ρ2 w2 ⟨hk,E0,hB1,hd⟩;refine wpe_k _ hk ?_;clear hk ρ2;refine zA (rj fun K=>K1 (zB zEa rfl (K1 (zD zAb rfl hB1 rfl ?_))));obtain ⟨dp,dl,dc,rfl,hdl⟩:=hd.form;refine K1 (zI zd rfl (K8 rfl (rm [1,3,14] K ?_)));refine K0 rfl ?_ ?_<;>intro hc
   · have hd1:q.den≠1:=fun e=>by
      have h1:dl=0:=hdl.2 (if_pos e);have:=of_decide_eq_true hc;omega
     clear hc;rw [if_neg hd1] at hd;refine rI fun K=>K1 (zB zEa rfl (K1 (zD zAb rfl hB1 rfl (K1 (j0 E0 hb150 (zMQ hd hq2 (hP.ext E0)) fun vi w2 E0 hr => ?_)))));subst hr;refine K1 (zBA (a:=[47]) rfl rfl (by have:=hq2.len;simp;omega) ?_);refine K1 (zBA rfl rfl (by have:=hq1.len;have:=hq2.len;simp;split<;>simp<;>omega) ?_);refine ag (rs [1,3] K ?_);refine rJ fun K=>ag (rm [1,2] K ?_);refine zE (zQ ?_)
     first
     | exact ⟨rfl,_,zj rfl rfl,E0,by unfold textS;rw [if_neg hd1];rfl⟩
     | exact ⟨rfl,_,zj rfl rfl,E0,by unfold textS;rw [if_pos hd1,List.append_nil];rfl⟩
   · have hd1:q.den=1:=by
      have h1:dl=0:=by have:=of_decide_eq_false hc;omega
      have h2:=hdl.1 h1;have h3:=q.den_pos;split at h2
      · assumption
      · omega
     clear hc;refine sk (rJ fun K=>ag (rm [1,2] K ?_));refine zE (zQ ?_)
     first
     | exact ⟨rfl,_,zj rfl rfl,E0,by unfold textS;rw [if_neg hd1];rfl⟩
     | exact ⟨rfl,_,zj rfl rfl,E0,by unfold textS;rw [if_pos hd1,List.append_nil];rfl⟩
end Go.Proofs.YtjiendlfobjanaaGreatDoor
namespace Go.Proofs.YtjiendlfobjanaaGreatDoor
open Go Go.RowKit Go.Proofs Tryz
set_option maxRecDepth 10000
set_option maxHeartbeats 2000000
variable {b:Nat} {w:World}
def aT:BandT:=⟨[48],[49],[51,47,52],[49]⟩
theorem a1:zLG 3=some ([15,15,6,1],0):=by decide +kernel
theorem a2:zFL [15,15,6,1]=some ([1/6,12/25,5/6],0):=by decide +kernel
theorem a3:zMf (intL [-1,0,1])=some ([],180):=by decide +kernel
theorem a4:zLz (intL [1]) (intL [1,1]) [aT] 5=some (0,1,0):=by decide +kernel
theorem a5:intL [15,15,6,1]=[15,15,6,1]:=by decide +kernel
theorem d10 (n:Nat) (h:n<10):Lib.decDigits n=[UInt8.ofNat (48+n)]:=by unfold Lib.decDigits;rw [dif_pos h]
theorem a6:textS (12/25)=[49,50,47,50,53]:=by
 have e1:(12/25:Rat).num.natAbs=12:=by decide +kernel
 have e2:(12/25:Rat).den=25:=by decide +kernel
 have e3:¬ (12/25:Rat)<0:=by decide +kernel
 unfold textS;rw [e1,e2,if_neg e3,if_neg (by decide)];unfold Lib.decDigits;rw [dif_neg (by decide),dif_neg (by decide),d10 _ (by decide),d10 _ (by decide)];rfl
theorem a7:textS 1=[49]:=by
 have e1:(1:Rat).num.natAbs=1:=by decide +kernel
 have e2:(1:Rat).den=1:=by decide +kernel
 have e3:¬ (1:Rat)<0:=by decide +kernel
 unfold textS;rw [e1,e2,if_neg e3,if_pos rfl,d10 _ (by decide)];rfl
theorem a8:∀ i,i<4→rroom (([15,15,6,1]:Poly).getD i 0) (([15,15,6,1]:Poly).getD i 0)=true:=by decide +kernel
theorem mask1 {t:BandT} (hB:Blk w b 54 (zIt t)):zIY w (.slice (some ⟨b,0,none⟩) 1 1) [t] :=
 ⟨_,1,rfl,.inr ⟨b,0,_,rfl,hB,by simp [zIt],fun i t' h=>by
  have:i=0:=by have:=(List.getElem?_eq_some_iff.1 h).1;simp at this;omega
  subst this;simp at h;subst h;rfl⟩⟩
theorem aLen:∀ (i:Nat) (t:BandT),([aT]:List BandT)[i]? = some t→t.lo.length<1000000000∧t.hi.length<1000000000∧t.least.length<1000000000∧t.most.length<1000000000:=fun i t ht=>by
 have h0:i=0:=by have:=(List.getElem?_eq_some_iff.1 ht).1;simp at this;omega
 subst h0;simp at ht;subst ht;decide
end Go.Proofs.YtjiendlfobjanaaGreatDoor
namespace Go.Proofs.YtjiendlfobjanaaGreatDoor
open Go Go.RowKit Go.Proofs Tryz
set_option maxRecDepth 10000
set_option maxHeartbeats 2000000
attribute [local irreducible] Runs WPE CallK Ret
variable {w:World}
theorem zHF:Ret prog 14 #[] w (fun r _=>r = .bool true):=by
 refine J0 77 func14 rfl (rj fun K=>ag (rm [] K ?_));refine rj fun K=>K1 (j0 E0 hb32 (Bessel_ok a1) fun v11 w2 E0 hr => ?_);obtain ⟨u12,rfl,N12⟩:=hr;replace N12:IsPoly _ u12 [15,15,6,1]:=N12.poly;refine mv (xt rfl (xt rfl (ag (ag (rm [1,2] K ?_)))));refine rJ fun K=>K1 (j1 E0 N12.ext hb16 (zHr N12 a2) fun v16 w2 E0 N12 hr => ?_);obtain ⟨u17,rfl,N17⟩:=hr;replace N17:IsPoly _ u17 [1/6,12/25,5/6]:=N17.poly;refine mv (xt rfl (xt rfl (ag (ag (rm [1,2,3,4] K ?_)))));refine rj fun K => ?_;refine K1 (zi (cs:=[.int .i64 (-1),.int .i64 0,.int .i64 1]) zAq info2' (by decide) (by decide) (by kernel_rfl) fun x1 w10 hb hE hBx1 hs => ?_);replace E0:=E0.trans hE;replace N12:=N12.ext hE;replace N17:=N17.ext hE;clear hE hb hs;refine K1 (j2 E0 N12.ext N17.ext hb63 (zJU (l:=[-1,0,1]) hBx1 (by decide) (by decide)) fun v21 w2 E0 N12 N17 N21 => ?_);clear hBx1;have N21:=N21.poly;refine K1 (j2 E0 N12.ext N17.ext hb17 (Ladder_ok N21 a3) fun v22 w2 E0 N12 N17 hr => ?_);obtain ⟨u23,rfl,-⟩:=hr
 try clear N21
 refine mv (xt rfl (xt rfl (ag (ag (rm [1,2,3,4,6] K ?_)))));refine rj fun K => ?_;refine K1 (zi (cs:=[.int .i64 1]) zAq info2' (by decide) (by decide) (by kernel_rfl) fun x2 w10 hb hE hBx2 hs => ?_);replace E0:=E0.trans hE;replace N12:=N12.ext hE;replace N17:=N17.ext hE;clear hE hb hs;refine K1 (j2 E0 N12.ext N17.ext hb63 (zJU (l:=[1]) hBx2 (by decide) (by decide)) fun v27 w2 E0 N12 N17 N27 => ?_);clear hBx2;have N27:=N27.poly;refine K1 (zi (cs:=[.int .i64 1,.int .i64 1]) zAq info2' (by decide) (by decide) (by kernel_rfl) fun x3 w10 hb hE hBx3 hs => ?_);replace E0:=E0.trans hE;replace N12:=N12.ext hE;replace N17:=N17.ext hE;replace N27:=N27.ext hE;clear hE hb hs;refine K1 (j3 E0 N12.ext N17.ext N27.ext hb63 (zJU (l:=[1,1]) hBx3 (by decide) (by decide)) fun v29 w2 E0 N12 N17 N27 N29 => ?_);clear hBx3;have N29:=N29.poly;refine K1 (zT (cs:=(zIt aT).toArray) (by kernel_rfl) ?_);refine K1 (zi (cs:=zIt aT) under41 info54' (by decide) (by decide) (by kernel_rfl) fun xm w10 hb hE hBm hs => ?_);replace E0:=E0.trans hE;replace N12:=N12.ext hE;replace N17:=N17.ext hE;replace N27:=N27.ext hE;replace N29:=N29.ext hE;clear hE hb hs;refine K1 (j2 E0 N12.ext N17.ext hb29 (Meets_ok (fuel:=5) N27 N29 (mask1 hBm) aLen (by decide) a4) fun v32 w2 E0 N12 N17 hr => ?_);obtain ⟨u34,rfl,N34⟩:=hr;clear N27 N29 hBm;refine mv (xt rfl (xt rfl (xt rfl ?_)))
 refine K1 (zV zAY fun gb w7 hb hE hBg hs => ?_);have hgg:w.heap.size≤gb:=by rw [hb];exact E0.size
 have hX:Ext _ _:=hE;replace E0:=E0.trans hE;replace N34:=N34.ext hE;clear hE;refine ag (K1 (zN rfl N34 (Cell3.of hBg rfl) fun _ w9 hU hNA => ?_));replace E0:=E0.upd hU hgg;replace N12:=N12.updN hX hU hBg (by omega);replace N17:=N17.updN hX hU hBg (by omega);clear hU hBg N34 hX hb hs;refine ag (rm [1,2,3,4,6,7,8,9] K ?_);refine rJ fun K=>K8 rfl (mv (K7 (K2 (zJ rfl rfl rfl (pk rfl (mv (K7 (K2 (zJ rfl rfl rfl (pk rfl (mv (K7 (K2 (zJ rfl rfl rfl (pk rfl ?_)))))))))))))));refine mv (K7 ?_);refine K2 (zi (cs:=[.int .i64 15,.int .i64 15,.int .i64 6,.int .i64 1]) zAq info2' (by decide) (by decide) (by kernel_rfl) fun x4 w10 hb hE hBx4 hs => ?_);replace E0:=E0.trans hE;replace N12:=N12.ext hE;replace N17:=N17.ext hE;replace hNA:=hNA.ext hE;clear hE hb hs;refine K2 (j3 E0 N12.ext N17.ext hNA.ext hb63 (zJU (l:=[15,15,6,1]) hBx4 (by decide) (by decide)) fun v53 w2 E0 N12 N17 hNA N53 => ?_);clear hBx4;have N53:=N53.poly;rw [a5] at N53;refine K2 (j3 E0 N12.ext N17.ext hNA.ext hb21 ((equal_ok N12 N53 (fun _ i hi=>a8 i hi)).mono fun _ _ _ h=>h.trans (congrArg Value.bool (decide_eq_true rfl))) fun vi w2 E0 N12 N17 hNA hr => ?_);subst hr;refine pk rfl (mv (K7 ?_));obtain ⟨qp,qc,rfl,hqc,hqP,hql⟩:=N17
 refine K2 (zI zAB rfl (K2 (zJ rfl rfl rfl (pk rfl (mv (K7 (K2 (runs_pindex (ix:=1) hqP rfl rfl (by decide) (K2 (runs_pload (i:=1) hqP (by decide) rfl fun v64 N64 => ?_))))))))));replace N64:IsNum _ v64 (12/25):=N64;refine K2 (j1 E0 hNA.ext hb64 ((zIU N64 (by decide +kernel) (by decide +kernel)).mono fun _ _ _ h=>h.trans (congrArg S a6)) fun vi w2 E0 hNA hr => ?_);subst hr;refine K2 (zAR rfl rfl (pk rfl (mv (K7 (K2 (zJ rfl rfl rfl (pk rfl (mv (K2 (za rfl hNA fun v73 N73=>K2 (j0 E0 hb64 ((zIU N73 (by decide +kernel) (by decide +kernel)).mono fun _ _ _ h=>h.trans (congrArg S a7)) fun vi w2 E0 hr => ?_)))))))))));subst hr;refine K2 (zAR rfl rfl (pk rfl (ag (rm [0] K ?_))));exact zE (en rfl E0 rfl)
end Go.Proofs.YtjiendlfobjanaaGreatDoor
namespace Go.Proofs.YtjiendlfobjanaaGreatDoor.R
open Go Go.RowKit Go.Proofs Tryz
variable {B L N0 X Y b c ca d e i j k l2 n o:Nat} {O ds xs ys:List Nat} {T:TypeId} {cs:List Value} {fd:Nat→Nat→Nat→Nat×Nat} {p pa:Option Addr} {v:Value} {w w':World}
def nat30:List Nat→Nat
 | []=>0
 | d :: ds=>d+1073741824*nat30 ds
def Dig (ds:List Nat):Prop:=∀ d∈ds,d<1073741824
def Norm (ds:List Nat):Prop:=Dig ds∧ds.getLast?≠some 0
def dv (ds:List Nat):List Value:=ds.map fun (d:Nat) => .int .i64 (d:Int)
def Rd (w:World) (p:Option Addr) (ds:List Nat):Prop :=
 ∀ i,i<ds.length→∃ b o cs,p=some ⟨b,o,none⟩∧Blk w b 2 cs∧cs[o+i]? = some (.int .i64 (ds.getD i 0:Nat))
def IsN (w:World) (v:Value) (n:Nat):Prop:=∃ p ds cap,v = .slice p ds.length cap∧ds.length≤cap∧Rd w p ds∧Norm ds∧nat30 ds=n
theorem Rd.ext (h:Rd w p ds) (hx:Ext w w'):Rd w' p ds:=fun i hi=>by
 obtain ⟨b,o,cs,h1,h2,h3⟩:=h i hi;exact ⟨b,o,cs,h1,h2.ext hx,h3⟩
theorem Rd.upd (h:Rd w p ds) (hu:Upd b w w') (hb:Blk w b T cs) (hT:T≠2):Rd w' p ds:=fun i hi=>by
 obtain ⟨c,o,cs',h1,h2,h3⟩:=h i hi;exact ⟨c,o,cs',h1,h2.upd hu (fun e=>by subst e;exact hT (hb.inj h2).1),h3⟩
theorem Rd.upd' (h:Rd w p ds) (hu:Upd b w w') (hp:∀ a,p=some a→0<ds.length→a.block≠b):Rd w' p ds:=fun i hi=>by
 obtain ⟨c,o,cs',h1,h2,h3⟩:=h i hi;exact ⟨c,o,cs',h1,h2.upd hu (hp _ h1 (by omega)),h3⟩
theorem Rd.ne (h:Rd w p ds) (hb:w.heap.size≤b):∀ a,p=some a→0<ds.length→a.block≠b:=fun a ha hd=>by
 obtain ⟨c,o,cs',h1,h2,h3⟩:=h 0 hd;rw [ha] at h1;cases h1;have:=h2.lt;simp only;omega
theorem IsN.ext (h:IsN w v n) (hx:Ext w w'):IsN w' v n:=by
 obtain ⟨p,ds,cap,h1,h2,h3,h4,h5⟩:=h;exact ⟨p,ds,cap,h1,h2,h3.ext hx,h4,h5⟩
theorem IsN.upd (h:IsN w v n) (hu:Upd b w w') (hb:Blk w b T cs) (hT:T≠2):IsN w' v n:=by
 obtain ⟨p,ds,cap,h1,h2,h3,h4,h5⟩:=h;exact ⟨p,ds,cap,h1,h2,h3.upd hu hb hT,h4,h5⟩
def NoR (S:List Nat) (w:World):Prop:=∀ b∈S,∃ T cs,Blk w b T cs∧T≠2
theorem NoR.ext {S:List Nat} (h:NoR S w) (hx:ExtS S w w'):NoR S w':=fun b hb=>by
 obtain ⟨T,cs,h1,h2⟩:=h b hb;obtain ⟨cs',h3⟩:=hx.kind b T cs h1;exact ⟨T,cs',h3,h2⟩
theorem Rd.extS {S:List Nat} (h:Rd w p ds) (hx:ExtS S w w') (hS:NoR S w):Rd w' p ds:=fun i hi=>by
 obtain ⟨c,o,cs',h1,h2,h3⟩:=h i hi;refine ⟨c,o,cs',h1,h2.extS hx (fun hc => ?_),h3⟩;obtain ⟨T,cs,h4,h5⟩:=hS c hc;exact h5 (h4.inj h2).1
theorem IsN.extS {S:List Nat} (h:IsN w v n) (hx:ExtS S w w') (hS:NoR S w):IsN w' v n:=by
 obtain ⟨p,ds,cap,h1,h2,h3,h4,h5⟩:=h;exact ⟨p,ds,cap,h1,h2,h3.extS hx hS,h4,h5⟩
theorem nat30_one (d:Nat):nat30 [d]=d:=by
 show d+1073741824*0=d;rw [Nat.mul_zero,Nat.add_zero]
theorem zBe:∀ (a b:List Nat),nat30 (a++b)=nat30 a+1073741824^a.length*nat30 b
 | [],b=>by simp [nat30]
 | x :: a,b=>by
  have:=zBe a b;simp only [List.cons_append,nat30,List.length_cons,Nat.pow_succ,this];rw [Nat.mul_add,← Nat.add_assoc];congr 1;rw [← Nat.mul_assoc,Nat.mul_comm 1073741824]
theorem zCQ:∀ (ds:List Nat),Dig ds→nat30 ds<1073741824^ds.length
 | [],_=>by simp [nat30]
 | d :: ds,h=>by
  have h1:=zCQ ds fun x hx=>h x (by simp [hx]);have h2:=h d (by simp);simp only [nat30,List.length_cons,Nat.pow_succ];have:nat30 ds+1≤1073741824^ds.length:=h1;have:=Nat.mul_le_mul_left 1073741824 this;rw [Nat.mul_comm (_^_)];omega
theorem Dig.take (h:Dig ds) (k:Nat):Dig (ds.take k):=fun d hd=>h d (List.mem_of_mem_take hd)
theorem Dig.drop (h:Dig ds) (k:Nat):Dig (ds.drop k):=fun d hd=>h d (List.mem_of_mem_drop hd)
theorem Dig.getD (h:Dig ds) (k:Nat):ds.getD k 0<1073741824:=by
 by_cases hk:k<ds.length
 · simp only [List.getD_eq_getElem?_getD,List.getElem?_eq_getElem hk,Option.getD_some];exact h _ (List.getElem_mem hk)
 · simp [List.getElem?_eq_none (Nat.le_of_not_lt hk)]
theorem zBu (h:k<ds.length):ds.take (k+1)=ds.take k++[ds.getD k 0]:=by
 rw [List.take_succ_eq_append_getElem h];simp [h]
theorem zCS (h:k<ds.length):nat30 (ds.take (k+1))=nat30 (ds.take k)+1073741824^k*ds.getD k 0:=by
 rw [zBu h,zBe];simp [nat30,Nat.min_eq_left (Nat.le_of_lt h)]
theorem zBf (ds:List Nat) (k:Nat):nat30 ds=nat30 (ds.take k)+1073741824^(min k ds.length)*nat30 (ds.drop k):=by
 conv=>lhs;rw [← List.take_append_drop k ds,zBe]
 simp
theorem Norm.lo (h:Norm ds) (h0:ds≠[]):1073741824^(ds.length-1)≤nat30 ds:=by
 obtain ⟨_,hl⟩:=h;rw [← List.dropLast_concat_getLast h0,zBe];have hne:ds.getLast h0≠0:=fun e=>hl (by rw [List.getLast?_eq_some_getLast h0,e]);have:1≤nat30 [ds.getLast h0]:=by simp [nat30];omega
 have:=Nat.mul_le_mul_left (1073741824^ds.dropLast.length) this;simp at this ⊢;omega
theorem Norm.zero (h:Norm ds):nat30 ds=0↔ds=[]:=by
 constructor
 · intro e;by_cases h0:ds=[]
   · exact h0
   · have:=h.lo h0;have:0<1073741824^(ds.length-1):=Nat.pow_pos (by decide);omega
 · rintro rfl;rfl
theorem Norm.len_lt {a b:List Nat} (ha:Dig a) (hb:Norm b) (h:a.length<b.length):nat30 a<nat30 b:=by
 have h1:=zCQ a ha;have h2:=hb.lo (by rintro rfl;simp at h);have:1073741824^a.length≤1073741824^(b.length-1):=Nat.pow_le_pow_right (by decide) (by omega);omega
theorem zJz:∀ (a b:List Nat),Dig a→Dig b→a.length=b.length→nat30 a=nat30 b→a=b
 | [],[],_,_,_,_=>rfl
 | x :: a,y :: b,ha,hb,hl,h=>by
  have hx:=ha x (by simp);have hy:=hb y (by simp);simp only [nat30] at h;have h1:x=y:=by omega
  have h2:nat30 a=nat30 b:=by omega
  rw [h1,zJz a b (fun d hd=>ha d (by simp [hd])) (fun d hd=>hb d (by simp [hd])) (by simpa using hl) h2]
theorem Norm.inj {a b:List Nat} (ha:Norm a) (hb:Norm b) (h:nat30 a=nat30 b):a=b:=by
 rcases Nat.lt_trichotomy a.length b.length with hl | hl | hl
 · have:=Norm.len_lt ha.1 hb hl;omega
 · exact zJz a b ha.1 hb.1 hl h
 · have:=Norm.len_lt hb.1 ha hl;omega
theorem Norm.len_le (h:Norm ds) (hL:(nat30 ds).log2<L):ds.length≤L/30+1:=by
 by_cases h0:ds=[]
 · simp [h0]
 · have h1:=h.lo h0;have hne:nat30 ds≠0:=fun e=>h0 (h.zero.1 e);have h2:=(Nat.log2_lt hne).1 hL;have h3:(1073741824:Nat)=2^30:=by decide
   rw [h3,← Nat.pow_mul] at h1;have h4:2^(30*(ds.length-1))<2^L:=Nat.lt_of_le_of_lt h1 h2;have h5:=(Nat.pow_lt_pow_iff_right (by decide:1<2)).1 h4;omega
theorem zAE (ds:List Nat):(dv ds).length=ds.length:=by simp [dv]
theorem zMN (ds:List Nat) (i d:Nat):(dv ds).set i (.int .i64 (d:Int))=dv (ds.set i d):=by simp [dv,List.map_set]
theorem zCd (ds:List Nat) (i:Nat) (h:i<ds.length):(dv ds)[i]? = some (.int .i64 (ds.getD i 0:Nat)):=by simp [dv,h]
theorem zAZ (n:Nat):(List.replicate n [Value.int .i64 0]).flatten=dv (List.replicate n 0):=by
 simp only [dv,List.map_replicate]
 induction n with
 | zero=>rfl
 | succ n ih=>simp only [List.replicate_succ,List.flatten_cons,ih];rfl
theorem zAX {l:List Nat} (h:Blk w b 2 (zBI (dv l) o [.int .i64 (d:Int)])) (ho:o=i):Blk w b 2 (dv (l.set i d)):=by
 subst ho;rw [← zMN];exact h
theorem zKp (h:Norm ds):nat30 ds=1↔ds.length=1∧ds.getD 0 0=1:=by
 constructor
 · intro e;have h1:Norm [1]:=⟨by intro d hd;simp at hd;omega,by simp⟩;have:=h.inj h1 (by rw [e];rfl);subst this;exact ⟨rfl,rfl⟩
 · rintro ⟨h1,h2⟩
   match ds,h1 with
   | [d],_=>simp at h2;subst h2;rfl
theorem zCn (h:k<ds.length) (h0:ds.getD k 0=0):nat30 (ds.take (k+1))=nat30 (ds.take k):=by
 rw [zCS h,h0];simp
theorem zHX (hd:Dig ds) (h:k<ds.length) (h0:ds.getD k 0≠0):Norm (ds.take (k+1)):=by
 refine ⟨hd.take _,?_⟩;rw [zBu h,List.getLast?_append];simpa using h0
def ze (fd:Nat→Nat→Nat→Nat×Nat) (xs ys:List Nat):Nat→List Nat×Nat
 | 0=>([],0)
 | i+1=>((ze fd xs ys i).1++[(fd (xs.getD i 0) (ys.getD i 0) (ze fd xs ys i).2).1],(fd (xs.getD i 0) (ys.getD i 0) (ze fd xs ys i).2).2)
theorem zAF (fd:Nat→Nat→Nat→Nat×Nat) (xs ys:List Nat):∀ i,(ze fd xs ys i).1.length=i
 | 0=>rfl
 | i+1=>by simp [ze,zAF fd xs ys i]
theorem zCo (hdx:Dig xs) (hdy:Dig ys) (h:∀ x y c,x<1073741824→y<1073741824→c≤1→(fd x y c).2≤1) (i:Nat):(ze fd xs ys i).2≤1:=by
 induction i with
 | zero=>exact Nat.zero_le _
 | succ i ih=>exact h _ _ _ (hdx.getD i) (hdy.getD i) ih
theorem Rd.of_blk (h:Blk w b 2 (dv ds)):Rd w (some ⟨b,0,none⟩) ds:=fun i hi=>⟨b,0,_,rfl,h,by rw [Nat.zero_add];exact zCd ds i hi⟩
theorem Rd.take (h:Rd w p ds) (k:Nat):Rd w p (ds.take k):=fun i hi=>by
 have hk:i<k∧i<ds.length:=by simp at hi;omega
 obtain ⟨b,o,cs,h1,h2,h3⟩:=h i hk.2;refine ⟨b,o,cs,h1,h2,?_⟩;rw [h3];simp [hk.1]
theorem Norm.fit (h:Norm ds) (hf:Fit (nat30 ds)):ds.length≤293203100741:=h.len_le hf
def fAdd (x y c:Nat):Nat×Nat:=((x+y+c)%1073741824,(x+y+c)/1073741824)
def fSub (x y b:Nat):Nat×Nat:=((x+1073741824-y-b)%1073741824,if x<y+b then 1 else 0)
theorem zBR {fd:Nat→Nat→Nat→Nat×Nat} (h:∀ x y c,(fd x y c).1<1073741824) (xs ys:List Nat):∀ i,Dig (ze fd xs ys i).1
 | 0=>by intro d hd;simp [ze] at hd
 | i+1=>by
  intro d hd;simp only [ze,List.mem_append,List.mem_singleton] at hd;rcases hd with hd | rfl
  · exact zBR h xs ys i d hd
  · exact h _ _ _
theorem nat30_take_succ' (ds:List Nat) (k:Nat):nat30 (ds.take (k+1))=nat30 (ds.take k)+1073741824^k*ds.getD k 0:=by
 by_cases h:k<ds.length
 · exact zCS h
 · rw [List.take_of_length_le (by omega),List.take_of_length_le (by omega)];simp [List.getElem?_eq_none (Nat.le_of_not_lt h)]
theorem zDb (xs ys:List Nat):∀ i,nat30 (ze fAdd xs ys i).1+1073741824^i*(ze fAdd xs ys i).2=nat30 (xs.take i)+nat30 (ys.take i)
 | 0=>by simp [ze,nat30]
 | i+1=>by
  have ih:=zDb xs ys i;rw [nat30_take_succ' xs,nat30_take_succ' ys];simp only [ze];rw [zBe,zAF];generalize (ze fAdd xs ys i).2=c at *;generalize xs.getD i 0=x;generalize ys.getD i 0=y;simp only [fAdd,nat30,Nat.mul_zero,Nat.add_zero,Nat.pow_succ];have hdm:(x+y+c)=(x+y+c)%1073741824+1073741824*((x+y+c)/1073741824):=(Nat.mod_add_div _ _).symm;generalize (x+y+c)%1073741824=r at *;generalize (x+y+c)/1073741824=q at *;generalize 1073741824^i=B at *;grind
theorem zGx {x y:Nat} (hx:x<1073741824) (hy:y<1073741824) (hc:c≤1):(fSub x y c).1+(y+c)=x+1073741824*(fSub x y c).2:=by
 simp only [fSub];by_cases h:x<y+c
 · rw [if_pos h];omega
 · rw [if_neg h];omega
theorem zDl (x y c:Nat):(fSub x y c).2≤1:=by
 simp only [fSub];by_cases h:x<y+c
 · rw [if_pos h];omega
 · rw [if_neg h];omega
theorem zJC {R x y r q:Nat} (ih:R+Y=X+B*c) (key:r+(y+c)=x+1073741824*q):R+B*r+(Y+B*y)=X+B*x+B*(1073741824*q):=by
 have k2:B*(r+(y+c))=B*(x+1073741824*q):=by rw [key]
 simp only [Nat.mul_add] at k2;omega
theorem zFg (xs ys:List Nat) (hx:Dig xs) (hy:Dig ys) (i:Nat):nat30 (ze fSub xs ys i).1+nat30 (ys.take i)=nat30 (xs.take i)+1073741824^i*(ze fSub xs ys i).2:=by
 induction i with
 | zero=>simp [ze,nat30]
 | succ i ih =>
  have key:=zGx (hx.getD i) (hy.getD i) (zCo hx hy (fun x y c _ _ _=>zDl x y c) i);rw [nat30_take_succ' xs,nat30_take_succ' ys];simp only [ze];rw [zBe,zAF,Nat.pow_succ,Nat.mul_assoc];generalize fSub (xs.getD i 0) (ys.getD i 0) (ze fSub xs ys i).2=r at *;generalize (ze fSub xs ys i).2=c at *;have h:=zJC ih key;rw [nat30_one];exact h
theorem zEw (hl:ys.length≤xs.length):nat30 ((ze fAdd xs ys xs.length).1++[(ze fAdd xs ys xs.length).2])=nat30 xs+nat30 ys:=by
 have h:=zDb xs ys xs.length;rw [List.take_length,List.take_of_length_le hl] at h;rw [zBe,zAF];simpa [nat30] using h
theorem zGZ {x y:Nat} (hx:x<1073741824) (hy:y<1073741824) (hc:c≤1):(fAdd x y c).2≤1:=by
 simp only [fAdd];omega
theorem zGM (hx:Dig xs) (hy:Dig ys) (hl:ys.length≤xs.length) (hle:nat30 ys≤nat30 xs):nat30 (ze fSub xs ys xs.length).1=nat30 xs-nat30 ys:=by
 have h:=zFg xs ys hx hy xs.length;rw [List.take_length,List.take_of_length_le hl] at h;have h1:=zCQ _ (zBR (fd:=fSub) (fun x y c=>Nat.mod_lt _ (by decide)) xs ys xs.length);rw [zAF] at h1;have hc:=zCo hx hy (fun x y c _ _ _=>zDl x y c) xs.length;have h2:=zCQ ys hy;have h3:1073741824^ys.length≤1073741824^xs.length:=Nat.pow_le_pow_right (by decide) hl;rcases (show (ze fSub xs ys xs.length).2=0∨(ze fSub xs ys xs.length).2=1 by omega) with h4 | h4
 · rw [h4] at h;omega
 · rw [h4] at h;omega
theorem zIx (hx:Dig xs) (hy:Dig ys):Dig ((ze fAdd xs ys xs.length).1++[(ze fAdd xs ys xs.length).2]):=by
 intro d hd;rw [List.mem_append,List.mem_singleton] at hd;rcases hd with hd | rfl
 · exact zBR (fun x y c=>Nat.mod_lt _ (by decide)) xs ys _ d hd
 · have:=zCo (fd:=fAdd) hx hy (fun x y c h1 h2 h3=>zGZ h1 h2 h3) xs.length;omega
theorem zKw (xs ys:List Nat):Dig ((ze fSub xs ys xs.length).1++[(ze fSub xs ys xs.length).2]):=by
 intro d hd;rw [List.mem_append,List.mem_singleton] at hd;rcases hd with hd | rfl
 · exact zBR (fun x y c=>Nat.mod_lt _ (by decide)) xs ys _ d hd
 · have:(ze fSub xs ys xs.length).2≤1:=by
    cases xs.length with
    | zero=>exact Nat.zero_le _
    | succ i=>exact zDl _ _ _
   omega
theorem Dig.of_append {a b:List Nat} (h:Dig (a++b)):Dig a:=fun d hd=>h d (List.mem_append_left _ hd)
theorem zAx (h:k<ds.length):nat30 (ds.drop k)=ds.getD k 0+1073741824*nat30 (ds.drop (k+1)):=by
 rw [List.drop_eq_getElem_cons h];simp [nat30,h]
theorem nat30_eq_of (hx:Dig xs) (hy:Dig ys) (hl:xs.length=ys.length) (hk:k<xs.length) (hd:nat30 (xs.drop (k+1))=nat30 (ys.drop (k+1))) :
 (xs.getD k 0=ys.getD k 0→nat30 (xs.drop k)=nat30 (ys.drop k))∧(xs.getD k 0<ys.getD k 0→nat30 xs<nat30 ys)∧(ys.getD k 0<xs.getD k 0→nat30 ys<nat30 xs):=by
 have e1:=zAx hk;have e2:=zAx (ds:=ys) (hl ▸ hk);have key:∀ (a b:List Nat),Dig a→Dig b→a.length=b.length→k<a.length→nat30 (a.drop k)<nat30 (b.drop k)→nat30 a<nat30 b:=by
  intro a b ha hb hl hk h;rw [zBf a k,zBf b k];have h1:=zCQ _ (ha.take k);simp only [List.length_take,Nat.min_eq_left (Nat.le_of_lt hk)] at h1;rw [← hl,Nat.min_eq_left (Nat.le_of_lt hk)];generalize 1073741824^k=B at *;generalize nat30 (a.drop k)=u at *;generalize nat30 (b.drop k)=v at *;have:B*(u+1)≤B*v:=Nat.mul_le_mul_left _ h;rw [Nat.mul_add,Nat.mul_one] at this;omega
 refine ⟨fun h=>by rw [e1,e2,h,hd],fun h=>key xs ys hx hy hl hk ?_,fun h=>key ys xs hy hx hl.symm (hl ▸ hk) ?_⟩
 · rw [e1,e2,hd];omega
 · rw [e1,e2,hd];omega
theorem zHd:∀ (ds:List Nat) (k d:Nat),k<ds.length→nat30 (ds.set k d)+1073741824^k*ds.getD k 0=nat30 ds+1073741824^k*d
 | x :: ds,0,d,_=>by simp only [List.set_cons_zero,nat30,Nat.pow_zero,Nat.one_mul,List.getD_cons_zero];omega
 | x :: ds,k+1,d,h=>by
  have ih:=zHd ds k d (by simpa using h);simp only [List.set_cons_succ,nat30,List.getD_cons_succ,Nat.pow_succ];generalize 1073741824^k=B at *;generalize ds.getD k 0=e at *;have h1:1073741824*(nat30 (ds.set k d)+B*e)=1073741824*(nat30 ds+B*d):=by rw [ih]
  rw [Nat.mul_add,Nat.mul_add] at h1;have h2:B*1073741824*e=1073741824*(B*e):=by rw [Nat.mul_comm B,Nat.mul_assoc]
  have h3:B*1073741824*d=1073741824*(B*d):=by rw [Nat.mul_comm B,Nat.mul_assoc]
  rw [h2,h3];omega
theorem Dig.set (h:Dig ds) (k:Nat) (hd:d<1073741824):Dig (ds.set k d):=fun x hx=>by
 rcases List.mem_or_eq_of_mem_set hx with h1 | h1
 · exact h x h1
 · rw [h1];exact hd
theorem zBX (n:Nat):Dig (List.replicate n 0):=fun d hd=>by rw [List.mem_replicate] at hd;omega
theorem zFT:∀ n,nat30 (List.replicate n 0)=0
 | 0=>rfl
 | n+1=>by rw [List.replicate_succ,nat30,zFT n]
theorem zJe {x y c':Nat} (hlen:i+j<O.length) (h:nat30 O+1073741824^(i+j)*c=N0+1073741824^i*(x*X))
 (hs:l2+1073741824*c'=x*y+O.getD (i+j) 0+c):nat30 (O.set (i+j) l2)+1073741824^(i+(j+1))*c'=N0+1073741824^i*(x*(X+1073741824^j*y)):=by
 have h1:=zHd O (i+j) l2 hlen;rw [← Nat.add_assoc,Nat.pow_succ,Nat.mul_add,Nat.mul_add,← Nat.mul_assoc x,Nat.mul_comm x (_^j),Nat.mul_assoc (_^j),← Nat.mul_assoc (_^i) (_^j),← Nat.pow_add,Nat.mul_assoc];generalize 1073741824^(i+j)=B at *;generalize 1073741824^i*(x*X)=M at *;generalize O.getD (i+j) 0=o at *;generalize x*y=xy at *;have h2:B*(l2+1073741824*c')=B*(xy+o+c):=by rw [hs]
 simp only [Nat.mul_add] at h2;omega
theorem zHV (hlen:i+ys.length<O.length) (h:nat30 O+1073741824^(i+ys.length)*c=nat30 (xs.take i)*nat30 ys+1073741824^i*(xs.getD i 0*nat30 ys))
 (hz:∀ k,i+ys.length≤k→O.getD k 0=0):nat30 (O.set (i+ys.length) c)=nat30 (xs.take (i+1))*nat30 ys:=by
 have h1:=zHd O (i+ys.length) c hlen;rw [hz _ (Nat.le_refl _),Nat.mul_zero,Nat.add_zero] at h1;rw [h1,h,nat30_take_succ',Nat.add_mul,Nat.mul_assoc]
theorem pow64 (s:Nat):1073741824^s=2^(30*s):=by
 rw [show (1073741824:Nat)=2^30 from by decide,← Nat.pow_mul]
theorem zCG (k:Nat):1073741824^(k/30)*2^(k%30)=2^k:=by
 rw [pow64,← Nat.pow_add,Nat.div_add_mod]
theorem zHq (h:e<30):2^(30-e)*2^e=1073741824:=by
 rw [← Nat.pow_add,show 30-e+e=30 from by omega]
theorem nat30_drop_div (U:List Nat) (h:Dig U) (s:Nat):nat30 (U.drop s)=nat30 U/1073741824^s:=by
 by_cases hs:s≤U.length
 · have h1:=zBf U s;rw [Nat.min_eq_left hs] at h1;have h2:=zCQ (U.take s) (h.take s);rw [List.length_take,Nat.min_eq_left hs] at h2;rw [h1,Nat.add_mul_div_left _ _ (Nat.pow_pos (by decide)),Nat.div_eq_of_lt h2,Nat.zero_add]
 · have h2:=zCQ U h;have h3:1073741824^U.length≤1073741824^s:=Nat.pow_le_pow_right (by decide) (by omega);rw [List.drop_eq_nil_of_le (by omega),Nat.div_eq_of_lt (by omega)];rfl
theorem zJa {x0:Nat} (h:nat30 O*2^e+x0%2^e=nat30 xs):nat30 O=nat30 xs/2^e:=by
 have hpe:0<2^e:=Nat.pow_pos (by decide);rw [← h,Nat.mul_comm,Nat.mul_add_div hpe,Nat.div_eq_of_lt (Nat.mod_lt _ hpe),Nat.add_zero]
theorem IsN.nil (h:n=0):IsN w (.slice none 0 0) n:=⟨none,[],0,rfl,Nat.le_refl _,fun i hi=>by simp at hi,⟨fun d hd=>by simp at hd,by simp⟩,by rw [h];rfl⟩
theorem zHY (hd:Dig ds) (h:ds.length≤k/30):nat30 ds/2^k=0:=by
 have h1:=zCQ ds hd;have h2:=zCG k;have h3:1073741824^ds.length≤1073741824^(k/30):=Nat.pow_le_pow_right (by decide) h;have h4:1≤2^(k%30):=Nat.pow_pos (by decide);have h5:=Nat.mul_le_mul_left (1073741824^(k/30)) h4;rw [h2] at h5;exact Nat.div_eq_of_lt (by omega)
theorem zJW:n/1073741824^(k/30)/2^(k%30)=n/2^k:=by
 rw [Nat.div_div_eq_div_mul,zCG]
theorem zKo {s:Nat} (ha:Rd w pa ds) (hx:Norm ds) (hca:ds.length≤ca) (hs:s<ds.length) :
 ∃ xs pb cb,ds.length-s=xs.length∧Value.slice (if ca=s then pa else pa.map (fun a=>a.add (s*1))) (ds.length-s) (ca-s)=Value.slice pb xs.length cb∧Rd w pb xs∧Dig xs∧nat30 xs=nat30 ds/1073741824^s:=by
 refine ⟨ds.drop s,if ca=s then pa else pa.map (fun a=>a.add (s*1)),ca-s,by simp,by simp,?_,hx.1.drop s,nat30_drop_div ds hx.1 s⟩;intro i hi;rw [List.length_drop] at hi;obtain ⟨b,o,cs,h1,h2,h3⟩:=ha (s+i) (by omega);refine ⟨b,o+s,cs,?_,h2,?_⟩
 · rw [if_neg (by omega),h1];simp [zAa]
 · rw [show o+s+i=o+(s+i) from by omega,h3];simp
end Go.Proofs.YtjiendlfobjanaaGreatDoor.R
