/-
  A part of the proof: W46, W47, W48, W49, W50, RNum, W51, W52, RList, W53, W54, W60, W61, Net, W68, Rev98, LawH, LawS, W56.
-/
import Derived.Test.YtjiendlfobjanaaGreatDoorH04
import Derived.Shelf.SlicesQ.Reverse
namespace Go.Proofs.YtjiendlfobjanaaGreatDoor.R
open Go Go.RowKit Go.Proofs Tryz
set_option maxRecDepth 10000
set_option maxHeartbeats 2000000
attribute [local irreducible] Runs WPE CallK Ret
variable {a c cap d k m n:Nat} {ds:List Nat} {p:Option Addr} {w:World}
theorem size2:(prog.info? 2).map (·.size)=some 1:=by kernel_rfl
theorem info2:(prog.info? 2).map (fun i=>(i.zero,i.size,i.bytes))=some (some (.int .i64 0),1,8):=by kernel_rfl
theorem zKO (hcap:ds.length≤cap) (hrd:Rd w p ds) (hdig:Dig ds) (hbig:ds.length<4611686018427387904):Ret prog 264 #[.slice p ds.length cap] w (fun v _=>∃ k,k≤ds.length∧v = .slice p k cap∧Norm (ds.take k)∧nat30 (ds.take k)=nat30 ds):=by
 have E0:Ext w w:=Ext.refl w;refine J0 21 func264 rfl (rj fun K=>ag (rm [0] K ?_));refine rJ fun K=>K1 (zI zn rfl (ag (rm [0,3] K ?_)));refine zA (zF (zg (X:=Nat) (fun k ρ w'=>Keep ρ [(0,.slice p ds.length cap),(3,.int .i64 ((k:Nat):Int))]∧k≤ds.length∧nat30 (ds.take k)=nat30 ds∧Ext w w'∧Rd w' p ds) (fun k=>k) ds.length ⟨(kp rfl),Nat.le_refl _,by simp,E0,hrd⟩ ?_));clear E0 hrd;rintro k ρ1 w1 ⟨hk,hkl,hnk,E0,hrd⟩;refine wpe_k _ hk ?_;clear hk ρ1;refine zA (zA ?_);rcases k with _ | k
 · skip
   refine rI fun K=>K8 rfl (mv (K3 (K3 (K3 (K3 (K3 (K3 (pk rfl (rs [0,3,9,10,11,12,13,14,15] K ?_)))))))));refine wcf rfl (zY (zx (zl (zL (zM (rJ fun K=>mv (K1 (zBd (h:=((0:Nat):Int)) zn rfl rfl (by omega) (by omega) (ag (rm [0,2,3] K ?_))))))))));refine zE (zQ ?_);exact ⟨rfl,_,zj rfl rfl,E0,0,Nat.zero_le _,rfl,⟨by intro d hd;simp at hd,by simp⟩,hnk⟩
 · obtain ⟨b,o,cs,rfl,hB,hv⟩:=hrd k (by omega);have hg0:decide (((k+1:Nat):Int)>0)=true:=by simp only [decide_eq_true_eq];omega
   have hg:(decide (((k+1:Nat):Int)>0)==true)=true:=by rw [hg0];rfl
   have hw:IntKind.i64.wrap (((k+1:Nat):Int)-1)=(k:Int):=by rw [zm (by omega) (by omega)];omega
   refine rI fun K=>K8 rfl (mv (sr_g hg (zC (sr_g hg (zC (sr_g hg (zJ rfl rfl rfl (sr_g hg (zG (ix:=k) zn rfl (congrArg (Value.int .i64) hw) (by omega) (by omega) (sr_g hg (zD zBF rfl hB (by simpa using hv) (sr_g hg (zJ rfl rfl rfl (pk (b:=true) (congrArg Value.bool hg0) (rs [0,3,9,10,11,12,13,14,15] K ?_)))))))))))))));refine K0 rfl ?_ ?_<;>intro hc
   · have hz:ds.getD k 0=0:=t_beq (b:=0) hc;refine sk (zF (rI fun K=>K8 rfl (ag (rl K (zR (zO (⟨rfl,k,⟨⟨rfl,rfl,rfl,congrArg (Value.int .i64) hw,trivial⟩,by omega,?_,E0,hrd⟩,by omega⟩)))))));rw [← hnk,zCn (by omega) hz]
   · have hz:ds.getD k 0≠0:=f_beq (b:=0) hc;refine zY (zx (zl (zL (zM (rJ fun K=>mv (K1 (zBd (h:=((k+1:Nat):Int)) zn rfl rfl (by omega) (by omega) (ag (rm [0,2,3] K ?_)))))))));refine zE (en rfl E0 ⟨k+1,hkl,rfl,zHX hdig (by omega) hz,hnk⟩)
theorem zEs (hn:ds.length=n) (hcap:n≤cap) (hrd:Rd w p ds) (hdig:Dig ds) (hbig:n<4611686018427387904):Ret prog 264 #[.slice p n cap] w (fun v w'=>IsN w' v (nat30 ds)):=by
 subst hn;exact (zKO hcap hrd hdig hbig).mono fun v w' hx ⟨k,hk,hv,hn,he⟩=>⟨p,ds.take k,cap,by rw [hv];simp [Nat.min_eq_left hk],by simp;omega,(hrd.ext hx).take k,hn,he⟩
theorem zFz (w:World):Ret prog 162 #[] w (fun v w'=>IsN w' v 1):=by
 refine J0 2 func162 rfl (rj fun K=>ag (rm [] K ?_));refine rj fun K => ?_;refine K1 (zi (cs:=[.int .i64 1]) zAq info2' (by decide) (by decide) (by kernel_rfl) fun b w1 hb hE hB hs => ?_);replace E0:=E0.trans hE;refine ag (rm [0] K ?_);refine zE (en rfl E0 ?_);refine ⟨some ⟨b,0,none⟩,[1],1,rfl,by decide,fun i hi => ?_,⟨by intro d hd;simp at hd;omega,by simp⟩,rfl⟩;have:i=0:=by simpa using hi
 subst this;exact ⟨b,0,_,rfl,hB,rfl⟩
theorem zBc {x:Value} (hx:IsN w x n):Ret prog 163 #[x] w (fun v _=>v = .bool (decide (n=1))):=by
 obtain ⟨p,ds,cap,rfl,hcap,hrd,hno,hn⟩:=hx;have hi:=zKp hno;rw [hn] at hi;by_cases hl:ds.length=1
 · obtain ⟨d,rfl⟩:∃ d,ds=[d]:=by match ds,hl with | [d],_=>exact ⟨d,rfl⟩
   obtain ⟨b,o,cs,rfl,hB,hv⟩:=hrd 0 (by simp);have E0:Ext w w:=Ext.refl w;refine J0 12 func163 rfl (rj fun K=>ag (rm [0] K ?_));refine rJ fun K=>K1 (zI zn rfl (K8 rfl (mv (K7 (K2 (zG zn rfl rfl (by decide) (by simp) (K2 (zD zBF rfl hB hv (K2 (zJ rfl rfl rfl (pk rfl (ag (rm [2] K ?_)))))))))))));refine zE (en rfl E0 ?_);show Value.bool ((d:Int)==1)=_;congr 1;rw [Bool.eq_iff_iff];simp at hi ⊢;omega
 · have hl':((((ds.length:Nat):Int)==1)==true)=false:=by simp;omega
   have E0:Ext w w:=Ext.refl w;refine J0 12 func163 rfl (rj fun K=>ag (rm [0] K ?_));refine rJ fun K=>K1 (zI zn rfl (K8 rfl (mv (zBs hl' (zBs hl' (zBs hl' (zBs hl' (pk rfl (ag (rm [2] K ?_))))))))));refine zE (en rfl E0 ?_);show (if (((ds.length:Nat):Int)==1)=true then _ else Value.bool false)=_;rw [if_neg (by simp;omega)];congr 1;have:¬ n=1:=fun e=>hl (hi.1 e).1;simp [this]
theorem zDf (hn:n<1152921504606846976):Ret prog 248 #[.int .i64 (n:Int)] w (fun v w'=>IsN w' v n):=by
 have hq:IntKind.i64.wrap (((n:Nat):Int).tdiv 1073741824)=((n/1073741824:Nat):Int):=zm (by show (-9223372036854775808:Int)≤((n/1073741824:Nat):Int);omega) (by show ((n/1073741824:Nat):Int)<9223372036854775808;omega);refine J0 9 func248 rfl (rj fun K=>ag (rm [0] K ?_));refine rJ fun K=>K1 (zHD rfl rfl (by decide) (mv (K1 (zCT rfl rfl (by decide) ?_))));refine K1 (zi (cs:=[.int .i64 (((n:Nat):Int).tmod 1073741824),.int .i64 (IntKind.i64.wrap (((n:Nat):Int).tdiv 1073741824))]) zAq info2' (by decide) (by decide) (by kernel_rfl) fun b w1 hb hE hB hs => ?_);replace E0:=E0.trans hE;clear hE hb hs;rw [hq] at hB;replace hB:Blk w1 b 2 (dv [n%1073741824,n/1073741824]):=hB;refine K1 (j0 E0 hb264 (zEs (ds:=[n%1073741824,n/1073741824]) rfl (Nat.le_refl _) (Rd.of_blk hB) (by intro d hd;simp at hd;omega) (by decide)) fun v1_5 w1 E0 hr => ?_);rw [show nat30 [n%1073741824,n/1073741824]=n from by simp only [nat30];omega] at hr;refine ag (rm [2] K ?_);exact zE (en rfl E0 hr)
theorem order3_ok {x y:Value} (hx:IsN w x m) (hy:IsN w y n) (hm:Fit m) (hn:Fit n):Ret prog 202 #[x,y] w (fun v _=>∃ c,v = .int .i64 c∧(c = -1∨c=0∨c=1)∧CmpIs c m n):=by
 obtain ⟨pa,xs,ca,rfl,hca,ha,hxn,hxv⟩:=hx;obtain ⟨pb,ys,cb,rfl,hcb,hb,hyn,hyv⟩:=hy;subst hxv;subst hyv;have hlx:=hxn.fit hm;have hly:=hyn.fit hn;have E0:Ext w w:=Ext.refl w;refine J0 41 func202 rfl (rj fun K=>ag (rm [0,1] K ?_));refine zA (rJ fun K=>K1 (zI zn rfl (mv (K1 (zI zn rfl (K8 rfl (rm [0,1,10] K ?_)))))));refine K0 rfl ?_ ?_<;>intro hc
 · have hl:xs.length<ys.length:=t_lt hc;refine rj fun K=>ag (rm [0,1,4] K ?_);refine zE (zU (en rfl E0 ⟨-1,rfl,.inl rfl,?_⟩));have:=Norm.len_lt hxn.1 hyn hl;exact ⟨⟨fun _=>this,fun _=>by omega⟩,⟨fun e=>by omega,fun e=>by omega⟩⟩
 · have hl1:ys.length≤xs.length:=f_lt hc;clear hc;refine sk (zA (rJ fun K=>K1 (zI zn rfl (mv (K1 (zI zn rfl (K8 rfl (rm [0,1,15] K ?_))))))));refine K0 rfl ?_ ?_<;>intro hc
   · have hl:ys.length<xs.length:=t_lt hc;refine rj fun K=>ag (rm [0,1,4] K ?_);refine zE (zU (en rfl E0 ⟨1,rfl,.inr (.inr rfl),?_⟩));have:=Norm.len_lt hyn.1 hxn hl;exact ⟨⟨fun _=>by omega,fun _=>by omega⟩,⟨fun e=>by omega,fun e=>by omega⟩⟩
   · have hl2:xs.length≤ys.length:=f_lt hc;clear hc;have hl:xs.length=ys.length:=by omega
     refine sk (zA (rJ fun K=>K1 (zI zn rfl (K8 rfl (ag (rm [0,1,5] K ?_))))));refine zF (zg (X:=Nat) (fun k ρ w'=>Keep ρ [(0,.slice pa xs.length ca),(1,.slice pb ys.length cb),(5,.int .i64 (((k:Nat):Int)-1))]∧k≤xs.length∧nat30 (xs.drop k)=nat30 (ys.drop k)∧Ext w w'∧Rd w' pa xs∧Rd w' pb ys) (fun k=>k) xs.length ⟨⟨rfl,rfl,rfl,rfl,rfl,congrArg (Value.int .i64) (zm (by omega) (by omega)),trivial⟩,Nat.le_refl _,by rw [hl,List.drop_length,← hl,List.drop_length],E0,ha,hb⟩ ?_);clear E0 ha hb;rintro k ρ1 w1 ⟨hk,hkl,hdk,E0,ha,hb⟩;refine wpe_k _ hk ?_;clear hk ρ1;refine zA (zA ?_);rcases k with _ | k
     · skip
       refine rI fun K=>K8 rfl (rs [0,1,5,20] K ?_);refine wcf rfl (zY (zx (zl (zL (zM (rj fun K=>ag (rm [0,1,4,5] K ?_)))))));refine zE (en rfl E0 ⟨0,rfl,.inr (.inl rfl),?_⟩);simp only [List.drop_zero] at hdk;rw [hdk];exact ⟨⟨fun h=>by omega,fun h=>by omega⟩,⟨fun _=>rfl,fun _=>rfl⟩⟩
     · obtain ⟨b1,o1,cs1,hpa1,hB1,hv1⟩:=ha k (by omega);obtain ⟨b2,o2,cs2,hpb2,hB2,hv2⟩:=hb k (by omega);have hkey:=nat30_eq_of hxn.1 hyn.1 hl (by omega) hdk;have hk0:decide ((((k+1:Nat):Int)-1)≥0)=true:=by simp only [decide_eq_true_eq];omega
       have hwk:IntKind.i64.wrap (((k+1:Nat):Int)-1-1)=((k:Nat):Int)-1:=by rw [zm (by omega) (by omega)];omega
       have hkn:(((k+1:Nat):Int)-1).toNat=k:=by omega
       refine rI fun K=>K8 rfl (rs [0,1,5,20] K ?_);refine wct (congrArg Value.bool hk0) (sk (zA (zF (zA (zA (zBt mixed rfl rfl fun K hK=>qr rfl (fun wx hE=>zC ⟨rfl,Ext.refl _⟩) (qr rfl (fun wx hE=>zC ⟨rfl,Ext.refl _⟩) (qr rfl (fun wx hE=>zG (b:=b1) (o:=o1) zn (congrArg (fun p=>Value.slice p xs.length ca) hpa1) rfl (by omega) (by omega) ⟨rfl,Ext.refl _⟩) ?_))))))));refine qr rfl (fun wx hE=>zD zBF rfl (hB1.ext hE) (by rw [hkn];simpa using hv1) ⟨rfl,Ext.refl _⟩) ?_;refine qr rfl (fun wx hE=>zC ⟨rfl,Ext.refl _⟩) (qr rfl (fun wx hE=>zC ⟨rfl,Ext.refl _⟩) (qr rfl (fun wx hE=>zG (b:=b2) (o:=o2) zn (congrArg (fun p=>Value.slice p ys.length cb) hpb2) rfl (by omega) (by omega) ⟨rfl,Ext.refl _⟩) ?_));refine qr rfl (fun wx hE=>zD zBF rfl (hB2.ext hE) (by rw [hkn];simpa using hv2) ⟨rfl,Ext.refl _⟩) ?_;refine qr rfl (fun wx hE=>zJ rfl rfl rfl ⟨rfl,Ext.refl _⟩) (hK _ fun wq hE => ?_);replace E0:=E0.trans hE;replace ha:=ha.ext hE;replace hb:=hb.ext hE;replace hB1:=hB1.ext hE;replace hB2:=hB2.ext hE;clear hE;refine zM (K5 [0,1,5,31] ?_);refine K0 rfl ?_ ?_<;>intro hc
       · have hlt:xs.getD k 0<ys.getD k 0:=t_lt hc;refine rj fun K=>ag (rm [0,1,4,5] K ?_);refine zE (zU (zZ (zU (zAI (zZ (zU (en rfl E0 ⟨-1,rfl,.inl rfl,?_⟩)))))));have:=hkey.2.1 hlt;exact ⟨⟨fun _=>this,fun _=>by omega⟩,⟨fun e=>by omega,fun e=>by omega⟩⟩
       · have hge:ys.getD k 0≤xs.getD k 0:=f_lt hc;clear hc;refine sk (zA (zBt mixed rfl rfl fun K hK=>qr rfl (fun wx hE=>zC ⟨rfl,Ext.refl _⟩) (qr rfl (fun wx hE=>zC ⟨rfl,Ext.refl _⟩) (qr rfl (fun wx hE=>zG (b:=b1) (o:=o1) zn (congrArg (fun p=>Value.slice p xs.length ca) hpa1) rfl (by omega) (by omega) ⟨rfl,Ext.refl _⟩) ?_))));refine qr rfl (fun wx hE=>zD zBF rfl (hB1.ext hE) (by rw [hkn];simpa using hv1) ⟨rfl,Ext.refl _⟩) ?_;refine qr rfl (fun wx hE=>zC ⟨rfl,Ext.refl _⟩) (qr rfl (fun wx hE=>zC ⟨rfl,Ext.refl _⟩) (qr rfl (fun wx hE=>zG (b:=b2) (o:=o2) zn (congrArg (fun p=>Value.slice p ys.length cb) hpb2) rfl (by omega) (by omega) ⟨rfl,Ext.refl _⟩) ?_));refine qr rfl (fun wx hE=>zD zBF rfl (hB2.ext hE) (by rw [hkn];simpa using hv2) ⟨rfl,Ext.refl _⟩) ?_;refine qr rfl (fun wx hE=>zJ rfl rfl rfl ⟨rfl,Ext.refl _⟩) (hK _ fun wq hE => ?_);replace E0:=E0.trans hE;replace ha:=ha.ext hE;replace hb:=hb.ext hE;replace hB1:=hB1.ext hE;replace hB2:=hB2.ext hE;clear hE;refine zM (K5 [0,1,5,40] ?_);refine K0 rfl ?_ ?_<;>intro hc
         · have hlt:ys.getD k 0<xs.getD k 0:=t_lt hc;refine rj fun K=>ag (rm [0,1,4,5] K ?_);refine zE (zZ (zU (zAI (zZ (zU (en rfl E0 ⟨1,rfl,.inr (.inr rfl),?_⟩))))));have:=hkey.2.2 hlt;exact ⟨⟨fun _=>by omega,fun _=>by omega⟩,⟨fun e=>by omega,fun e=>by omega⟩⟩
         · have hle:xs.getD k 0≤ys.getD k 0:=f_lt hc;have heq:xs.getD k 0=ys.getD k 0:=by omega
           exact zp (zR (zM (rI fun K=>K8 rfl (ag (rl K (zO (⟨rfl,k,⟨⟨rfl,rfl,rfl,rfl,rfl,congrArg (Value.int .i64) hwk,trivial⟩,by omega,hkey.1 heq,E0,ha,hb⟩,by omega⟩)))))))
theorem zGq {x y:Value} (hx:IsN w x m) (hy:IsN w y n) (hm:Fit m) (hn:Fit n):Ret prog 202 #[x,y] w (fun v _=>∃ c,v = .int .i64 c∧CmpIs c m n) :=
 (order3_ok hx hy hm hn).mono fun _ _ _ ⟨c,h1,_,h3⟩=>⟨c,h1,h3⟩
theorem nat30_drop_le (ds:List Nat) (k:Nat):nat30 (ds.drop k)≤nat30 ds:=by
 conv=>rhs;rw [zBf ds k]
 have:1≤1073741824^(min k ds.length):=Nat.pow_pos (by decide);have:=Nat.mul_le_mul_right (nat30 (ds.drop k)) this;omega
theorem zLg {x:Value} (hx:IsN w x n) (hn:n<1152921504606846976):Ret prog 251 #[x] w (fun v _=>v = .int .i64 (n:Int)):=by
 obtain ⟨p,ds,cap,rfl,hcap,hrd,hno,hnv⟩:=hx;subst hnv;have hl2:ds.length≤2:=by
  by_cases h0:ds=[]
  · subst h0;decide
  · have h1:=hno.lo h0;rcases Nat.lt_or_ge 2 ds.length with h | h
    · have:=Nat.pow_le_pow_right (show 0<1073741824 by decide) (show 2≤ds.length-1 by omega);omega
    · exact h
 have E0:Ext w w:=Ext.refl w;refine J0 20 func251 rfl (rj fun K=>ag (rm [0] K ?_));refine rj fun K=>ag (rm [0,3] K ?_);refine zA (rJ fun K=>K1 (zI zn rfl (K8 rfl (ag (rm [0,3,4] K ?_)))));refine zF ?_;refine zg (X:=Nat) (fun k ρ w'=>Keep ρ [(0,.slice p ds.length cap),(3,.int .i64 ((nat30 (ds.drop k):Nat):Int)),(4,.int .i64 (((k:Nat):Int)-1))]∧k≤ds.length∧Ext w w'∧Rd w' p ds) (fun k=>k) ds.length ⟨⟨rfl,rfl,rfl,by rw [List.drop_length];rfl,rfl,congrArg (Value.int .i64) (zm (by omega) (by omega)),trivial⟩,Nat.le_refl _,E0,hrd⟩ ?_;clear E0 hrd;rintro k ρ1 w1 ⟨hk,hkl,E0,hrd⟩;refine wpe_k _ hk ?_;clear hk ρ1;refine zA (zA ?_);rcases k with _ | k
 · skip
   refine rI fun K=>K8 rfl (rs [0,3,4,9] K ?_);refine wcf rfl (zY (zx (zl (zL (zM (rJ fun K=>ag (rm [0,2,3,4] K ?_)))))));exact zE (en rfl E0 rfl)
 · obtain ⟨b1,o1,cs1,hpa1,hB1,hv1⟩:=hrd k (by omega);have hk0:decide ((((k+1:Nat):Int)-1)≥0)=true:=by simp only [decide_eq_true_eq];omega
   have hwk:IntKind.i64.wrap (((k+1:Nat):Int)-1-1)=((k:Nat):Int)-1:=by rw [zm (by omega) (by omega)];omega
   have hkn:(((k+1:Nat):Int)-1).toNat=k:=by omega
   have hd:=zAx (show k<ds.length by omega);have hdl:=nat30_drop_le ds k;have hsum:IntKind.i64.wrap (IntKind.i64.wrap (((nat30 (ds.drop (k+1)):Nat):Int)*1073741824)+((ds.getD k 0:Nat):Int))=((nat30 (ds.drop k):Nat):Int):=by
    have hi:IntKind.i64.wrap (((nat30 (ds.drop (k+1)):Nat):Int)*1073741824)=((nat30 (ds.drop (k+1)):Nat):Int)*1073741824:=zm (by omega) (by omega);rw [hi,zm (by omega) (by omega)];omega
   refine rI fun K=>K8 rfl (rs [0,3,4,9] K ?_);refine wct (congrArg Value.bool hk0) (sk (zA (zF (rI fun K=>K8 rfl (mv (mv (K1 (zG (b:=b1) (o:=o1) zn (congrArg (fun p=>Value.slice p ds.length cap) hpa1) rfl (by omega) (by omega) ?_))))))));refine K1 (zD zBF rfl hB1 (by rw [hkn];simpa using hv1) ?_);refine K8 rfl (ag (rl K (zR (zM (K5 [0,3,4] ?_)))));refine rI fun K=>K8 rfl (ag (rl K (zO (⟨rfl,k,⟨⟨rfl,rfl,rfl,congrArg (Value.int .i64) hsum,rfl,congrArg (Value.int .i64) hwk,trivial⟩,by omega,E0,hrd⟩,by omega⟩))))
def bitsN (n:Nat):Nat:=if n=0 then 0 else n.log2+1
theorem bitsN_half (h:n≠0):bitsN n=bitsN (n/2)+1:=by
 unfold bitsN;rw [if_neg h,Nat.log2_def];by_cases h2:2≤n
 · rw [if_pos h2,if_neg (by omega)]
 · rw [if_neg h2,if_pos (by omega)]
theorem log2_top {top:Nat} (ha:a<2^k) (ht:top≠0):(a+2^k*top).log2=k+top.log2:=by
 have h0:0<2^k:=Nat.pow_pos (by decide);have h1:0<2^k*top:=Nat.mul_pos h0 (by omega);rw [Nat.log2_eq_iff (by omega)];have e1:=Nat.log2_self_le ht;have e2:=(Nat.log2_lt ht (k:=top.log2+1)).1 (by omega);have e3:=Nat.mul_le_mul_left (2^k) e1;have e4:=Nat.mul_le_mul_left (2^k) (show top+1≤2^(top.log2+1) from e2);rw [← Nat.pow_add] at e3 e4;rw [Nat.mul_add,Nat.mul_one] at e4;rw [Nat.add_assoc];omega
theorem pow30 (k:Nat):1073741824^k=2^(30*k):=by rw [Nat.pow_mul]
theorem bitsN_top (h:Dig ds) (hl:ds.length=k+1) (h0:ds.getD k 0≠0):bitsN (nat30 ds)=30*k+bitsN (ds.getD k 0):=by
 have e:=zCS (ds:=ds) (k:=k) (by omega);rw [List.take_of_length_le (by omega)] at e;have hlt:=zCQ _ (h.take k);rw [List.length_take,Nat.min_eq_left (by omega),pow30] at hlt;rw [pow30] at e;have hp:0<2^(30*k)*ds.getD k 0:=Nat.mul_pos (Nat.pow_pos (by decide)) (by omega);rw [e];unfold bitsN;rw [if_neg (by omega),if_neg h0,log2_top hlt h0];omega
theorem Norm.last (h:Norm ds) (hl:ds.length=k+1):ds.getD k 0≠0:=by
 have:=h.2;rw [List.getLast?_eq_getElem?,hl,Nat.add_sub_cancel] at this;intro e;apply this;rw [List.getD_eq_getElem?_getD] at e;rw [List.getElem?_eq_getElem (by omega)] at e ⊢;simpa using e
theorem bitsN_le:bitsN n≤n:=by
 unfold bitsN;split
 · omega
 · rename_i h;exact (Nat.log2_lt h).2 (Nat.lt_two_pow_self)
theorem length_ok {x:Value} (hx:IsN w x n) (hf:Fit n):Ret prog 308 #[x] w (fun v _=>v = .int .i64 (bitsN n:Nat)):=by
 obtain ⟨p,ds,cap,rfl,hcap,hrd,hno,hnv⟩:=hx;subst hnv;have hlx:=hno.fit hf;rcases Nat.eq_zero_or_pos ds.length with hl0 | hl0
 · obtain rfl:=List.eq_nil_of_length_eq_zero hl0;have E0:Ext w w:=Ext.refl w;refine J0 25 func308 rfl (rj fun K=>ag (rm [0] K ?_));refine zA (rJ fun K=>K1 (zI zn rfl (K8 rfl (rm [0,7] K ?_))));refine wct rfl (rj fun K=>ag (rm [2] K ?_));exact zE (zU (en rfl E0 rfl))
 · obtain ⟨k,hlk⟩:∃ k,ds.length=k+1:=⟨ds.length-1,by omega⟩;have hlast:=hno.last hlk;have hb1:bitsN (ds.getD k 0)≤1073741824:=Nat.le_trans bitsN_le (Nat.le_of_lt (hno.1.getD k));have hdk:=hno.1.getD k;have hw1:IntKind.i64.wrap (((ds.length:Nat):Int)-1)=(k:Int):=by rw [zm (by omega) (by omega)];omega
   obtain ⟨b1,o1,cs1,hpa1,hB1,hv1⟩:=hrd k (by omega);have E0:Ext w w:=Ext.refl w;refine J0 25 func308 rfl (rj fun K=>ag (rm [0] K ?_));refine zA (rJ fun K=>K1 (zI zn rfl (K8 rfl (rm [0,7] K ?_))));have hcl:(((ds.length:Nat):Int)==0)=false:=beq_eq_false_iff_ne.2 (by omega);refine wcf (congrArg Value.bool hcl) (sk (rJ fun K=>K1 (zI zn rfl (K8 rfl (K8 rfl (ag (rm [0,3] K ?_)))))));refine zA (rJ fun K=>mv (K1 (zI zn rfl (K8 rfl (K1 (zG (b:=b1) (o:=o1) (ix:=(k:Int)) zn (congrArg (fun p=>Value.slice p ds.length cap) hpa1) (congrArg (Value.int .i64) hw1) (by omega) (by omega) (K1 (zD zBF rfl hB1 (by simpa using hv1) (ag (rm [3,4] K ?_))))))))));refine zF (zg (X:=Nat) (fun t ρ w'=>Keep ρ [(3,.int .i64 ((30*k+bitsN (ds.getD k 0)-bitsN t:Nat):Int)),(4,.int .i64 ((t:Nat):Int))]∧t≤ds.getD k 0∧bitsN t≤bitsN (ds.getD k 0)∧Ext w w') (fun t=>t) (ds.getD k 0) ⟨⟨rfl,?_,rfl,rfl,trivial⟩,Nat.le_refl _,Nat.le_refl _,E0⟩ ?_)
   · show Value.int .i64 (IntKind.i64.wrap (30*IntKind.i64.wrap (((ds.length:Nat):Int)-1)))=_;rw [hw1,zm (by omega) (by omega)];congr 1;omega
   clear E0;rintro t ρ1 w1 ⟨hk,hkl,hbt,E0⟩;refine wpe_k _ hk ?_;clear hk ρ1;refine zA (rJ fun K=>K8 rfl (rm [3,4,19] K ?_));refine K0 rfl ?_ ?_<;>intro hc
   · have ht:0<t:=t_lt (a:=0) hc;clear hc;have hhalf:=bitsN_half (show t≠0 by omega);refine sk (zA (zF (rI fun K=>K8 rfl (ag (rl K (zR (zM (K5 [3,4] ?_))))))));refine rI fun K=>K1 (zCT rfl rfl (by decide) (ag (rl K (zO ?_))));refine ⟨rfl,t/2,⟨⟨rfl,congrArg (Value.int .i64) (by rw [zm (by omega) (by omega)];omega),rfl,congrArg (Value.int .i64) (zm (by show (-9223372036854775808:Int)≤((t/2:Nat):Int);omega) (by show ((t/2:Nat):Int)<9223372036854775808;omega)),trivial⟩,by omega,by omega,E0⟩,by omega⟩
   · have ht:t≤0:=f_lt (a:=0) hc;obtain rfl:t=0:=by omega
     refine zY (zx (zl (zL (zM (rJ fun K=>ag (rm [2,3,4] K ?_))))));refine zE (en rfl E0 ?_);rw [bitsN_top hno.1 hlk hlast];rfl
theorem zeros_law {r:Nat} (h:n=2^(30*k)*(2^c*d+1073741824*r)) (hd:d%2=1) (hc:2^c*d<1073741824):2^(30*k+c)∣n∧n/2^(30*k+c)%2=1:=by
 have hc30:c<30:=by
  have h1:2^c*1≤2^c*d:=Nat.mul_le_mul_left _ (by omega);exact (Nat.pow_lt_pow_iff_right (by decide:1<2)).1 (show 2^c<2^30 by omega)
 obtain ⟨e,he⟩:∃ e,30=c+(e+1):=⟨29-c,by omega⟩;have h30:1073741824=2^c*2^(e+1):=by rw [← Nat.pow_add,← he]
 have hn:n=2^(30*k+c)*(d+2*(2^e*r)):=by
  rw [h,h30,Nat.pow_add,Nat.pow_succ];grind
 refine ⟨⟨_,hn⟩,?_⟩;rw [hn,Nat.mul_div_cancel_left _ (Nat.pow_pos (by decide))];omega
theorem zJH {x:Value} (hx:IsN w x n) (hf:Fit n) (h0:n≠0):Ret prog 249 #[x] w (fun v _=>∃ z:Nat,v = .int .i64 (z:Int)∧2^z∣n∧n/2^z%2=1):=by
 obtain ⟨p,ds,cap,rfl,hcap,hrd,hno,hnv⟩:=hx;subst hnv;have hlx:=hno.fit hf;have hne:ds≠[]:=fun e=>h0 (by rw [e];rfl);have hl0:0<ds.length:=List.length_pos_iff.2 hne;have E0:Ext w w:=Ext.refl w;refine J0 26 func249 rfl (rj fun K=>ag (rm [0] K ?_));refine rj fun K=>ag (rm [0,3] K ?_);refine zA (zF (zg (X:=Nat) (fun k ρ w'=>Keep ρ [(0,.slice p ds.length cap),(3,.int .i64 ((30*k:Nat):Int))]∧k<ds.length∧nat30 (ds.take k)=0∧Ext w w'∧Rd w' p ds) (fun k=>ds.length-k) 0 ⟨(kp rfl),hl0,rfl,E0,hrd⟩ ?_));clear E0 hrd;rintro k ρ1 w1 ⟨hk,hkl,hnk,E0,hrd⟩;refine wpe_k _ hk ?_;clear hk ρ1;obtain ⟨b1,o1,cs1,hpa1,hB1,hv1⟩:=hrd k hkl;have hq:IntKind.i64.wrap (((30*k:Nat):Int).tdiv 30)=(k:Int):=by
  have e:((30*k:Nat):Int).tdiv 30=((30*k/30:Nat):Int):=rfl;rw [e,zm (by omega) (by omega)];omega
 refine zA (rJ fun K=>mv (K1 (zCT rfl rfl (by decide) (K1 (zG (b:=b1) (o:=o1) (ix:=(k:Int)) zn (congrArg (fun p=>Value.slice p ds.length cap) hpa1) (congrArg (Value.int .i64) hq) (by omega) (by omega) (K1 (zD zBF rfl hB1 (by simpa using hv1) (K8 rfl (rm [0,3,10] K ?_)))))))));refine K0 rfl ?_ ?_<;>intro hc
 · have hz:ds.getD k 0=0:=t_beq (b:=0) hc;refine sk (zF (rI fun K=>K8 rfl (ag (rl K (zR (zO ?_))))));have hk1:k+1<ds.length:=by
    rcases Nat.lt_or_ge (k+1) ds.length with h | h
    · exact h
    · exact absurd hz (hno.last (by omega))
   refine ⟨rfl,k+1,⟨⟨rfl,rfl,rfl,congrArg (Value.int .i64) (by rw [zm (by omega) (by omega)];omega),trivial⟩,hk1,by rw [zCn hkl hz];exact hnk,E0,hrd⟩,by omega⟩
 · have hz:ds.getD k 0≠0:=f_beq (b:=0) hc;clear hc;refine zY (zx (zl (zL (zM (zA (rJ fun K=>mv (K1 (zCT rfl rfl (by decide) (K1 (zG (b:=b1) (o:=o1) (ix:=(k:Int)) zn (congrArg (fun p=>Value.slice p ds.length cap) hpa1) (congrArg (Value.int .i64) hq) (by omega) (by omega) (K1 (zD zBF rfl hB1 (by simpa using hv1) (ag (rm [0,3,4] K ?_))))))))))))));refine zF ?_;have hdk:=hno.1.getD k;refine zg (X:=Nat×Nat) (fun q ρ w'=>Keep ρ [(3,.int .i64 ((30*k+q.1:Nat):Int)),(4,.int .i64 ((q.2:Nat):Int))]∧2^q.1*q.2=ds.getD k 0∧q.1≤1073741824∧0<q.2∧q.2+q.1≤1073741824∧Ext w w') (fun q=>q.2) (0,ds.getD k 0) ⟨(kp rfl),by simp,Nat.zero_le _,by simp only;omega,by simp only;omega,E0⟩ ?_;clear E0 hrd;rintro ⟨c,d⟩ ρ1 w2 ⟨hk,hcd,hc1,hd0,hcd1,E0⟩;simp only at hk hcd hc1 hd0 hcd1;refine wpe_k _ hk ?_;clear hk ρ1;refine zA (rJ fun K=>K1 (zHD rfl rfl (by decide) (K8 rfl (rm [3,4,20] K ?_))));refine K0 rfl ?_ ?_<;>intro hc
   · have hev:d%2=0:=t_beq (a:=d%2) (b:=0) hc;clear hc;refine sk (zA (zF (rI fun K=>K8 rfl (ag (rl K (zR (zM (K5 [3,4] ?_))))))));refine rI fun K=>K1 (zCT rfl rfl (by decide) (ag (rl K (zO ?_))));refine ⟨rfl,(c+1,d/2),⟨⟨rfl,congrArg (Value.int .i64) (by rw [zm (by omega) (by omega)];omega),rfl,congrArg (Value.int .i64) (zm (by show (-9223372036854775808:Int)≤((d/2:Nat):Int);omega) (by show ((d/2:Nat):Int)<9223372036854775808;omega)),trivial⟩,?_,by simp only;omega,by simp only;omega,by simp only;omega,E0⟩,by simp only;omega⟩;simp only;rw [← hcd,Nat.pow_succ,Nat.mul_assoc];congr 1;omega
   · have hod:d%2≠0:=f_beq (a:=d%2) (b:=0) hc;refine zY (zx (zl (zL (zM (rJ fun K=>ag (rm [2,3,4] K ?_))))));refine zE (en rfl E0 ⟨30*k+c,rfl,?_⟩);have e1:=zBf ds k;rw [hnk,Nat.zero_add,Nat.min_eq_left (by omega),pow30,zAx hkl,← hcd] at e1;exact zeros_law e1 (by omega) (by have:=hno.1.getD k;omega)
variable {P:Program} {b i o sz':Nat} {af:Array Edge} {xs ys:List Nat} {fd:Nat→Nat→Nat→Nat×Nat} {g:Option (Nat×Bool)} {k':IntKind} {pos:String} {r:Option Nat} {t' ty:TypeId} {v:Value} {w':World} {x y:Operand} {σ:Operand→Value}
section laws
variable {K:Value→World→Prop} {d:Option Tmp} {t:TypeId}
theorem zIZ {s:Nat} (c:Nat) (hx:σ x = .int .i64 (a:Int)) (hy:σ y = .int k' (s:Int)) (hs:s≤64) (h:a*2^s=c) (hc:c<9223372036854775808) (hk:K (.int .i64 (c:Int)) w):Runs P r ⟨d,.binOp .shl t x y t',ty,pos,af,g⟩ σ w K:=by
 refine zLr hx hy (by omega) ?_;have e:min (s:Int).toNat IntKind.i64.bits=s:=by simp [IntKind.bits];omega
 have e2:(a:Int)*2^s=(c:Int):=by rw [← h];simp
 rw [e,e2,zm (by omega) (by omega)];exact hk
end laws
theorem zMF:((ze fd xs ys i).1++List.replicate (n+1) 0).set i (fd (xs.getD i 0) (ys.getD i 0) (ze fd xs ys i).2).1=(ze fd xs ys (i+1)).1++List.replicate n 0:=by
 have h3:=zDE (ze fd xs ys i).1 n (fd (xs.getD i 0) (ys.getD i 0) (ze fd xs ys i).2).1;rw [zAF] at h3;exact h3
theorem set_last:((ze fd xs ys i).1++List.replicate 1 0).set i c=(ze fd xs ys i).1++[c]:=by
 have h3:=zDE (ze fd xs ys i).1 0 c;rw [zAF] at h3;simpa using h3
theorem zMZ {x y:Value} (hx:IsN w x m) (hy:IsN w y n) (hm:Fit m) (hn:Fit n):Ret prog 199 #[x,y] w (fun v w'=>IsN w' v (m+n)):=by
 obtain ⟨pa0,xs0,ca0,rfl,hca,ha0,hxn0,hxv⟩:=hx;obtain ⟨pb0,ys0,cb0,rfl,hcb,hb0,hyn0,hyv⟩:=hy;subst hxv;subst hyv;have hlx:=hxn0.fit hm;have hly:=hyn0.fit hn;have E0:Ext w w:=Ext.refl w;refine J0 55 func199 rfl (rj fun K=>ag (rm [0,1] K ?_));refine zAu (fun ρ w'=>∃ pa xs ca pb ys cb,Keep ρ [(0,.slice pa xs.length ca),(1,.slice pb ys.length cb)]∧w=w'∧Rd w pa xs∧Rd w pb ys∧Norm xs∧Norm ys∧ys.length≤xs.length∧nat30 xs+nat30 ys=nat30 xs0+nat30 ys0∧xs.length≤293203100741) ?_ ?_
 · refine rJ fun K=>K1 (zI zn rfl (mv (K1 (zI zn rfl (K8 rfl (rm [0,1,12] K ?_))))));refine K0 rfl ?_ ?_<;>intro hc
   · have hlt:=t_lt hc;clear hc;exact rI fun K=>mv (ag (ag (rl K (zO ⟨rfl,pb0,ys0,cb0,pa0,xs0,ca0,(kp rfl),rfl,hb0,ha0,hyn0,hxn0,by omega,Nat.add_comm _ _,hly⟩))))
   · have hle:=f_lt hc;clear hc;exact zp (zO ⟨rfl,pa0,xs0,ca0,pb0,ys0,cb0,(kp rfl),rfl,ha0,hb0,hxn0,hyn0,hle,rfl,hlx⟩)
 · rintro ρ1 w1 ⟨pa,xs,ca,pb,ys,cb,hk,rfl,ha,hb,hxn,hyn,hll,hsum,hlx1⟩;refine wpe_k _ hk ?_;clear hk ρ1;refine rJ fun K=>K1 (zI zn rfl (K1 (zf (b:=1) (xs.length+1) rfl rfl rfl (by omega) ?_)));refine K1 (zAG zAq info2 rfl rfl rfl (by omega) (by omega) (by omega) fun b w1 hb1 hE hB hs => ?_);have hgb:w.heap.size≤b:=by rw [hb1];exact E0.size
   have hna:=ha.ne (Nat.le_of_eq hb1.symm);have hnb:=hb.ne (Nat.le_of_eq hb1.symm);replace E0:=E0.trans hE;replace ha:=ha.ext hE;replace hb:=hb.ext hE;clear hE hs hb1;rw [show ((xs.length+1:Nat):Int).toNat=xs.length+1 from by omega,show (Value.int IntKind.i64 0).cells.toList=[Value.int IntKind.i64 0] from rfl,zAZ] at hB;refine ag (rm [0,1,5] K ?_);refine rj fun K=>ag (rm [0,1,5,6] K ?_);refine zA (rj fun K=>ag (rm [0,1,5,6,7] K ?_));refine zF ?_;have hcl:=zCo hxn.1 hyn.1 (fd:=fAdd) (fun x y c hx hy hc=>zGZ hx hy hc);refine zg (X:=Nat) (fun i ρ w'=>Keep ρ [(0,.slice pa xs.length ca),(1,.slice pb ys.length cb),(5,.slice (some ⟨b,0,none⟩) (xs.length+1) (xs.length+1)),(6,.int .i64 ((ze fAdd xs ys i).2:Nat)),(7,.int .i64 (i:Nat))]∧i≤xs.length∧Ext w w'∧Rd w' pa xs∧Rd w' pb ys∧Blk w' b 2 (dv ((ze fAdd xs ys i).1++List.replicate (xs.length+1-i) 0))) (fun i=>xs.length-i) 0 ⟨(kp rfl),Nat.zero_le _,E0,ha,hb,hB⟩ ?_;clear E0 ha hb hB;rintro i ρ1 w1 ⟨hk,hil,E0,ha,hb,hB⟩;refine wpe_k _ hk ?_;clear hk ρ1;have hci:=hcl i;have hdx:=hxn.1.getD i;have hdy:=hyn.1.getD i;refine zA (rJ fun K=>mv (K1 (zI zn rfl (K8 rfl (rm [0,1,5,6,7,22] K ?_)))));refine K0 rfl ?_ ?_<;>intro hc
   · have hlt:i<xs.length:=t_lt hc;clear hc;obtain ⟨b2,o2,cs2,hpa2,hB2,hv2⟩:=ha i hlt;refine sk (zA (zF (rJ fun K=>mv (mv (K1 (zG (b:=b2) (o:=o2) zn (congrArg (fun p=>Value.slice p xs.length ca) hpa2) rfl (by omega) (by omega) (K1 (zD zBF rfl hB2 (by simpa using hv2) (K1 (zf ((ze fAdd xs ys i).2+xs.getD i 0) rfl rfl rfl (by omega) (ag (rm [0,1,5,6,7] K ?_))))))))))));refine zAu (fun ρ w'=>Keep ρ [(0,.slice pa xs.length ca),(1,.slice pb ys.length cb),(5,.slice (some ⟨b,0,none⟩) (xs.length+1) (xs.length+1)),(6,.int .i64 ((xs.getD i 0+ys.getD i 0+(ze fAdd xs ys i).2:Nat):Int)),(7,.int .i64 (i:Nat))]∧w1=w') ?_ ?_
     · refine rJ fun K=>mv (K1 (zI zn rfl (K8 rfl (rm [0,1,5,6,7,34] K ?_))));refine K0 rfl ?_ ?_<;>intro hc
       · have hltb:i<ys.length:=t_lt hc;clear hc;obtain ⟨b3,o3,cs3,hpb3,hB3,hv3⟩:=hb i hltb;exact rI fun K=>mv (mv (K1 (zG (b:=b3) (o:=o3) zn (congrArg (fun p=>Value.slice p ys.length cb) hpb3) rfl (by omega) (by omega) (K1 (zD zBF rfl hB3 (by simpa using hv3) (K1 (zf ((ze fAdd xs ys i).2+xs.getD i 0+ys.getD i 0) rfl rfl rfl (by omega) (ag (rl K (zO (⟨rfl,⟨rfl,rfl,rfl,rfl,rfl,rfl,rfl,congrArg (Value.int .i64) (by omega),rfl,rfl,trivial⟩,rfl⟩)))))))))))
       · have hltb:ys.length≤i:=f_lt hc;have hy0:ys.getD i 0=0:=zDO hltb;exact zp (zO (⟨rfl,⟨rfl,rfl,rfl,rfl,rfl,rfl,rfl,congrArg (Value.int .i64) (by omega),rfl,rfl,trivial⟩,rfl⟩))
     · rintro ρ2 w2 ⟨hk,rfl⟩;refine wpe_k _ hk ?_;clear hk ρ2;refine rJ fun K=>mv (mv (K1 (zAH (b:=1073741824) ((xs.getD i 0+ys.getD i 0+(ze fAdd xs ys i).2)%1073741824) rfl rfl (by decide) rfl (K1 (zG (b:=b) (o:=0) zn rfl rfl (by omega) (by omega) ?_)))));refine K1 (zc size2 rfl hB rfl (by simp [zAE,zAF]<;>omega) (by decide) rfl fun w3 hU hN => ?_);refine rm [0,1,5,6,7] K ?_;refine rI fun K=>K1 (zAT (b:=1073741824) ((xs.getD i 0+ys.getD i 0+(ze fAdd xs ys i).2)/1073741824) rfl rfl (by decide) rfl (by omega) (ag (rl K (zR (zM (K5 [0,1,5,6,7] ?_))))));refine rI fun K=>K8 rfl (ag (rl K (zO ?_)));have h2:=zAX (i:=i) (d:=(fAdd (xs.getD i 0) (ys.getD i 0) (ze fAdd xs ys i).2).1) hN (by simp);rw [show xs.length+1-i=xs.length-i+1 from by omega,zMF] at h2;exact ⟨rfl,i+1,⟨⟨rfl,rfl,rfl,rfl,rfl,rfl,rfl,rfl,rfl,congrArg (Value.int .i64) (zr (by omega)),trivial⟩,by omega,E0.upd hU hgb,ha.upd' hU hna,hb.upd' hU hnb,by rw [show xs.length+1-(i+1)=xs.length-i from by omega];exact h2⟩,by omega⟩
   · have hge:=f_lt hc;clear hc;obtain rfl:i=xs.length:=by omega
     refine zY (zx (zl (zL (zM (rJ fun K=>mv (K1 (zI zn rfl (mv (K1 (zG (b:=b) (o:=0) zn rfl rfl (by omega) (by omega) ?_))))))))));refine K1 (zc size2 rfl hB rfl (by simp [zAE,zAF]<;>omega) (by decide) rfl fun w3 hU hN => ?_);replace E0:=E0.upd hU hgb;have h2:=zAX (i:=xs.length) (d:=(ze fAdd xs ys xs.length).2) hN (by simp);rw [show xs.length+1-xs.length=1 from by omega,set_last] at h2;refine rm [0,1,5,6,7] K ?_;refine rJ fun K=>K1 (j0 E0 hb264 (zEs (ds:=(ze fAdd xs ys xs.length).1++[(ze fAdd xs ys xs.length).2]) (by simp [zAF]) (Nat.le_refl _) (Rd.of_blk h2) (zIx hxn.1 hyn.1) (by omega)) fun v14_1 w1 E0 hr => ?_);rw [zEw hll,hsum] at hr;refine ag (rm [0,1,4,5,6,7] K ?_);exact zE (en rfl E0 hr)
def IsF (sz:Nat) (w:World) (v:Value) (n:Nat):Prop:=∃ p ds cap,v = .slice p ds.length cap∧ds.length≤cap∧Rd w p ds∧Norm ds∧nat30 ds=n∧∀ a,p=some a→sz≤a.block
theorem IsF.isN {sz:Nat} (h:IsF sz w v n):IsN w v n:=by
 obtain ⟨p,ds,cap,h1,h2,h3,h4,h5,_⟩:=h;exact ⟨p,ds,cap,h1,h2,h3,h4,h5⟩
theorem IsF.ext {sz:Nat} (h:IsF sz w v n) (hx:Ext w w'):IsF sz w' v n:=by
 obtain ⟨p,ds,cap,h1,h2,h3,h4,h5,h6⟩:=h;exact ⟨p,ds,cap,h1,h2,h3.ext hx,h4,h5,h6⟩
theorem IsF.upd {sz:Nat} (h:IsF sz w v n) (hu:Upd b w w') (hb:b<sz):IsF sz w' v n:=by
 obtain ⟨p,ds,cap,h1,h2,h3,h4,h5,h6⟩:=h;exact ⟨p,ds,cap,h1,h2,h3.upd' hu (fun a ha _=>by have:=h6 a ha;omega),h4,h5,h6⟩
theorem IsF.mono {sz:Nat} (h:IsF sz w v n) (hs:sz'≤sz):IsF sz' w v n:=by
 obtain ⟨p,ds,cap,h1,h2,h3,h4,h5,h6⟩:=h;exact ⟨p,ds,cap,h1,h2,h3,h4,h5,fun a ha=>Nat.le_trans hs (h6 a ha)⟩
theorem IsF.nil {sz:Nat}:IsF sz w (.slice none 0 0) 0:=⟨none,[],0,rfl,Nat.le_refl _,fun i hi=>by simp at hi,⟨fun d hd=>by simp at hd,by simp⟩,rfl,fun a h=>by cases h⟩
theorem zMd {sz:Nat} (hn:ds.length=n) (hcap:n≤cap) (hrd:Rd w p ds) (hdig:Dig ds) (hbig:n<4611686018427387904) (hp:∀ a,p=some a→sz≤a.block):Ret prog 264 #[.slice p n cap] w (fun v w'=>IsF sz w' v (nat30 ds)):=by
 subst hn;exact (zKO hcap hrd hdig hbig).mono fun v w' hx ⟨k,hk,hv,hn,he⟩=>⟨p,ds.take k,cap,by rw [hv];simp [Nat.min_eq_left hk],by simp;omega,(hrd.ext hx).take k,hn,he,hp⟩
theorem fSub_lt {x y:Nat} (hx:x<1073741824) (hy:y<1073741824) (hc:c≤1) (h:(x:Int)-c-y<0):(x:Int)-c-y+1073741824=((fSub x y c).1:Nat)∧(fSub x y c).2=1:=by
 simp only [fSub];rw [if_pos (by omega)];omega
theorem fSub_ge {x y:Nat} (hx:x<1073741824) (hy:y<1073741824) (hc:c≤1) (h:0≤(x:Int)-c-y):(x:Int)-c-y=((fSub x y c).1:Nat)∧(fSub x y c).2=0:=by
 simp only [fSub];rw [if_neg (by omega)];omega
theorem zKm {x y:Value} (hx:IsN w x m) (hy:IsN w y n) (hm:Fit m) (hle:n≤m):Ret prog 203 #[x,y] w (fun v w'=>IsF w.heap.size w' v (m-n)):=by
 obtain ⟨pa,xs,ca,rfl,hca,ha,hxn,hxv⟩:=hx;obtain ⟨pb,ys,cb,rfl,hcb,hb,hyn,hyv⟩:=hy;subst hxv;subst hyv;have hlx:=hxn.fit hm;have hll:ys.length≤xs.length:=by
  rcases Nat.lt_or_ge xs.length ys.length with h | h
  · have:=Norm.len_lt hxn.1 hyn h;omega
  · exact h
 have E0:Ext w w:=Ext.refl w;refine J0 44 func203 rfl (rj fun K=>ag (rm [0,1] K ?_));refine rJ fun K=>K1 (zI zn rfl ?_);refine K1 (zAG zAq info2 rfl rfl rfl (by omega) (by omega) (by omega) fun b w1 hb1 hE hB hs => ?_);have hgb:w.heap.size≤b:=by rw [hb1];exact E0.size
 have hna:=ha.ne (Nat.le_of_eq hb1.symm);have hnb:=hb.ne (Nat.le_of_eq hb1.symm);replace E0:=E0.trans hE;replace ha:=ha.ext hE;replace hb:=hb.ext hE;clear hE hs hb1;rw [show ((xs.length:Nat):Int).toNat=xs.length from by omega,show (Value.int IntKind.i64 0).cells.toList=[Value.int IntKind.i64 0] from rfl,zAZ] at hB;refine ag (rm [0,1,5] K ?_);refine rj fun K=>ag (rm [0,1,5,6] K ?_);refine zA (rj fun K=>ag (rm [0,1,5,6,7] K ?_));refine zF ?_;have hcl:=zCo hxn.1 hyn.1 (fd:=fSub) (fun x y c _ _ _=>zDl x y c);refine zg (X:=Nat) (fun i ρ w'=>Keep ρ [(0,.slice pa xs.length ca),(1,.slice pb ys.length cb),(5,.slice (some ⟨b,0,none⟩) xs.length xs.length),(6,.int .i64 ((ze fSub xs ys i).2:Nat)),(7,.int .i64 (i:Nat))]∧i≤xs.length∧Ext w w'∧Rd w' pa xs∧Rd w' pb ys∧Blk w' b 2 (dv ((ze fSub xs ys i).1++List.replicate (xs.length-i) 0))) (fun i=>xs.length-i) 0 ⟨(kp rfl),Nat.zero_le _,E0,ha,hb,hB⟩ ?_;clear E0 ha hb hB;rintro i ρ1 w1 ⟨hk,hil,E0,ha,hb,hB⟩;refine wpe_k _ hk ?_;clear hk ρ1;have hci:=hcl i;have hdx:=hxn.1.getD i;have hdy:=hyn.1.getD i;refine zA (rJ fun K=>mv (K1 (zI zn rfl (K8 rfl (rm [0,1,5,6,7,15] K ?_)))));refine K0 rfl ?_ ?_<;>intro hc
 · have hlt:i<xs.length:=t_lt hc;clear hc;obtain ⟨b2,o2,cs2,hpa2,hB2,hv2⟩:=ha i hlt;refine sk (zA (zF (rJ fun K=>mv (K1 (zG (b:=b2) (o:=o2) zn (congrArg (fun p=>Value.slice p xs.length ca) hpa2) rfl (by omega) (by omega) (K1 (zD zBF rfl hB2 (by simpa using hv2) (mv (K8 rfl (ag (rm [0,1,5,6,7,8] K ?_)))))))))));refine zAu (fun ρ w'=>Keep ρ [(0,.slice pa xs.length ca),(1,.slice pb ys.length cb),(5,.slice (some ⟨b,0,none⟩) xs.length xs.length),(7,.int .i64 (i:Nat)),(8,.int .i64 ((xs.getD i 0:Int)-(ze fSub xs ys i).2-ys.getD i 0))]∧w1=w') ?_ ?_
   · refine rJ fun K=>mv (K1 (zI zn rfl (K8 rfl (rm [0,1,5,6,7,8,27] K ?_))));refine K0 rfl ?_ ?_<;>intro hc
     · have hltb:i<ys.length:=t_lt hc;clear hc;obtain ⟨b3,o3,cs3,hpb3,hB3,hv3⟩:=hb i hltb;have hd2:IntKind.i64.wrap (IntKind.i64.wrap ((xs.getD i 0:Int)-((ze fSub xs ys i).2:Nat))-(ys.getD i 0:Nat))=(xs.getD i 0:Int)-(ze fSub xs ys i).2-ys.getD i 0:=by
        have e:IntKind.i64.wrap ((xs.getD i 0:Int)-((ze fSub xs ys i).2:Nat))=(xs.getD i 0:Int)-((ze fSub xs ys i).2:Nat):=zm (by omega) (by omega);rw [e,zm (by omega) (by omega)]
       exact rI fun K=>mv (mv (K1 (zG (b:=b3) (o:=o3) zn (congrArg (fun p=>Value.slice p ys.length cb) hpb3) rfl (by omega) (by omega) (K1 (zD zBF rfl hB3 (by simpa using hv3) (K8 rfl (ag (rl K (zO (⟨rfl,⟨rfl,rfl,rfl,rfl,rfl,rfl,rfl,rfl,rfl,congrArg (Value.int .i64) hd2,trivial⟩,rfl⟩))))))))))
     · have hltb:ys.length≤i:=f_lt hc;have hy0:ys.getD i 0=0:=zDO hltb;have hd1:IntKind.i64.wrap ((xs.getD i 0:Int)-((ze fSub xs ys i).2:Nat))=(xs.getD i 0:Int)-(ze fSub xs ys i).2-ys.getD i 0:=by
        rw [zm (by omega) (by omega),hy0];omega
       exact zp (zO (⟨rfl,⟨rfl,rfl,rfl,rfl,rfl,rfl,rfl,rfl,rfl,congrArg (Value.int .i64) hd1,trivial⟩,rfl⟩))
   · rintro ρ2 w2 ⟨hk,rfl⟩;refine wpe_k _ hk ?_;clear hk ρ2;refine rj fun K=>ag (rm [0,1,5,6,7,8] K ?_);refine zAu (fun ρ w'=>Keep ρ [(0,.slice pa xs.length ca),(1,.slice pb ys.length cb),(5,.slice (some ⟨b,0,none⟩) xs.length xs.length),(7,.int .i64 (i:Nat)),(6,.int .i64 ((ze fSub xs ys (i+1)).2:Nat)),(8,.int .i64 ((fSub (xs.getD i 0) (ys.getD i 0) (ze fSub xs ys i).2).1:Nat))]∧w1=w') ?_ ?_
     · refine rJ fun K=>K8 rfl (rm [0,1,5,6,7,8,35] K ?_);refine K0 rfl ?_ ?_<;>intro hc
       · have hneg:(xs.getD i 0:Int)-(ze fSub xs ys i).2-ys.getD i 0<0:=of_decide_eq_true hc;clear hc;have hd4:=fSub_lt hdx hdy hci hneg;have hd5:IntKind.i64.wrap ((xs.getD i 0:Int)-(ze fSub xs ys i).2-ys.getD i 0+1073741824)=((fSub (xs.getD i 0) (ys.getD i 0) (ze fSub xs ys i).2).1:Nat):=by rw [zm (by omega) (by omega)];exact hd4.1
         refine rJ fun K=>K8 rfl (ag (rm [0,1,5,6,7,8] K ?_));exact K6 fun K=>ag (rl K (zO (⟨rfl,⟨rfl,rfl,rfl,rfl,rfl,rfl,rfl,rfl,rfl,congrArg (fun n:Nat=>Value.int .i64 (n:Int)) hd4.2.symm,rfl,congrArg (Value.int .i64) hd5,trivial⟩,rfl⟩)))
       · have hneg:¬ (xs.getD i 0:Int)-(ze fSub xs ys i).2-ys.getD i 0<0:=of_decide_eq_false hc;have hd4:=fSub_ge hdx hdy hci (by omega);exact zp (zO (⟨rfl,⟨rfl,rfl,rfl,rfl,rfl,rfl,rfl,rfl,rfl,congrArg (fun n:Nat=>Value.int .i64 (n:Int)) hd4.2.symm,rfl,congrArg (Value.int .i64) hd4.1,trivial⟩,rfl⟩))
     · rintro ρ2 w2 ⟨hk,rfl⟩;refine wpe_k _ hk ?_;clear hk ρ2;refine rI fun K=>mv (mv (K1 (zG (b:=b) (o:=0) zn rfl rfl (by omega) (by omega) ?_)));refine K1 (zc size2 rfl hB rfl (by simp [zAE,zAF]<;>omega) (by decide) rfl fun w3 hU hN => ?_);refine rl K (zR (zM (K5 [0,1,5,6,7,8] ?_)));refine rI fun K=>K8 rfl (ag (rl K (zO ?_)));have h2:=zAX (i:=i) (d:=(fSub (xs.getD i 0) (ys.getD i 0) (ze fSub xs ys i).2).1) hN (by simp);rw [show xs.length-i=xs.length-(i+1)+1 from by omega,zMF] at h2;exact ⟨rfl,i+1,⟨⟨rfl,rfl,rfl,rfl,rfl,rfl,rfl,rfl,rfl,congrArg (Value.int .i64) (zr (by omega)),trivial⟩,by omega,E0.upd hU hgb,ha.upd' hU hna,hb.upd' hU hnb,h2⟩,by omega⟩
 · have hge:=f_lt hc;clear hc;obtain rfl:i=xs.length:=by omega
   rw [Nat.sub_self,List.replicate_zero,List.append_nil] at hB;refine zY (zx (zl (zL (zM (rj fun K=>mv ?_)))));refine K1 (j3 E0 ha.ext hb.ext hB.ext hb264 (zMd (sz:=w.heap.size) (ds:=(ze fSub xs ys xs.length).1) (by simp [zAF]) (Nat.le_refl _) (Rd.of_blk hB) (Dig.of_append (zKw xs ys)) (by omega) (fun a e=>by cases e;exact hgb)) fun v14_1 w1 E0 ha hb hB hr => ?_);rw [zGM hxn.1 hyn.1 hll hle] at hr;refine ag (rm [0,1,4,5,6,7] K ?_);exact zE (en rfl E0 hr)
theorem zJI {x y:Value} (hx:IsN w x m) (hy:IsN w y n) (hm:Fit m) (hle:n≤m):Ret prog 203 #[x,y] w (fun v w'=>IsN w' v (m-n)):=(zKm hx hy hm hle).mono fun _ _ _ h=>h.isN
theorem mul_numR {x y:Nat} (hx:x<1073741824) (hy:y<1073741824) (ho:o<1073741824) (hc:c<1073741824) :
 c+x*y+o<1152921504606846976∧(c+x*y+o)/1073741824<1073741824∧(c+x*y+o)%1073741824+1073741824*((c+x*y+o)/1073741824)=x*y+o+c:=by
 have hxy:x*y≤1073741823*1073741823:=Nat.mul_le_mul (by omega) (by omega);generalize x*y=t at *;omega
theorem zCC {x y:Value} (hx:IsN w x m) (hy:IsN w y n) (hm:Fit m) (hn:Fit n):Ret prog 201 #[x,y] w (fun v w'=>IsN w' v (m*n)):=by
 obtain ⟨pa,xs,ca,rfl,hca,ha,hxn,hxv⟩:=hx;obtain ⟨pb,ys,cb,rfl,hcb,hb,hyn,hyv⟩:=hy;subst hxv;subst hyv;have hlx:=hxn.fit hm;have hly:=hyn.fit hn;have E0:Ext w w:=Ext.refl w;refine J0 63 func201 rfl (rj fun K=>ag (rm [0,1] K ?_));refine rJ fun K=>K1 (zI zn rfl (mv (K1 (zI zn rfl (K1 (zf (xs.length+ys.length) rfl rfl rfl (by omega) ?_))))));refine K1 (zAG zAq info2 rfl rfl rfl (by omega) (by omega) (by omega) fun b w1 hb1 hE hB hs => ?_);have hgb:w.heap.size≤b:=by rw [hb1];exact E0.size
 have hna:=ha.ne (Nat.le_of_eq hb1.symm);have hnb:=hb.ne (Nat.le_of_eq hb1.symm);replace E0:=E0.trans hE;replace ha:=ha.ext hE;replace hb:=hb.ext hE;clear hE hs hb1;rw [show ((xs.length+ys.length:Nat):Int).toNat=xs.length+ys.length from by omega,show (Value.int IntKind.i64 0).cells.toList=[Value.int IntKind.i64 0] from rfl,zAZ] at hB;refine ag (rm [0,1,5] K ?_);refine zA (rj fun K=>ag (rm [0,1,5,6] K ?_));refine zF ?_;refine zg (X:=Nat) (fun i ρ w'=>Keep ρ [(0,.slice pa xs.length ca),(1,.slice pb ys.length cb),(5,.slice (some ⟨b,0,none⟩) (xs.length+ys.length) (xs.length+ys.length)),(6,.int .i64 (i:Nat))]∧i≤xs.length∧Ext w w'∧Rd w' pa xs∧Rd w' pb ys∧∃ O,O.length=xs.length+ys.length∧Dig O∧(∀ k,i+ys.length≤k→O.getD k 0=0)∧nat30 O=nat30 (xs.take i)*nat30 ys∧Blk w' b 2 (dv O)) (fun i=>xs.length-i) 0 ⟨(kp rfl),Nat.zero_le _,E0,ha,hb,List.replicate (xs.length+ys.length) 0,by simp,zBX _,fun k _=>zDp _ _,by rw [zFT];simp [nat30],hB⟩ ?_;clear E0 ha hb hB;rintro i ρ1 w1 ⟨hk,hil,E0,ha,hb,O,hO,hOd,hOz,hOn,hB⟩;refine wpe_k _ hk ?_;clear hk ρ1;refine zA (rJ fun K=>mv (K1 (zI zn rfl (K8 rfl (rm [0,1,5,6,18] K ?_)))));refine K0 rfl ?_ ?_<;>intro hc
 · have hlt:i<xs.length:=t_lt hc;clear hc;refine sk (zA (zF (rj fun K=>ag (rm [0,1,5,6,7] K ?_))));refine zA (rj fun K=>ag (rm [0,1,5,6,7,8] K ?_));refine zF ?_;refine zg (X:=Nat×Nat) (fun p ρ w'=>Keep ρ [(0,.slice pa xs.length ca),(1,.slice pb ys.length cb),(5,.slice (some ⟨b,0,none⟩) (xs.length+ys.length) (xs.length+ys.length)),(6,.int .i64 (i:Nat)),(7,.int .i64 (p.2:Nat)),(8,.int .i64 (p.1:Nat))]∧p.1≤ys.length∧p.2<1073741824∧Ext w w'∧Rd w' pa xs∧Rd w' pb ys∧∃ O,O.length=xs.length+ys.length∧Dig O∧(∀ k,i+ys.length≤k→O.getD k 0=0)∧nat30 O+1073741824^(i+p.1)*p.2=nat30 (xs.take i)*nat30 ys+1073741824^i*(xs.getD i 0*nat30 (ys.take p.1))∧Blk w' b 2 (dv O)) (fun p=>ys.length-p.1) (0,0) ⟨(kp rfl),Nat.zero_le _,by decide,E0,ha,hb,O,hO,hOd,fun k hk=>hOz k hk,by rw [hOn];simp [nat30],hB⟩ ?_;clear E0 ha hb hB hOn hOz hOd hO O;rintro ⟨j,c⟩ ρ1 w2 ⟨hk,hjl,hc,E0,ha,hb,O,hO,hOd,hOz,hOn,hB⟩;simp only at hk hjl hc hOn;refine wpe_k _ hk ?_;clear hk ρ1;refine zA (rJ fun K=>mv (K1 (zI zn rfl (K8 rfl (rm [0,1,5,6,7,8,24] K ?_)))));refine K0 rfl ?_ ?_<;>intro hc
   · have hc7:=hc;clear hc;rename _<1073741824=>hc;have hjlt:j<ys.length:=t_lt hc7;obtain ⟨b2,o2,cs2,hpa2,hB2,hv2⟩:=ha i hlt;obtain ⟨b3,o3,cs3,hpb3,hB3,hv3⟩:=hb j hjlt;obtain ⟨n1,n2,n3⟩:=mul_numR (hxn.1.getD i) (hyn.1.getD j) (hOd.getD (i+j)) hc;have hix:0+((i+j:Nat):Int).toNat*1=i+j:=by omega
     refine sk (zA (zF (zA (zBt mixed rfl rfl fun K hK=>qr rfl (fun wx hE=>zC ⟨rfl,Ext.refl _⟩) (qr rfl (fun wx hE=>zC ⟨rfl,Ext.refl _⟩) (qr rfl (fun wx hE=>zC ⟨rfl,Ext.refl _⟩) (qr rfl (fun wx hE=>zG (b:=b2) (o:=o2) zn (congrArg (fun p=>Value.slice p xs.length ca) hpa2) rfl (by omega) (by omega) ⟨rfl,Ext.refl _⟩) (qr rfl (fun wx hE=>zD zBF rfl (hB2.ext hE) (by simpa using hv2) ⟨rfl,Ext.refl _⟩) (qr rfl (fun wx hE=>zC ⟨rfl,Ext.refl _⟩) (qr rfl (fun wx hE=>zC ⟨rfl,Ext.refl _⟩) (qr rfl (fun wx hE=>zG (b:=b3) (o:=o3) zn (congrArg (fun p=>Value.slice p ys.length cb) hpb3) rfl (by omega) (by omega) ⟨rfl,Ext.refl _⟩) (qr rfl (fun wx hE=>zD zBF rfl (hB3.ext hE) (by simpa using hv3) ⟨rfl,Ext.refl _⟩) ?_))))))))))));refine qr rfl (fun wx hE=>zBH (xs.getD i 0*ys.getD j 0) rfl rfl rfl (by omega) ⟨rfl,Ext.refl _⟩) (qr rfl (fun wx hE=>zf (c+xs.getD i 0*ys.getD j 0) rfl rfl rfl (by omega) ⟨rfl,Ext.refl _⟩) (qr rfl (fun wx hE=>zC ⟨rfl,Ext.refl _⟩) (qr rfl (fun wx hE=>zC ⟨rfl,Ext.refl _⟩) (qr rfl (fun wx hE=>zC ⟨rfl,Ext.refl _⟩) (qr rfl (fun wx hE=>zf (i+j) rfl rfl rfl (by omega) ⟨rfl,Ext.refl _⟩) (qr rfl (fun wx hE=>zG (b:=b) (o:=0) (ix:=((i+j:Nat):Int)) zn rfl rfl (by omega) (by omega) ⟨rfl,Ext.refl _⟩) ?_))))))
     refine qr rfl (fun wx hE=>zD zBF rfl (hB.ext hE) (by rw [hix];exact zCd O (i+j) (by omega)) ⟨rfl,Ext.refl _⟩) ?_;refine qr rfl (fun wx hE=>zf (c+xs.getD i 0*ys.getD j 0+O.getD (i+j) 0) rfl rfl rfl (by omega) ⟨rfl,Ext.refl _⟩) (qr rfl (fun wx hE=>zS ⟨rfl,Ext.refl _⟩) (hK _ fun wq hE => ?_));replace E0:=E0.trans hE;replace ha:=ha.ext hE;replace hb:=hb.ext hE;replace hB:=hB.ext hE;replace hB2:=hB2.ext hE;replace hB3:=hB3.ext hE;clear hE;refine zM (K5 [0,1,5,6,7,8] ?_);refine rJ fun K=>mv (mv (K1 (zf (i+j) rfl rfl rfl (by omega) (mv (K1 (zAH (b:=1073741824) ((c+xs.getD i 0*ys.getD j 0+O.getD (i+j) 0)%1073741824) rfl rfl (by decide) rfl (K1 (zG (b:=b) (o:=0) (ix:=((i+j:Nat):Int)) zn rfl rfl (by omega) (by omega) ?_))))))));refine K1 (zc size2 rfl hB rfl (by rw [hix,zAE];omega) (by decide) rfl fun w4 hU hN => ?_);refine rm [0,1,5,6,7,8] K ?_;refine rI fun K=>K1 (zAT (b:=1073741824) ((c+xs.getD i 0*ys.getD j 0+O.getD (i+j) 0)/1073741824) rfl rfl (by decide) rfl (by omega) (ag (rl K (zR (zM (K5 [0,1,5,6,7,8] ?_))))));refine rI fun K=>K8 rfl (ag (rl K (zO ?_)))
     exact ⟨rfl,(j+1,_),⟨⟨rfl,rfl,rfl,rfl,rfl,rfl,rfl,rfl,rfl,rfl,rfl,congrArg (Value.int .i64) (zr (by omega)),trivial⟩,by omega,n2,E0.upd hU hgb,ha.upd' hU hna,hb.upd' hU hnb,_,by simp [hO],hOd.set _ (Nat.mod_lt _ (by decide)),zKN hOz (by omega),by rw [zCS hjlt];exact zJe (by omega) hOn n3,zAX hN hix⟩,by simp only;omega⟩
   · have hc7:=hc;clear hc;rename _<1073741824=>hc;obtain rfl:j=ys.length:=by have:=f_lt hc7;omega
     have hix:0+((i+ys.length:Nat):Int).toNat*1=i+ys.length:=by omega
     have hO2:=hO;have hO2d:=hOd;have hO2z:=hOz;have hO2n:=hOn;rw [List.take_length] at hO2n;refine zY (zx (zl (zL (zM (rI fun K=>mv (mv (K1 (zI zn rfl (K1 (zf (i+ys.length) rfl rfl rfl (by omega) (mv (K1 (zG (b:=b) (o:=0) (ix:=((i+ys.length:Nat):Int)) zn rfl rfl (by omega) (by omega) ?_)))))))))))));refine K1 (zc size2 rfl hB rfl (by rw [hix,zAE];omega) (by decide) rfl fun w4 hU hN => ?_);refine rl K (zR (zM (K5 [0,1,5,6,7,8] ?_)));exact rI fun K=>K8 rfl (ag (rl K (zO (⟨rfl,i+1,⟨⟨rfl,rfl,rfl,rfl,rfl,rfl,rfl,congrArg (Value.int .i64) (zr (by omega)),trivial⟩,by omega,E0.upd hU hgb,ha.upd' hU hna,hb.upd' hU hnb,_,by simp [hO2],hO2d.set _ hc,zKI hO2z,zHV (by omega) hO2n hO2z,zAX hN hix⟩,by omega⟩))))
 · have hge:=f_lt hc;obtain rfl:i=xs.length:=by omega
   clear hc;refine zY (zx (zl (zL (zM (rJ fun K=>K1 (j3 E0 ha.ext hb.ext hB.ext hb264 (zEs hO (Nat.le_refl _) (Rd.of_blk hB) hOd (by omega)) fun v13_1 w1 E0 ha hb hB hr => ?_))))));rw [hOn,List.take_length] at hr;refine ag (rm [0,1,4,5,6] K ?_);exact zE (en rfl E0 hr)
variable {N e:Nat} {O:List Nat}
theorem Rd.blk_take {L:List Nat} (h:Blk w b 2 (dv L)):Rd w (some ⟨b,0,none⟩) (L.take n):=(Rd.of_blk h).take n
theorem left_step {L:List Nat} {q f:Nat} (hq:q+i<L.length) (hn:nat30 (L.take (q+i))+1073741824^(q+i)*c=N+1073741824^q*(nat30 (xs.take i)*f)) :
 nat30 ((L.set (q+i) ((c+xs.getD i 0*f)%1073741824)).take (q+i+1))+1073741824^(q+i+1)*((c+xs.getD i 0*f)/1073741824)=N+1073741824^q*(nat30 (xs.take (i+1))*f):=by
 have hdm:=Nat.mod_add_div (c+xs.getD i 0*f) 1073741824;rw [nat30_take_succ',zBE hq,List.take_set_of_le (Nat.le_refl _),nat30_take_succ',Nat.pow_succ (m:=q+i)];generalize (c+xs.getD i 0*f)%1073741824=r at *;generalize (c+xs.getD i 0*f)/1073741824=s at *;have h2:1073741824^(q+i)*(r+1073741824*s)=1073741824^(q+i)*(c+xs.getD i 0*f):=by rw [hdm]
 rw [Nat.pow_add] at *;generalize 1073741824^q=A at *;generalize 1073741824^i=B at *;generalize nat30 (L.take (q+i))=X at *;generalize nat30 (xs.take i)=Y at *;generalize xs.getD i 0=x at *;grind
theorem left_end {L:List Nat} {q f:Nat} (hq:q+xs.length<L.length) (hn:nat30 (L.take (q+xs.length))+1073741824^(q+xs.length)*c=1073741824^q*(nat30 xs*f)) :
 nat30 ((L.set (q+xs.length) c).take (q+xs.length+1))=nat30 xs*(1073741824^q*f):=by
 rw [nat30_take_succ',zBE hq,List.take_set_of_le (Nat.le_refl _),hn];grind
theorem carry_lt {x f:Nat} (hx:x<1073741824) (hc:c<f) (hf:f≤1073741824):c+x*f<1152921504606846976∧(c+x*f)/1073741824<f:=by
 have h1:(x+1)*f≤1073741824*f:=Nat.mul_le_mul_right _ hx;rw [Nat.add_mul,Nat.one_mul] at h1;refine ⟨by omega,?_⟩;rw [Nat.div_lt_iff_lt_mul (by decide)];omega
theorem rdown_digit {x y:Nat} (hx:x<1073741824) (he:e<30) :
 x/2^e+y%2^e*(1073741824/2^e)<1073741824∧(x/2^e+y%2^e*(1073741824/2^e))*2^e+x%2^e=x+1073741824*(y%2^e):=by
 have hM:=zHq he;have hpe:0<2^e:=Nat.pow_pos (by decide);have hd:1073741824/2^e=2^(30-e):=Nat.div_eq_of_eq_mul_left hpe hM.symm;rw [hd];have hq:x/2^e<2^(30-e):=by rw [Nat.div_lt_iff_lt_mul hpe,hM];exact hx
 have hle:y%2^e*2^(30-e)+2^(30-e)≤1073741824:=by
  rw [← hM,← Nat.succ_mul,Nat.mul_comm (2^(30-e)) (2^e)];exact Nat.mul_le_mul_right _ (Nat.mod_lt y hpe)
 refine ⟨by omega,?_⟩;have h1:=Nat.div_add_mod x (2^e);rw [Nat.add_mul,Nat.mul_assoc,hM,Nat.mul_comm (y%2^e),Nat.mul_comm (x/2^e)];omega
theorem rdown_step (hO:O.length=xs.length) (hOd:Dig O) (hxd:Dig xs) (he:e<30) (hi:i<xs.length)
 (hn:nat30 (O.take i)*2^e+xs.getD 0 0%2^e=nat30 (xs.take i)+1073741824^i*(xs.getD i 0%2^e)) :
 ∃ d,xs.getD i 0/2^e+xs.getD (i+1) 0%2^e*(1073741824/2^e)=d∧d<1073741824∧xs.getD i 0/2^e<1073741824 ∧
  Dig (O.set i d)∧nat30 ((O.set i d).take (i+1))*2^e+xs.getD 0 0%2^e=nat30 (xs.take (i+1))+1073741824^(i+1)*(xs.getD (i+1) 0%2^e):=by
 have hx:=hxd.getD i;obtain ⟨d2,d3⟩:=rdown_digit (y:=xs.getD (i+1) 0) hx he;refine ⟨_,rfl,d2,Nat.lt_of_le_of_lt (Nat.div_le_self _ _) hx,hOd.set _ d2,?_⟩;generalize xs.getD i 0/2^e+xs.getD (i+1) 0%2^e*(1073741824/2^e)=D at *;rw [nat30_take_succ',zBE (by omega),List.take_set_of_le (by omega),nat30_take_succ',Nat.pow_succ];have k2:1073741824^i*(D*2^e+xs.getD i 0%2^e)=1073741824^i*(xs.getD i 0+1073741824*(xs.getD (i+1) 0%2^e)):=by rw [d3]
 rw [Nat.add_mul,Nat.mul_assoc (1073741824^i),Nat.mul_assoc (1073741824^i)];simp only [Nat.mul_add] at k2 ⊢;omega
theorem zJf {x:Value} (hxw:IsN w x m) (hm:Fit m) (hk:k<35184372088832):Ret prog 214 #[x,.int .i64 (k:Int)] w (fun v w'=>IsN w' v (m*2^k)):=by
 obtain ⟨pa,xs,ca,rfl,hca,ha,hx,hxv⟩:=hxw;subst hxv;have hlx:=hx.fit hm;have hp1:0<2^(k%30):=Nat.pow_pos (by decide);have hp2:2^(k%30)≤1073741824:=by
  have:=Nat.pow_le_pow_right (show 0<2 by decide) (show k%30≤30 by omega);simpa using this
 have E0:Ext w w:=Ext.refl w;refine J0 48 func214 rfl (rj fun K=>ag (rm [0,1] K ?_));refine rJ fun K=>K1 (zAT (b:=30) (k/30) rfl rfl (by decide) rfl (by omega) (mv (K1 (zI zn rfl (mv (K1 (zAT (b:=30) (k/30) rfl rfl (by decide) rfl (by omega) (K1 (zf (xs.length+k/30) rfl rfl rfl (by omega) (K1 (zf (b:=1) (xs.length+k/30+1) rfl rfl rfl (by omega) (K1 (runs_makeSliceC zAq info2 rfl rfl rfl (by omega) (by omega) (by omega) (by omega) fun b w1 hb1 hE hB hs => ?_)))))))))))));have hgb:w.heap.size≤b:=by rw [hb1];exact E0.size
 have hna:=ha.ne (Nat.le_of_eq hb1.symm);replace E0:=E0.trans hE;replace ha:=ha.ext hE;clear hE hs hb1;rw [show ((xs.length+k/30+1:Nat):Int).toNat=xs.length+k/30+1 from by omega,show (Value.int IntKind.i64 0).cells.toList=[Value.int IntKind.i64 0] from rfl,zAZ] at hB;refine ag (rm [0,1,5] K ?_);refine rJ fun K=>K1 (zAH (b:=30) (k%30) rfl rfl (by decide) rfl (K1 (zFB (k%30) zMe zJc rfl (by omega) (K1 (zIZ (a:=1) (2^(k%30)) rfl rfl (by omega) (Nat.one_mul _) (by omega) (ag (rm [0,5,6] K ?_)))))));refine rj fun K=>ag (rm [0,5,6,7] K ?_);refine zA (rj fun K=>ag (rm [0,5,6,7,8] K ?_));refine zF (zg (X:=Nat×Nat) (fun q ρ w'=>Keep ρ [(0,.slice pa xs.length ca),(5,.slice (some ⟨b,0,none⟩) (k/30+q.1) (xs.length+k/30+1)),(6,.int .i64 ((2^(k%30):Nat):Int)),(7,.int .i64 (q.2:Nat)),(8,.int .i64 (q.1:Nat))]∧q.1≤xs.length∧q.2<2^(k%30)∧Ext w w'∧Rd w' pa xs∧∃ L,L.length=(xs.length+k/30+1)∧Dig L∧nat30 (L.take (k/30+q.1))+1073741824^(k/30+q.1)*q.2=0+1073741824^(k/30)*(nat30 (xs.take q.1)*2^(k%30))∧Blk w' b 2 (dv L)) (fun q=>xs.length-q.1) (0,0) ⟨(kp rfl),Nat.zero_le _,hp1,E0,ha,List.replicate (xs.length+k/30+1) 0,by simp,zBX _,by simp [List.take_replicate,zFT,nat30],hB⟩ ?_);clear E0 ha hB
 rintro ⟨i,c⟩ ρ1 w1 ⟨hk,hil,hcf,E0,ha,L,hL,hLd,hLn,hB⟩;simp only at hk hil hcf hLn;refine wpe_k _ hk ?_;clear hk ρ1;refine zA (rJ fun K=>mv (K1 (zI zn rfl (K8 rfl (rm [0,5,6,7,8,25] K ?_)))));refine K0 rfl ?_ ?_<;>intro hc
 · have hlt:i<xs.length:=t_lt hc;clear hc;obtain ⟨b1,o1,cs1,hpa1,hB1,hv1⟩:=ha i hlt;obtain ⟨hc1,hc2⟩:=carry_lt (hx.1.getD i) hcf (by omega);have hix0:0+(k/30+i)*1=k/30+i:=by omega
   refine sk (zA (zF (rJ fun K=>mv (mv (K1 (zG (b:=b1) (o:=o1) zn (congrArg (fun p=>Value.slice p xs.length ca) hpa1) rfl (by omega) (by omega) (K1 (zD zBF rfl hB1 (by simpa using hv1) (mv (K1 (zBH (xs.getD i 0*2^(k%30)) rfl rfl rfl (by omega) (K1 (zf (c+xs.getD i 0*2^(k%30)) rfl rfl rfl (by omega) (ag (rm [0,5,6,7,8] K ?_)))))))))))))));refine rJ fun K=>mv (K1 (zAH (b:=1073741824) ((c+xs.getD i 0*2^(k%30))%1073741824) rfl rfl (by decide) rfl ?_));refine K1 (zi (cs:=[.int .i64 (((c+xs.getD i 0*2^(k%30))%1073741824:Nat):Int)]) zAq info2' (by decide) (by decide) (by kernel_rfl) fun b2 w4 hb2 hE hB2 hs => ?_);have hne2:b≠b2:=by have:=hB.lt;omega
   replace E0:=E0.trans hE;replace ha:=ha.ext hE;replace hB:=hB.ext hE;clear hE hs hb2;refine K1 (zAg (b:=b) (o:=0) (new:=[.int .i64 (((c+xs.getD i 0*2^(k%30))%1073741824:Nat):Int)]) (n:=1) zAq zAq info2 rfl rfl hB (.inr ⟨b2,0,_,rfl,hB2,rfl⟩) rfl (by omega) (by rw [zAE,hL];omega) rfl fun w5 hU hN => ?_);replace E0:=E0.upd hU hgb;replace ha:=ha.upd' hU hna;clear hB hB2 hU;replace hN:=zAX (i:=k/30+i) hN (by omega);refine ag (rm [0,5,6,7,8] K ?_);refine rI fun K=>K1 (zAT (b:=1073741824) ((c+xs.getD i 0*2^(k%30))/1073741824) rfl rfl (by decide) rfl (by omega) (ag (rl K (zR (zM (K5 [0,5,6,7,8] ?_))))));refine rI fun K=>K8 rfl (ag (rl K (zO ?_)));exact ⟨rfl,(i+1,_),⟨⟨rfl,rfl,rfl,rfl,rfl,rfl,rfl,rfl,rfl,congrArg (Value.int .i64) (zr (by omega)),trivial⟩,by omega,hc2,E0,ha,_,by rw [List.length_set];exact hL,hLd.set _ (Nat.mod_lt _ (by decide)),left_step (by omega) hLn,hN⟩,by simp only;omega⟩
 · have hge:=f_lt hc;clear hc;obtain rfl:i=xs.length:=by omega
   rw [List.take_length,Nat.zero_add] at hLn;have hix0:0+(k/30+xs.length)*1=k/30+xs.length:=by omega
   refine zY (zx (zl (zL (zM (rJ fun K=>mv ?_)))));refine K1 (zi (cs:=[.int .i64 ((c:Nat):Int)]) zAq info2' (by decide) (by decide) (by kernel_rfl) fun b2 w4 hb2 hE hB2 hs => ?_);have hne2:b≠b2:=by have:=hB.lt;omega
   replace E0:=E0.trans hE;replace ha:=ha.ext hE;replace hB:=hB.ext hE;clear hE hs hb2;refine K1 (zAg (b:=b) (o:=0) (new:=[.int .i64 ((c:Nat):Int)]) (n:=1) zAq zAq info2 rfl rfl hB (.inr ⟨b2,0,_,rfl,hB2,rfl⟩) rfl (by omega) (by rw [zAE,hL];omega) rfl fun w5 hU hN => ?_);replace E0:=E0.upd hU hgb;replace ha:=ha.upd' hU hna;clear hB hB2 hU;replace hN:=zAX (i:=k/30+xs.length) hN (by omega);refine K1 (j0 E0 hb264 (zEs (ds:=(L.set (k/30+xs.length) c).take (k/30+xs.length+1)) (n:=k/30+xs.length+1) (cap:=xs.length+k/30+1) (by rw [List.length_take,List.length_set,hL];omega) (by omega) (Rd.blk_take hN) ((hLd.set _ (by omega)).take _) (by omega)) fun v10_4 w1 E0 hr => ?_);rw [left_end (by omega) hLn,zCG] at hr;refine ag (rm [0,4,5,6,7,8] K ?_);exact zE (en rfl E0 hr)
theorem zHB {x:Value} (hxw:IsN w x m) (hm:Fit m) (hk:k<4611686018427387904):Ret prog 250 #[x,.int .i64 (k:Int)] w (fun v w'=>IsN w' v (m/2^k)):=by
 obtain ⟨pa,ds,ca,rfl,hca,ha,hx,hxv⟩:=hxw;subst hxv;have hlx:=hx.fit hm;have hp1:0<2^(k%30):=Nat.pow_pos (by decide);have hp2:2^(k%30)≤1073741824:=by
  have:=Nat.pow_le_pow_right (show 0<2 by decide) (show k%30≤30 by omega);simpa using this
 have E0:Ext w w:=Ext.refl w;refine J0 64 func250 rfl (rj fun K=>ag (rm [0,1] K ?_));refine zA (rJ fun K=>K1 (zAT (b:=30) (k/30) rfl rfl (by decide) rfl (by omega) (mv (K1 (zI zn rfl (K8 rfl (rm [0,1,12] K ?_)))))));refine K0 rfl ?_ ?_<;>intro hc
 · have hge:ds.length≤k/30:=by have:=of_decide_eq_true hc;omega
   clear hc;refine rj fun K=>ag (rm [0,4] K ?_);exact zE (zU (en rfl E0 (IsN.nil (zHY hx.1 hge))))
 · have hlt:k/30<ds.length:=by have:=of_decide_eq_false hc;omega
   clear hc;obtain ⟨xs,pb,cb,hxl,hpb,hxr,hxd,hxv⟩:=zKo ha hx hca hlt;refine sk (rJ fun K=>mv (K1 (zAT (b:=30) (k/30) rfl rfl (by decide) rfl (by omega) (K1 (zDe zn rfl rfl (by omega) (by omega) ?_)))));rw [show ((k/30:Nat):Int).toNat=k/30 from by omega,hpb];refine ag (rm [0,1] K ?_);refine rJ fun K=>K1 (zI zn rfl ?_);refine K1 (zAG zAq info2 rfl rfl rfl (by omega) (by omega) (by omega) fun ob w1 hb1 hE hB hs => ?_);have hgb:w.heap.size≤ob:=Nat.le_of_eq hb1.symm;replace E0:=E0.trans hE;clear hE hs hb1;rw [show ((xs.length:Nat):Int).toNat=xs.length from by omega,show (Value.int IntKind.i64 0).cells.toList=[Value.int IntKind.i64 0] from rfl,zAZ] at hB;refine ag (rm [0,1,5] K ?_);refine rJ fun K=>K1 (zAH (b:=30) (k%30) rfl rfl (by decide) rfl (K1 (zFB (k%30) zMe zJc rfl (by omega) (K1 (zIZ (a:=1) (2^(k%30)) rfl rfl (by omega) (Nat.one_mul _) (by omega) (ag (rm [0,5,6] K ?_)))))));refine zA (rj fun K=>ag (rm [0,5,6,7] K ?_))
   refine zF (zg (X:=Nat) (fun i ρ w'=>Keep ρ [(0,.slice pb xs.length cb),(5,.slice (some ⟨ob,0,none⟩) xs.length xs.length),(6,.int .i64 ((2^(k%30):Nat):Int)),(7,.int .i64 (i:Nat))]∧i≤xs.length∧Ext w w'∧∃ O,O.length=xs.length∧Dig O∧nat30 (O.take i)*2^(k%30)+xs.getD 0 0%2^(k%30)=nat30 (xs.take i)+1073741824^i*(xs.getD i 0%2^(k%30))∧Blk w' ob 2 (dv O)) (fun i=>xs.length-i) 0 ⟨(kp rfl),Nat.zero_le _,E0,List.replicate xs.length 0,by simp,zBX _,by simp [nat30],hB⟩ ?_);clear E0 hB;rintro i ρ1 w1 ⟨hk,hil,E0,O,hO,hOd,hOn,hB⟩;refine wpe_k _ hk ?_;clear hk ρ1;refine zA (rJ fun K=>mv (K1 (zI zn rfl (K8 rfl (rm [0,5,6,7,27] K ?_)))));refine K0 rfl ?_ ?_<;>intro hc
   · have hlt2:i<xs.length:=t_lt hc;clear hc;obtain ⟨b2,o2,cs2,hpa,hB2,hv2⟩:=(hxr.ext E0) i hlt2;have he30:k%30<30:=Nat.mod_lt _ (by decide);obtain ⟨d,e1,e2,e3,e4,e5⟩:=rdown_step hO hOd hxd he30 hlt2 hOn;have hix:(0:Nat)+((i:Nat):Int).toNat*1=i:=by omega
     refine sk (zA (zF (rJ fun K=>mv (mv (mv (K1 (zG (b:=b2) (o:=o2) zn (congrArg (fun p=>Value.slice p xs.length cb) hpa) rfl (by omega) (by omega) (K1 (zD zBF rfl hB2 (by simpa using hv2) (mv (K1 (zAT (xs.getD i 0/2^(k%30)) rfl rfl (Nat.ne_of_gt hp1) rfl (by omega) (K1 (zG (b:=ob) (o:=0) (ix:=((i:Nat):Int)) zn rfl rfl (by omega) (by omega) ?_))))))))))))));refine K1 (zc size2 rfl hB rfl (by rw [hix,zAE];omega) (by decide) rfl fun w4 hU hN => ?_);rw [hix] at hN;replace E0:=E0.upd hU hgb;clear hB;have hB:=zAX hN rfl;clear hN hU;refine rm [0,5,6,7] K ?_;refine rJ fun K=>K1 (zf (b:=1) (i+1) rfl rfl rfl (by omega) (mv (K1 (zI zn rfl (K8 rfl (rm [0,5,6,7,43] K ?_))))));refine K0 rfl ?_ ?_<;>intro hc
     · have hlt3:i+1<xs.length:=t_lt hc;clear hc;obtain ⟨b3,o3,cs3,hpb3,hB3,hv3⟩:=(hxr.ext E0) (i+1) hlt3;have hix2:((i+1:Nat):Int).toNat*1=i+1:=by omega
       have hpd:xs.getD (i+1) 0%2^(k%30)*(1073741824/2^(k%30))≤d:=by rw [← e1];exact Nat.le_add_left _ _
       refine zGK ob mixed rfl rfl rfl hB fun K hK=>qs rfl (fun wx hE=>zC ⟨rfl,Ext.refl _⟩) (qs rfl (fun wx hE=>zC ⟨rfl,Ext.refl _⟩) (qs rfl (fun wx hE=>zC ⟨rfl,Ext.refl _⟩) (qs rfl (fun wx hE=>zC ⟨rfl,Ext.refl _⟩) (qs rfl (fun wx hE=>zG (b:=ob) (o:=0) (ix:=((i:Nat):Int)) zn rfl rfl (by omega) (by omega) ⟨rfl,Ext.refl _⟩) ?_))));refine qs rfl (fun wx hE=>zD zBF rfl (hB.ext hE) (by rw [hix];exact (zCd _ i (by simp;omega)).trans (congrArg (fun z:Nat=>some (Value.int .i64 (z:Int))) (zBE (by omega)))) ⟨rfl,Ext.refl _⟩) ?_;refine qs rfl (fun wx hE=>zC ⟨rfl,Ext.refl _⟩) (qs rfl (fun wx hE=>zC ⟨rfl,Ext.refl _⟩) (qs rfl (fun wx hE=>zf (b:=1) (i+1) rfl rfl rfl (by omega) ⟨rfl,Ext.refl _⟩) (qs rfl (fun wx hE=>zG (b:=b3) (o:=o3) (ix:=((i+1:Nat):Int)) zn (congrArg (fun p=>Value.slice p xs.length cb) hpb3) rfl (by omega) (by omega) ⟨rfl,Ext.refl _⟩) ?_)));refine qs rfl (fun wx hE=>zD zBF rfl (hB3.ext hE) (by rw [hix2];exact hv3) ⟨rfl,Ext.refl _⟩) ?_;refine qs rfl (fun wx hE=>zC ⟨rfl,Ext.refl _⟩) (qs rfl (fun wx hE=>zAH (xs.getD (i+1) 0%2^(k%30)) rfl rfl (Nat.ne_of_gt hp1) rfl ⟨rfl,Ext.refl _⟩) (qs rfl (fun wx hE=>zC ⟨rfl,Ext.refl _⟩) ?_))
       refine qs rfl (fun wx hE=>zAT (a:=1073741824) (1073741824/2^(k%30)) rfl rfl (Nat.ne_of_gt hp1) rfl (by have:=Nat.div_le_self 1073741824 (2^(k%30));omega) ⟨rfl,Ext.refl _⟩) ?_;refine qs rfl (fun wx hE=>zBH (xs.getD (i+1) 0%2^(k%30)*(1073741824/2^(k%30))) rfl rfl rfl (by omega) ⟨rfl,Ext.refl _⟩) (qs rfl (fun wx hE=>zf (d) rfl rfl e1 (by omega) ⟨rfl,Ext.refl _⟩) (qs rfl (fun wx hE=>zG (b:=ob) (o:=0) (ix:=((i:Nat):Int)) zn rfl rfl (by omega) (by omega) ⟨rfl,Ext.refl _⟩) ?_));refine zKu (dv ((O.set i (xs.getD i 0/2^(k%30))).set i d)) (fun wx hE hBx=>zc size2 rfl hBx rfl (by rw [hix,zAE];simp;omega) (by decide) rfl fun w3 hU hN=>⟨hU,zAX hN hix⟩) (hK _ _ fun wq hS hN => ?_);replace E0:=E0.updS hS hgb;clear hS hB;have hB:=hN;clear hN;rw [List.set_set] at hB;refine zR (zM (K5 [0,5,6,7] ?_));exact rI fun K=>K8 rfl (ag (rl K (zO (⟨rfl,i+1,⟨⟨rfl,rfl,rfl,rfl,rfl,rfl,rfl,congrArg (Value.int .i64) (zr (by omega)),trivial⟩,by omega,E0,_,by simp [hO],e4,e5,hB⟩,by omega⟩))))
     · have hge3:=f_lt hc;clear hc;rw [zDO hge3,Nat.zero_mod,Nat.zero_mul,Nat.add_zero] at e1;rw [e1] at hB;exact zp (zR (zM (rI fun K=>K8 rfl (ag (rl K (zO (⟨rfl,i+1,⟨⟨rfl,rfl,rfl,rfl,rfl,rfl,rfl,congrArg (Value.int .i64) (zr (by omega)),trivial⟩,by omega,E0,_,by simp [hO],e4,e5,hB⟩,by omega⟩)))))))
   · have hge:=f_lt hc;obtain rfl:i=xs.length:=by omega
     clear hc;rw [List.take_length,zDO (Nat.le_refl _),Nat.zero_mod,Nat.mul_zero,Nat.add_zero,List.take_of_length_le (by omega)] at hOn;refine zY (zx (zl (zL (zM (rJ fun K=>K1 (j0 E0 hb264 (zEs hO (Nat.le_refl _) (Rd.of_blk hB) hOd (by omega)) fun v12_1 w1 E0 hr => ?_))))));refine ag (rm [0,4,5,6,7] K ?_);refine zE (zQ ?_);rw [zJa hOn,hxv,zJW] at hr;exact ⟨rfl,_,zj rfl rfl,E0,hr⟩
variable {B nb t:Nat} {T T2:TypeId}
def Fits (n:Nat):Prop:=n.log2<1000000000000
theorem log2_lt_mul {l:Nat} (h:n.log2<l) (hc:c≤2^k):(n*c).log2<l+k:=by
 by_cases h0:n*c=0
 · rw [h0];simp;omega
 · have hn:n≠0:=fun e=>h0 (by rw [e,Nat.zero_mul]);rw [Nat.log2_lt h0,Nat.pow_add];rw [Nat.log2_lt hn] at h
   calc n*c≤n*2^k:=Nat.mul_le_mul_left _ hc
    _<2^l*2^k:=Nat.mul_lt_mul_of_pos_right h (Nat.pow_pos (by decide))
theorem Fits.fit (h:Fits n):Fit n:=Nat.lt_of_lt_of_le h (by decide)
theorem Fits.mul (h:Fits n) (hc:c≤2^200):Fit (n*c):=Nat.lt_of_lt_of_le (log2_lt_mul h hc) (by decide)
theorem Fits.le (h:Fits n) (hm:m≤n):Fits m:=Nat.lt_of_le_of_lt (zDU hm) h
theorem Rd.cells (h:Rd w p ds):Cells w p 2 (dv ds):=by
 by_cases h0:ds=[]
 · subst h0;exact .inl rfl
 · obtain ⟨b,o,cs,h1,h2,h3⟩:=h 0 (List.length_pos_iff.2 h0);refine .inr ⟨b,o,cs,h1,h2,?_⟩;apply List.ext_getElem?;intro i;rw [zAE];by_cases hi:i<ds.length
   · obtain ⟨b',o',cs',h1',h2',h3'⟩:=h i hi;rw [h1] at h1';cases h1';obtain ⟨-,rfl⟩:=h2.inj h2';rw [List.getElem?_take,if_pos hi,List.getElem?_drop,h3',zCd _ _ hi]
   · rw [List.getElem?_take,if_neg hi];simp [dv,hi]
section laws
variable {K:Value→World→Prop} {d:Option Tmp}
theorem runs_imaxN (c:Nat) (hx:σ x = .int .i64 (a:Int)) (hy:σ y = .int .i64 (b:Int)) (h:max a b=c) (hk:K (.int .i64 (c:Int)) w) :
 Runs P r ⟨d,.call { callee := .builtin .max,args := #[x,y],argTypes := #[T,T2] },ty,pos,af,g⟩ σ w K:=by
 refine zDn hx hy ?_;rw [show (if (a:Int)<(b:Int) then (b:Int) else (a:Int))=(c:Int) from by
  subst h;split<;>omega]
 exact hk
theorem zGS (c:Nat) (hx:σ x = .int .i64 (a:Int)) (hy:σ y = .int .i64 (b:Int)) (h:min a b=c) (hk:K (.int .i64 (c:Int)) w) :
 Runs P r ⟨d,.call { callee := .builtin .min,args := #[x,y],argTypes := #[T,T2] },ty,pos,af,g⟩ σ w K:=by
 refine zHj hx hy ((congrArg (fun z=>K (.int .i64 z) w) ?_).mpr hk);subst h;split<;>omega
theorem runs_consR {sz:Nat} (hx:σ x = .slice (some ⟨b,0,none⟩) 1 1) (hB:Blk w b 2 [.int .i64 (a:Int)]) (hsz:sz≤b) (hy:IsN w (σ y) n) (ha:a<1073741824) (hn:Fit n)
 (hk:∀ v w',Ext w w'→(∃ p ds cap,v = .slice p ds.length cap∧ds.length≤cap∧ds.length<4611686018427387904∧Rd w' p ds∧Dig ds∧nat30 ds=a+1073741824*n∧∀ q,p=some q→sz≤q.block)→K v w') :
 Runs prog r ⟨d,.call { callee := .builtin .append,args := #[x,y],argTypes := #[48,48] },ty,pos,af,g⟩ σ w K:=by
 obtain ⟨p,ds,cap,e1,h2,h3,h4,h5⟩:=hy;subst h5;have hl:=h4.fit hn;have hB':Blk w b 2 (dv [a]):=hB;by_cases h0:ds=[]
 · subst h0;refine zEp zAq zAq info2 hx e1 (Nat.le_refl _) ?_;refine hk _ _ (Ext.refl _) ⟨_,[a],1,rfl,Nat.le_refl _,by simp,Rd.of_blk hB',by intro d hd;simp at hd;omega,by simp [nat30],fun q hq=>by cases hq;exact hsz⟩
 · have hl0:0<ds.length:=List.length_pos_iff.2 h0;have hnew:=zAS (1+ds.length) 1;refine zAO zAq zAq info2 rfl (by decide) hx e1 (Cells.blk hB') (by simp [zAE]) h3.cells (by simp [zAE]) (by omega) (by omega) fun w' rest c' g1 hE hBn g2 _ => ?_;refine hk _ _ hE ⟨_,a :: ds,c',by rw [List.length_cons,Nat.add_comm],by rw [List.length_cons];omega,by rw [List.length_cons];omega,?_,?_,rfl,fun q hq=>by cases hq;exact Nat.le_trans hsz (Nat.le_of_lt hB.lt)⟩
   · intro i hi;refine ⟨_,0,_,rfl,hBn,?_⟩;rw [Nat.zero_add,List.getElem?_append_left (by simp [zAE] at hi ⊢;omega)];exact zCd (a :: ds) i hi
   · intro d hd;rcases List.mem_cons.1 hd with rfl | hd
     · exact ha
     · exact h4.1 d hd
end laws
theorem top1 {R:List Nat} {l:Nat} (hl:l<R.length):R.getD l 0*1073741824^l≤nat30 R:=by
 rw [zBf R l,Nat.min_eq_left (Nat.le_of_lt hl),zAx hl,Nat.mul_add,Nat.mul_comm (R.getD l 0)];omega
theorem top2 {R:List Nat} {l:Nat} (hl:l+1<R.length):(R.getD l 0+R.getD (l+1) 0*1073741824)*1073741824^l≤nat30 R:=by
 rw [zBf R l,Nat.min_eq_left (by omega),zAx (by omega),zAx hl,Nat.mul_comm _ (1073741824^l)];refine Nat.le_trans (Nat.mul_le_mul_left _ ?_) (Nat.le_add_left _ _);omega
theorem topb {l:Nat} (hd:Dig ys) (hl:ys.length=l+1):nat30 ys≤(ys.getD l 0+1)*1073741824^l:=by
 rw [zBf ys l,Nat.min_eq_left (by omega),zAx (by omega),List.drop_of_length_le (by omega),Nat.add_mul,Nat.one_mul,Nat.mul_comm (ys.getD l 0)];have:=zCQ _ (hd.take l);rw [List.length_take,Nat.min_eq_left (by omega)] at this;simp only [nat30,Nat.mul_zero,Nat.add_zero];omega
theorem est {r:Nat} (h1:t*B≤r) (h2:nb≤r) (h3:nb≤(b+1)*B):max (t/(b+1)) 1*nb≤r:=by
 rcases Nat.le_total (t/(b+1)) 1 with h | h
 · rw [Nat.max_eq_right h,Nat.one_mul];exact h2
 · rw [Nat.max_eq_left h];have e1:=Nat.mul_le_mul_left (t/(b+1)) h3;rw [← Nat.mul_assoc] at e1;have e2:=Nat.mul_le_mul_right B (Nat.div_mul_le_self t (b+1));omega
theorem quo_lt {q d r R:Nat} (h:q*nb+r=R) (hd:d*nb≤r) (hR:R<1073741824*nb):q+d<1073741824:=by
 have:(q+d)*nb<1073741824*nb:=by rw [Nat.add_mul];omega
 exact Nat.lt_of_mul_lt_mul_right this
theorem quo_next {q d r R:Nat} (h:q*nb+r=R) (hd:d*nb≤r):(q+d)*nb+(r-nb*d)=R:=by
 rw [Nat.add_mul,Nat.mul_comm nb d];omega
theorem quo_end {Q s r:Nat} (h:m*2^s=Q*(n*2^s)+r) (hr:r<n*2^s):Q=m/n∧r/2^s=m%n:=by
 have hp:0<2^s:=Nat.pow_pos (by decide);have h1:Q*n≤m:=by
  rw [← Nat.mul_assoc] at h;exact Nat.le_of_mul_le_mul_right (show Q*n*2^s≤m*2^s by omega) hp
 have h2:r=(m-Q*n)*2^s:=by
  rw [Nat.sub_mul,h,← Nat.mul_assoc];omega
 have h3:m-Q*n<n:=Nat.lt_of_mul_lt_mul_right (a:=2^s) (by rw [← h2];exact hr);have hn:0<n:=by omega
 have h4:m=n*Q+(m-Q*n):=by rw [Nat.mul_comm n Q];omega
 rw [h2,Nat.mul_div_cancel _ hp];generalize m-Q*n=t at *;subst h4;rw [Nat.mul_add_div hn,Nat.div_eq_of_lt h3,Nat.mul_add_mod,Nat.mod_eq_of_lt h3];simp
theorem zCl {x y:Value} (hx:IsN w x m) (hy:IsN w y n) (hmF:Fits m) (hnF:Fits n) (hn0:n≠0):Ret prog 247 #[x,y] w (fun v w'=>∃ q r,v = .tuple #[q,r]∧IsN w' q (m/n)∧IsN w' r (m%n)):=by
 obtain ⟨s,hs⟩:∃ s,(30-bitsN n%30)%30=s:=⟨_,rfl⟩;have hs30:s<30:=by omega
 have hp30:2^s≤2^200:=Nat.pow_le_pow_right (by decide) (by omega);have hp31:1073741824*2^s≤2^200:=by
  have:=Nat.pow_le_pow_right (show 0<2 by decide) (show 30+s≤200 by omega);rw [Nat.pow_add] at this;exact this
 have E0:Ext w w:=Ext.refl w;refine J0 98 func247 rfl (rj fun K=>ag (ag (rm [0,1] K ?_)));refine zA (rJ fun K=>mv (K1 (j2 E0 hx.ext hy.ext hb202 (zGq hx hy hmF.fit hnF.fit) fun vo w1 E0 hx hy hr => ?_)));obtain ⟨c0,rfl,hcmp⟩:=hr;refine K8 rfl (rm [0,1,16] K ?_);refine K0 rfl ?_ ?_<;>intro hc
 · have hlt:m<n:=hcmp.1.1 (of_decide_eq_true hc);refine rJ fun K=>ag (ag (rm [0,1,4,5] K ?_));refine zE (zU (zQ ?_));exact ⟨rfl,_,zw rfl rfl rfl,E0,_,_,rfl,IsN.nil (Nat.div_eq_of_lt hlt),by rw [Nat.mod_eq_of_lt hlt];exact hx⟩
 · have hge:¬ m<n:=fun h=>of_decide_eq_false hc (hcmp.1.2 h);clear hc hcmp;refine sk (rJ fun K=>K1 (j2 E0 hx.ext hy.ext hb308 (length_ok hy hnF.fit) fun vl w2 E0 hx hy hr => ?_));subst hr;refine K1 (zAH (b:=30) (bitsN n%30) rfl rfl (by decide) rfl (K1 (zAJ (a:=30) (30-bitsN n%30) rfl rfl (by omega) (by decide) (K1 (zAH (b:=30) (s) rfl rfl (by decide) hs (ag (rm [0,1,6] K ?_)))))));refine rJ fun K=>mv (K1 (j2 E0 hx.ext hy.ext hb214 (zJf hx hmF.fit (by omega)) fun vA w3 E0 hx hy hA=>mv (mv (K1 (j3 E0 hx.ext hy.ext hA.ext hb214 (zJf hy hnF.fit (by omega)) fun vb w4 E0 hx hy hA hb1 => ?_)))));obtain ⟨pA,A,cA,rfl,hcA,ha,hAn,hAv⟩:=hA;obtain ⟨pb,ys,cb,rfl,hcb,hb,hyn,hyv⟩:=hb1;have hAl:=hAn.fit (by rw [hAv];exact hmF.mul hp30);have hyl:=hyn.fit (by rw [hyv];exact hnF.mul hp30);have hfy:Fit (nat30 ys):=by rw [hyv];exact hnF.mul hp30
   have hy0:0<nat30 ys:=by rw [hyv];exact Nat.mul_pos (by omega) (Nat.pow_pos (by decide))
   have hfb:∀ r,r≤1073741824*nat30 ys→Fit r:=fun r hr=>Fit.le (n:=n*(1073741824*2^s)) (hnF.mul hp31) (by rw [hyv] at hr;grind);obtain ⟨l,hl⟩:∃ l,ys.length=l+1:=⟨ys.length-1,by
    have:ys≠[]:=fun e=>by rw [e] at hy0;exact absurd hy0 (by decide)
    have:=List.length_pos_iff.2 this;omega⟩
   clear hx hy;refine ag (ag (rm [0,1,6] K ?_));refine rJ fun K=>K1 (zI zn rfl (ag (rm [0,1,6,7] K ?_)));refine rJ fun K=>K1 (zI zn rfl ?_);refine K1 (zAG zAq info2 rfl rfl rfl (by omega) (by omega) (by omega) fun b w1 hb1 hE hB hs => ?_);have hgb:w.heap.size≤b:=by rw [hb1];exact E0.size
   have hna:=ha.ne (Nat.le_of_eq hb1.symm);have hnb:=hb.ne (Nat.le_of_eq hb1.symm);replace E0:=E0.trans hE;replace ha:=ha.ext hE;replace hb:=hb.ext hE;clear hE hs hb1;rw [show ((A.length:Nat):Int).toNat=A.length from by omega,show (Value.int IntKind.i64 0).cells.toList=[Value.int IntKind.i64 0] from rfl,zAZ] at hB;refine ag (rm [0,1,6,7,8] K ?_);refine rj fun K=>ag (rm [0,1,6,7,8,9] K ?_);refine zA (rJ fun K=>K1 (zI zn rfl (K8 rfl (ag (rm [0,1,6,7,8,9,10] K ?_)))));refine zF ?_;refine zg (X:=Nat) (fun k ρ w'=>∃ vr r Q,Keep ρ [(0,.slice pA A.length cA),(1,.slice pb ys.length cb),(6,.int .i64 (s:Nat)),(7,.int .i64 (ys.length:Nat)),(8,.slice (some ⟨b,0,none⟩) A.length A.length),(9,vr),(10,.int .i64 (((k:Nat):Int)-1))]∧k≤A.length∧Q.length=A.length∧Dig Q∧(∀ j,j<k→Q.getD j 0=0)∧nat30 (A.drop k)=nat30 (Q.drop k)*nat30 ys+r∧r<nat30 ys∧IsF (b+1) w' vr r∧Ext w w'∧Rd w' pA A∧Rd w' pb ys∧Blk w' b 2 (dv Q)) (fun k=>k) A.length ⟨.slice none 0 0,0,List.replicate A.length 0,⟨rfl,rfl,rfl,rfl,rfl,rfl,rfl,rfl,rfl,rfl,rfl,rfl,rfl,congrArg (Value.int .i64) (zm (by omega) (by omega)),trivial⟩,Nat.le_refl _,by simp,zBX _,fun j _=>zDp _ _,by rw [List.drop_length,List.drop_of_length_le (by simp)];simp [nat30],hy0,IsF.nil,E0,ha,hb,hB⟩ ?_;clear E0 ha hb hB
   rintro k ρ1 w1 ⟨vr,r,Q,hk,hkl,hQl,hQd,hQz,hQn,hrlt,hr0,E0,ha,hb,hB⟩;refine wpe_k _ hk ?_;clear hk ρ1;refine zA (zA ?_);rcases k with _ | k
   · skip
     refine rI fun K=>K8 rfl (rs [0,1,6,7,8,9,10,38] K ?_);refine wcf rfl (zY (zx (zl (zL (zM (rJ fun K=>K1 (j4 E0 ha.ext hb.ext hB.ext hr0.ext hb264 (zEs hQl (Nat.le_refl _) (Rd.of_blk hB) hQd (by omega)) fun vq w5 E0 ha hb hB hr0 hq=>mv (mv (K1 (j5 E0 ha.ext hb.ext hB.ext hr0.ext hq.ext hb250 (zHB hr0.isN (hfb r (by omega)) (by omega)) fun vm w6 E0 ha hb hB hr0 hq hm=>ag (ag (rm [0,1,4,5,6,7,8,10] K ?_))))))))))));refine zE (zQ ?_);simp only [List.drop_zero] at hQn;rw [hAv,hyv] at hQn;rw [hyv] at hrlt;obtain ⟨e1,e2⟩:=quo_end hQn hrlt;rw [e1] at hq;rw [e2] at hm;exact ⟨rfl,_,zw rfl rfl rfl,E0,_,_,rfl,hq,hm⟩
   · obtain ⟨b1,o1,cs1,hpa1,hB1,hv1⟩:=ha k (by omega);have hk0:decide ((((k+1:Nat):Int)-1)≥0)=true:=by simp only [decide_eq_true_eq];omega
     have hkn:(((k+1:Nat):Int)-1).toNat=k:=by omega
     have hk1:((k+1:Nat):Int)-1=(k:Int):=by omega
     have hadk:=hAn.1.getD k;rw [hk1];refine rI fun K=>K8 rfl (rs [0,1,6,7,8,9,10,38] K ?_);refine wct (congrArg Value.bool (decide_eq_true (show (k:Int)≥0 by omega))) (sk (zA (zF (rJ fun K=>mv (K1 (zG (b:=b1) (o:=o1) zn (congrArg (fun p=>Value.slice p A.length cA) hpa1) rfl (by omega) (by omega) (K1 (zD zBF rfl hB1 (by simpa using hv1) ?_))))))));refine K1 (zi (cs:=[.int .i64 ((A.getD k 0:Nat):Int)]) zAq info2' (by decide) (by decide) (by kernel_rfl) fun b2 w2 hb2 hE hB2 hs => ?_);have hbb2:b+1≤b2:=by have:=hB.lt;omega
     replace E0:=E0.trans hE;replace ha:=ha.ext hE;replace hb:=hb.ext hE;replace hB:=hB.ext hE;replace hr0:=hr0.ext hE;clear hE hs hb2 hB1;refine mv (K1 (runs_consR rfl hB2 hbb2 hr0.isN hadk (hfb r (by omega)) fun v w3 hE hv => ?_));obtain ⟨p3,ds3,cap3,rfl,hc3,hl3,hrd3,hd3,hn3,hp3⟩:=hv;replace E0:=E0.trans hE;replace ha:=ha.ext hE;replace hb:=hb.ext hE;replace hB:=hB.ext hE;replace hr0:=hr0.ext hE;clear hE hB2;refine K1 (j4 E0 ha.ext hb.ext hB.ext hr0.ext hb264 (zMd rfl hc3 hrd3 hd3 hl3 hp3) fun vr1 w5 E0 ha hb hB hr0 hr1 => ?_);rw [hn3] at hr1;clear hrd3 hr0;refine ag (rm [0,1,6,7,8,9,10] K ?_);refine zF ?_;obtain ⟨R0,hR0⟩:∃ R0,A.getD k 0+1073741824*r=R0:=⟨_,rfl⟩;have hAk:A.getD k 0+1073741824*nat30 (A.drop (k+1))=1073741824*(nat30 (Q.drop (k+1))*nat30 ys)+R0:=by rw [hQn,← hR0];omega
     have hRlt:R0<1073741824*nat30 ys:=by omega
     obtain ⟨Qh,hQh0⟩:∃ Qh,nat30 (Q.drop (k+1))=Qh:=⟨_,rfl⟩;rw [hQh0] at hAk;rw [hR0] at hr1;refine zg (X:=Nat) (fun r ρ w'=>∃ vr Q,Keep ρ [(0,.slice pA A.length cA),(1,.slice pb ys.length cb),(6,.int .i64 (s:Nat)),(7,.int .i64 (ys.length:Nat)),(8,.slice (some ⟨b,0,none⟩) A.length A.length),(9,vr),(10,.int .i64 ((k:Nat):Int))]∧Q.length=A.length∧Dig Q∧(∀ j,j<k→Q.getD j 0=0)∧nat30 (Q.drop (k+1))=Qh∧Q.getD k 0*nat30 ys+r=R0∧IsF (b+1) w' vr r∧Ext w w'∧Rd w' pA A∧Rd w' pb ys∧Blk w' b 2 (dv Q)) (fun r=>r) R0 ⟨vr1,Q,(kp rfl),hQl,hQd,fun j hj=>hQz j (by omega),hQh0,by rw [hQz k (by omega)];omega,hr1,E0,ha,hb,hB⟩ ?_;clear E0 ha hb hB hr1 hQz hQd hQl hQn hQh0 hv1
     try clear Q
     rintro r1 ρ1 w4 ⟨vr1,Q,hk,hQl,hQd,hQz,hQh,hQr,hr0,E0,ha,hb,hB⟩;refine wpe_k _ hk ?_;clear hk ρ1;refine zA (rJ fun K=>mv (K1 (j4 E0 ha.ext hb.ext hB.ext hr0.ext hb202 (zGq hr0.isN ⟨pb,ys,cb,rfl,hcb,hb,hyn,rfl⟩ (hfb r1 (by omega)) hfy) fun vo w4b E0 ha hb hB hr0 hr => ?_)));obtain ⟨c1,rfl,hcmp⟩:=hr;refine K8 rfl (rm [0,1,6,7,8,9,10,52] K ?_);refine K0 rfl ?_ ?_<;>intro hc
     · have hge1:nat30 ys≤r1:=by
        have:=of_decide_eq_true hc;rcases Nat.lt_or_ge r1 (nat30 ys) with h | h
        · have:=hcmp.1.2 h;omega
        · exact h
       clear hc hcmp;obtain ⟨pr,R,cr,rfl,hcr,hrr,hRn,hRv,hpr⟩:=hr0;have hlR:l<R.length:=by
        rcases Nat.lt_or_ge l R.length with h | h
        · exact h
        · have:=Norm.len_lt hRn.1 hyn (by omega);omega
       have hlw:IntKind.i64.wrap ((((ys.length:Nat):Nat):Int)-1)=(l:Int):=by rw [zm (by omega) (by omega)];omega
       have hRl:=hRn.fit (by rw [hRv];exact hfb r1 (by omega));obtain ⟨b3,o3,cs3,hp3,hB3,hv3⟩:=hrr l hlR;have hdl:=hRn.1.getD l;refine sk (zF (rJ fun K=>mv (K1 (zAJ (b:=1) (l) rfl rfl (by omega) (by omega) (K1 (zG (b:=b3) (o:=o3) zn (congrArg (fun p=>Value.slice p R.length cr) hp3) rfl (by omega) (by omega) (K1 (zD zBF rfl hB3 (by simpa using hv3) (ag (rm [0,1,6,7,8,9,10,11] K ?_))))))))));refine zAu (fun ρ w'=>∃ top:Nat,Keep ρ [(0,.slice pA A.length cA),(1,.slice pb ys.length cb),(6,.int .i64 (s:Nat)),(7,.int .i64 (ys.length:Nat)),(8,.slice (some ⟨b,0,none⟩) A.length A.length),(9,.slice pr R.length cr),(10,.int .i64 ((k:Nat):Int)),(11,.int .i64 (top:Nat))]∧w4b=w'∧top*1073741824^l≤r1∧top<1152921504606846976) ?_ ?_
       · refine rJ fun K=>K1 (zI zn rfl (mv (K8 rfl (rm [0,1,6,7,8,9,10,11,61] K ?_))));refine K0 rfl ?_ ?_<;>intro hc
         · have hlR2:l+1<R.length:=by have:=t_lt hc;omega
           clear hc;obtain ⟨b4,o4,cs4,hp4,hB4,hv4⟩:=hrr (l+1) hlR2;have hdl1:=hRn.1.getD (l+1);have htop:(R.getD l 0+R.getD (l+1) 0*1073741824)*1073741824^l≤r1:=by rw [← hRv];exact top2 hlR2
           have htopl:R.getD l 0+R.getD (l+1) 0*1073741824<1152921504606846976:=by omega
           refine rI fun K=>mv (mv (K1 (zG (b:=b4) (o:=o4) zn (congrArg (fun p=>Value.slice p R.length cr) hp4) rfl (by omega) (by omega) ?_)));refine K1 (zD zBF rfl hB4 (by rw [show ((ys.length:Nat):Int).toNat*1=l+1 from by omega];exact hv4) ?_);exact K1 (zBH (b:=1073741824) (R.getD (l+1) 0*1073741824) rfl rfl rfl (by omega) (K1 (zf (R.getD l 0+R.getD (l+1) 0*1073741824) rfl rfl rfl (by omega) (ag (rl K (zO ⟨rfl,_,(kp rfl),rfl,htop,htopl⟩))))))
         · refine zp (zO ?_);exact ⟨rfl,_,(kp rfl),rfl,by rw [← hRv];exact top1 hlR,Nat.lt_trans hdl (by decide)⟩
       · rintro ρ2 w2 ⟨top,hk,rfl,htop,htopl⟩;refine wpe_k _ hk ?_;clear hk ρ2;obtain ⟨b5,o5,cs5,hp5,hB5,hv5⟩:=hb l (by omega);have hdy:=hyn.1.getD l;have hest:=est htop hge1 (topb hyn.1 hl);have hqlt:=quo_lt hQr hest hRlt;have hdlt:max (top/(ys.getD l 0+1)) 1<1152921504606846976:=by
          have:=Nat.div_le_self top (ys.getD l 0+1);omega
         refine rJ fun K=>mv (mv (K1 (zAJ (b:=1) (l) rfl rfl (by omega) (by omega) (K1 (zG (b:=b5) (o:=o5) zn (congrArg (fun p=>Value.slice p ys.length cb) hp5) rfl (by omega) (by omega) (K1 (zD zBF rfl hB5 (by simpa using hv5) (K1 (zf (b:=1) (ys.getD l 0+1) rfl rfl rfl (by omega) ?_)))))))));refine K1 (zAT (top/(ys.getD l 0+1)) rfl rfl (by omega) rfl (by have:=Nat.div_le_self top (ys.getD l 0+1);omega) ?_);refine K1 (runs_imaxN (b:=1) (max (top/(ys.getD l 0+1)) 1) rfl rfl rfl (ag (rm [0,1,6,7,8,9,10,12] K ?_)));refine rJ fun K=>mv (mv (mv (K1 (zG (b:=b) (o:=0) zn rfl rfl (by omega) (by omega) ?_))));refine K1 (zD zBF rfl hB (by rw [show 0+((k:Nat):Int).toNat*1=k from by omega];exact zCd Q k (by omega)) ?_);refine mv (K1 (zf (Q.getD k 0+max (top/(ys.getD l 0+1)) 1) rfl rfl rfl (by omega) (K1 (zG (b:=b) (o:=0) zn rfl rfl (by omega) (by omega) ?_))));refine K1 (zc size2 rfl hB rfl (by rw [show 0+((k:Nat):Int).toNat*1=k from by omega,zAE];omega) (by decide) rfl fun w5 hU hN => ?_);have hblt:=hB.lt;have hr9:IsF (b+1) w5 (.slice pr R.length cr) r1:=IsF.upd ⟨pr,R,cr,rfl,hcr,hrr,hRn,hRv,hpr⟩ hU (by omega);replace E0:=E0.upd hU hgb;replace ha:=ha.upd' hU hna;replace hb:=hb.upd' hU hnb;replace hB:=zAX (i:=k) hN (by omega);clear hU hN hB5 hrr
         refine rm [0,1,6,7,8,9,10,12] K ?_;refine rI fun K=>mv (mv (K1 (j4 E0 ha.ext hb.ext hB.ext hr9.ext hb248 (zDf hdlt) fun vd w7 E0 ha hb hB hr9 hd=>K1 (j5 E0 ha.ext hb.ext hB.ext hr9.ext hd.ext hb201 (zCC ⟨pb,ys,cb,rfl,hcb,hb,hyn,rfl⟩ hd hfy (Fits.fit (Nat.lt_of_le_of_lt (zDU (Nat.le_of_lt hdlt)) (by decide +kernel)))) fun vt w8 E0 ha hb hB hr9 hd ht => ?_))));have hszb:=hB.lt;refine K1 (j6 E0 ha.ext hb.ext hB.ext hr9.ext hd.ext ht.ext hb203 (zKm hr9.isN ht (hfb r1 (by omega)) (by rw [Nat.mul_comm];exact hest)) fun vm w9 E0 ha hb hB hr9 hd ht hr2 => ?_);refine ag (rl K (zR (zO ?_)));refine ⟨rfl,r1-nat30 ys*max (top/(ys.getD l 0+1)) 1,⟨_,_,(kp rfl),by rw [List.length_set];exact hQl,hQd.set _ hqlt,fun j hj=>(getD_set_ne (by omega)).trans (hQz j hj),by rw [List.drop_set_of_lt (by omega)];exact hQh,by rw [zBE (by omega)];exact quo_next hQr hest,hr2.mono hszb,E0,ha,hb,hB⟩,?_⟩;have h1:1*1≤nat30 ys*max (top/(ys.getD l 0+1)) 1:=Nat.mul_le_mul hy0 (Nat.le_max_right _ _);rw [Nat.mul_comm] at hest;omega
     · have hrlt:r1<nat30 ys:=by
        have:=of_decide_eq_false hc;rcases Nat.lt_or_ge r1 (nat30 ys) with h | h
        · exact h
        · exfalso;have h1:=hcmp.1;have h2:=hcmp.2;omega
       clear hc hcmp;refine zY (zx (zl (zL (zR (zM (rI fun K=>K8 rfl (ag (rl K (zO (⟨rfl,k,⟨vr1,r1,Q,⟨rfl,rfl,rfl,rfl,rfl,rfl,rfl,rfl,rfl,rfl,rfl,rfl,rfl,congrArg (Value.int .i64) (zm (by omega) (by omega)),trivial⟩,by omega,hQl,hQd,hQz,?_,hrlt,hr0,E0,ha,hb,hB⟩,by omega⟩))))))))));rw [zAx (show k<A.length by omega),zAx (show k<Q.length by omega),hQh,hAk];have e:=hQr;rw [Nat.add_mul];generalize Q.getD k 0*nat30 ys=u at *;have e3:1073741824*Qh*nat30 ys=1073741824*(Qh*nat30 ys):=Nat.mul_assoc _ _ _;omega
theorem IsN.shape (h:IsN w v n):∃ p l cap,v = .slice p l cap∧(l=0→n=0)∧(n=0→l=0)∧(l≤2→n<1152921504606846976):=by
 obtain ⟨p,ds,cap,h1,h2,h3,h4,h5⟩:=h;subst h5;refine ⟨p,ds.length,cap,h1,fun h=>by rw [List.eq_nil_of_length_eq_zero h];rfl,fun h=>by rw [h4.zero.1 h];rfl,fun h => ?_⟩;have:=zCQ _ h4.1;have:=Nat.pow_le_pow_right (show 0<1073741824 by decide) h;omega
theorem z_lt {z:Nat} (h0:n≠0) (h:2^z∣n) (hf:Fits n):z<1000000000000:=by
 have h1:=Nat.le_of_dvd (by omega) h;have h2:=(Nat.le_log2 h0).2 h1;exact Nat.lt_of_le_of_lt h2 hf
theorem co2 (hb:b%2=1) (z:Nat):Nat.Coprime (2^z) b:=by
 apply Nat.Coprime.pow_left;show Nat.gcd 2 b=1;rw [Nat.gcd_rec,hb];decide
theorem gcd_odd {z:Nat} (hb:b%2=1) (hz:2^z∣a):Nat.gcd (a/2^z) b=Nat.gcd a b:=by
 obtain ⟨q,rfl⟩:=hz;rw [Nat.mul_div_cancel_left _ (Nat.pow_pos (by decide)),Nat.Coprime.gcd_mul_left_cancel _ (co2 hb z)]
theorem gcd_round {z:Nat} (hb:b%2=1) (hab:b≤a) (hz:2^z∣a-b):Nat.gcd ((a-b)/2^z) b=Nat.gcd a b:=by
 rw [gcd_odd hb hz];exact Nat.gcd_sub_self_left hab
theorem gcd_pow (ha:a%2=1) (hb:b%2=1):Nat.gcd (2^i*a) (2^k*b)=Nat.gcd a b*2^min i k:=by
 rcases Nat.le_total i k with h | h
 · obtain ⟨d,rfl⟩:=Nat.le.dest h;rw [Nat.min_eq_left h,Nat.pow_add,Nat.mul_assoc,Nat.gcd_mul_left,Nat.gcd_comm a,Nat.Coprime.gcd_mul_left_cancel _ (co2 ha d),Nat.gcd_comm b,Nat.mul_comm]
 · obtain ⟨d,rfl⟩:=Nat.le.dest h;rw [Nat.min_eq_right h,Nat.pow_add,Nat.mul_assoc,Nat.gcd_mul_left,Nat.Coprime.gcd_mul_left_cancel _ (co2 hb d),Nat.mul_comm]
theorem gcd_start (hi:2^i∣m%n) (hk:2^k∣n) (hai:m%n/2^i%2=1) (hbk:n/2^k%2=1):Nat.gcd (m%n/2^i) (n/2^k)*2^min i k=Nat.gcd m n:=by
 rw [← gcd_pow hai hbk,Nat.mul_div_cancel' hi,Nat.mul_div_cancel' hk,Nat.gcd_comm m n,Nat.gcd_rec n m]
theorem zDu {x y:Value} (hx:IsN w x m) (hy:IsN w y n) (hmF:Fits m) (hnF:Fits n) (hn0:n≠0):Ret prog 164 #[x,y] w (fun v w'=>IsN w' v (Nat.gcd m n)):=by
 have haF:Fits (m%n):=hmF.le (Nat.mod_le _ _);have E0:Ext w w:=Ext.refl w;refine J0 75 func164 rfl (rj fun K=>ag (rm [0,1] K ?_));refine rJ fun K=>mv (K1 (j2 E0 hx.ext hy.ext hb247 (zCl hx hy hmF hnF hn0) fun vd w1 E0 hx hy hr => ?_));obtain ⟨q1,v1,rfl,-,hA⟩:=hr;refine mv (xt rfl (xt rfl (ag (rm [0,1] K ?_))));refine zA (rj fun K => ?_);obtain ⟨pa,la,ca,rfl,hl0,hl1,-⟩:=hA.shape;refine mv (K1 (zI zn rfl (K8 rfl (rm [0,1,18] K ?_))));refine K0 rfl ?_ ?_<;>intro hc
 · have h0:m%n=0:=hl0 (t_beq (b:=0) hc);refine rJ fun K=>ag (rm [0,1,4] K ?_);refine zE (zU (en rfl E0 ?_));rw [Nat.gcd_comm,Nat.gcd_rec,h0,Nat.gcd_zero_left];exact hy
 · have h0:m%n≠0:=fun e=>f_beq (b:=0) hc (hl1 e);clear hc hl0 hl1;refine sk (rJ fun K=>K1 (j3 E0 hx.ext hy.ext hA.ext hb249 (zJH hA haF.fit h0) fun vi w2 E0 hx hy hA hr => ?_));obtain ⟨i,rfl,hi1,hi2⟩:=hr;refine mv (K1 (j3 E0 hx.ext hy.ext hA.ext hb249 (zJH hy hnF.fit hn0) fun vk w3 E0 hx hy hA hr => ?_));obtain ⟨k,rfl,hk1,hk2⟩:=hr;have hil:=z_lt h0 hi1 haF;have hkl:=z_lt hn0 hk1 hnF;refine ag (ag (rm [0,1,5,6] K ?_));refine rJ fun K=>mv (K1 (j3 E0 hx.ext hy.ext hA.ext hb250 (zHB hA haF.fit (by omega)) fun va w4 E0 hx hy hA ha=>mv (mv (K1 (j4 E0 hx.ext hy.ext hA.ext ha.ext hb250 (zHB hy hnF.fit (by omega)) fun vb w5 E0 hx hy hA ha hb=>ag (ag (rm [0,1,5,6] K ?_)))))));refine zA (zF ?_);obtain ⟨g,hg⟩:∃ g,Nat.gcd (m%n/2^i) (n/2^k)=g:=⟨_,rfl⟩;have hgm:=gcd_start hi1 hk1 hi2 hk2;rw [hg] at hgm;refine zg (X:=Nat×Nat) (fun p ρ w'=>∃ va vb,Keep ρ [(0,va),(1,vb),(5,.int .i64 (i:Nat)),(6,.int .i64 (k:Nat))]∧IsN w' va p.1∧IsN w' vb p.2∧p.1%2=1∧p.2%2=1∧Nat.gcd p.1 p.2=g∧Fits p.1∧Fits p.2∧Ext w w') (fun p=>p.1+p.2) (m%n/2^i,n/2^k) ⟨va,vb,(kp rfl),ha,hb,hi2,hk2,hg,haF.le (Nat.div_le_self _ _),hnF.le (Nat.div_le_self _ _),E0⟩ ?_;clear E0 ha hb hA hx hy;rintro ⟨a,b⟩ ρ1 w1 ⟨va,vb,hk,ha,hb,hao,hbo,hgab,haF1,hbF1,E0⟩;simp only at ha hb hao hbo hgab haF1 hbF1
   obtain ⟨pa,la,ca,rfl,-,-,hla⟩:=ha.shape;obtain ⟨pb,lb,cb,rfl,-,-,hlb⟩:=hb.shape;refine wpe_k _ hk ?_;clear hk ρ1;refine zAu (fun ρ w'=>Keep ρ [(0,.slice pa la ca),(1,.slice pb lb cb),(5,.int .i64 (i:Nat)),(6,.int .i64 (k:Nat))]∧w1=w') ?_ ?_
   · refine zA ?_;by_cases hla2:2<la
     · have hd:decide (((la:Nat):Int)>2)=true:=decide_eq_true (by omega);have hgd:(decide (((la:Nat):Int)>2)==false)=false:=by rw [hd];rfl
       refine rI fun K=>K1 (zI zn rfl (K8 rfl (mv (zBs hgd (zBs hgd (zBs hgd (pk (b:=true) (congrArg Value.bool hd) (rs [0,1,5,6,34,35,36,37] K ?_))))))));exact wct rfl (zp (zO ⟨rfl,(kp rfl),rfl⟩))
     · have hd:decide (((la:Nat):Int)>2)=false:=decide_eq_false (by omega);have hgd:(decide (((la:Nat):Int)>2)==false)=true:=by rw [hd];rfl
       refine rI fun K=>K1 (zI zn rfl (K8 rfl (mv (sr_g hgd (zC (sr_g hgd (zI zn rfl (sr_g hgd (zJ rfl rfl rfl (pk (b:=false) (congrArg Value.bool hd) (rs [0,1,5,6,34,35,36,37] K ?_)))))))))));refine K0 rfl ?_ ?_<;>intro hc
       · exact zp (zO ⟨rfl,(kp rfl),rfl⟩)
       · have hlb2:¬ 2<lb:=fun h=>of_decide_eq_false hc (by show ((lb:Nat):Int)>2;omega);clear hc;have hal:=hla (by omega);have hbl:=hlb (by omega);refine zY (zl (zl (zL (zM (rJ fun K=>K1 (j2 E0 ha.ext hb.ext hb251 (zLg ha hal) fun vx w6 E0 ha hb hr => ?_))))));subst hr;refine mv (K1 (j2 E0 ha.ext hb.ext hb251 (zLg hb hbl) fun vy w7 E0 ha hb hr => ?_));subst hr;refine ag (ag (rm [0,1,5,6,8,9] K ?_));refine zA (zF (zg (X:=Nat×Nat) (fun p ρ w'=>Keep ρ [(5,.int .i64 (i:Nat)),(6,.int .i64 (k:Nat)),(8,.int .i64 (p.1:Nat)),(9,.int .i64 (p.2:Nat))]∧Nat.gcd p.1 p.2=g∧p.1<1152921504606846976∧p.2<1152921504606846976∧Ext w w') (fun p=>p.2) (a,b) ⟨(kp rfl),hgab,hal,hbl,E0⟩ ?_));clear E0 ha hb;rintro ⟨x,y⟩ ρ1 w3 ⟨hk,hgxy,hxl,hyl,E0⟩;simp only at hk hgxy hxl hyl;refine wpe_k _ hk ?_;clear hk ρ1;refine zA (rJ fun K=>K8 rfl (rm [5,6,8,9,64] K ?_));refine K0 rfl ?_ ?_<;>intro hc
         · have hy0:y≠0:=t_bne (b:=0) hc;clear hc;refine sk (zF (zBt mixed rfl rfl fun K hK=>qr rfl (fun wx hE=>zC ⟨rfl,Ext.refl _⟩) (qr rfl (fun wx hE=>zC ⟨rfl,Ext.refl _⟩) (qr rfl (fun wx hE=>zC ⟨rfl,Ext.refl _⟩) (qr rfl (fun wx hE=>zAH (x%y) rfl rfl hy0 rfl ⟨rfl,Ext.refl _⟩) (qr rfl (fun wx hE=>zS ⟨rfl,Ext.refl _⟩) (qr rfl (fun wx hE=>zS ⟨rfl,Ext.refl _⟩) (hK _ fun wq hE => ?_))))))));replace E0:=E0.trans hE;clear hE;refine zR (zO ?_);exact ⟨rfl,(y,x%y),⟨(kp rfl),by rw [← hgxy];exact zHC x y,hyl,by have:=Nat.mod_lt x (show y>0 by omega);simp only;omega,E0⟩,Nat.mod_lt _ (by omega)⟩
         · have hy0:y=0:=f_bne (b:=0) hc;subst hy0;rw [Nat.gcd_zero_right] at hgxy;clear hc;refine zY (zx (zl (zL (zM (rJ fun K=>K1 (j0 E0 hb248 (zDf hxl) fun vs w8 E0 hs=>mv (mv (K1 (zGS (min i k) rfl rfl rfl (K1 (j1 E0 hs.ext hb214 (zJf hs (Fits.fit (Nat.lt_of_le_of_lt (zDU (Nat.le_of_lt hxl)) (by decide +kernel))) (by omega)) fun vl w9 E0 hs hr=>ag (rm [4,5,6,8,9] K ?_))))))))))));refine zE (en rfl E0 ?_);rw [hgxy,hgm] at hr;exact hr
   · rintro ρ1 w1 ⟨hk,rfl⟩;refine wpe_k _ hk ?_;clear hk ρ1;refine zF (rJ fun K=>mv (K1 (j2 E0 ha.ext hb.ext hb202 (zGq ha hb haF1.fit hbF1.fit) fun vo w2 E0 ha hb hr => ?_)));obtain ⟨c,rfl,hcmp⟩:=hr;refine ag (rm [0,1,5,6,7] K ?_);refine zA (rJ fun K=>K8 rfl (rm [0,1,5,6,7,42] K ?_));refine K0 rfl ?_ ?_<;>intro hc
     · have hab:a=b:=hcmp.2.1 (by rw [beq_iff_eq] at hc;exact hc);clear hc hcmp;subst hab;rw [Nat.gcd_self] at hgab;refine rJ fun K=>mv (mv (K1 (zGS (min i k) rfl rfl rfl (K1 (j2 E0 ha.ext hb.ext hb214 (zJf ha haF1.fit (by omega)) fun vl w7 E0 ha hb hr=>ag (rm [0,1,4,5,6] K ?_))))));refine zE (zU (zZ (zAI (zZ (zU (en rfl E0 ?_))))));rw [hgab,hgm] at hr;exact hr
     · have hab:a≠b:=fun e=>by
        have h1:=hcmp.2.2 e;rw [h1] at hc;cases hc
       clear hc;refine sk (zAu (fun ρ w'=>∃ a2 b2 va vb,Keep ρ [(0,va),(1,vb),(5,.int .i64 (i:Nat)),(6,.int .i64 (k:Nat))]∧w2=w'∧IsN w2 va a2∧IsN w2 vb b2∧a2%2=1∧b2%2=1∧Nat.gcd a2 b2=g∧Fits a2∧Fits b2∧b2<a2∧a2+b2=a+b) ?_ ?_)
       · refine rJ fun K=>K8 rfl (rm [0,1,5,6,49] K ?_);refine K0 rfl ?_ ?_<;>intro hc
         · have hlt:a<b:=hcmp.1.1 (of_decide_eq_true hc);refine rI fun K=>mv (ag (ag (rl K (zO ?_))));exact ⟨rfl,b,a,_,_,(kp rfl),rfl,hb,ha,hbo,hao,by rw [Nat.gcd_comm];exact hgab,hbF1,haF1,by omega,Nat.add_comm _ _⟩
         · have hlt:¬ a<b:=fun h=>of_decide_eq_false hc (hcmp.1.2 h);clear hc;exact zp (zO ⟨rfl,a,b,_,_,(kp rfl),rfl,ha,hb,hao,hbo,hgab,haF1,hbF1,by omega,rfl⟩)
       · rintro ρ1 w3 ⟨a2,b2,va2,vb2,hk,rfl,ha2,hb2,ha2o,hb2o,hg2,ha2F,hb2F,hlt2,hsum2⟩;refine wpe_k _ hk ?_;clear hk ρ1;clear ha hb;refine rJ fun K=>mv (K1 (j2 E0 ha2.ext hb2.ext hb203 (zJI ha2 hb2 ha2F.fit (Nat.le_of_lt hlt2)) fun vm w7 E0 ha2 hb2 hm=>ag (rm [0,1,5,6] K ?_)));refine rI fun K=>mv (K1 (j3 E0 ha2.ext hb2.ext hm.ext hb249 (zJH hm (ha2F.le (Nat.sub_le _ _)).fit (by omega)) fun vz w8 E0 ha2 hb2 hm hr => ?_));obtain ⟨z,rfl,hz1,hz2⟩:=hr;have hzl:=z_lt (by omega) hz1 (ha2F.le (Nat.sub_le _ _));refine K1 (j3 E0 ha2.ext hb2.ext hm.ext hb250 (zHB hm (ha2F.le (Nat.sub_le _ _)).fit (by omega)) fun vq w9 E0 ha2 hb2 hm hq=>ag (rl K (zR (zO ?_))));refine ⟨rfl,((a2-b2)/2^z,b2),⟨_,_,(kp rfl),hq,hb2,hz2,hb2o,by rw [← hg2];exact gcd_round hb2o (by omega) hz1,ha2F.le (Nat.le_trans (Nat.div_le_self _ _) (Nat.sub_le _ _)),hb2F,E0⟩,?_⟩;have h1:=Nat.div_le_self (a2-b2) (2^z);simp only;omega
end Go.Proofs.YtjiendlfobjanaaGreatDoor.R
namespace Go.Proofs.YtjiendlfobjanaaGreatDoor.R
open Go Go.RowKit Go.Proofs Tryz
attribute [local irreducible] Runs WPE CallK Ret
variable {T ty:TypeId} {a b n:Nat} {af:Array Edge} {cs:List Value} {g:Option (Nat×Bool)} {pos:String} {q:Rat} {r:Option Nat} {s:Bool} {u v:Value} {w w':World} {x y:Operand} {σ:Operand→Value}
def IsR (w:World) (v:Value) (q:Rat):Prop :=
 ∃ t b,v = .agg #[.int .i64 q.num.sign,t,b]∧IsN w t q.num.natAbs∧IsN w b (if q=0 then 0 else q.den)
theorem IsR.ext (h:IsR w v q) (hx:Ext w w'):IsR w' v q:=by
 obtain ⟨t,b,h1,h2,h3⟩:=h;exact ⟨t,b,h1,h2.ext hx,h3.ext hx⟩
theorem IsR.upd (h:IsR w v q) (hu:Upd b w w') (hb:Blk w b T cs) (hT:T≠2):IsR w' v q:=by
 obtain ⟨n,d,hv,h1,h2⟩:=h;exact ⟨n,d,hv,h1.upd hu hb hT,h2.upd hu hb hT⟩
theorem IsR.extS {S:List Nat} (h:IsR w v q) (hx:ExtS S w w') (hS:NoR S w):IsR w' v q:=by
 obtain ⟨n,d,hv,h1,h2⟩:=h;exact ⟨n,d,hv,h1.extS hx hS,h2.extS hx hS⟩
theorem IsN.of_eq (h:v=u) (hx:IsN w u n):IsN w v n:=h ▸ hx
theorem IsR.zero:IsR w (.agg #[.int .i64 0,.slice none 0 0,.slice none 0 0]) 0:=⟨_,_,rfl,IsN.nil rfl,IsN.nil rfl⟩
theorem zLI (ha:a≠0) (hb:b≠0):(qOf s a b).num.sign=if s then -1 else 1:=by
 have h1:=zKq (s:=s) ha hb;have h2:=zGa (s:=s) (a:=a) hb;have h3:0<a/Nat.gcd a b:=Nat.div_pos (Nat.gcd_le_left _ (by omega)) (Nat.gcd_pos_of_pos_left _ (by omega));have h4:(qOf s a b<0)↔(qOf s a b).num<0:=zBr _;cases s
 · have h5:¬ qOf false a b<0:=of_decide_eq_false h1;rw [h4] at h5;simp only [Bool.false_eq_true,if_false];rw [Int.sign_eq_one_iff_pos];omega
 · have h5:qOf true a b<0:=of_decide_eq_true h1;rw [h4] at h5;simp only [if_true];rw [Int.sign_eq_neg_one_iff_neg];exact h5
theorem qOf_ne (ha:a≠0) (hb:b≠0):qOf s a b≠0:=fun e=>by
 have h:=zLI (s:=s) ha hb;rw [e] at h;cases s<;>cases h
theorem IsR.mk' {n d:Value} (ha:a≠0) (hb:b≠0) (hn:IsN w n (a/Nat.gcd a b)) (hd:IsN w d (b/Nat.gcd a b)):IsR w (.agg #[.int .i64 (if s then -1 else 1),n,d]) (qOf s a b) :=
 ⟨n,d,by rw [zLI ha hb],by rw [zGa hb];exact hn,by rw [if_neg (qOf_ne ha hb),zHz hb];exact hd⟩
theorem zHM:(prog.info? 50).map (·.size)=some 3:=by kernel_rfl
theorem zero50:(prog.info? 50).bind (·.zero)=some (.agg #[.int .i64 0,.slice none 0 0,.slice none 0 0]):=by kernel_rfl
theorem aggr50:Aggr prog 50 3:=by unfold Aggr;exact ⟨by kernel_rfl,by kernel_rfl⟩
theorem zBV:zAA prog 50 0 0:=by unfold zAA;kernel_rfl
theorem zFN:zAA prog 50 1 1:=by unfold zAA;kernel_rfl
theorem zCM:zAA prog 50 2 2:=by unfold zAA;kernel_rfl
def Cell3 (b:Nat) (w:World):Prop:=∃ cs,Blk w b 50 cs∧cs.length=3
def RAt (b:Nat) (q:Rat) (w:World):Prop:=∃ cs,Blk w b 50 cs∧cs.length=3∧IsR w (.agg cs.toArray) q
theorem Cell3.of (hB:Blk w b 50 cs) (hl:cs.length=3):Cell3 b w:=⟨cs,hB,hl⟩
theorem RAt.ext (h:RAt b q w) (hx:Ext w w'):RAt b q w':=by
 obtain ⟨cs,h1,h2,h3⟩:=h;exact ⟨cs,h1.ext hx,h2,h3.ext hx⟩
theorem runs_rstoreK {K:Value→World→Prop} {d:Option Tmp} (hx:σ x = .pointer (some ⟨b,0,none⟩)) (hy:IsR w (σ y) q) (hc:Cell3 b w)
 (hk:∀ v w',Upd b w w'→RAt b q w'→K v w'):Runs prog r ⟨d,.store 50 x y,ty,pos,af,g⟩ σ w K:=by
 obtain ⟨cs,hB,hl⟩:=hc;have hy0:=hy;obtain ⟨n,dd,he,hn,hd⟩:=hy;obtain ⟨p1,ds1,c1,rfl,-⟩:=hn;obtain ⟨p2,ds2,c2,rfl,-⟩:=hd;refine zc zHM hx hB (by rw [he];rfl) (by omega) (by decide) (by rw [he];rfl) fun w' hU hN => ?_;rw [he] at hN hy0
 match cs,hl with
 | [a,b',c],_=>exact hk _ _ hU ⟨_,hN,rfl,hy0.upd hU hB (by decide)⟩
end Go.Proofs.YtjiendlfobjanaaGreatDoor.R
namespace Go.Proofs.YtjiendlfobjanaaGreatDoor.R
open Go Go.RowKit Go.Proofs Tryz
set_option maxRecDepth 10000
set_option maxHeartbeats 2000000
attribute [local irreducible] Runs WPE CallK Ret
variable {a b d i n:Nat} {w:World}
theorem zKL:prog.underlying 5=some (.int .u8):=by kernel_rfl
theorem zIT:prog.underlying 2=some (.int .i64):=by kernel_rfl
theorem u8_eq {a b:UInt8} (h:(((a.toNat:Nat):Int)==((b.toNat:Nat):Int))=true):a=b:=UInt8.toNat_inj.1 (t_beq h)
theorem u8_ne {a b:UInt8} (h:(((a.toNat:Nat):Int)==((b.toNat:Nat):Int))=false):a≠b:=fun e=>f_beq h (by rw [e])
theorem signed_ok {l:List UInt8}:Ret prog 157 #[S l] w (fun r _=>r = .tuple #[S (zP l),.int .i64 (if below l then -1 else 1)]):=by
 refine J0 15 func157 rfl (rj fun K=>ag (ag (rm [0] K ?_)));refine zA (zA ?_);rcases l with _ | ⟨b,t⟩
 · skip
   refine rI fun K=>K1 (zz zAD rfl (K8 rfl (mv (K3 (K3 (K3 (pk rfl (rs [0,11] K ?_))))))));refine wcf rfl (sk (rJ fun K=>ag (ag (rm [2,3] K ?_))));exact zE (zQ ⟨rfl,_,zw rfl rfl rfl,E0,rfl⟩)
 · have hg0:decide ((((b :: t).length:Nat):Int)>0)=true:=decide_eq_true (by simp only [List.length_cons];omega);have hg:(decide ((((b :: t).length:Nat):Int)>0)==true)=true:=by rw [hg0];rfl
   refine rI fun K=>K1 (zz zAD rfl (K8 rfl (mv (sr_g hg (zC (sr_g hg (zAU (n:=0) zAD rfl rfl (by simp) (sr_g hg (zJ rfl rfl rfl (pk (b:=true) (congrArg Value.bool hg0) (rs [0,11] K ?_)))))))))));refine K0 rfl ?_ ?_<;>intro hc
   · have hb:b=45:=u8_eq (b:=45) hc;subst hb;refine rJ fun K=>K1 (zCW (n:=1) zAD rfl rfl (by simp) (ag (ag (rm [2,3] K ?_))));exact zE (zU (zQ ⟨rfl,_,zw rfl rfl rfl,E0,rfl⟩))
   · have hb:b≠45:=u8_ne (b:=45) hc;have hbl:below (b :: t)=false:=by simp [below,hb]
     refine sk (rJ fun K=>ag (ag (rm [2,3] K ?_)));refine zE (zQ ⟨rfl,_,zw rfl rfl rfl,E0,?_⟩);rw [zP,hbl];rfl
theorem zKS {c:UInt8}:∀ {l:List UInt8} {i:Nat},i<l.length→(∀ j,j<i→l.getD j 0≠c)→l.getD i 0=c→cutAt c l=(l.take i,l.drop (i+1),true)
 | b :: l,0,_,_,h=>by
  have:b=c:=h;simp [cutAt,this]
 | b :: l,i+1,hi,hj,h=>by
  have h0:b≠c:=hj 0 (by omega);have ih:=zKS (c:=c) (l:=l) (i:=i) (by simpa using hi) (fun j hj'=>hj (j+1) (by omega)) h;simp [cutAt,h0,ih]
theorem zIn {c:UInt8}:∀ {l:List UInt8},(∀ j,j<l.length→l.getD j 0≠c)→cutAt c l=(l,[],false)
 | [],_=>rfl
 | b :: l,hj=>by
  have h0:b≠c:=hj 0 (by simp);have ih:=zIn (c:=c) (l:=l) (fun j hj'=>hj (j+1) (by simpa using hj'));simp [cutAt,h0,ih]
theorem split_ok {l:List UInt8} {c:UInt8} (hlen:l.length<1000000000):Ret prog 158 #[S l,.int .u8 (c.toNat:Int)] w (fun r _=>r = .tuple #[S (cutAt c l).1,S (cutAt c l).2.1,.bool (cutAt c l).2.2]):=by
 have E0:Ext w w:=Ext.refl w;refine J0 27 func158 rfl (rj fun K=>ag (ag (ag (rm [0,1] K ?_))));refine zA (rj fun K=>ag (rm [0,1,7] K ?_));refine zF (zg (X:=Nat) (fun i ρ w'=>Keep ρ [(0,S l),(1,.int .u8 (c.toNat:Nat)),(7,.int .i64 (i:Nat))]∧i≤l.length∧(∀ j,j<i→l.getD j 0≠c)∧Ext w w') (fun i=>l.length-i) 0 ⟨(kp rfl),Nat.zero_le _,fun j hj=>absurd hj (Nat.not_lt_zero _),E0⟩ ?_);clear E0;rintro i ρ1 w1 ⟨hk,hil,hj,E0⟩;refine wpe_k _ hk ?_;clear hk ρ1;refine zA (rJ fun K=>mv (K1 (zz zAD rfl (K8 rfl (rm [0,1,7,11] K ?_)))));refine K0 rfl ?_ ?_<;>intro hc
 · have hlt:i<l.length:=t_lt hc;clear hc;refine sk (zA (zF (rJ fun K=>mv (K1 (zAU (n:=i) zAD rfl rfl hlt (mv (K8 rfl (rm [0,1,7,18] K ?_))))))));refine K0 rfl ?_ ?_<;>intro hc
   · have he:l.getD i 0=c:=u8_eq hc;clear hc;refine zA (zBt mixed rfl rfl fun K hK=>qr rfl (fun wx hE=>zC ⟨rfl,Ext.refl _⟩) (qr rfl (fun wx hE=>zC ⟨rfl,Ext.refl _⟩) (qr rfl (fun wx hE=>zEG (n:=i) zAD rfl rfl (by omega) ⟨rfl,Ext.refl _⟩) (qr rfl (fun wx hE=>zC ⟨rfl,Ext.refl _⟩) (qr rfl (fun wx hE=>zC ⟨rfl,Ext.refl _⟩) (qr rfl (fun wx hE=>zf (b:=1) (i+1) rfl rfl rfl (by omega) ⟨rfl,Ext.refl _⟩) (qr rfl (fun wx hE=>zCW (n:=i+1) zAD rfl rfl (by omega) ⟨rfl,Ext.refl _⟩) (qr rfl (fun wx hE=>zS ⟨rfl,Ext.refl _⟩) (qr rfl (fun wx hE=>zS ⟨rfl,Ext.refl _⟩) (qr rfl (fun wx hE=>zS ⟨rfl,Ext.refl _⟩) (hK _ fun wq hE => ?_)))))))))));replace E0:=E0.trans hE;clear hE;refine zM (K5 [1,4,5,6,7] ?_);refine zE (zZ (zU (zAI (zZ (zU (zQ ?_))))));exact ⟨rfl,_,zBi rfl rfl rfl rfl,E0,by rw [zKS hlt hj he];rfl⟩
   · have hne:l.getD i 0≠c:=u8_ne hc;clear hc;refine zp (zR (zM (rI fun K=>K8 rfl (ag (rl K (zO (⟨rfl,i+1,⟨⟨rfl,rfl,rfl,rfl,rfl,congrArg (Value.int .i64) (zr (by omega)),trivial⟩,by omega,fun j hj' => ?_,E0⟩,by omega⟩)))))));rcases Nat.lt_succ_iff_lt_or_eq.1 hj' with h | rfl
     · exact hj j h
     · exact hne
 · have hge:=f_lt hc;have hie:i=l.length:=by omega
   subst hie;clear hc;refine zY (zx (zl (zL (zM (rJ fun K=>ag (ag (ag (rm [1,4,5,6,7] K ?_))))))));refine zE (zQ ?_);exact ⟨rfl,_,zBi rfl rfl rfl rfl,E0,by rw [zIn hj];rfl⟩
theorem zFl (b:UInt8):isDig b=true↔48≤b.toNat∧b.toNat≤57:=by simp [isDig]
theorem all_take_succ {l:List UInt8} (hi:i<l.length) (h:(l.take i).all isDig=true) (hd:isDig (l.getD i 0)=true):(l.take (i+1)).all isDig=true:=by
 rw [List.take_succ_eq_append_getElem hi,List.all_append,h];simp [List.getElem?_eq_getElem hi] at hd;simp [hd]
theorem zIH {l:List UInt8} (hi:i<l.length) (hd:isDig (l.getD i 0)=false):zAQ l=false:=by
 have:l.all isDig=false:=by
  rw [List.all_eq_false];refine ⟨l[i],List.getElem_mem hi,?_⟩;rw [List.getD_eq_getElem?_getD,List.getElem?_eq_getElem hi] at hd;simp at hd;simp [hd]
 simp [zAQ,this]
theorem zAd {l:List UInt8} (hlen:l.length<1000000000):Ret prog 159 #[S l] w (fun r _=>r = .bool (zAQ l)):=by
 have E0:Ext w w:=Ext.refl w;refine J0 23 func159 rfl (rj fun K=>ag (rm [0] K ?_));refine zA (rj fun K=>ag (rm [0,3] K ?_));refine zF (zg (X:=Nat) (fun i ρ w'=>Keep ρ [(0,S l),(3,.int .i64 (i:Nat))]∧i≤l.length∧(l.take i).all isDig=true∧Ext w w') (fun i=>l.length-i) 0 ⟨(kp rfl),Nat.zero_le _,rfl,E0⟩ ?_);clear E0;rintro i ρ1 w1 ⟨hk,hil,hj,E0⟩;refine wpe_k _ hk ?_;clear hk ρ1;refine zA (rJ fun K=>mv (K1 (zz zAD rfl (K8 rfl (rm [0,3,7] K ?_)))));refine K0 rfl ?_ ?_<;>intro hc
 · have hlt:i<l.length:=t_lt hc;clear hc;refine sk (zA (zF (zA ?_)));by_cases h48:(l.getD i 0).toNat<48
   · have hd0:decide ((((l.getD i 0).toNat:Nat):Int)<48)=true:=decide_eq_true (by omega);have hg0:(decide ((((l.getD i 0).toNat:Nat):Int)<48)==false)=false:=by rw [hd0];rfl
     have hdig:isDig (l.getD i 0)=false:=by rw [Bool.eq_false_iff,ne_eq,zFl];omega
     refine rI fun K=>mv (K1 (zAU (n:=i) zAD rfl rfl hlt (K8 rfl (mv (zBs hg0 (zBs hg0 (zBs hg0 (zBs hg0 (pk (b:=true) (congrArg Value.bool hd0) (rs [0,3,15,16,17,18,19] K ?_))))))))));refine wct rfl (rj fun K=>ag (rm [2,3] K ?_));refine zE (zZ (zU (zAI (zZ (zU (zQ ?_))))));exact ⟨rfl,_,zj rfl rfl,E0,by rw [zIH hlt hdig];rfl⟩
   · have hd0:decide ((((l.getD i 0).toNat:Nat):Int)<48)=false:=decide_eq_false (by omega);have hg0:(decide ((((l.getD i 0).toNat:Nat):Int)<48)==false)=true:=by rw [hd0];rfl
     refine rI fun K=>mv (K1 (zAU (n:=i) zAD rfl rfl hlt (K8 rfl (mv (sr_g hg0 (zC (sr_g hg0 (zC (sr_g hg0 (zAU (n:=i) zAD rfl rfl hlt (sr_g hg0 (zJ rfl rfl rfl (pk (b:=false) (congrArg Value.bool hd0) (rs [0,3,15,16,17,18,19] K ?_))))))))))))));refine K0 rfl ?_ ?_<;>intro hc
     · have h57:(((l.getD i 0).toNat:Nat):Int)>57:=of_decide_eq_true hc;have hdig:isDig (l.getD i 0)=false:=by rw [Bool.eq_false_iff,ne_eq,zFl];omega
       refine rj fun K=>ag (rm [2,3] K ?_);refine zE (zZ (zU (zAI (zZ (zU (zQ ?_))))));exact ⟨rfl,_,zj rfl rfl,E0,by rw [zIH hlt hdig];rfl⟩
     · have h57:¬ (((l.getD i 0).toNat:Nat):Int)>57:=of_decide_eq_false hc;have hdig:isDig (l.getD i 0)=true:=by rw [zFl];omega
       exact zp (zR (zM (rI fun K=>K8 rfl (ag (rl K (zO (⟨rfl,i+1,⟨⟨rfl,rfl,rfl,congrArg (Value.int .i64) (zr (by omega)),trivial⟩,by omega,all_take_succ hlt hj hdig,E0⟩,by omega⟩)))))))
 · have hge:=f_lt hc;clear hc;refine zY (zx (zl (zL (zM (rJ fun K=>K1 (zz zAD rfl (K8 rfl (ag (rm [2,3] K ?_)))))))));refine zE (en rfl E0 ?_);rw [List.take_of_length_le hge] at hj;rw [zAQ,hj,Bool.and_true];cases l with
   | nil=>rfl
   | cons b t =>
    show Value.bool (decide ((((b :: t).length:Nat):Int)>0))=_;rw [decide_eq_true (by simp only [List.length_cons];omega)];rfl
theorem natS_append (a b:List UInt8):natS (a++b)=natS a*10^b.length+natS b:=by
 have key:∀ (b:List UInt8) (n:Nat),b.foldl (fun n b=>10*n+(b.toNat-48)) n=n*10^b.length+natS b:=by
  intro b
  induction b with
  | nil=>intro n;simp [natS]
  | cons x t ih =>
   intro n;have e:natS (x :: t)=t.foldl (fun n b=>10*n+(b.toNat-48)) (x.toNat-48):=by simp [natS]
   rw [List.foldl_cons,ih,e,ih,List.length_cons,Nat.pow_succ];grind
 unfold natS;rw [List.foldl_append,key];rfl
theorem natS_take_succ {l:List UInt8} (h:i<l.length):natS (l.take (i+1))=10*natS (l.take i)+((l.getD i 0).toNat-48):=by
 rw [List.take_succ_eq_append_getElem h,zHx,List.getD_eq_getElem?_getD,List.getElem?_eq_getElem h,Option.getD_some]
theorem zIS (l:List UInt8) (j n:Nat):natS (l.take (j+n))=natS (l.take j)*10^((l.drop j).take n).length+natS ((l.drop j).take n):=by
 rw [← natS_append,List.take_add]
theorem zMi {l:List UInt8} (h:l.all isDig=true) (hi:i<l.length):48≤(l.getD i 0).toNat∧(l.getD i 0).toNat≤57:=by
 rw [← zFl,List.getD_eq_getElem?_getD,List.getElem?_eq_getElem hi];exact List.all_eq_true.1 h _ (List.getElem_mem hi)
theorem zJJ {l:List UInt8} (h:l.all isDig=true) (i:Nat):(l.take i).all isDig=true:=by
 rw [List.all_eq_true] at h ⊢;exact fun x hx=>h x (List.mem_of_mem_take hx)
theorem zJP {l:List UInt8} (h:l.all isDig=true) (i:Nat):(l.drop i).all isDig=true:=by
 rw [List.all_eq_true] at h ⊢;exact fun x hx=>h x (List.mem_of_mem_drop hx)
theorem zLx (h:i≤9):10^i≤1000000000:=Nat.pow_le_pow_right (by decide) h
theorem zIN (h:n<1152921504606846976):Fits n:=Nat.lt_of_le_of_lt (zDU (Nat.le_of_lt h)) (by decide +kernel)
theorem fit_natS' {l:List UInt8} (h:l.length≤1000) (hd:l.all isDig=true):Fit (natS (l.take i)):=zEF (by rw [List.length_take];omega) (zJJ hd i)
theorem u8_sub {b:UInt8} (h:48≤b.toNat∧b.toNat≤57):IntKind.u8.wrap (((b.toNat:Nat):Int)-48)=((b.toNat-48:Nat):Int):=by
 simp [IntKind.wrap,IntKind.bits,IntKind.signed];omega
theorem dig_add (ha:a<4611686018427387904) (hd:d<1000):IntKind.i64.wrap ((a:Int)+IntKind.i64.wrap (d:Int))=((a+d:Nat):Int):=by
 rw [zm (x:=(d:Int)) (by omega) (by omega),zm (by omega) (by omega)];omega
theorem zGe {l:List UInt8} (hlen:l.length≤1000) (hd:l.all isDig=true):Ret prog 161 #[S l] w (fun r w'=>IsN w' r (natS l)):=by
 have E0:Ext w w:=Ext.refl w;refine J0 40 func161 rfl (rj fun K=>ag (rm [0] K ?_));refine rj fun K=>ag (rm [0,3] K ?_);refine zA (zF (zg (X:=Nat) (fun j ρ w'=>∃ vo,Keep ρ [(0,S (l.drop j)),(3,vo)]∧j≤l.length∧IsN w' vo (natS (l.take j))∧Ext w w') (fun j=>l.length-j) 0 ⟨.slice none 0 0,(kp rfl),Nat.zero_le _,IsN.nil rfl,E0⟩ ?_));clear E0;rintro j ρ1 w1 ⟨vo,hk,hjl,ho,E0⟩;refine wpe_k _ hk ?_;clear hk ρ1;refine zA (rJ fun K=>K1 (zz zAD rfl (K8 rfl (rm [0,3,10] K ?_))));refine K0 rfl ?_ ?_<;>intro hc
 · have hlt:j<l.length:=by have h:=of_decide_eq_true hc;rw [List.length_drop] at h;omega
   clear hc;obtain ⟨n,hn⟩:∃ n,min (l.drop j).length 9=n:=⟨_,rfl⟩;have hn9:n≤9∧1≤n∧n≤(l.drop j).length:=by rw [List.length_drop] at hn ⊢;omega
   have hnl:j+n≤l.length:=by have h:=hn9.2.2;rw [List.length_drop] at h;omega
   refine sk (zF (rJ fun K=>K1 (zz zAD rfl (K1 (zGS (b:=9) n rfl rfl hn (ag (rm [0,3,4] K ?_)))))));refine rj fun K=>ag (ag (rm [0,3,4,5,6] K ?_));refine zA (rj fun K=>ag (rm [0,3,4,5,6,7] K ?_));refine zF (zg (X:=Nat) (fun i ρ w'=>Keep ρ [(0,S (l.drop j)),(3,vo),(4,.int .i64 (n:Nat)),(5,.int .i64 (natS ((l.drop j).take i):Nat)),(6,.int .i64 ((10^i:Nat):Int)),(7,.int .i64 (i:Nat))]∧i≤n∧IsN w' vo (natS (l.take j))∧Ext w w') (fun i=>n-i) 0 ⟨(kp rfl),Nat.zero_le _,ho,E0⟩ ?_);clear E0 ho;rintro i ρ1 w2 ⟨hk,hin,ho,E0⟩;refine wpe_k _ hk ?_;clear hk ρ1;refine zA (rJ fun K=>mv (K8 rfl (rm [0,3,4,5,6,7,16] K ?_)));refine K0 rfl ?_ ?_<;>intro hc
   · have hi:i<n:=t_lt hc;clear hc;have hil:i<(l.drop j).length:=by omega
     have hdi:=zMi (zJP hd j) hil;have h10:=zLx (show i≤9 by omega);have hnl1:=zGN _ ((l.drop j).take i) rfl (zJJ (zJP hd j) i);rw [List.length_take,Nat.min_eq_left (by omega)] at hnl1;have hp1:10*10^i=10^(i+1):=by rw [Nat.pow_succ,Nat.mul_comm]
     refine sk (zA (zF (rI fun K=>K1 (zBH (a:=10) (10*natS ((l.drop j).take i)) rfl rfl rfl (by omega) (mv (mv (K1 (zAU (n:=i) zAD rfl rfl hil (K1 (zJ (v := .int .u8 (((l.drop j).getD i 0).toNat-48:Nat)) rfl rfl (congrArg (fun z=>some (Value.int .u8 z)) (u8_sub hdi)) (K1 (zBM (n:=((((l.drop j).getD i 0).toNat-48:Nat):Int)) zKL zIT rfl (K1 (zJ (v := .int .i64 ((10*natS ((l.drop j).take i)+(((l.drop j).getD i 0).toNat-48):Nat):Int)) rfl rfl (congrArg (fun z=>some (Value.int .i64 z)) (dig_add (by omega) (by omega))) (mv (K1 (zBH (a:=10) (10^(i+1)) rfl rfl hp1 (by omega) ?_)))))))))))))))));refine ag (ag (rl K (zR (zM (K5 [0,3,4,5,6,7] ?_)))));exact rI fun K=>K8 rfl (ag (rl K (zO (⟨rfl,i+1,⟨⟨rfl,rfl,rfl,rfl,rfl,rfl,rfl,congrArg (Value.int .i64) (congrArg Nat.cast (natS_take_succ hil).symm),rfl,rfl,rfl,congrArg (Value.int .i64) (zr (by omega)),trivial⟩,by omega,ho,E0⟩,by omega⟩))))
   · have hi:=f_lt hc;clear hc;obtain rfl:i=n:=by omega
     have h10:=zLx hn9.1;have hcl:((l.drop j).take i).length=i:=by rw [List.length_take];omega
     have hnl1:=zGN _ ((l.drop j).take i) rfl (zJJ (zJP hd j) i);rw [hcl] at hnl1;have hfo:=fit_natS' (i:=j) hlen hd;have hfm:Fit (natS (l.take j)*10^i):=by
      have:=fit_natS' (i:=j+i) hlen hd;rw [zIS,hcl] at this;exact this.le (Nat.le_add_right _ _)
     refine zY (zx (zl (zL (zM (rJ fun K=>mv (K1 (j1 E0 ho.ext hb248 (zDf (n:=10^i) (by omega)) fun vs w1 E0 ho hs=>K1 (j2 E0 ho.ext hs.ext hb201 (zCC ho hs hfo (zIN (by omega)).fit) fun vt w2 E0 ho hs ht=>mv (K1 (j3 E0 ho.ext hs.ext ht.ext hb248 (zDf (n:=natS ((l.drop j).take i)) (by omega)) fun vp w3 E0 ho hs ht hs2=>K1 (j4 E0 ho.ext hs.ext ht.ext hs2.ext hb199 (zMZ ht hs2 hfm (zIN (by omega)).fit) fun vq w4 E0 ho hs ht hs2 hp=>ag (rm [0,3,4,5,6,7] K ?_))))))))))));refine rI fun K=>mv (K1 (zCW (n:=i) zAD rfl rfl (by omega) (ag (rl K (zR (zO (⟨rfl,j+i,⟨_,⟨rfl,congrArg S (by rw [List.drop_drop]),rfl,rfl,trivial⟩,by omega,?_,E0⟩,by omega⟩)))))));rw [zIS,hcl];exact hp
 · have hge:l.length≤j:=by have h:=of_decide_eq_false hc;rw [List.length_drop] at h;omega
   clear hc;refine zY (zx (zl (zL (zM (rJ fun K=>ag (rm [2] K ?_))))));refine zE (en rfl E0 ?_);rw [List.take_of_length_le hge] at ho;exact ho
theorem IsR.mkS {s:Int} {n d:Value} (hs:s=1∨s = -1) (ha:a≠0) (hb:b≠0) (hn:IsN w n (a/Nat.gcd a b)) (hd:IsN w d (b/Nat.gcd a b)):IsR w (.agg #[.int .i64 s,n,d]) (qOf (decide (s<0)) a b):=by
 rcases hs with rfl | rfl
 · exact IsR.mk' (s:=false) ha hb hn hd
 · exact IsR.mk' (s:=true) ha hb hn hd
theorem zGg {s:Int} {x y:Value} (hs:s=1∨s = -1∨s=0) (hn:IsN w x a) (hd:IsN w y b) (hb0:b≠0) (hfa:Fits a) (hfb:Fits b):Ret prog 160 #[.int .i64 s,x,y] w (fun v w'=>IsR w' v (qOf (decide (s<0)) (if s=0 then 0 else a) b)):=by
 obtain ⟨pn,ln,kn,rfl,hnz,hnz1,-⟩:=hn.shape;have E0:Ext w w:=Ext.refl w;refine J0 46 func160 rfl (rj fun K => ?_);refine K1 (zV zero50 fun b1 w1 hb hE hB1 hs => ?_);have hgb1:w.heap.size≤b1:=by rw [hb];exact E0.size
 replace E0:=E0.trans hE;replace hn:=hn.ext hE;replace hd:=hd.ext hE;clear hE hs hb;refine rm [0,1,2,6] K ?_;refine zA (zA ?_);rcases (show s=0∨(s≠0∧a=0)∨(s≠0∧a≠0) from by omega) with h0 | ⟨h0,ha0⟩ | ⟨h0,ha0⟩
 · subst h0;refine rI fun K=>K8 rfl (mv (K3 (K3 (K3 (pk rfl (rs [0,1,2,6,14] K ?_))))));refine wct rfl (rj fun K=>K1 (zT (cs := #[.int .i64 0,.slice none 0 0,.slice none 0 0]) (by kernel_rfl) (K1 (zc zHM rfl hB1 rfl (Nat.le_of_ble_eq_true rfl) (by decide) rfl fun w2 hU hN => ?_))));replace E0:=E0.upd hU hgb1;replace hn:=hn.upd hU hB1 (by decide);replace hd:=hd.upd hU hB1 (by decide);clear hB1;have hB1:=hN;clear hN hU;refine rm [0,6] K ?_;refine zE (zU (zQ ?_));exact ⟨rfl,_,zv rfl rfl rfl aggr50 hB1 rfl,E0,by rw [if_pos rfl,zJR];exact IsR.zero⟩
 · have he:(s==0)=false:=beq_eq_false_iff_ne.2 h0;have hg0:((s==0)==false)=true:=by rw [he];rfl
   obtain rfl:=hnz1 ha0;refine rI fun K=>K8 rfl (mv (sr_g hg0 (zC (sr_g hg0 (zI zn rfl (sr_g hg0 (zJ rfl rfl rfl (pk (b:=false) (congrArg Value.bool he) (rs [0,1,2,6,14] K ?_)))))))));refine wct rfl (rj fun K=>K1 (zT (cs := #[.int .i64 0,.slice none 0 0,.slice none 0 0]) (by kernel_rfl) (K1 (zc zHM rfl hB1 rfl (Nat.le_of_ble_eq_true rfl) (by decide) rfl fun w2 hU hN => ?_))));replace E0:=E0.upd hU hgb1;replace hn:=hn.upd hU hB1 (by decide);replace hd:=hd.upd hU hB1 (by decide);clear hB1;have hB1:=hN;clear hN hU;refine rm [0,6] K ?_;refine zE (zU (zQ ?_));exact ⟨rfl,_,zv rfl rfl rfl aggr50 hB1 rfl,E0,by rw [if_neg h0,ha0,zJR];exact IsR.zero⟩
 · have he:(s==0)=false:=beq_eq_false_iff_ne.2 h0;have hg0:((s==0)==false)=true:=by rw [he];rfl
   have hl0:(((ln:Nat):Int)==0)=false:=beq_eq_false_iff_ne.2 (fun e=>ha0 (hnz (by omega)));refine rI fun K=>K8 rfl (mv (sr_g hg0 (zC (sr_g hg0 (zI zn rfl (sr_g hg0 (zJ rfl rfl rfl (pk (b:=false) (congrArg Value.bool he) (rs [0,1,2,6,14] K ?_)))))))));refine wcf (congrArg Value.bool hl0) (sk (zAu (fun ρ w'=>∃ vn vd,Keep ρ [(0,.int .i64 s),(1,vn),(2,vd),(6,.pointer (some ⟨b1,0,none⟩))]∧Ext w w'∧IsN w' vn (a/Nat.gcd a b)∧IsN w' vd (b/Nat.gcd a b)∧Blk w' b1 50 [Value.int .i64 0,Value.slice none 0 0,Value.slice none 0 0]) ?_ ?_))
   · refine zA ?_;rcases (show a=1∨(a≠1∧b=1)∨(a≠1∧b≠1) from by omega) with h1 | ⟨h1,h2⟩ | ⟨h1,h2⟩
     · have hab:a=1∨b=1:=Or.inl h1;refine rI fun K=>K1 (j3 E0 hn.ext hd.ext hB1.ext hb163 (zBc hn) fun v3_1 w2 E0 hn hd hB1 hr => ?_);obtain rfl:=hr.trans (congrArg Value.bool (decide_eq_true h1));refine K1 (zq rfl (mv (K3 (K3 (K3 (pk rfl (rs [0,1,2,6,23] K ?_)))))));refine wcf rfl (zp (zO ?_));have hg:Nat.gcd a b=1:=by rcases hab with e | e<;>rw [e]<;>simp
       exact ⟨rfl,_,_,(kp rfl),E0,by rw [hg,Nat.div_one];exact hn,by rw [hg,Nat.div_one];exact hd,hB1⟩
     · have hab:a=1∨b=1:=Or.inr h2;refine rI fun K=>K1 (j3 E0 hn.ext hd.ext hB1.ext hb163 (zBc hn) fun v3_1 w2 E0 hn hd hB1 hr => ?_);obtain rfl:=hr.trans (congrArg Value.bool (decide_eq_false h1));refine K1 (zq rfl (mv (K7 (K2 (j3 E0 hn.ext hd.ext hB1.ext hb163 (zBc hd) fun v3_5 w3 E0 hn hd hB1 hr => ?_)))));obtain rfl:=hr.trans (congrArg Value.bool (decide_eq_true h2));refine K2 (zq rfl (pk rfl (rs [0,1,2,6,23] K ?_)));refine wcf rfl (zp (zO ?_));have hg:Nat.gcd a b=1:=by rcases hab with e | e<;>rw [e]<;>simp
       exact ⟨rfl,_,_,(kp rfl),E0,by rw [hg,Nat.div_one];exact hn,by rw [hg,Nat.div_one];exact hd,hB1⟩
     · skip
       refine rI fun K=>K1 (j3 E0 hn.ext hd.ext hB1.ext hb163 (zBc hn) fun v3_1 w2 E0 hn hd hB1 hr => ?_);obtain rfl:=hr.trans (congrArg Value.bool (decide_eq_false h1));refine K1 (zq rfl (mv (K7 (K2 (j3 E0 hn.ext hd.ext hB1.ext hb163 (zBc hd) fun v3_5 w3 E0 hn hd hB1 hr => ?_)))));obtain rfl:=hr.trans (congrArg Value.bool (decide_eq_false h2));refine K2 (zq rfl (pk rfl (rs [0,1,2,6,23] K ?_)));refine wct rfl (rJ fun K=>mv (K1 (j3 E0 hn.ext hd.ext hB1.ext hb164 (zDu hn hd hfa hfb hb0) fun v4_2 w4 E0 hn hd hB1 hgv => ?_)));have hg0:Nat.gcd a b≠0:=fun e=>ha0 (Nat.gcd_eq_zero_iff.1 e).1;have hfg:Fits (Nat.gcd a b):=hfa.le (Nat.le_of_dvd (Nat.pos_of_ne_zero ha0) (Nat.gcd_dvd_left a b));refine ag (rm [0,1,2,6,7] K ?_);refine rJ fun K=>K1 (j4 E0 hn.ext hd.ext hB1.ext hgv.ext hb163 (zBc hgv) fun v5_1 w5 E0 hn hd hB1 hgv hr => ?_);subst hr;refine K1 (zq rfl (rm [0,1,2,6,7,29] K ?_));refine K0 rfl ?_ ?_<;>intro hc
       · clear hc;refine rJ fun K=>mv (K1 (j4 E0 hn.ext hd.ext hB1.ext hgv.ext hb247 (zCl hn hgv hfa hfg hg0) fun v6_2 w6 E0 hn hd hB1 hgv hr => ?_));obtain ⟨q1,r1,rfl,hq2,-⟩:=hr;refine mv (xt rfl (xt rfl (ag (rm [0,1,2,6,7] K ?_))));refine rI fun K=>mv (K1 (j5 E0 hn.ext hd.ext hB1.ext hgv.ext hq2.ext hb247 (zCl hd hgv hfb hfg hg0) fun v7_2 w7 E0 hn hd hB1 hgv hq2 hr => ?_));obtain ⟨q2,r2,rfl,hq4,-⟩:=hr;exact mv (xt rfl (xt rfl (ag (rl K (zO ⟨rfl,_,_,(kp rfl),E0,hq2,hq4,hB1⟩)))))
       · have hg1:Nat.gcd a b=1:=by simpa using hc
         clear hc;refine zp (zO ?_);have hg:Nat.gcd a b=1:=hg1;exact ⟨rfl,_,_,(kp rfl),E0,by rw [hg,Nat.div_one];exact hn,by rw [hg,Nat.div_one];exact hd,hB1⟩
   · clear E0 hn hd hB1;rintro ρ2 w2 ⟨vn,vd,hk,E0,hn,hd,hB1⟩;obtain ⟨p1,l1,k1,rfl,-,-,-⟩:=hn.shape;obtain ⟨p2,l2,k2,rfl,-,-,-⟩:=hd.shape;refine wpe_k _ hk ?_;clear hk ρ2;refine rJ fun K=>mv (mv (K1 (zT (cs := #[.int .i64 s,.slice p1 l1 k1,.slice p2 l2 k2]) (by kernel_rfl) (K1 (zc zHM rfl hB1 rfl (Nat.le_of_ble_eq_true rfl) (by decide) rfl fun w2 hU hN => ?_)))));replace E0:=E0.upd hU hgb1;replace hn:=hn.upd hU hB1 (by decide);replace hd:=hd.upd hU hB1 (by decide);clear hB1;have hB1:=hN;clear hN hU;refine rm [0,6] K ?_;refine zE (zQ ?_);exact ⟨rfl,_,zv rfl rfl rfl aggr50 hB1 rfl,E0,by rw [if_neg h0];exact IsR.mkS (by omega) ha0 hb0 hn hd⟩
variable {bot:List UInt8} {two:Bool}
theorem zCZ {l top:List UInt8} (hcut:cutAt 47 (zP l)=(top,bot,two)) (h:zAN top=false∨(top=[48]∧(below l=true∨two=true))∨(two=true∧(zAN bot=false∨bot=[48]∨bot=[49]))):zK l=(0,6):=by
 rw [zAj,hcut];simp only;by_cases h1:(!zAN top || (top==[48]&&(below l || two)))=true
 · rw [if_pos h1]
 · rw [if_neg h1];rw [if_pos];rcases h with h | ⟨h,h'⟩ | ⟨h,h'⟩
   · simp [h] at h1
   · simp [h] at h1;rcases h' with h' | h'<;>simp [h'] at h1
   · rw [h];rcases h' with h' | h' | h'<;>simp [h']
theorem zJD {l top:List UInt8} (hcut:cutAt 47 (zP l)=(top,bot,two)) (h1:zAN top=true) (h2:¬ (top=[48]∧(below l=true∨two=true))) (h3:two=true→(zAN bot=true∧bot≠[48])∧bot≠[49]) :
 zK l=if 1000<top.length∨1000<bot.length then (0,3) else if two=false then (qOf (below l) (natS top) 1,0) else if Nat.gcd (natS top) (natS bot)≠1 then (0,6) else (qOf (below l) (natS top) (natS bot),0):=by
 rw [zAj,hcut];simp only;rw [if_neg (by
  rw [h1];by_cases ht:top=[48]
  · have hb:below l=false:=by cases hb:below l with | false=>rfl | true=>exact absurd ⟨ht,.inl hb⟩ h2
    have hw:two=false:=by cases hw:two with | false=>rfl | true=>exact absurd ⟨ht,.inr hw⟩ h2
    rw [hb,hw];simp
  · simp [ht]),if_neg (by
  cases hw:two with
  | false=>simp
  | true =>
   obtain ⟨⟨a,b⟩,c⟩:=h3 hw;simp [a,b,c])]
 cases two<;>simp
theorem zMb {t:List UInt8} (hl:t.length≤1) (hd:zAQ t=true) (h0:t.getD 0 0=48):t=[48]:=by
 match t,hl with
 | [],_=>cases hd
 | [b],_=>have:b=48:=h0;rw [this]
theorem zIr {t:List UInt8} (hl:t.length≤1) (hd:zAQ t=true):zAN t=true:=by
 unfold zAN;rw [hd,Bool.true_and];by_cases h:t.getD 0 0=48
 · rw [zMb hl hd h];rfl
 · rw [Bool.or_eq_true];exact .inr (bne_iff_ne.2 h)
theorem zFM {t:List UInt8} (hd:zAQ t=true) (h:t.getD 0 0≠48):zAN t=true∧t≠[48]:=by
 refine ⟨?_,fun e=>h (by rw [e];rfl)⟩;unfold zAN;rw [hd,Bool.true_and,Bool.or_eq_true];exact .inr (bne_iff_ne.2 h)
theorem zHe {t:List UInt8} (hl:1<t.length) (h:t.getD 0 0=48):zAN t=false:=by
 unfold zAN;have h1:(t==[48])=false:=by rw [beq_eq_false_iff_ne];intro e;rw [e] at hl;exact absurd hl (by decide)
 have h2:(t.getD 0 0 != 48)=false:=by rw [h];rfl
 rw [h1,h2];simp
theorem zLk {t:List UInt8} (hd:zAQ t=true) (h:t.getD 0 0=48):zAN t=false∨t=[48]:=by
 rcases Nat.lt_or_ge 1 t.length with hl | hl
 · exact .inl (zHe hl h)
 · exact .inr (zMb hl hd h)
theorem zIA {t:List UInt8} (hd:zAQ t=false):zAN t=false:=by unfold zAN;rw [hd];rfl
theorem zFI {t:List UInt8} (hd:zAQ t=true):0<t.length:=by
 cases t with
 | nil=>cases hd
 | cons b t=>simp
theorem zIF {c:UInt8}:∀ {l:List UInt8},(cutAt c l).2.2=false→(cutAt c l).2.1=[]
 | [],_=>rfl
 | b :: l,h=>by
  unfold cutAt at h ⊢;split
  · rename_i e;rw [if_pos e] at h;cases h
  · rename_i e;rw [if_neg e] at h;exact zIF h
theorem zHQ {l:List UInt8} (h:l.length≤1000) (hd:l.all isDig=true):Fits (natS l):=by
 have h1:=zGN _ l rfl hd;have h2:10^l.length≤16^l.length:=Nat.pow_le_pow_left (by decide) _;have h3:(16:Nat)^l.length=2^(4*l.length):=by rw [show (16:Nat)=2^4 from rfl,← Nat.pow_mul]
 by_cases h0:natS l=0
 · rw [h0];unfold Fits;simp
 · unfold Fits;have:=(Nat.log2_lt h0 (k:=4*l.length)).2 (by omega);omega
theorem split3 {top bot:List UInt8} {two:Bool}:zAQ top=false∨(zAQ top=true∧two=true∧zAQ bot=false) ∨
 (zAQ top=true∧two=false∧1<top.length∧(top.getD 0 0).toNat=48)∨(zAQ top=true∧two=false∧1<top.length∧(top.getD 0 0).toNat≠48)∨(zAQ top=true∧two=false∧¬ 1<top.length) ∨
 (zAQ top=true∧two=true∧zAQ bot=true∧1<top.length∧(top.getD 0 0).toNat=48)∨(zAQ top=true∧two=true∧zAQ bot=true∧1<top.length∧(top.getD 0 0).toNat≠48∧(bot.getD 0 0).toNat=48)∨(zAQ top=true∧two=true∧zAQ bot=true∧1<top.length∧(top.getD 0 0).toNat≠48∧(bot.getD 0 0).toNat≠48) ∨
 (zAQ top=true∧two=true∧zAQ bot=true∧¬ 1<top.length∧(bot.getD 0 0).toNat=48)∨(zAQ top=true∧two=true∧zAQ bot=true∧¬ 1<top.length∧(bot.getD 0 0).toNat≠48):=by
 generalize zAQ top=d1;generalize zAQ bot=d2;generalize (top.getD 0 0).toNat=t0;generalize (bot.getD 0 0).toNat=b0;by_cases h1:1<top.length<;>by_cases h2:t0=48<;>by_cases h3:b0=48<;>cases d1<;>cases d2<;>cases two<;>simp [h1,h2,h3]
theorem Parse_ok {l:List UInt8} (hlen:l.length<1000000000):Ret prog 66 #[S l] w (fun r w'=>∃ u,r = .tuple #[u,.int .i64 (zK l).2]∧IsR w' u (zK l).1):=by
 have hul:=zEb l;have hcl:=zGH 47 (zP l);have hbn := @zIF 47 (zP l);rcases hcut:cutAt 47 (zP l) with ⟨top,bot,two⟩
 rw [hcut] at hcl hbn;simp only at hcl hbn;obtain ⟨s,hs⟩:∃ s:Int,(if below l=true then (-1:Int) else 1)=s:=⟨_,rfl⟩;have hsi:(below l=true∧s = -1)∨(below l=false∧s=1):=by
  cases hb:below l with
  | true=>rw [hb] at hs;exact .inl ⟨rfl,hs.symm⟩
  | false=>rw [hb] at hs;exact .inr ⟨rfl,hs.symm⟩
 have hsb:decide (s<0)=below l:=by rcases hsi with ⟨h1,h2⟩ | ⟨h1,h2⟩<;>rw [h1,h2]<;>rfl
 have E0:Ext w w:=Ext.refl w;refine J0 96 func66 rfl (rj fun K => ?_);refine K1 (zV zero50 fun b1 w1 hb hE hB1 hs => ?_);have hgb1:w.heap.size≤b1:=by rw [hb];exact E0.size
 replace E0:=E0.trans hE;clear hE hs hb;refine ag (rm [0,2] K ?_);refine rJ fun K=>K1 (j1 E0 hB1.ext hb157 (signed_ok) fun v1_1 w2 E0 hB1 hr => ?_);rw [hs] at hr;subst hr;refine mv (xt rfl (xt rfl (ag (ag (rm [2,4,5] K ?_)))));refine rJ fun K=>K1 (j1 E0 hB1.ext hb158 (split_ok (c:=47) (by omega)) fun v2_1 w3 E0 hB1 hr => ?_);rw [hcut] at hr;subst hr;refine mv (xt rfl (xt rfl (xt rfl (ag (ag (ag (rm [2,5,6,7,8] K ?_)))))));refine zAu (fun ρ w'=>Keep ρ [(2,.pointer (some ⟨b1,0,none⟩)),(5,.int .i64 s),(6,S top),(7,S bot),(8,.bool two)]∧Ext w w'∧Blk w' b1 50 [Value.int .i64 0,Value.slice none 0 0,Value.slice none 0 0]∧zAN top=true∧(two=true→zAN bot=true∧bot≠[48])) ?_ ?_
 · refine zA ?_;rcases @split3 top bot two with hD1 | ⟨hD1,h2,hD2⟩ | ⟨hD1,h2,hl,h0⟩ | ⟨hD1,h2,hl,h0⟩ | ⟨hD1,h2,hl⟩ | ⟨hD1,h2,hD2,hl,h0⟩ | ⟨hD1,h2,hD2,hl,h0,hb0⟩ | ⟨hD1,h2,hD2,hl,h0,hb0⟩ | ⟨hD1,h2,hD2,hl,hb0⟩ | ⟨hD1,h2,hD2,hl,hb0⟩
   · subst_vars
     have he:zK l=(0,6):=zCZ hcut (.inl (zIA hD1));refine rI fun K=>K1 (j1 E0 hB1.ext hb159 (zAd (by omega)) fun v3_1 w4 E0 hB1 hr => ?_);obtain rfl:=hr.trans (congrArg Value.bool hD1);refine K1 (zq rfl (mv (K3 (K3 (K3 (K3 (K3 (K3 (pk rfl (mv (K3 (K3 (K3 (K3 (K3 ?_)))))))))))))));refine K3 (K3 (K3 (pk rfl (mv (K3 (K3 (K3 (K3 (K3 (K3 (pk rfl (rs [2,5,6,7,8,50] K ?_))))))))))));refine wct rfl (rj fun K=>K1 (zT (cs := #[.int .i64 0,.slice none 0 0,.slice none 0 0]) (by kernel_rfl) (K1 (runs_rstoreK rfl IsR.zero (Cell3.of hB1 rfl) fun _ w9 hU hN4 => ?_))));replace E0:=E0.upd hU hgb1;obtain ⟨cs4,hB4,hl4,hN4⟩:=hN4;refine ag (rm [2,3,5,8] K ?_);refine zE (zAI (zQ ?_));exact ⟨rfl,_,zW rfl rfl rfl rfl aggr50 hB4 hl4,E0,_,by rw [he];rfl,by rw [he];exact hN4⟩
   · subst h2;have he:zK l=(0,6):=zCZ hcut (.inr (.inr ⟨rfl,.inl (zIA hD2)⟩));refine rI fun K=>K1 (j1 E0 hB1.ext hb159 (zAd (by omega)) fun v3_1 w4 E0 hB1 hr => ?_);obtain rfl:=hr.trans (congrArg Value.bool hD1);refine K1 (zq rfl (mv (K7 (K7 (K7 (K2 (j1 E0 hB1.ext hb159 (zAd (by omega)) fun v3_7 w5 E0 hB1 hr => ?_)))))));obtain rfl:=hr.trans (congrArg Value.bool hD2);refine K2 (zq rfl (K2 (zu rfl (pk rfl (mv (K3 (K3 (K3 (K3 (K3 (K3 (K3 (K3 (pk rfl (mv (K3 ?_))))))))))))))));refine K3 (K3 (K3 (K3 (K3 (pk rfl (rs [2,5,6,7,8,50] K ?_))))));refine wct rfl (rj fun K=>K1 (zT (cs := #[.int .i64 0,.slice none 0 0,.slice none 0 0]) (by kernel_rfl) (K1 (runs_rstoreK rfl IsR.zero (Cell3.of hB1 rfl) fun _ w9 hU hN4 => ?_))));replace E0:=E0.upd hU hgb1;obtain ⟨cs4,hB4,hl4,hN4⟩:=hN4;refine ag (rm [2,3,5,8] K ?_);refine zE (zAI (zQ ?_));exact ⟨rfl,_,zW rfl rfl rfl rfl aggr50 hB4 hl4,E0,_,by rw [he];rfl,by rw [he];exact hN4⟩
   · subst h2;have he:zK l=(0,6):=zCZ hcut (.inl (zHe hl (UInt8.toNat_inj.1 (show (top.getD 0 0).toNat=(48:UInt8).toNat from h0))));refine rI fun K=>K1 (j1 E0 hB1.ext hb159 (zAd (by omega)) fun v3_1 w4 E0 hB1 hr => ?_);obtain rfl:=hr.trans (congrArg Value.bool hD1);refine K1 (zq rfl (mv (K7 (K7 (K3 (K3 (K3 (K2 (zu rfl (pk rfl (mv (K7 (K2 (zz zAD rfl (K2 (zJ (v := .bool true) rfl rfl (congrArg (fun z=>some (Value.bool z)) (decide_eq_true (by omega))) (K7 (K7 ?_))))))))))))))))));refine K2 (zAU (n:=0) zAD rfl rfl (by omega) (K2 (zJ (v := .bool true) rfl rfl (congrArg (fun z=>some (Value.bool z)) (beq_iff_eq.2 (by omega))) (K2 (zu rfl (pk rfl (mv (K3 (K3 (K3 (K3 (K3 (K3 (pk rfl (rs [2,5,6,7,8,50] K ?_)))))))))))))));refine wct rfl (rj fun K=>K1 (zT (cs := #[.int .i64 0,.slice none 0 0,.slice none 0 0]) (by kernel_rfl) (K1 (runs_rstoreK rfl IsR.zero (Cell3.of hB1 rfl) fun _ w9 hU hN4 => ?_))));replace E0:=E0.upd hU hgb1;obtain ⟨cs4,hB4,hl4,hN4⟩:=hN4;refine ag (rm [2,3,5,8] K ?_);refine zE (zAI (zQ ?_));exact ⟨rfl,_,zW rfl rfl rfl rfl aggr50 hB4 hl4,E0,_,by rw [he];rfl,by rw [he];exact hN4⟩
   · subst h2;have hpt:=(zFM hD1 (fun e=>h0 (by rw [e];rfl))).1;have hpb:false=true→zAN bot=true∧bot≠[48]:=fun h=>by cases h
     refine rI fun K=>K1 (j1 E0 hB1.ext hb159 (zAd (by omega)) fun v3_1 w4 E0 hB1 hr => ?_);obtain rfl:=hr.trans (congrArg Value.bool hD1);refine K1 (zq rfl (mv (K7 (K7 (K3 (K3 (K3 (K2 (zu rfl (pk rfl (mv (K7 (K2 (zz zAD rfl (K2 (zJ (v := .bool true) rfl rfl (congrArg (fun z=>some (Value.bool z)) (decide_eq_true (by omega))) (K7 (K7 ?_))))))))))))))))));refine K2 (zAU (n:=0) zAD rfl rfl (by omega) (K2 (zJ (v := .bool false) rfl rfl (congrArg (fun z=>some (Value.bool z)) (beq_eq_false_iff_ne.2 (by omega))) (K2 (zu rfl (pk rfl (mv (K7 (K7 (K3 (K3 (K3 (K2 (zu rfl (pk rfl (rs [2,5,6,7,8,50] K ?_))))))))))))))));exact wcf rfl (zp (zO ⟨rfl,(kp rfl),E0,hB1,hpt,hpb⟩))
   · subst h2;have hpt:=zIr (by omega) hD1;have hpb:false=true→zAN bot=true∧bot≠[48]:=fun h=>by cases h
     refine rI fun K=>K1 (j1 E0 hB1.ext hb159 (zAd (by omega)) fun v3_1 w4 E0 hB1 hr => ?_);obtain rfl:=hr.trans (congrArg Value.bool hD1);refine K1 (zq rfl (mv (K7 (K7 (K3 (K3 (K3 (K2 (zu rfl (pk rfl (mv (K7 (K2 (zz zAD rfl (K2 (zJ (v := .bool false) rfl rfl (congrArg (fun z=>some (Value.bool z)) (decide_eq_false (by omega))) (K7 (K3 ?_))))))))))))))))));refine K3 (K3 (K2 (zu rfl (pk rfl (mv (K7 (K7 (K3 (K3 (K3 (K2 (zu rfl (pk rfl (rs [2,5,6,7,8,50] K ?_))))))))))))));exact wcf rfl (zp (zO ⟨rfl,(kp rfl),E0,hB1,hpt,hpb⟩))
   · subst h2;have he:zK l=(0,6):=zCZ hcut (.inl (zHe hl (UInt8.toNat_inj.1 (show (top.getD 0 0).toNat=(48:UInt8).toNat from h0))));refine rI fun K=>K1 (j1 E0 hB1.ext hb159 (zAd (by omega)) fun v3_1 w4 E0 hB1 hr => ?_);obtain rfl:=hr.trans (congrArg Value.bool hD1);refine K1 (zq rfl (mv (K7 (K7 (K7 (K2 (j1 E0 hB1.ext hb159 (zAd (by omega)) fun v3_7 w5 E0 hB1 hr => ?_)))))));obtain rfl:=hr.trans (congrArg Value.bool hD2);refine K2 (zq rfl (K2 (zu rfl (pk rfl (mv (K7 (K2 (zz zAD rfl (K2 (zJ (v := .bool true) rfl rfl (congrArg (fun z=>some (Value.bool z)) (decide_eq_true (by omega))) (K7 (K7 (K2 (zAU (n:=0) zAD rfl rfl (by omega) (K2 (zJ (v := .bool true) rfl rfl (congrArg (fun z=>some (Value.bool z)) (beq_iff_eq.2 (by omega))) (K2 (zu rfl (pk rfl (mv (K3 ?_)))))))))))))))))))));refine K3 (K3 (K3 (K3 (K3 (pk rfl (rs [2,5,6,7,8,50] K ?_))))));refine wct rfl (rj fun K=>K1 (zT (cs := #[.int .i64 0,.slice none 0 0,.slice none 0 0]) (by kernel_rfl) (K1 (runs_rstoreK rfl IsR.zero (Cell3.of hB1 rfl) fun _ w9 hU hN4 => ?_))));replace E0:=E0.upd hU hgb1;obtain ⟨cs4,hB4,hl4,hN4⟩:=hN4;refine ag (rm [2,3,5,8] K ?_);refine zE (zAI (zQ ?_));exact ⟨rfl,_,zW rfl rfl rfl rfl aggr50 hB4 hl4,E0,_,by rw [he];rfl,by rw [he];exact hN4⟩
   · subst h2;have hb1:=zFI hD2;have he:zK l=(0,6):=zCZ hcut (.inr (.inr ⟨rfl,(zLk hD2 (UInt8.toNat_inj.1 (show (bot.getD 0 0).toNat=(48:UInt8).toNat from hb0))).imp id .inl⟩));refine rI fun K=>K1 (j1 E0 hB1.ext hb159 (zAd (by omega)) fun v3_1 w4 E0 hB1 hr => ?_);obtain rfl:=hr.trans (congrArg Value.bool hD1);refine K1 (zq rfl (mv (K7 (K7 (K7 (K2 (j1 E0 hB1.ext hb159 (zAd (by omega)) fun v3_7 w5 E0 hB1 hr => ?_)))))));obtain rfl:=hr.trans (congrArg Value.bool hD2);refine K2 (zq rfl (K2 (zu rfl (pk rfl (mv (K7 (K2 (zz zAD rfl (K2 (zJ (v := .bool true) rfl rfl (congrArg (fun z=>some (Value.bool z)) (decide_eq_true (by omega))) (K7 (K7 (K2 (zAU (n:=0) zAD rfl rfl (by omega) (K2 (zJ (v := .bool false) rfl rfl (congrArg (fun z=>some (Value.bool z)) (beq_eq_false_iff_ne.2 (by omega))) (K2 (zu rfl (pk rfl (mv (K7 ?_)))))))))))))))))))));refine K7 (K7 (K2 (zAU (n:=0) zAD rfl rfl hb1 (K2 (zJ (v := .bool true) rfl rfl (congrArg (fun z=>some (Value.bool z)) (beq_iff_eq.2 (by omega))) (K2 (zu rfl (pk rfl (rs [2,5,6,7,8,50] K ?_)))))))));refine wct rfl (rj fun K=>K1 (zT (cs := #[.int .i64 0,.slice none 0 0,.slice none 0 0]) (by kernel_rfl) (K1 (runs_rstoreK rfl IsR.zero (Cell3.of hB1 rfl) fun _ w9 hU hN4 => ?_))));replace E0:=E0.upd hU hgb1;obtain ⟨cs4,hB4,hl4,hN4⟩:=hN4;refine ag (rm [2,3,5,8] K ?_)
     refine zE (zAI (zQ ?_));exact ⟨rfl,_,zW rfl rfl rfl rfl aggr50 hB4 hl4,E0,_,by rw [he];rfl,by rw [he];exact hN4⟩
   · subst h2;have hb1:=zFI hD2;have hpt:=(zFM hD1 (fun e=>h0 (by rw [e];rfl))).1;have hpb:true=true→zAN bot=true∧bot≠[48]:=fun _=>zFM hD2 (fun e=>hb0 (by rw [e];rfl));refine rI fun K=>K1 (j1 E0 hB1.ext hb159 (zAd (by omega)) fun v3_1 w4 E0 hB1 hr => ?_);obtain rfl:=hr.trans (congrArg Value.bool hD1);refine K1 (zq rfl (mv (K7 (K7 (K7 (K2 (j1 E0 hB1.ext hb159 (zAd (by omega)) fun v3_7 w5 E0 hB1 hr => ?_)))))));obtain rfl:=hr.trans (congrArg Value.bool hD2);refine K2 (zq rfl (K2 (zu rfl (pk rfl (mv (K7 (K2 (zz zAD rfl (K2 (zJ (v := .bool true) rfl rfl (congrArg (fun z=>some (Value.bool z)) (decide_eq_true (by omega))) (K7 (K7 (K2 (zAU (n:=0) zAD rfl rfl (by omega) (K2 (zJ (v := .bool false) rfl rfl (congrArg (fun z=>some (Value.bool z)) (beq_eq_false_iff_ne.2 (by omega))) (K2 (zu rfl (pk rfl (mv (K7 ?_)))))))))))))))))))));refine K7 (K7 (K2 (zAU (n:=0) zAD rfl rfl hb1 (K2 (zJ (v := .bool false) rfl rfl (congrArg (fun z=>some (Value.bool z)) (beq_eq_false_iff_ne.2 (by omega))) (K2 (zu rfl (pk rfl (rs [2,5,6,7,8,50] K ?_)))))))));exact wcf rfl (zp (zO ⟨rfl,(kp rfl),E0,hB1,hpt,hpb⟩))
   · subst h2;have hb1:=zFI hD2;have he:zK l=(0,6):=zCZ hcut (.inr (.inr ⟨rfl,(zLk hD2 (UInt8.toNat_inj.1 (show (bot.getD 0 0).toNat=(48:UInt8).toNat from hb0))).imp id .inl⟩));refine rI fun K=>K1 (j1 E0 hB1.ext hb159 (zAd (by omega)) fun v3_1 w4 E0 hB1 hr => ?_);obtain rfl:=hr.trans (congrArg Value.bool hD1);refine K1 (zq rfl (mv (K7 (K7 (K7 (K2 (j1 E0 hB1.ext hb159 (zAd (by omega)) fun v3_7 w5 E0 hB1 hr => ?_)))))));obtain rfl:=hr.trans (congrArg Value.bool hD2);refine K2 (zq rfl (K2 (zu rfl (pk rfl (mv (K7 (K2 (zz zAD rfl (K2 (zJ (v := .bool false) rfl rfl (congrArg (fun z=>some (Value.bool z)) (decide_eq_false (by omega))) (K7 (K3 (K3 (K3 (K2 (zu rfl (pk rfl (mv (K7 ?_)))))))))))))))))));refine K7 (K7 (K2 (zAU (n:=0) zAD rfl rfl hb1 (K2 (zJ (v := .bool true) rfl rfl (congrArg (fun z=>some (Value.bool z)) (beq_iff_eq.2 (by omega))) (K2 (zu rfl (pk rfl (rs [2,5,6,7,8,50] K ?_)))))))));refine wct rfl (rj fun K=>K1 (zT (cs := #[.int .i64 0,.slice none 0 0,.slice none 0 0]) (by kernel_rfl) (K1 (runs_rstoreK rfl IsR.zero (Cell3.of hB1 rfl) fun _ w9 hU hN4 => ?_))));replace E0:=E0.upd hU hgb1;obtain ⟨cs4,hB4,hl4,hN4⟩:=hN4;refine ag (rm [2,3,5,8] K ?_);refine zE (zAI (zQ ?_));exact ⟨rfl,_,zW rfl rfl rfl rfl aggr50 hB4 hl4,E0,_,by rw [he];rfl,by rw [he];exact hN4⟩
   · subst h2;have hb1:=zFI hD2;have hpt:=zIr (by omega) hD1;have hpb:true=true→zAN bot=true∧bot≠[48]:=fun _=>zFM hD2 (fun e=>hb0 (by rw [e];rfl));refine rI fun K=>K1 (j1 E0 hB1.ext hb159 (zAd (by omega)) fun v3_1 w4 E0 hB1 hr => ?_);obtain rfl:=hr.trans (congrArg Value.bool hD1);refine K1 (zq rfl (mv (K7 (K7 (K7 (K2 (j1 E0 hB1.ext hb159 (zAd (by omega)) fun v3_7 w5 E0 hB1 hr => ?_)))))));obtain rfl:=hr.trans (congrArg Value.bool hD2);refine K2 (zq rfl (K2 (zu rfl (pk rfl (mv (K7 (K2 (zz zAD rfl (K2 (zJ (v := .bool false) rfl rfl (congrArg (fun z=>some (Value.bool z)) (decide_eq_false (by omega))) (K7 (K3 (K3 (K3 (K2 (zu rfl (pk rfl (mv (K7 ?_)))))))))))))))))));refine K7 (K7 (K2 (zAU (n:=0) zAD rfl rfl hb1 (K2 (zJ (v := .bool false) rfl rfl (congrArg (fun z=>some (Value.bool z)) (beq_eq_false_iff_ne.2 (by omega))) (K2 (zu rfl (pk rfl (rs [2,5,6,7,8,50] K ?_)))))))));exact wcf rfl (zp (zO ⟨rfl,(kp rfl),E0,hB1,hpt,hpb⟩))
 · clear E0 hB1;rintro ρ2 w2 ⟨hk,E0,hB1,hpt,hpb⟩;refine wpe_k _ hk ?_;clear hk ρ2;refine zAu (fun ρ w'=>Keep ρ [(2,.pointer (some ⟨b1,0,none⟩)),(5,.int .i64 s),(6,S top),(7,S bot),(8,.bool two)]∧Ext w w'∧Blk w' b1 50 [Value.int .i64 0,Value.slice none 0 0,Value.slice none 0 0]∧¬ (top=[48]∧(below l=true∨two=true))∧(two=true→bot≠[49])) ?_ ?_
   · refine zA ?_;rcases (show ((top==[48])=false∧(bot==[49])=true)∨((top==[48])=false∧(bot==[49])=false)∨((top==[48])=true∧below l=true∧s = -1)∨((top==[48])=true∧(below l=false∧s=1)∧two=true)∨((top==[48])=true∧(below l=false∧s=1)∧two=false) from by
      rcases hsi with ⟨h1,h2⟩ | ⟨h1,h2⟩<;>cases (top==[48])<;>cases (bot==[49])<;>cases two<;>simp [h1,h2]) with ⟨h48,h49⟩ | ⟨h48,h49⟩ | ⟨h48,hbl,hs1⟩ | ⟨h48,⟨hbl,hs1⟩,h2⟩ | ⟨h48,⟨hbl,hs1⟩,h2⟩
     · have h2:two=true:=by
        cases two with
        | true=>rfl
        | false=>rw [hbn rfl] at h49;cases h49
       have he:zK l=(0,6):=zCZ hcut (.inr (.inr ⟨h2,.inr (.inr (eq_of_beq h49))⟩));refine rI fun K=>K1 (zAR rfl rfl ?_);rw [h48];refine mv (K3 (K3 (K3 (K3 (K3 (pk rfl (mv (K7 (K2 (zAR rfl rfl ?_))))))))));rw [h49];refine pk rfl (rs [2,5,6,7,8,64] K ?_);refine wct rfl (rj fun K=>K1 (zT (cs := #[.int .i64 0,.slice none 0 0,.slice none 0 0]) (by kernel_rfl) (K1 (runs_rstoreK rfl IsR.zero (Cell3.of hB1 rfl) fun _ w9 hU hN4 => ?_))));replace E0:=E0.upd hU hgb1;obtain ⟨cs4,hB4,hl4,hN4⟩:=hN4;refine ag (rm [2,3,5,8] K ?_);refine zE (zAI (zQ ?_));exact ⟨rfl,_,zW rfl rfl rfl rfl aggr50 hB4 hl4,E0,_,by rw [he];rfl,by rw [he];exact hN4⟩
     · have hne:¬ (top=[48]∧(below l=true∨two=true)):=fun h=>by rw [h.1] at h48;cases h48
       have hne9:two=true→bot≠[49]:=fun _ e=>by rw [e] at h49;cases h49
       refine rI fun K=>K1 (zAR rfl rfl ?_);rw [h48];refine mv (K3 (K3 (K3 (K3 (K3 (pk rfl (mv (K7 (K2 (zAR rfl rfl ?_))))))))));rw [h49];refine pk rfl (rs [2,5,6,7,8,64] K ?_);exact wcf rfl (zp (zO ⟨rfl,(kp rfl),E0,hB1,hne,hne9⟩))
     · have he:zK l=(0,6):=zCZ hcut (.inr (.inl ⟨eq_of_beq h48,.inl hbl⟩));refine rI fun K=>K1 (zAR rfl rfl ?_);rw [h48];refine mv (K7 (K2 (zJ (v := .bool true) rfl rfl (congrArg (fun z=>some (Value.bool z)) (decide_eq_true (by omega))) (K7 (K3 (K2 (zu rfl (pk rfl (mv (K3 (K3 (pk rfl (rs [2,5,6,7,8,64] K ?_)))))))))))));refine wct rfl (rj fun K=>K1 (zT (cs := #[.int .i64 0,.slice none 0 0,.slice none 0 0]) (by kernel_rfl) (K1 (runs_rstoreK rfl IsR.zero (Cell3.of hB1 rfl) fun _ w9 hU hN4 => ?_))));replace E0:=E0.upd hU hgb1;obtain ⟨cs4,hB4,hl4,hN4⟩:=hN4;refine ag (rm [2,3,5,8] K ?_);refine zE (zAI (zQ ?_));exact ⟨rfl,_,zW rfl rfl rfl rfl aggr50 hB4 hl4,E0,_,by rw [he];rfl,by rw [he];exact hN4⟩
     · subst h2;have he:zK l=(0,6):=zCZ hcut (.inr (.inl ⟨eq_of_beq h48,.inr rfl⟩));refine rI fun K=>K1 (zAR rfl rfl ?_);rw [h48];refine mv (K7 (K2 (zJ (v := .bool false) rfl rfl (congrArg (fun z=>some (Value.bool z)) (decide_eq_false (by omega))) (K7 (K7 (K2 (zu rfl (pk rfl (mv (K3 (K3 (pk rfl (rs [2,5,6,7,8,64] K ?_)))))))))))));refine wct rfl (rj fun K=>K1 (zT (cs := #[.int .i64 0,.slice none 0 0,.slice none 0 0]) (by kernel_rfl) (K1 (runs_rstoreK rfl IsR.zero (Cell3.of hB1 rfl) fun _ w9 hU hN4 => ?_))));replace E0:=E0.upd hU hgb1;obtain ⟨cs4,hB4,hl4,hN4⟩:=hN4;refine ag (rm [2,3,5,8] K ?_);refine zE (zAI (zQ ?_));exact ⟨rfl,_,zW rfl rfl rfl rfl aggr50 hB4 hl4,E0,_,by rw [he];rfl,by rw [he];exact hN4⟩
     · subst h2;have h49:(bot==[49])=false:=by rw [hbn rfl];rfl
       have hne:¬ (top=[48]∧(below l=true∨false=true)):=fun h=>by rcases h.2 with h | h<;>simp_all
       have hne9:false=true→bot≠[49]:=fun h=>by cases h
       refine rI fun K=>K1 (zAR rfl rfl ?_);rw [h48];refine mv (K7 (K2 (zJ (v := .bool false) rfl rfl (congrArg (fun z=>some (Value.bool z)) (decide_eq_false (by omega))) (K7 (K7 (K2 (zu rfl (pk rfl (mv (K7 (K2 (zAR rfl rfl ?_))))))))))));rw [h49];refine pk rfl (rs [2,5,6,7,8,64] K ?_);exact wcf rfl (zp (zO ⟨rfl,(kp rfl),E0,hB1,hne,hne9⟩))
   · clear E0 hB1;rintro ρ2 w2 ⟨hk,E0,hB1,hne,hne9⟩;refine wpe_k _ hk ?_;clear hk ρ2;refine zA (zA ?_);rcases (show 1000<top.length∨(¬ 1000<top.length∧1000<bot.length)∨(¬ 1000<top.length∧¬ 1000<bot.length) from by omega) with k1 | ⟨k1,k2⟩ | ⟨k1,k2⟩
     · have he:zK l=(0,3):=by rw [zJD hcut hpt hne (fun h=>⟨hpb h,hne9 h⟩),if_pos (.inl k1)]
       refine rI fun K=>K1 (zz zAD rfl (K9 true rfl (decide_eq_true (by omega)) (mv (K3 (K3 (K3 (pk rfl (rs [2,5,6,7,8,73] K ?_))))))));refine wct rfl (rj fun K=>K1 (zT (cs := #[.int .i64 0,.slice none 0 0,.slice none 0 0]) (by kernel_rfl) (K1 (runs_rstoreK rfl IsR.zero (Cell3.of hB1 rfl) fun _ w9 hU hN4 => ?_))));replace E0:=E0.upd hU hgb1;obtain ⟨cs4,hB4,hl4,hN4⟩:=hN4;refine ag (rm [2,3,5,8] K ?_);refine zE (zU (zQ ?_));exact ⟨rfl,_,zW rfl rfl rfl rfl aggr50 hB4 hl4,E0,_,by rw [he];rfl,by rw [he];exact hN4⟩
     · have he:zK l=(0,3):=by rw [zJD hcut hpt hne (fun h=>⟨hpb h,hne9 h⟩),if_pos (.inr k2)]
       refine rI fun K=>K1 (zz zAD rfl (K9 false rfl (decide_eq_false (by omega)) (mv (K7 (K2 (zz zAD rfl (K2 (zJ (v := .bool true) rfl rfl (congrArg (fun z=>some (Value.bool z)) (decide_eq_true (by omega))) (pk rfl (rs [2,5,6,7,8,73] K ?_))))))))));refine wct rfl (rj fun K=>K1 (zT (cs := #[.int .i64 0,.slice none 0 0,.slice none 0 0]) (by kernel_rfl) (K1 (runs_rstoreK rfl IsR.zero (Cell3.of hB1 rfl) fun _ w9 hU hN4 => ?_))));replace E0:=E0.upd hU hgb1;obtain ⟨cs4,hB4,hl4,hN4⟩:=hN4;refine ag (rm [2,3,5,8] K ?_);refine zE (zU (zQ ?_));exact ⟨rfl,_,zW rfl rfl rfl rfl aggr50 hB4 hl4,E0,_,by rw [he];rfl,by rw [he];exact hN4⟩
     · have he0:=zJD hcut hpt hne (fun h=>⟨hpb h,hne9 h⟩);rw [if_neg (by omega)] at he0;refine rI fun K=>K1 (zz zAD rfl (K9 false rfl (decide_eq_false (by omega)) (mv (K7 (K2 (zz zAD rfl (K2 (zJ (v := .bool false) rfl rfl (congrArg (fun z=>some (Value.bool z)) (decide_eq_false (by omega))) (pk rfl (rs [2,5,6,7,8,73] K ?_))))))))));refine wcf rfl (sk (zA (zA ?_)));cases hw:two
       · subst hw;have he:zK l=(qOf (below l) (natS top) 1,0):=by rw [he0,if_pos rfl]
         refine rI fun K=>K1 (zq rfl (rs [2,5,6,7,8,76] K ?_));refine wct rfl (rJ fun K=>mv (K1 (j1 E0 hB1.ext hb161 (zGe (by omega) (zAn hpt)) fun v10_2 w4 E0 hB1 N1=>K1 (j2 E0 hB1.ext N1.ext hb162 (zFz _) fun v10_3 w5 E0 hB1 N1 N2 => ?_))));refine K1 (j3 E0 hB1.ext N1.ext N2.ext hb160 (zGg (by omega) N1 N2 (by decide) (zHQ (by omega) (zAn hpt)) (by unfold Fits;decide +kernel)) fun v10_4 w6 E0 hB1 N1 N2 N3 => ?_);rw [if_neg (by omega),hsb] at N3;refine K1 (runs_rstoreK rfl N3 (Cell3.of hB1 rfl) fun _ w9 hU hN4 => ?_);replace E0:=E0.upd hU hgb1;obtain ⟨cs4,hB4,hl4,hN4⟩:=hN4;refine ag (rm [2,3,5,8] K ?_);refine zE (zU (zQ ?_));exact ⟨rfl,_,zW rfl rfl rfl rfl aggr50 hB4 hl4,E0,_,by rw [he];rfl,by rw [he];exact hN4⟩
       · subst hw;rw [if_neg (by decide)] at he0;obtain ⟨⟨hpb1,hpb2⟩,-⟩:(zAN bot=true∧bot≠[48])∧bot≠[49]:=⟨hpb rfl,hne9 rfl⟩;have hb0:=(zDy hpb1 (beq_eq_false_iff_ne.2 hpb2)).1;have ha0:natS top≠0:=(zDy hpt (beq_eq_false_iff_ne.2 (fun e=>hne ⟨e,.inr rfl⟩))).1;have hfa:=zHQ (by omega) (zAn hpt);have hfb:=zHQ (by omega) (zAn hpb1);refine rI fun K=>K1 (zq rfl (rs [2,5,6,7,8,76] K ?_));refine wcf rfl (sk (rJ fun K=>K1 (j1 E0 hB1.ext hb161 (zGe (by omega) (zAn hpt)) fun va w4 E0 hB1 N1=>mv (K1 (j2 E0 hB1.ext N1.ext hb161 (zGe (by omega) (zAn hpb1)) fun vb w5 E0 hB1 N1 N2=>ag (ag (rm [2,5,8,9,10] K ?_)))))));refine zA (rJ fun K=>mv (K1 (j3 E0 hB1.ext N1.ext N2.ext hb164 (zDu N1 N2 hfa hfb hb0) fun v12_2 w6 E0 hB1 N1 N2 N3=>K1 (j4 E0 hB1.ext N1.ext N2.ext N3.ext hb163 (zBc N3) fun v12_3 w7 E0 hB1 N1 N2 N3 hr => ?_))));subst hr;refine K1 (zq rfl (rm [2,5,8,9,10,90] K ?_));refine K0 rfl ?_ ?_<;>intro hc
         · have hg:Nat.gcd (natS top) (natS bot)≠1:=by simpa using hc
           clear hc;have he:zK l=(0,6):=by rw [he0,if_pos hg]
           refine rj fun K=>K1 (zT (cs := #[.int .i64 0,.slice none 0 0,.slice none 0 0]) (by kernel_rfl) (K1 (runs_rstoreK rfl IsR.zero (Cell3.of hB1 rfl) fun _ w9 hU hN4 => ?_)));replace E0:=E0.upd hU hgb1;obtain ⟨cs4,hB4,hl4,hN4⟩:=hN4;refine ag (rm [2,3,5,8] K ?_);refine zE (zU (zQ ?_));exact ⟨rfl,_,zW rfl rfl rfl rfl aggr50 hB4 hl4,E0,_,by rw [he];rfl,by rw [he];exact hN4⟩
         · have hg:Nat.gcd (natS top) (natS bot)=1:=by simpa using hc
           clear hc;have he:zK l=(qOf (below l) (natS top) (natS bot),0):=by rw [he0,if_neg (fun h=>h hg)]
           refine sk (rJ fun K=>mv (mv ?_));have M:=IsR.mkS (s:=s) (by omega) ha0 hb0 (by rw [hg,Nat.div_one];exact N1) (by rw [hg,Nat.div_one];exact N2);rw [hsb] at M;obtain ⟨p1,ds1,k1,rfl,-⟩:=N1;obtain ⟨p2,ds2,k2,rfl,-⟩:=N2;refine K1 (zT (cs := #[.int .i64 s,.slice p1 ds1.length k1,.slice p2 ds2.length k2]) (by kernel_rfl) (K1 (runs_rstoreK rfl M (Cell3.of hB1 rfl) fun _ w9 hU hN4 => ?_)));replace E0:=E0.upd hU hgb1;obtain ⟨cs4,hB4,hl4,hN4⟩:=hN4;refine ag (rm [2,3,5,8] K ?_);refine zE (zQ ?_);exact ⟨rfl,_,zW rfl rfl rfl rfl aggr50 hB4 hl4,E0,_,by rw [he];rfl,by rw [he];exact hN4⟩
end Go.Proofs.YtjiendlfobjanaaGreatDoor.R
namespace Go.Proofs.YtjiendlfobjanaaGreatDoor.R
open Go Go.RowKit Go.Proofs Tryz
variable {A A':List Rat} {T ty:TypeId} {af:Array Edge} {b c i sz' sz0 sz2:Nat} {cs:List Value} {g:Option (Nat×Bool)} {p:Option Addr} {pos:String} {q:Rat} {r:Option Nat} {v:Value} {w w' w0:World} {x y:Operand} {σ:Operand→Value}
theorem zGW:prog.underlying 26=some (.slice 50):=by kernel_rfl
theorem slice26:zAV prog 26 50 3:=by unfold zAV;exact ⟨by kernel_rfl,by kernel_rfl⟩
theorem zNI:(prog.info? 50).map (fun i=>(i.zero,i.size,i.bytes))=some (some (.agg #[.int .i64 0,.slice none 0 0,.slice none 0 0]),3,56):=by kernel_rfl
theorem info50':(prog.info? 50).map (fun i=>(i.zero,i.size))=some (some (.agg #[.int .i64 0,.slice none 0 0,.slice none 0 0]),3):=by kernel_rfl
theorem noR1 (hB:Blk w b T cs) (hT:T≠2):NoR [b] w:=fun c hc=>by
 rw [List.mem_singleton.1 hc];exact ⟨T,cs,hB,hT⟩
def AccP (sz:Nat) (w:World) (v:Value) (A:List Rat):Prop :=
 ∃ p c,v = .slice p A.length c∧A.length≤c∧((A=[]∧p=none∧c=0)∨∃ b cs,p=some ⟨b,0,none⟩∧sz≤b∧Blk w b 50 cs∧cs.length=3*c∧∀ i,i<A.length→IsR w (.agg ((cs.drop (3*i)).take 3).toArray) (A.getD i 0))
theorem AccP.nil {sz:Nat}:AccP sz w (.slice none 0 0) []:=⟨none,0,rfl,Nat.le_refl _,.inl ⟨rfl,rfl,rfl⟩⟩
theorem AccP.ext {sz:Nat} (h:AccP sz w v A) (hx:Ext w w'):AccP sz w' v A:=by
 obtain ⟨p,c,h1,h2,h3⟩:=h;refine ⟨p,c,h1,h2,?_⟩;rcases h3 with h3 | ⟨b,cs,e1,e2,e3,e4,e5⟩
 · exact .inl h3
 · exact .inr ⟨b,cs,e1,e2,e3.ext hx,e4,fun i hi=>(e5 i hi).ext hx⟩
theorem AccP.new {sz:Nat} (h:AccP sz w v A) (hc:w.heap.size≤c):∀ b k,v = .slice (some ⟨b,0,none⟩) A.length k→b≠c:=fun b k e=>by
 obtain ⟨p,k',h1,h2,h3⟩:=h;rcases h3 with ⟨e1,e2,e3⟩ | ⟨b',cs',e1,e2,e3,e4,e5⟩
 · rw [h1,e2] at e;cases e
 · rw [h1,e1] at e;cases e;have:=e3.lt;omega
def AccB (b c:Nat) (w:World) (A:List Rat):Prop:=∃ cs,Blk w b 50 cs∧cs.length=3*c∧∀ i,i<A.length→IsR w (.agg ((cs.drop (3*i)).take 3).toArray) (A.getD i 0)
theorem AccP.cases {sz:Nat} (h:AccP sz w v A) :
 (∃ b c,v = .slice (some ⟨b,0,none⟩) A.length c∧A.length+1≤c∧sz≤b∧AccB b c w A)∨(∃ p c,v = .slice p A.length c∧c<A.length+1):=by
 obtain ⟨p,c,h1,h2,h3⟩:=h;by_cases hc:A.length+1≤c
 · rcases h3 with ⟨e1,e2,e3⟩ | ⟨b,cs,e1,e2,e3,e4,e5⟩
   · omega
   · exact .inl ⟨b,c,by rw [h1,e1],hc,e2,cs,e3,e4,e5⟩
 · exact .inr ⟨p,c,h1,by omega⟩
theorem AccB.acc {sz:Nat} (h:AccB b c w A) (hs:sz≤b) (hc:A.length≤c):AccP sz w (.slice (some ⟨b,0,none⟩) A.length c) A:=by
 obtain ⟨cs,h1,h2,h3⟩:=h;exact ⟨_,c,rfl,hc,.inr ⟨b,cs,rfl,hs,h1,h2,h3⟩⟩
def OneR (sz:Nat) (q:Rat) (v:Value) (w:World):Prop:=∃ b c1 c2 c3,v = .slice (some ⟨b,0,none⟩) 1 1∧sz≤b∧Blk w b 50 [c1,c2,c3]∧IsR w (.agg #[c1,c2,c3]) q
theorem OneR.ext {sz:Nat} (h:OneR sz q v w) (hx:Ext w w'):OneR sz q v w':=by
 obtain ⟨b,c1,c2,c3,h1,h2,h3,h4⟩:=h;exact ⟨b,c1,c2,c3,h1,h2,h3.ext hx,h4.ext hx⟩
section laws
variable {d:Option Tmp}
theorem runs_one {sz:Nat} (hy:IsR w (σ y) q) (hs:sz≤w.heap.size):Runs prog r ⟨d,.buildSlice 26 1 #[(0,y)],ty,pos,af,g⟩ σ w (fun v w'=>Ext w w'∧OneR sz q v w'):=by
 have hy0:=hy;obtain ⟨n,dd,he,hn,hd⟩:=hy;rw [he] at hy0;refine zi (cs:=[.int .i64 q.num.sign,n,dd]) zGW info50' (by decide) (by decide) ?_ fun b w' hb hE hB hs'=>⟨hE,b,_,_,_,rfl,by omega,hB,hy0.ext hE⟩;show Instr.fill _ _ [(0,σ y)]=_;rw [he]
 kernel_rfl
theorem runs_appE_in {sz:Nat} (hx:σ x = .slice (some ⟨b,0,none⟩) A.length c) (hc:A.length+1≤c) (hB:AccB b c w A) (hy:OneR sz q (σ y) w) :
 Runs prog r ⟨d,.call { callee := .builtin .append,args := #[x,y],argTypes := #[26,26] },ty,pos,af,g⟩ σ w (fun v w'=>ExtS [b] w w'∧AccB b c w' (A++[q])∧v = .slice (some ⟨b,0,none⟩) (A++[q]).length c):=by
 obtain ⟨cs,h1,h2,h3⟩:=hB;obtain ⟨b2,c1,c2,c3,e1,_,e2,hq⟩:=hy;have hok:[c1,c2,c3].all zAp=true:=by
  obtain ⟨n,dd,he,hn,hd⟩:=hq;obtain ⟨p1,ds1,k1,rfl,-⟩:=hn;obtain ⟨p2,ds2,k2,rfl,-⟩:=hd;cases he;rfl
 refine zAg (n:=3) zGW zGW zNI hx e1 h1 (Cells.blk e2) rfl hc (by omega) hok fun w' hU hN=>⟨hU.toS (by simp),?_,by simp⟩;rw [Nat.zero_add,show A.length*3=3*A.length from by omega] at hN;refine ⟨_,hN,by rw [zAh];exact h2,fun i hi => ?_⟩;by_cases hi':i<A.length
 · rw [zAz (by omega),if_neg (by omega),zDJ hi'];exact (h3 i hi').upd hU h1 (by decide)
 · have:i=A.length:=by simp at hi;omega
   subst this;rw [zAz (by omega),if_pos rfl,zDM];exact hq.upd hU h1 (by decide)
theorem runs_appE_grow {sz:Nat} (hx:σ x = .slice p A.length c) (hA:AccP sz0 w (.slice p A.length c) A) (hc:c<A.length+1) (hy:OneR sz2 q (σ y) w) (hl:A.length<4096) (hs:sz≤w.heap.size) :
 Runs prog r ⟨d,.call { callee := .builtin .append,args := #[x,y],argTypes := #[26,26] },ty,pos,af,g⟩ σ w (fun v w'=>Ext w w'∧AccP sz w' v (A++[q])):=by
 obtain ⟨b2,c1,c2,c3,e1,_,e2,hq⟩:=hy;obtain ⟨p',c',h1,h2,h3⟩:=hA;cases h1;have hnew:=zAS (A.length+1) c;have hold:∃ old,Cells w p 50 old∧old.length=A.length*3∧∀ i,i<A.length→IsR w (.agg ((old.drop (3*i)).take 3).toArray) (A.getD i 0):=by
  rcases h3 with ⟨e1,e2,e3⟩ | ⟨b,cs,e1,e2,e3,e4,e5⟩
  · subst e1;exact ⟨[],.inl rfl,rfl,fun i hi=>by simp at hi⟩
  · refine ⟨cs.take (A.length*3),.inr ⟨b,0,cs,e1,e3,by simp⟩,by simp;omega,fun i hi => ?_⟩;have:=e5 i hi;rwa [show ((cs.take (A.length*3)).drop (3*i)).take 3=(cs.drop (3*i)).take 3 from by
     rw [List.drop_take,List.take_take,Nat.min_eq_left (by omega)]]
 obtain ⟨old,o1,o2,o3⟩:=hold;refine zAO zGW zGW zNI rfl (by decide) hx e1 o1 o2 (Cells.blk e2) rfl (by omega) (by omega) fun w' rest c' g1 hE hB g2 _=>⟨hE,?_⟩;have hrl:rest.length=(c'-(A.length+1))*3:=by rw [g2];simp [Builtin.zeroCells,Value.cells]
 refine ⟨_,c',by simp,by simpa using g1,.inr ⟨w.heap.size,_,rfl,hs,hB,by simp [o2,hrl];omega,fun i hi => ?_⟩⟩;by_cases hi':i<A.length
 · rw [zDJ hi',List.append_assoc,zCy (by omega)];exact (o3 i hi').ext hE
 · have:i=A.length:=by simp at hi;omega
   subst this;rw [zDM,List.append_assoc,List.drop_append_of_le_length (by omega),List.drop_of_length_le (by omega)];simpa using hq.ext hE
theorem runs_rAt {K:Value→World→Prop} (hx:σ x = .pointer (some ⟨b,0,none⟩)) (h:RAt b q w) (hk:∀ v,IsR w v q→K v w):Runs prog r ⟨d,.load 50 x,ty,pos,af,g⟩ σ w K:=by
 obtain ⟨cs,h1,h2,h3⟩:=h;refine zX (o:=0) aggr50 hx h1 (by omega) ?_;rw [List.drop_zero,List.take_of_length_le (by omega)];exact hk _ h3
end laws
theorem RAt.extS {S:List Nat} (h:RAt b q w) (hx:ExtS S w w') (hb:b ∉ S) (hS:NoR S w):RAt b q w':=by
 obtain ⟨cs,h1,h2,h3⟩:=h;exact ⟨cs,h1.extS hx hb,h2,h3.extS hx hS⟩
theorem AccP.updT {sz:Nat} (h:AccP sz w v A) (hu:Upd c w w') (hc:Blk w c T cs) (hT:T≠2) (hne:∀ b k,v = .slice (some ⟨b,0,none⟩) A.length k→b≠c):AccP sz w' v A:=by
 obtain ⟨p,k,h1,h2,h3⟩:=h;refine ⟨p,k,h1,h2,?_⟩;rcases h3 with h3 | ⟨b,cs',e1,e2,e3,e4,e5⟩
 · exact .inl h3
 · exact .inr ⟨b,cs',e1,e2,e3.upd hu (hne b k (by rw [h1,e1])),e4,fun i hi=>(e5 i hi).upd hu hc hT⟩
theorem AccP.extS {S:List Nat} {sz:Nat} (h:AccP sz w v A) (hx:ExtS S w w') (hS:NoR S w) (hne:∀ b k,v = .slice (some ⟨b,0,none⟩) A.length k→b ∉ S):AccP sz w' v A:=by
 obtain ⟨p,k,h1,h2,h3⟩:=h;refine ⟨p,k,h1,h2,?_⟩;rcases h3 with h3 | ⟨b,cs',e1,e2,e3,e4,e5⟩
 · exact .inl h3
 · exact .inr ⟨b,cs',e1,e2,e3.extS hx (hne b k (by rw [h1,e1])),e4,fun i hi=>(e5 i hi).extS hx hS⟩
theorem AccP.fresh {S:List Nat} {sz:Nat} (h:AccP sz w v A) (hx:ExtS S w w') (hS:NoR S w) (hlt:∀ b∈S,b<sz):AccP sz w' v A:=by
 obtain ⟨p,k,h1,h2,h3⟩:=h;refine ⟨p,k,h1,h2,?_⟩;rcases h3 with h3 | ⟨b,cs',e1,e2,e3,e4,e5⟩
 · exact .inl h3
 · exact .inr ⟨b,cs',e1,e2,e3.extS hx (fun hb=>by have:=hlt b hb;omega),e4,fun i hi=>(e5 i hi).extS hx hS⟩
theorem AccP.sz {sz:Nat} (h:AccP sz w v A) (hs:sz'≤sz):AccP sz' w v A:=by
 obtain ⟨p,k,h1,h2,h3⟩:=h;refine ⟨p,k,h1,h2,?_⟩;rcases h3 with h3 | ⟨b,cs',e1,e2,e3⟩
 · exact .inl h3
 · exact .inr ⟨b,cs',e1,Nat.le_trans hs e2,e3⟩
theorem OneR.extSS {S:List Nat} {sz:Nat} (h:OneR sz q v w) (hx:ExtS S w w') (hb:∀ b∈S,b<sz) (hS:NoR S w):OneR sz q v w':=by
 obtain ⟨b',c1,c2,c3,h1,h2,h3,h4⟩:=h;exact ⟨b',c1,c2,c3,h1,h2,h3.extS hx (fun h=>by have:=hb _ h;omega),h4.extS hx hS⟩
theorem AccB.extO {S:List Nat} {L:List Rat} (h:AccB b c w L) (hx:ExtS S w w') (hS:NoR S w) (he:w'.heap[b]? = w.heap[b]?):AccB b c w' L:=by
 obtain ⟨cs,h1,h2,h3⟩:=h;exact ⟨cs,by show w'.heap[b]? = _;rw [he];exact h1,h2,fun i hi=>(h3 i hi).extS hx hS⟩
theorem accStOkS {S:List Nat} (hB:AccB b c w0 A) (hS:NoR S w0) :
 (⟨i,b,fun w=>AccB b c w A,fun w=>AccB b c w A'⟩:StoreSpec).blk<w0.heap.size∧(⟨i,b,fun w=>AccB b c w A,fun w=>AccB b c w A'⟩:StoreSpec).pre w0∧∀ w w',ExtS S w0 w→ExtS S w w'→w'.heap[(⟨i,b,fun w=>AccB b c w A,fun w=>AccB b c w A'⟩:StoreSpec).blk]? = w.heap[(⟨i,b,fun w=>AccB b c w A,fun w=>AccB b c w A'⟩:StoreSpec).blk]? →
  ((⟨i,b,fun w=>AccB b c w A,fun w=>AccB b c w A'⟩:StoreSpec).pre w→(⟨i,b,fun w=>AccB b c w A,fun w=>AccB b c w A'⟩:StoreSpec).pre w')∧((⟨i,b,fun w=>AccB b c w A,fun w=>AccB b c w A'⟩:StoreSpec).post w→(⟨i,b,fun w=>AccB b c w A,fun w=>AccB b c w A'⟩:StoreSpec).post w'):=by
 have hlt:b<w0.heap.size:=by obtain ⟨cs,h1,_⟩:=hB;exact h1.lt
 exact ⟨hlt,hB,fun w w' h1 hx he=>⟨fun h=>h.extO hx (hS.ext h1) he,fun h=>h.extO hx (hS.ext h1) he⟩⟩
theorem AccB.blk (h:AccB b c w A):∃ cs,Blk w b 50 cs:=by obtain ⟨cs,h1,_⟩:=h;exact ⟨cs,h1⟩
end Go.Proofs.YtjiendlfobjanaaGreatDoor.R
namespace Go.Proofs.YtjiendlfobjanaaGreatDoor
open Go Go.RowKit Go.Proofs Tryz
theorem AccP.updT {sz c:Nat} {w w':World} {v:Value} {A:List Rat} {T:TypeId} {cs:List Value} (h:AccP sz w v A) (hu:Upd c w w') (hc:Blk w c T cs) (hT:T≠164) (hne:∀ b k,v = .slice (some ⟨b,0,none⟩) A.length k→b≠c):AccP sz w' v A:=by
 obtain ⟨p,k,h1,h2,h3⟩:=h;refine ⟨p,k,h1,h2,?_⟩;rcases h3 with h3 | ⟨b,cs',e1,e2,e3,e4,e5⟩
 · exact .inl h3
 · exact .inr ⟨b,cs',e1,e2,e3.upd hu (hne b k (by rw [h1,e1])),e4,fun i hi=>(e5 i hi).upd hu hc hT⟩
theorem AccP.extS {S:List Nat} {sz:Nat} {w w':World} {v:Value} {A:List Rat} (h:AccP sz w v A) (hx:ExtS S w w') (hS:NoW S w) (hne:∀ b k,v = .slice (some ⟨b,0,none⟩) A.length k→b ∉ S):AccP sz w' v A:=by
 obtain ⟨p,k,h1,h2,h3⟩:=h;refine ⟨p,k,h1,h2,?_⟩;rcases h3 with h3 | ⟨b,cs',e1,e2,e3,e4,e5⟩
 · exact .inl h3
 · exact .inr ⟨b,cs',e1,e2,e3.extS hx (hne b k (by rw [h1,e1])),e4,fun i hi=>(e5 i hi).extS hx hS⟩
theorem AccP.fresh {S:List Nat} {sz:Nat} {w w':World} {v:Value} {A:List Rat} (h:AccP sz w v A) (hx:ExtS S w w') (hS:NoW S w) (hlt:∀ b∈S,b<sz):AccP sz w' v A:=by
 obtain ⟨p,k,h1,h2,h3⟩:=h;refine ⟨p,k,h1,h2,?_⟩;rcases h3 with h3 | ⟨b,cs',e1,e2,e3,e4,e5⟩
 · exact .inl h3
 · exact .inr ⟨b,cs',e1,e2,e3.extS hx (fun hb=>by have:=hlt b hb;omega),e4,fun i hi=>(e5 i hi).extS hx hS⟩
theorem AccP.szle {sz sz':Nat} {w:World} {v:Value} {A:List Rat} (h:AccP sz w v A) (hs:sz'≤sz):AccP sz' w v A:=by
 obtain ⟨p,k,h1,h2,h3⟩:=h;refine ⟨p,k,h1,h2,?_⟩;rcases h3 with h3 | ⟨b,cs',e1,e2,e3⟩
 · exact .inl h3
 · exact .inr ⟨b,cs',e1,Nat.le_trans hs e2,e3⟩
theorem OneR.extSS {S:List Nat} {sz:Nat} {q:Rat} {v:Value} {w w':World} (h:OneR sz q v w) (hx:ExtS S w w') (hb:∀ b∈S,b<sz) (hS:NoW S w):OneR sz q v w':=by
 obtain ⟨b',c1,c2,c3,h1,h2,h3,h4⟩:=h;exact ⟨b',c1,c2,c3,h1,h2,h3.extS hx (fun h=>by have:=hb _ h;omega),h4.extS hx hS⟩
theorem AccB.extO {S:List Nat} {b c:Nat} {w w':World} {L:List Rat} (h:AccB b c w L) (hx:ExtS S w w') (hS:NoW S w) (he:w'.heap[b]? = w.heap[b]?):AccB b c w' L:=by
 obtain ⟨cs,h1,h2,h3⟩:=h;exact ⟨cs,by show w'.heap[b]? = _;rw [he];exact h1,h2,fun i hi=>(h3 i hi).extS hx hS⟩
theorem accStOkS {S:List Nat} {i b c:Nat} {A A':List Rat} {w0:World} (hB:AccB b c w0 A) (hS:NoW S w0) :
 (⟨i,b,fun w=>AccB b c w A,fun w=>AccB b c w A'⟩:StoreSpec).blk<w0.heap.size∧(⟨i,b,fun w=>AccB b c w A,fun w=>AccB b c w A'⟩:StoreSpec).pre w0∧∀ w w',ExtS S w0 w→ExtS S w w'→w'.heap[(⟨i,b,fun w=>AccB b c w A,fun w=>AccB b c w A'⟩:StoreSpec).blk]? = w.heap[(⟨i,b,fun w=>AccB b c w A,fun w=>AccB b c w A'⟩:StoreSpec).blk]? →
  ((⟨i,b,fun w=>AccB b c w A,fun w=>AccB b c w A'⟩:StoreSpec).pre w→(⟨i,b,fun w=>AccB b c w A,fun w=>AccB b c w A'⟩:StoreSpec).pre w')∧((⟨i,b,fun w=>AccB b c w A,fun w=>AccB b c w A'⟩:StoreSpec).post w→(⟨i,b,fun w=>AccB b c w A,fun w=>AccB b c w A'⟩:StoreSpec).post w'):=by
 have hlt:b<w0.heap.size:=by obtain ⟨cs,h1,_⟩:=hB;exact h1.lt
 exact ⟨hlt,hB,fun w w' h1 hx he=>⟨fun h=>h.extO hx (hS.ext h1) he,fun h=>h.extO hx (hS.ext h1) he⟩⟩
theorem AccB.blk {b c:Nat} {w:World} {A:List Rat} (h:AccB b c w A):∃ cs,Blk w b 37 cs:=by obtain ⟨cs,h1,_⟩:=h;exact ⟨cs,h1⟩
theorem all2 {α:Type} {p:α→Prop} {a b:α} (h1:p a) (h2:p b):∀ s∈[a,b],p s:=fun s hs=>by
 rcases List.mem_cons.1 hs with rfl | hs
 · exact h1
 · rw [List.mem_singleton.1 hs];exact h2
theorem Ext.updSS {S:List Nat} {w w1 w2:World} (h:Ext w w1) (hS:ExtS S w1 w2) (hb:∀ b∈S,w.heap.size≤b):Ext w w2 :=
 ⟨hS.os.trans (Below.os h),hS.tape.trans (Below.tape h),hS.output.trans (Below.output h),Nat.le_trans h.size hS.size,fun k hk=>(hS.block k (Nat.lt_of_lt_of_le hk h.size) (fun hm=>by have:=hb k hm;omega)).trans (Below.block h k hk)⟩
end Go.Proofs.YtjiendlfobjanaaGreatDoor
namespace Go.Proofs.YtjiendlfobjanaaGreatDoor
open Go Go.RowKit Go.Proofs Tryz
set_option maxRecDepth 10000
set_option maxHeartbeats 2000000
attribute [local irreducible] Runs WPE CallK Ret
variable {A:List Rat} {E a b c cap i ix len:Nat} {P:Program} {T T' ty:TypeId} {af:Array Edge} {cs cs':List Value} {g:Option (Nat×Bool)} {p:Option Addr} {pos:String} {q:Rat} {r:Option Nat} {v:Value} {w w':World} {x:Operand} {σ:Operand→Value}
def IsVs (w:World) (v:Value) (L:List (List UInt8)):Prop:=∃ p cap,v = .slice p L.length cap∧L.length≤cap∧∀ i,i<L.length→∃ a:Addr,p=some a∧a.block<w.heap.size∧w.cell? (a.add i)=some (S (L.getD i []))
theorem zJw (a:Addr) (i:Nat):(a.add i).block=a.block:=by unfold Addr.add;split<;>rfl
theorem zCB {a:Addr} (hx:Ext w w') (hl:a.block<w.heap.size) (h:w.cell? (a.add i)=some v):w'.cell? (a.add i)=some v:=by
 rw [Below.cell hx (by rw [zJw];exact hl)];exact h
theorem IsVs.ext {L:List (List UInt8)} (h:IsVs w v L) (hx:Ext w w'):IsVs w' v L:=by
 obtain ⟨p,cap,h1,h2,h3⟩:=h;refine ⟨p,cap,h1,h2,fun i hi => ?_⟩;obtain ⟨a,e1,e2,e3⟩:=h3 i hi;exact ⟨a,e1,Nat.lt_of_lt_of_le e2 hx.size,zCB hx e2 e3⟩
section laws
variable {K:Value→World→Prop} {d:Option Tmp}
theorem zEf {T:Nat} {i:Operand} {a:Addr} {k:IntKind} (hT:zAV P T E 1) (hp:p=some a) (hx:σ x = .slice p len cap) (hi:σ i = .int k (ix:Int)) (h1:ix<len) (hk:K (.pointer (some (a.add ix))) w):Runs P r ⟨d,.indexAddr T x i,ty,pos,af,g⟩ σ w K:=by
 subst hp;refine zo (fun _ e=>by cases e) ?_ hk;simp [execOp,Instr.indexAt,run_underlying hT.1,hx,hi,asIntOf,h1,run_sizeOf' hT.2]
theorem zBh {a:Addr} (hT:Plain P T) (hx:σ x = .pointer (some a)) (hv:w.cell? a=some v) (hk:K v w):Runs P r ⟨d,.load T x,ty,pos,af,g⟩ σ w K :=
 zo (fun _ e=>by cases e) (by simp [execOp,Instr.loadAt,Instr.sureAddr,hx,loadVar,hT.isAgg,hv]) hk
end laws
def numsS (L:List (List UInt8)):List Rat:=L.map fun t=>(zK t).1
theorem zCs {L:List (List UInt8)} (h:i<L.length):numsS (L.take (i+1))=numsS (L.take i)++[(zK (L.getD i [])).1]:=by
 unfold numsS;rw [List.take_succ_eq_append_getElem h,List.map_append,List.getD_eq_getElem?_getD,List.getElem?_eq_getElem h];rfl
theorem zGr (L:List (List UInt8)) (i:Nat):(numsS (L.take i)).length=min i L.length:=by simp [numsS]
theorem zKt:zAV prog 22 52 1:=by unfold zAV;exact ⟨by kernel_rfl,by kernel_rfl⟩
theorem NumAt.updT (h:NumAt b q w) (hu:Upd c w w') (hc:Blk w c T cs) (hT:T≠164) (hne:b≠c):NumAt b q w':=by
 obtain ⟨cs',h1,h2,h3⟩:=h;exact ⟨cs',h1.upd hu hne,h2,h3.upd hu hc hT⟩
theorem AccP.neT {sz q:Nat} (h:AccP sz w v A) (hq:Blk w q T cs) (hT:T≠37):∀ b k,v = .slice (some ⟨b,0,none⟩) A.length k→b≠q:=fun b k e=>by
 obtain ⟨p,c,h1,h2,h3⟩:=h;rw [h1] at e;rcases h3 with ⟨e1,e2,e3⟩ | ⟨b',cs',e1,e2,e3,e4,e5⟩
 · rw [e2] at e;cases e
 · rw [e1] at e;cases e;intro hb;subst hb;exact hT (hq.inj e3).1
theorem R.AccP.neT {sz q:Nat} (h:R.AccP sz w v A) (hq:Blk w q T cs) (hT:T≠50):∀ b k,v = .slice (some ⟨b,0,none⟩) A.length k→b≠q:=fun b k e=>by
 obtain ⟨p,c,h1,h2,h3⟩:=h;rw [h1] at e;rcases h3 with ⟨e1,e2,e3⟩ | ⟨b',cs',e1,e2,e3,e4,e5⟩
 · rw [e2] at e;cases e
 · rw [e1] at e;cases e;intro hb;subst hb;exact hT (hq.inj e3).1
theorem noW2 (hA:Blk w a T cs) (hB:Blk w b T' cs') (h1:T≠164) (h2:T'≠164):NoW [a,b] w:=fun c hc=>by
 rcases List.mem_cons.1 hc with rfl | hc
 · exact ⟨T,cs,hA,h1⟩
 · rw [List.mem_singleton.1 hc];exact ⟨T',cs',hB,h2⟩
theorem noR2 (hA:Blk w a T cs) (hB:Blk w b T' cs') (h1:T≠2) (h2:T'≠2):R.NoR [a,b] w:=fun c hc=>by
 rcases List.mem_cons.1 hc with rfl | hc
 · exact ⟨T,cs,hA,h1⟩
 · rw [List.mem_singleton.1 hc];exact ⟨T',cs',hB,h2⟩
theorem List_ok {L:List (List UInt8)} (hv:IsVs w v L) (hts:∀ i,i<L.length→(L.getD i []).length<1000000000) (hll:L.length≤4096):Ret prog 15 #[v] w (fun r w'=>∃ u t,r = .tuple #[u,t]∧AccP w.heap.size w' u (numsS L)∧R.AccP w.heap.size w' t (numsS L)):=by
 obtain ⟨pl,cl,rfl,hcl,hin⟩:=hv;have E0:Ext w w:=Ext.refl w;refine J0 43 func15 rfl (rj fun K=>ag (ag (rm [0] K ?_)));refine rj fun K=>ag (rm [0,4] K ?_);refine rj fun K=>ag (rm [0,4,5] K ?_);refine zA (rj fun K=>ag (rm [0,4,5,6] K ?_));refine zF (zg (X:=Nat) (fun i ρ w'=>∃ vp vq,Keep ρ [(0,.slice pl L.length cl),(4,vp),(5,vq),(6,.int .i64 (i:Nat))]∧i≤L.length∧Ext w w'∧AccP w.heap.size w' vp (numsS (L.take i))∧R.AccP w.heap.size w' vq (numsS (L.take i))) (fun i=>L.length-i) 0 ⟨_,_,(kp rfl),Nat.zero_le _,E0,AccP.nil,R.AccP.nil⟩ ?_);clear E0;rintro i ρ1 w1 ⟨vp,vq,hk,hil,E0,hA,hQ⟩;refine wpe_k _ hk ?_;clear hk ρ1;refine zA (rJ fun K=>mv (K1 (zI zKt rfl (K8 rfl (rm [0,4,5,6,14] K ?_)))));refine K0 rfl ?_ ?_<;>intro hc
 · have hlt:i<L.length:=t_lt hc;clear hc;obtain ⟨a5,hp5,hb5,hv5⟩:=hin i hlt;have hti:=hts i hlt;refine sk (zA (zF (rJ fun K=>mv (K1 (zEf zKt hp5 rfl rfl hlt (K1 (zBh zBq rfl (zCB E0 hb5 hv5) (K1 (j2 E0 hA.ext hQ.ext hb65 (Parse_ok hti) fun vu w1 E0 hA hQ hr => ?_)))))))));obtain ⟨u1,rfl,hu1⟩:=hr;refine mv (xt rfl (xt rfl ?_));refine K1 (zV zAY fun bc2 w7 hb hE hBc hs => ?_);have hgc:w.heap.size≤bc2:=by rw [hb];exact E0.size
   have hna2:=hA.new (c:=bc2) (Nat.le_of_eq hb.symm);have hnq2:=hQ.new (c:=bc2) (Nat.le_of_eq hb.symm);replace E0:=E0.trans hE;replace hu1:=hu1.ext hE;replace hA:=hA.ext hE;replace hQ:=hQ.ext hE;clear hE hb hs;refine K1 (zN rfl hu1 (Cell3.of hBc rfl) fun _ w9 hU hNA => ?_);replace E0:=E0.upd hU hgc;replace hA:=hA.upd hU hBc hna2;replace hQ:=hQ.updT hU hBc (by decide) hnq2;clear hU hBc hu1;refine ag (rm [0,4,5,6,7] K ?_);refine rJ fun K=>mv (K1 (zEf zKt hp5 rfl rfl hlt (K1 (zBh zBq rfl (zCB E0 hb5 hv5) (K1 (j3 E0 hA.ext hQ.ext hNA.ext hb66 (R.Parse_ok hti) fun vu2 w2 E0 hA hQ hNA hr => ?_))))));obtain ⟨u2,rfl,hu2⟩:=hr;refine mv (xt rfl (xt rfl ?_));refine K1 (zV R.zero50 fun bc3 w10 hb hE hBc hs => ?_);have hgc3:w.heap.size≤bc3:=by rw [hb];exact E0.size
   have hna3:=hA.new (c:=bc3) (Nat.le_of_eq hb.symm);have hnq3:=hQ.new (c:=bc3) (Nat.le_of_eq hb.symm);have hn23:bc2≠bc3:=by have:=hNA.lt;omega
   replace E0:=E0.trans hE;replace hu2:=hu2.ext hE;replace hA:=hA.ext hE;replace hQ:=hQ.ext hE;replace hNA:=hNA.ext hE;clear hE hb hs;refine K1 (R.runs_rstoreK rfl hu2 (R.Cell3.of hBc rfl) fun _ w11 hU hNR => ?_);replace E0:=E0.upd hU hgc3;replace hA:=hA.updT hU hBc (by decide) hna3;replace hQ:=hQ.updT hU hBc (by decide) hnq3;replace hNA:=hNA.updT hU hBc (by decide) hn23;clear hU hBc hu2;refine ag (rm [0,4,5,6,7,9] K ?_);generalize hAe:numsS (L.take i)=A at hA hQ hna2 hnq2 hna3 hnq3;rcases hA.cases with ⟨ab,ac,rfl,hac,hsb,hAB⟩ | ⟨ap,ac,rfl,hac⟩<;>rcases hQ.cases with ⟨qb,qc,rfl,hqc,hsq,hQB⟩ | ⟨qp,qc,rfl,hqc⟩
   · have hsz11:=E0.size;have hAl:A.length≤4095:=by rw [← hAe,zGr];omega
     obtain ⟨csa,hba⟩:=hAB.blk;obtain ⟨csq,hbq⟩:=hQB.blk;have hpq:ab≠qb:=fun e=>by subst e;exact absurd (hba.inj hbq).1 (by decide)
     have hnw:=noW2 hba hbq (by decide) (by decide);have hnr:=noR2 hba hbq (by decide) (by decide);have hltS:∀ b∈[ab,qb],b<w11.heap.size:=all2 hba.lt hbq.lt;have hn2:bc2 ∉ [ab,qb]:=by have e1:=hna2 ab ac rfl;have e2:=hnq2 qb qc rfl;simp only [List.mem_cons,List.not_mem_nil,or_false,not_or];exact ⟨Ne.symm e1,Ne.symm e2⟩
     have hn3:bc3 ∉ [ab,qb]:=by have e1:=hna3 ab ac rfl;have e2:=hnq3 qb qc rfl;simp only [List.mem_cons,List.not_mem_nil,or_false,not_or];exact ⟨Ne.symm e1,Ne.symm e2⟩
     refine zFX [⟨3,ab,fun w=>AccB ab ac w A,fun w=>AccB ab ac w (A++[(zK (L.getD i [])).1])⟩,⟨7,qb,fun w=>R.AccB qb qc w A,fun w=>R.AccB qb qc w (A++[(zK (L.getD i [])).1])⟩] [([(4,none)],none),([(7,none)],none),([(34,some 0)],none),([(33,some 2),(35,some 0)],none),([(5,none)],none),([(9,none)],none),([(38,some 0)],none),([(37,some 2),(39,some 0)],none),([(36,some 4)],none),([(40,some 1)],none)] mixed (by kernel_rfl) (by kernel_rfl) (by kernel_rfl) (by simp [hpq]) (by kernel_rfl) (all2 (accStOkS hAB hnw) (R.accStOkS hQB hnr)) fun K hK=>dev rfl (fun σ wx hE hk=>zC ⟨Ext.refl _,hk.1⟩) (den (fun v w'=>IsNum w' v (zK (L.getD i [])).1) rfl (fun _ _ _ h1 hx h=>h.extS hx (hnw.ext h1)) (fun σ wx hE hk=>za hk.1 (hNA.extS hE hn2 hnw) fun v h=>⟨Ext.refl _,h⟩) (den (OneR w11.heap.size (zK (L.getD i [])).1) rfl (fun _ _ _ h1 hx h=>h.extSS hx hltS (hnw.ext h1)) (fun σ wx hE hk=>runs_one hk.1 hE.size) (des _ (fun v _=>v = .slice (some ⟨ab,0,none⟩) (A++[(zK (L.getD i [])).1]).length ac) rfl (fun _ _ _ _ _ h=>h) (fun σ wx hE hpre hk=>runs_appE_in hk.1 hac hpre hk.2.1) (dev rfl (fun σ wx hE hk=>zC ⟨Ext.refl _,hk.1⟩) (den (fun v w'=>R.IsR w' v (zK (L.getD i [])).1) rfl (fun _ _ _ h1 hx h=>h.extS hx (hnr.ext h1)) (fun σ wx hE hk=>R.runs_rAt hk.1 (hNR.extS hE hn3 hnr) fun v h=>⟨Ext.refl _,h⟩) (den (R.OneR w11.heap.size (zK (L.getD i [])).1) rfl (fun _ _ _ h1 hx h=>h.extSS hx hltS (hnr.ext h1)) (fun σ wx hE hk=>R.runs_one hk.1 hE.size) (des _ (fun v _=>v = .slice (some ⟨qb,0,none⟩) (A++[(zK (L.getD i [])).1]).length qc) rfl (fun _ _ _ _ _ h=>h) (fun σ wx hE hpre hk=>R.runs_appE_in hk.1 hqc hpre hk.2.1) (dev rfl (fun σ wx hE hk=>zS ⟨Ext.refl _,hk.1⟩) (dev rfl (fun σ wx hE hk=>zS ⟨Ext.refl _,hk.1⟩) (zHR (hK _ fun wq hS hP => ?_)))))))))))
     rintro _ rfl v34 N34 v35 N35 _ rfl _ rfl v38 N38 v39 N39 _ rfl _ rfl _ rfl;refine zh ?_;obtain ⟨hA2,hQ2,-⟩:=hP;replace E0:=E0.updSS hS (all2 hsb hsq);have hA2:=hA2.acc hsb (show (A++[(zK (L.getD i [])).1]).length≤ac by rw [List.length_append];exact hac);have hQ2:=hQ2.acc hsq (show (A++[(zK (L.getD i [])).1]).length≤qc by rw [List.length_append];exact hqc);refine zR (zM (K5 [0,4,5,6] ?_));refine rI fun K=>K8 rfl (ag (rl K (zO ?_)));exact ⟨rfl,i+1,⟨_,_,⟨rfl,rfl,rfl,rfl,rfl,rfl,rfl,congrArg (Value.int .i64) (zr (by omega)),trivial⟩,by omega,E0,by rw [zCs hlt,hAe];exact hA2,by rw [zCs hlt,hAe];exact hQ2⟩,by omega⟩
   · have hsz11:=E0.size;have hAl:A.length≤4095:=by rw [← hAe,zGr];omega
     obtain ⟨csa,hba⟩:=hAB.blk;have hnw:=noW1 hba (by decide);have hnr:=R.noR1 hba (by decide);have hltS:∀ b∈[ab],b<w11.heap.size:=all1 hba.lt;have hn2:bc2 ∉ [ab]:=nin1 (Ne.symm (hna2 ab ac rfl));have hn3:bc3 ∉ [ab]:=nin1 (Ne.symm (hna3 ab ac rfl));have hneq:∀ b k,Value.slice qp A.length qc = .slice (some ⟨b,0,none⟩) A.length k→b ∉ [ab]:=fun b k e=>nin1 (hQ.neT hba (by decide) b k e)
     refine zFX [⟨3,ab,fun w=>AccB ab ac w A,fun w=>AccB ab ac w (A++[(zK (L.getD i [])).1])⟩] [([(4,none)],none),([(7,none)],none),([(34,some 0)],none),([(33,some 2),(35,some 0)],none),([(5,none)],none),([(9,none)],none),([(38,some 0)],none),([(37,some 2),(39,some 0)],none),([(36,some 4)],none),([(40,some 1)],none)] mixed (by kernel_rfl) (by kernel_rfl) (by kernel_rfl) (by simp) (by kernel_rfl) (all1 (accStOkS hAB hnw)) fun K hK=>dev rfl (fun σ wx hE hk=>zC ⟨Ext.refl _,hk.1⟩) (den (fun v w'=>IsNum w' v (zK (L.getD i [])).1) rfl (fun _ _ _ h1 hx h=>h.extS hx (hnw.ext h1)) (fun σ wx hE hk=>za hk.1 (hNA.extS hE hn2 hnw) fun v h=>⟨Ext.refl _,h⟩) (den (OneR w11.heap.size (zK (L.getD i [])).1) rfl (fun _ _ _ h1 hx h=>h.extSS hx hltS (hnw.ext h1)) (fun σ wx hE hk=>runs_one hk.1 hE.size) (des _ (fun v _=>v = .slice (some ⟨ab,0,none⟩) (A++[(zK (L.getD i [])).1]).length ac) rfl (fun _ _ _ _ _ h=>h) (fun σ wx hE hpre hk=>runs_appE_in hk.1 hac hpre hk.2.1) (dev rfl (fun σ wx hE hk=>zC ⟨Ext.refl _,hk.1⟩) (den (fun v w'=>R.IsR w' v (zK (L.getD i [])).1) rfl (fun _ _ _ h1 hx h=>h.extS hx (hnr.ext h1)) (fun σ wx hE hk=>R.runs_rAt hk.1 (hNR.extS hE hn3 hnr) fun v h=>⟨Ext.refl _,h⟩) (den (R.OneR w11.heap.size (zK (L.getD i [])).1) rfl (fun _ _ _ h1 hx h=>h.extSS hx hltS (hnr.ext h1)) (fun σ wx hE hk=>R.runs_one hk.1 hE.size) (den (fun v w'=>R.AccP w11.heap.size w' v (A++[(zK (L.getD i [])).1])) rfl (fun _ _ _ h1 hx h=>h.fresh hx (hnr.ext h1) hltS) (fun σ wx hE hk=>R.runs_appE_grow hk.1 (hQ.extS hE hnr hneq) hqc hk.2.1 (by omega) hE.size) (dev rfl (fun σ wx hE hk=>zS ⟨Ext.refl _,hk.1⟩) (den (fun v w'=>R.AccP w11.heap.size w' v (A++[(zK (L.getD i [])).1])) rfl (fun _ _ _ h1 hx h=>h.fresh hx (hnr.ext h1) hltS) (fun σ wx hE hk=>zS ⟨Ext.refl _,hk.1⟩) (zHR (hK _ fun wq hS hP => ?_)))))))))))
     rintro _ rfl v34 N34 v35 N35 _ rfl _ rfl v38 N38 v39 N39 v40 N40 _ rfl v5 N5;refine zh ?_;obtain ⟨hA2,-⟩:=hP;replace E0:=E0.updSS hS (all1 hsb);have hA2:=hA2.acc hsb (show (A++[(zK (L.getD i [])).1]).length≤ac by rw [List.length_append];exact hac);have hQ2:=N5.sz hsz11;refine zR (zM (K5 [0,4,5,6] ?_));refine rI fun K=>K8 rfl (ag (rl K (zO ?_)));exact ⟨rfl,i+1,⟨_,_,⟨rfl,rfl,rfl,rfl,rfl,rfl,rfl,congrArg (Value.int .i64) (zr (by omega)),trivial⟩,by omega,E0,by rw [zCs hlt,hAe];exact hA2,by rw [zCs hlt,hAe];exact hQ2⟩,by omega⟩
   · have hsz11:=E0.size;have hAl:A.length≤4095:=by rw [← hAe,zGr];omega
     obtain ⟨csq,hbq⟩:=hQB.blk;have hnw:=noW1 hbq (by decide);have hnr:=R.noR1 hbq (by decide);have hltS:∀ b∈[qb],b<w11.heap.size:=all1 hbq.lt;have hn2:bc2 ∉ [qb]:=nin1 (Ne.symm (hnq2 qb qc rfl));have hn3:bc3 ∉ [qb]:=nin1 (Ne.symm (hnq3 qb qc rfl));have hnea:∀ b k,Value.slice ap A.length ac = .slice (some ⟨b,0,none⟩) A.length k→b ∉ [qb]:=fun b k e=>nin1 (hA.neT hbq (by decide) b k e)
     refine zFX [⟨7,qb,fun w=>R.AccB qb qc w A,fun w=>R.AccB qb qc w (A++[(zK (L.getD i [])).1])⟩] [([(4,none)],none),([(7,none)],none),([(34,some 0)],none),([(33,some 2),(35,some 0)],none),([(5,none)],none),([(9,none)],none),([(38,some 0)],none),([(37,some 2),(39,some 0)],none),([(36,some 4)],none),([(40,some 1)],none)] mixed (by kernel_rfl) (by kernel_rfl) (by kernel_rfl) (by simp) (by kernel_rfl) (all1 (R.accStOkS hQB hnr)) fun K hK=>dev rfl (fun σ wx hE hk=>zC ⟨Ext.refl _,hk.1⟩) (den (fun v w'=>IsNum w' v (zK (L.getD i [])).1) rfl (fun _ _ _ h1 hx h=>h.extS hx (hnw.ext h1)) (fun σ wx hE hk=>za hk.1 (hNA.extS hE hn2 hnw) fun v h=>⟨Ext.refl _,h⟩) (den (OneR w11.heap.size (zK (L.getD i [])).1) rfl (fun _ _ _ h1 hx h=>h.extSS hx hltS (hnw.ext h1)) (fun σ wx hE hk=>runs_one hk.1 hE.size) (den (fun v w'=>AccP w11.heap.size w' v (A++[(zK (L.getD i [])).1])) rfl (fun _ _ _ h1 hx h=>h.fresh hx (hnw.ext h1) hltS) (fun σ wx hE hk=>runs_appE_grow hk.1 (hA.extS hE hnw hnea) hac hk.2.1 (by omega) hE.size) (dev rfl (fun σ wx hE hk=>zC ⟨Ext.refl _,hk.1⟩) (den (fun v w'=>R.IsR w' v (zK (L.getD i [])).1) rfl (fun _ _ _ h1 hx h=>h.extS hx (hnr.ext h1)) (fun σ wx hE hk=>R.runs_rAt hk.1 (hNR.extS hE hn3 hnr) fun v h=>⟨Ext.refl _,h⟩) (den (R.OneR w11.heap.size (zK (L.getD i [])).1) rfl (fun _ _ _ h1 hx h=>h.extSS hx hltS (hnr.ext h1)) (fun σ wx hE hk=>R.runs_one hk.1 hE.size) (des _ (fun v _=>v = .slice (some ⟨qb,0,none⟩) (A++[(zK (L.getD i [])).1]).length qc) rfl (fun _ _ _ _ _ h=>h) (fun σ wx hE hpre hk=>R.runs_appE_in hk.1 hqc hpre hk.2.1) (den (fun v w'=>AccP w11.heap.size w' v (A++[(zK (L.getD i [])).1])) rfl (fun _ _ _ h1 hx h=>h.fresh hx (hnw.ext h1) hltS) (fun σ wx hE hk=>zS ⟨Ext.refl _,hk.1⟩) (dev rfl (fun σ wx hE hk=>zS ⟨Ext.refl _,hk.1⟩) (zHR (hK _ fun wq hS hP => ?_)))))))))))
     rintro _ rfl v34 N34 v35 N35 v36 N36 _ rfl v38 N38 v39 N39 _ rfl v4 N4 _ rfl;refine zh ?_;obtain ⟨hQ2,-⟩:=hP;replace E0:=E0.updSS hS (all1 hsq);have hA2:=N4.szle hsz11;have hQ2:=hQ2.acc hsq (show (A++[(zK (L.getD i [])).1]).length≤qc by rw [List.length_append];exact hqc);refine zR (zM (K5 [0,4,5,6] ?_));refine rI fun K=>K8 rfl (ag (rl K (zO ?_)));exact ⟨rfl,i+1,⟨_,_,⟨rfl,rfl,rfl,rfl,rfl,rfl,rfl,congrArg (Value.int .i64) (zr (by omega)),trivial⟩,by omega,E0,by rw [zCs hlt,hAe];exact hA2,by rw [zCs hlt,hAe];exact hQ2⟩,by omega⟩
   · have hsz11:=E0.size;have hAl:A.length≤4095:=by rw [← hAe,zGr];omega
     refine zAK [([(4,none)],none),([(7,none)],none),([(34,some 0)],none),([(33,some 2),(35,some 0)],none),([(5,none)],none),([(9,none)],none),([(38,some 0)],none),([(37,some 2),(39,some 0)],none),([(36,some 4)],none),([(40,some 1)],none)] mixed (by kernel_rfl) (by kernel_rfl) (by kernel_rfl) fun K hK=>dvp (fun σ wx hE hk=>zC ⟨Ext.refl _,hk.1⟩) (dcp (fun v w'=>IsNum w' v (zK (L.getD i [])).1) (fun _ _ _ _ hx h=>h.ext hx.toExt) (fun σ wx hE hk=>za hk.1 (hNA.ext hE) fun v h=>⟨Ext.refl _,h⟩) (dcp (OneR w11.heap.size (zK (L.getD i [])).1) (fun _ _ _ _ hx h=>h.ext hx.toExt) (fun σ wx hE hk=>runs_one hk.1 hE.size) (dcp (fun v w'=>AccP w.heap.size w' v (A++[(zK (L.getD i [])).1])) (fun _ _ _ _ hx h=>h.ext hx.toExt) (fun σ wx hE hk=>runs_appE_grow hk.1 (hA.ext hE) hac hk.2.1 (by omega) (E0.trans hE).size) (dvp (fun σ wx hE hk=>zC ⟨Ext.refl _,hk.1⟩) (dcp (fun v w'=>R.IsR w' v (zK (L.getD i [])).1) (fun _ _ _ _ hx h=>h.ext hx.toExt) (fun σ wx hE hk=>R.runs_rAt hk.1 (hNR.ext hE) fun v h=>⟨Ext.refl _,h⟩) (dcp (R.OneR w11.heap.size (zK (L.getD i [])).1) (fun _ _ _ _ hx h=>h.ext hx.toExt) (fun σ wx hE hk=>R.runs_one hk.1 hE.size) (dcp (fun v w'=>R.AccP w.heap.size w' v (A++[(zK (L.getD i [])).1])) (fun _ _ _ _ hx h=>h.ext hx.toExt) (fun σ wx hE hk=>R.runs_appE_grow hk.1 (hQ.ext hE) hqc hk.2.1 (by omega) (E0.trans hE).size) (dcp (fun v w'=>AccP w.heap.size w' v (A++[(zK (L.getD i [])).1])) (fun _ _ _ _ hx h=>h.ext hx.toExt) (fun σ wx hE hk=>zS ⟨Ext.refl _,hk.1⟩) (dcp (fun v w'=>R.AccP w.heap.size w' v (A++[(zK (L.getD i [])).1])) (fun _ _ _ _ hx h=>h.ext hx.toExt) (fun σ wx hE hk=>zS ⟨Ext.refl _,hk.1⟩) (zAi (hK _ fun wq hE => ?_)))))))))))
     rintro _ rfl v34 N34 v35 N35 v36 N36 _ rfl v38 N38 v39 N39 v40 N40 v4 N4 v5 N5;refine zh ?_;replace E0:=E0.trans hE;clear hE;refine zR (zM (K5 [0,4,5,6] ?_));have hA2:=N4;have hQ2:=N5;refine rI fun K=>K8 rfl (ag (rl K (zO ?_)));exact ⟨rfl,i+1,⟨_,_,⟨rfl,rfl,rfl,rfl,rfl,rfl,rfl,congrArg (Value.int .i64) (zr (by omega)),trivial⟩,by omega,E0,by rw [zCs hlt,hAe];exact hA2,by rw [zCs hlt,hAe];exact hQ2⟩,by omega⟩
 · have hge:=f_lt hc;obtain rfl:i=L.length:=by omega
   clear hc;rw [List.take_length] at hA hQ;refine zY (zx (zl (zL (zM (rJ fun K=>mv (ag (ag (rm [0,2,3,6] K ?_))))))));exact zE (zQ ⟨rfl,_,zw rfl rfl rfl,E0,_,_,rfl,hA,hQ⟩)
end Go.Proofs.YtjiendlfobjanaaGreatDoor
namespace Go.Proofs.YtjiendlfobjanaaGreatDoor.R
open Go Go.RowKit Go.Proofs Tryz
set_option maxRecDepth 10000
set_option maxHeartbeats 2000000
attribute [local irreducible] Runs WPE CallK Ret
variable {O xs:List Nat} {k m n rest:Nat} {q:Rat} {v:Value} {w:World}
theorem dec_down (hk:k<xs.length) (hO:O.length=xs.length) (hx:xs.getD k 0<1073741824) (hr:rest<1000000000) (h:nat30 (xs.drop (k+1))=nat30 (O.drop (k+1))*1000000000+rest) :
 (rest*1073741824+xs.getD k 0)/1000000000<1073741824∧nat30 (xs.drop k)=nat30 ((O.set k ((rest*1073741824+xs.getD k 0)/1000000000)).drop k)*1000000000+(rest*1073741824+xs.getD k 0)%1000000000:=by
 have h1:=zAx hk;have h2:=zAx (ds:=O.set k ((rest*1073741824+xs.getD k 0)/1000000000)) (k:=k) (by rw [List.length_set];omega);rw [zBE (by omega),show (O.set k ((rest*1073741824+xs.getD k 0)/1000000000)).drop (k+1)=O.drop (k+1) from List.drop_set_of_lt (by omega)] at h2;refine ⟨by omega,?_⟩;rw [h1,h2,h];have:=Nat.div_add_mod (rest*1073741824+xs.getD k 0) 1000000000;omega
theorem dec_down_end (hm:nat30 xs=m) (hr:rest<1000000000) (h:nat30 (xs.drop 0)=nat30 (O.drop 0)*1000000000+rest):nat30 O=m/10^9∧rest=m%10^9:=by
 simp only [List.drop_zero] at h;have:(10:Nat)^9=1000000000:=rfl;rw [this];omega
theorem zLn (d:Nat):IntKind.u8.wrap (IntKind.i64.wrap (48+((d%10:Nat):Int)))=(((UInt8.ofNat (48+d%10)).toNat:Nat):Int):=by
 have h:d%10<10:=Nat.mod_lt _ (by decide);rw [zm (by omega) (by omega)];have e:(UInt8.ofNat (48+d%10)).toNat=48+d%10:=by simp;omega
 rw [e];generalize d%10=x at *;have:x=0∨x=1∨x=2∨x=3∨x=4∨x=5∨x=6∨x=7∨x=8∨x=9:=by omega
 rcases this with rfl | rfl | rfl | rfl | rfl | rfl | rfl | rfl | rfl | rfl<;>rfl
theorem zAf:Plain prog 48:=by unfold Plain;exact ⟨by kernel_rfl,by kernel_rfl⟩
theorem info5:(prog.info? 5).map (fun i=>(i.zero,i.size))=some (some (.int .u8 0),1):=by kernel_rfl
theorem IsN.form (h:IsN w v n):∃ p l c,v = .slice p l c∧(l=0↔n=0):=by
 obtain ⟨p,ds,c,h1,h2,h3,h4,h5⟩:=h;refine ⟨p,ds.length,c,h1,?_⟩;rw [List.length_eq_zero_iff,← h5];exact h4.zero.symm
theorem zIO (hx:IsN w v n) (hn:Fine n):Ret prog 188 #[v] w (fun r _=>r=S (Lib.decDigits n)):=by
 obtain ⟨p0,l0,c0,rfl,hl0⟩:=hx.form;have E0:Ext w w:=Ext.refl w;refine J0 68 func188 rfl (rj fun K=>ag (rm [0] K ?_));refine zA (rJ fun K=>K1 (zI zn rfl (K8 rfl (rm [0,11] K ?_))));refine K0 rfl ?_ ?_<;>intro hc
 · have hn0:n=0:=hl0.1 (by have:=eq_of_beq hc;omega);clear hc;refine rj fun K=>ag (rm [0,2] K ?_);refine zE (zU (zQ ?_));exact ⟨rfl,_,zj rfl rfl,E0,by rw [hn0,zFf];rfl⟩
 · have hn0:n≠0:=fun e=>by rw [hl0.2 e] at hc;cases hc
   clear hc;refine sk (rj fun K=>ag (rm [0,3] K ?_));refine zA (zF (zg (X:=Nat×List UInt8) (fun (x:Nat×List UInt8) ρ w'=>∃ va,Keep ρ [(0,va),(3,S x.2)]∧Ext w w'∧IsN w' va x.1∧dec0 x.1++x.2=dec0 n∧x.1≤n) (fun x=>x.1) (n,[]) ⟨_,(kp rfl),E0,hx.ext E0,by simp,Nat.le_refl _⟩ ?_));clear E0;rintro ⟨m,s⟩ ρ1 w1 ⟨va,hk,E0,hA,hd,hle⟩;dsimp only at hA hd hle;obtain ⟨pa,xs,ca,rfl,hca,ha,hno,hnv⟩:=hA;refine wpe_k _ hk ?_;clear hk ρ1;have hz:=hno.zero;have hlx:=hno.fit (by rw [hnv];exact (hn.le hle).fit);have hsl:s.length≤1000000000:=by
    have h1:=congrArg List.length hd;rw [List.length_append,zGy hn0] at h1;have:=hn.len;omega
   refine zA (rJ fun K=>K1 (zI zn rfl (K8 rfl (rm [0,3,14] K ?_))));refine K0 rfl ?_ ?_<;>intro hc
   · have hm:m≠0:=fun e=>by have h1:=hz.1 (hnv.trans e);rw [h1] at hc;cases hc
     clear hc hz;refine sk (zF (rJ fun K=>K1 (zI zn rfl ?_)));refine K1 (zAG zAq info2 rfl rfl rfl (by omega) (by omega) (by omega) fun ob w1 hb1 hE hB hs => ?_);have hgb:w.heap.size≤ob:=by rw [hb1];exact E0.size
     have hna:=ha.ne (Nat.le_of_eq hb1.symm);replace E0:=E0.trans hE;replace ha:=ha.ext hE;clear hE hs hb1;rw [show ((xs.length:Nat):Int).toNat=xs.length from by omega,show (Value.int IntKind.i64 0).cells.toList=[Value.int IntKind.i64 0] from rfl,zAZ] at hB;refine ag (rm [0,3,4] K ?_);refine rj fun K=>ag (rm [0,3,4,5] K ?_);refine zA (rJ fun K=>K1 (zI zn rfl (K8 rfl (ag (rm [0,3,4,5,6] K ?_)))));refine zF ?_;refine zg (X:=Nat×Nat×List Nat) (fun x ρ w'=>Keep ρ [(0,.slice pa xs.length ca),(3,S s),(4,.slice (some ⟨ob,0,none⟩) xs.length xs.length),(5,.int .i64 ((x.2.1:Nat):Int)),(6,.int .i64 (((x.1:Nat):Int)-1))]∧Ext w w'∧Rd w' pa xs∧x.1≤xs.length∧x.2.1<1000000000∧x.2.2.length=xs.length∧Dig x.2.2∧nat30 (xs.drop x.1)=nat30 (x.2.2.drop x.1)*1000000000+x.2.1∧Blk w' ob 2 (dv x.2.2)) (fun x=>x.1) (xs.length,0,List.replicate xs.length 0) ⟨⟨rfl,rfl,rfl,rfl,rfl,rfl,rfl,rfl,rfl,congrArg (Value.int .i64) (zm (by omega) (by omega)),trivial⟩,E0,ha,Nat.le_refl _,by show (0:Nat)<1000000000;decide,by simp,zBX _,by simp [nat30],hB⟩ ?_;clear E0 ha hB;rintro ⟨k,rest,O⟩ ρ1 w1 ⟨hk,E0,ha,hkl,hrl,hO,hOd,hON,hB⟩;dsimp only at hk hkl hrl hO hOd hON hB;refine wpe_k _ hk ?_;clear hk ρ1;refine zA (zA ?_);rcases k with _ | k
     · obtain ⟨hq0,hr0⟩:=dec_down_end hnv hrl hON;subst hr0;refine rI fun K=>K8 rfl (rs [0,3,4,5,6,22] K ?_);refine wcf rfl (zY (zx (zl (zL (zM (rJ fun K=>K1 (zH hb264 (CallK.of_ret (zEs hO (Nat.le_refl _) (Rd.of_blk hB) hOd (by omega)) fun vq w2 hE hq => ?_) rfl)))))));replace E0:=E0.trans hE;clear hE hB ha;rw [hq0] at hq;obtain ⟨qp,ql,qc,rfl,hql⟩:=hq.form;refine ag (rm [0,3,4,5,6] K ?_);refine rj fun K=>ag (rm [0,3,4,5,6,7] K ?_);refine zA (rj fun K=>ag (rm [0,3,4,5,6,7,8] K ?_));refine zF ?_;refine zg (X:=Nat×List UInt8) (fun x ρ w'=>Keep ρ [(0,.slice qp ql qc),(3,S s),(5,.int .i64 ((m%10^9/10^x.1:Nat):Int)),(7,S x.2),(8,.int .i64 ((x.1:Nat):Int))]∧Ext w w'∧IsN w' (.slice qp ql qc) (m/10^9)∧x.1≤9∧x.2.length=x.1∧zGj (decide (m/10^9≠0)) (m%10^9) x.1 x.2) (fun x=>9-x.1) (0,[]) ⟨⟨rfl,rfl,rfl,rfl,rfl,by rw [Nat.pow_zero,Nat.div_one];rfl,rfl,rfl,rfl,rfl,trivial⟩,E0,hq,by decide,rfl,frontD_0 _ _⟩ ?_;clear E0 hq;rintro ⟨j,p⟩ ρ1 w1 ⟨hk,E0,hq,hj9,hpl,hfr⟩;dsimp only at hk hj9 hpl hfr;refine wpe_k _ hk ?_;clear hk ρ1;have hr9:m%10^9/10^j<1000000000:=Nat.lt_of_le_of_lt (Nat.div_le_self _ _) (Nat.mod_lt m (by decide));refine zA (zA ?_);rcases (show (j<9∧m/10^9≠0)∨(j<9∧m/10^9=0)∨j=9 from by omega) with ⟨hj,h0⟩ | ⟨hj,h0⟩ | hj
       · have hql0:ql≠0:=fun e=>h0 (hql.1 e);refine rI fun K=>K9 true rfl (decide_eq_true (by omega)) (mv (K7 (K2 (zI zn rfl (K2 (zJ (v := .bool true) rfl rfl (congrArg (fun z=>some (Value.bool z)) (decide_eq_true (by omega))) (K7 (K3 (K3 (K2 (zu rfl (pk rfl (rs [0,3,5,7,8,44,45,46,47,48,49,50,51] K ?_)))))))))))));refine wct rfl (sk (zA (zF (zA ?_))));have hgo:decide (m/10^9≠0)=true∨0<m%10^9/10^j := .inl (decide_eq_true h0);refine rI fun K=>K1 (zAH (b:=10) (m%10^9/10^j%10) rfl rfl (by decide) rfl (K8 rfl (K1 (zBM zIT zKL rfl ?_))));rw [zLn];refine K1 (zi (cs:=[.int .u8 (((UInt8.ofNat (48+m%10^9/10^j%10)).toNat:Nat):Int)]) zEv info5 (by decide) (by decide) (by kernel_rfl) fun sb w10 hb hE hBb hs => ?_);replace E0:=E0.trans hE;replace hq:=hq.ext hE;clear hE hb hs;refine K1 (zGV (l:=[UInt8.ofNat (48+m%10^9/10^j%10)]) zEv zKL zAD rfl rfl hBb (fun i hi=>by
          obtain rfl:i=0:=by simpa using hi
          rfl) ?_)
         refine mv ?_;refine K1 (zBA rfl rfl (by simp;omega) ?_);refine ag (rs [0,3,5,7,8,44,45,46,47,48,49,50] K ?_);refine rI fun K=>K1 (zAT (b:=10) (m%10^9/10^j/10) rfl rfl (by decide) rfl (by omega) ?_);rw [Nat.div_div_eq_div_mul,← Nat.pow_succ];refine ag (rl K (zR (zM (K5 [0,3,5,7,8,44,45,46,47,48,49,50] ?_))));refine rI fun K=>K8 rfl (ag (rl K (zO ?_)));exact ⟨rfl,(j+1,UInt8.ofNat (48+m%10^9/10^j%10) :: p),⟨⟨rfl,rfl,rfl,rfl,rfl,rfl,rfl,rfl,rfl,congrArg (Value.int .i64) (zr (by omega)),trivial⟩,E0,hq,by omega,by simp [hpl],zHK hfr hgo⟩,by simp only;omega⟩
       · have hql0:ql=0:=hql.2 h0;refine rI fun K=>K9 true rfl (decide_eq_true (by omega)) (mv (K7 (K2 (zI zn rfl (K2 (zJ (v := .bool false) rfl rfl (congrArg (fun z=>some (Value.bool z)) (decide_eq_false (by omega))) (K7 (K7 (K2 (zJ rfl rfl rfl (K2 (zu rfl (pk rfl (rs [0,3,5,7,8,44,45,46,47,48,49,50,51] K ?_))))))))))))));refine K0 rfl ?_ ?_<;>intro hc
         · have hgo:decide (m/10^9≠0)=true∨0<m%10^9/10^j := .inr (by have:=of_decide_eq_true hc;omega);clear hc;refine sk (zA (zF (rJ fun K=>K1 (zAH (b:=10) (m%10^9/10^j%10) rfl rfl (by decide) rfl (K8 rfl (K1 (zBM zIT zKL rfl ?_)))))));rw [zLn];refine K1 (zi (cs:=[.int .u8 (((UInt8.ofNat (48+m%10^9/10^j%10)).toNat:Nat):Int)]) zEv info5 (by decide) (by decide) (by kernel_rfl) fun sb w10 hb hE hBb hs => ?_);replace E0:=E0.trans hE;replace hq:=hq.ext hE;clear hE hb hs;refine K1 (zGV (l:=[UInt8.ofNat (48+m%10^9/10^j%10)]) zEv zKL zAD rfl rfl hBb (fun i hi=>by
            obtain rfl:i=0:=by simpa using hi
            rfl) ?_)
           refine mv ?_;refine K1 (zBA rfl rfl (by simp;omega) ?_);refine ag (rm [0,3,5,7,8,44,45,46,47,48,49,50] K ?_);refine rI fun K=>K1 (zAT (b:=10) (m%10^9/10^j/10) rfl rfl (by decide) rfl (by omega) ?_);rw [Nat.div_div_eq_div_mul,← Nat.pow_succ];refine ag (rl K (zR (zM (K5 [0,3,5,7,8,44,45,46,47,48,49,50] ?_))));refine rI fun K=>K8 rfl (ag (rl K (zO ?_)));exact ⟨rfl,(j+1,UInt8.ofNat (48+m%10^9/10^j%10) :: p),⟨⟨rfl,rfl,rfl,rfl,rfl,rfl,rfl,rfl,rfl,congrArg (Value.int .i64) (zr (by omega)),trivial⟩,E0,hq,by omega,by simp [hpl],zHK hfr hgo⟩,by simp only;omega⟩
         · have hfin:j=9∨(m/10^9=0∧m%10^9/10^j=0) := .inr ⟨h0,Nat.le_zero.1 (Nat.le_of_not_lt fun h=>of_decide_eq_false hc (Int.natCast_pos.2 h))⟩;clear hc;refine zY (zx (zl (zL (zM (rI fun K=>mv (K1 (zBA rfl rfl (by omega) (ag (rl K (zR (zO ?_)))))))))));exact ⟨rfl,(m/10^9,p++s),⟨_,(kp rfl),E0,hq,by rw [← List.append_assoc,← zIv hm hfr hfin];exact hd,Nat.le_trans (Nat.div_le_self _ _) hle⟩,Nat.div_lt_self (by omega) (by decide)⟩
       · skip
         refine rI fun K=>K9 false rfl (decide_eq_false (by omega)) (mv (K3 (K3 (K3 (K3 (K3 (K3 (K3 (pk rfl (rs [0,3,5,7,8,44,45,46,47,48,49,50,51] K ?_))))))))));refine wcf rfl (zY (zx (zl (zL (zM ?_)))));have hfin:j=9∨(m/10^9=0∧m%10^9/10^j=0) := .inl hj;refine rI fun K=>mv (K1 (zBA rfl rfl (by omega) (ag (rl K (zR (zO ?_))))));exact ⟨rfl,(m/10^9,p++s),⟨_,(kp rfl),E0,hq,by rw [← List.append_assoc,← zIv hm hfr hfin];exact hd,Nat.le_trans (Nat.div_le_self _ _) hle⟩,Nat.div_lt_self (by omega) (by decide)⟩
     · obtain ⟨b1,o1,cs1,hpa1,hB1,hv1⟩:=ha k (by omega);have hk0:decide ((((k+1:Nat):Int)-1)≥0)=true:=by simp only [decide_eq_true_eq];omega
       have hwk:IntKind.i64.wrap (((k+1:Nat):Int)-1-1)=((k:Nat):Int)-1:=by rw [zm (by omega) (by omega)];omega
       have hkn:(((k+1:Nat):Int)-1).toNat=k:=by omega
       have hxk:=hno.1.getD k;have hdn:=dec_down (by omega) hO hxk hrl hON;have hix:0+(((k+1:Nat):Int)-1).toNat*1=k:=by omega
       refine rI fun K=>K8 rfl (rs [0,3,4,5,6,22] K ?_);refine wct (congrArg Value.bool hk0) (sk (zA (zF (rJ fun K=>K1 (zBH (b:=1073741824) (rest*1073741824) rfl rfl rfl (by omega) (mv (mv (K1 (zG (b:=b1) (o:=o1) zn (congrArg (fun p=>Value.slice p xs.length ca) hpa1) rfl (by omega) (by omega) ?_)))))))));refine K1 (zD zBF rfl hB1 (by rw [hkn];simpa using hv1) ?_);refine K1 (zf (rest*1073741824+xs.getD k 0) rfl rfl rfl (by omega) (ag (rm [0,3,4,5,6] K ?_)));refine rJ fun K=>mv (mv (K1 (zAT (b:=1000000000) ((rest*1073741824+xs.getD k 0)/1000000000) rfl rfl (by decide) rfl (by omega) (K1 (zG (b:=ob) (o:=0) zn rfl rfl (by omega) (by omega) ?_)))));refine K1 (zc size2 rfl hB rfl (by rw [hix,zAE];omega) (by decide) rfl fun w4 hU hN => ?_);rw [hix] at hN;replace E0:=E0.upd hU hgb;replace ha:=ha.upd' hU hna;clear hB;have hB:=zAX hN rfl;clear hN hU;refine rm [0,3,4,5,6] K ?_;refine rI fun K=>K1 (zAH (b:=1000000000) ((rest*1073741824+xs.getD k 0)%1000000000) rfl rfl (by decide) rfl (ag (rl K (zR (zM (K5 [0,3,4,5,6] ?_))))));refine rI fun K=>K8 rfl (ag (rl K (zO ?_)))
       exact ⟨rfl,(k,_,_),⟨⟨rfl,rfl,rfl,rfl,rfl,rfl,rfl,rfl,rfl,congrArg (Value.int .i64) hwk,trivial⟩,E0,ha,by omega,Nat.mod_lt _ (by decide),by rw [List.length_set];exact hO,hOd.set _ hdn.1,hdn.2,hB⟩,by simp only;omega⟩
   · have hm:m=0:=by
      rw [← hnv];refine hz.2 (List.eq_nil_of_length_eq_zero ?_);have:=of_decide_eq_false hc;omega
     clear hc;rw [hm,zKU,List.nil_append,zGy hn0] at hd;refine zY (zx (zl (zL (zM (rJ fun K=>ag (rm [0,2] K ?_))))));refine zE (zQ ?_);exact ⟨rfl,_,zj rfl rfl,E0,by rw [hd];rfl⟩
theorem zMh (h:q≠0):(q.num.sign != 0)=true:=by
 rw [bne_iff_ne];exact fun e=>h (Rat.num_eq_zero.1 (Int.sign_eq_zero_iff_zero.1 e))
theorem Text_ok (hx:IsR w v q) (hq1:Fine q.num.natAbs) (hq2:Fine q.den):Ret prog 93 #[v] w (fun r _=>r=S (textS q)):=by
 obtain ⟨n,d,rfl,hn,hd⟩:=hx;have E0:Ext w w:=Ext.refl w;refine J0 28 func93 rfl (rj fun K => ?_);refine K1 (zt fun b1 w1 hb hE hB1 hs => ?_);have hgb1:w.heap.size≤b1:=by rw [hb];exact E0.size
 replace E0:=E0.trans hE;clear hE hs hb;refine ag (rm [1] K ?_);refine zA ?_;replace hB1:Blk _ b1 50 [.int .i64 q.num.sign,n,d]:=hB1;replace hn:=hn.ext E0;replace hd:=hd.ext E0;refine K6 fun K=>K1 (zB zFN rfl (K1 (zD zAf rfl hB1 rfl (K1 (j3 E0 hB1.ext hn.ext hd.ext hb188 (zIO hn hq1) fun vi w2 E0 hB1 hn hd hr => ?_)))));subst hr;refine ag (rs [1,3] K ?_);refine zAu (fun ρ w'=>Keep ρ [(1,.pointer (some ⟨b1,0,none⟩)),(3,S ((if q<0 then [45] else [])++Lib.decDigits q.num.natAbs))]∧Ext w w'∧Blk w' b1 50 [.int .i64 q.num.sign,n,d]∧IsN w' d (if q=0 then 0 else q.den)) ?_ ?_
 · refine rj fun K=>K1 (zB zBV rfl (K1 (zD zAe rfl hB1 rfl (K8 rfl (rm [1,3,9] K ?_)))));refine K0 rfl ?_ ?_<;>intro hc
   · have hneg:q<0:=(zBr q).2 (Int.sign_neg_iff.1 (of_decide_eq_true hc));clear hc;refine K6 fun K=>mv ?_;refine K1 (zBA (a:=[45]) rfl rfl (by have:=hq1.len;simp;omega) ?_);refine ag (rl K (zO ?_));exact ⟨rfl,⟨rfl,rfl,rfl,by rw [if_pos hneg];rfl,trivial⟩,E0,hB1,hd⟩
   · have hneg:¬ q<0:=fun e=>of_decide_eq_false hc (Int.sign_neg_iff.2 ((zBr q).1 e));clear hc;refine zp (zO ?_);exact ⟨rfl,⟨rfl,rfl,rfl,by rw [if_neg hneg];rfl,trivial⟩,E0,hB1,hd⟩
 · clear E0 hB1 hd hn;rintro ρ2 w2 ⟨hk,E0,hB1,hd⟩;refine wpe_k _ hk ?_;clear hk ρ2;refine zA (zA ?_);rcases (show q=0∨(q≠0∧q.den=1)∨(q≠0∧q.den≠1) from by by_cases h:q=0<;>by_cases h':q.den=1<;>simp [h,h']) with h0 | ⟨h0,h1⟩ | ⟨h0,h1⟩
   · have h1:q.den=1:=by rw [h0];rfl
     have hs:(q.num.sign != 0)=false:=by rw [h0];rfl
     refine K6 fun K=>K1 (zB zBV rfl (K1 (zD zAe rfl hB1 rfl (K9 false rfl (hs) (mv (K3 (K3 (K3 (K3 (pk rfl (rs [1,3,20] K ?_)))))))))));refine wcf rfl (sk (rJ fun K=>ag (rm [1,2] K ?_)));refine zE (zQ ?_)
     first
     | exact ⟨rfl,_,zj rfl rfl,E0,by unfold textS;rw [if_neg h1,List.append_assoc];rfl⟩
     | exact ⟨rfl,_,zj rfl rfl,E0,by unfold textS;rw [if_pos h1,List.append_nil];rfl⟩
   · have hs:(q.num.sign != 0)=true:=zMh h0;rw [if_neg h0] at hd;refine K6 fun K=>K1 (zB zBV rfl (K1 (zD zAe rfl hB1 rfl (K9 true rfl (hs) (mv (K2 (zB zCM rfl (K2 (zD zAf rfl hB1 rfl (K2 (j2 E0 hB1.ext hd.ext hb163 (zBc hd) fun vi w2 E0 hB1 hd hr => ?_)))))))))));obtain rfl:=hr.trans (congrArg Value.bool (decide_eq_true h1));refine K2 (zq rfl (pk rfl (rs [1,3,20] K ?_)));refine wcf rfl (sk (rJ fun K=>ag (rm [1,2] K ?_)));refine zE (zQ ?_)
     first
     | exact ⟨rfl,_,zj rfl rfl,E0,by unfold textS;rw [if_neg h1,List.append_assoc];rfl⟩
     | exact ⟨rfl,_,zj rfl rfl,E0,by unfold textS;rw [if_pos h1,List.append_nil];rfl⟩
   · have hs:(q.num.sign != 0)=true:=zMh h0;rw [if_neg h0] at hd;refine K6 fun K=>K1 (zB zBV rfl (K1 (zD zAe rfl hB1 rfl (K9 true rfl (hs) (mv (K2 (zB zCM rfl (K2 (zD zAf rfl hB1 rfl (K2 (j2 E0 hB1.ext hd.ext hb163 (zBc hd) fun vi w2 E0 hB1 hd hr => ?_)))))))))));obtain rfl:=hr.trans (congrArg Value.bool (decide_eq_false h1));refine K2 (zq rfl (pk rfl (rs [1,3,20] K ?_)));refine wct rfl (K6 fun K=>mv ?_);refine K1 (zBA (b:=[47]) rfl rfl (by have:=hq1.len;simp;split<;>simp<;>omega) ?_);refine K1 (zB zCM rfl (K1 (zD zAf rfl hB1 rfl (K1 (j0 E0 hb188 (zIO hd hq2) fun vi w2 E0 hr => ?_)))));subst hr;refine K1 (zBA rfl rfl (by have:=hq1.len;have:=hq2.len;simp;split<;>simp<;>omega) ?_);refine ag (rs [1,3] K ?_);refine rJ fun K=>ag (rm [1,2] K ?_);refine zE (zQ ?_)
     first
     | exact ⟨rfl,_,zj rfl rfl,E0,by unfold textS;rw [if_neg h1,List.append_assoc];rfl⟩
     | exact ⟨rfl,_,zj rfl rfl,E0,by unfold textS;rw [if_pos h1,List.append_nil];rfl⟩
variable {u:Value}
def Room (x y:Rat):Prop:=sz x+sz y<900000000000
structure Roomy (x y:Rat):Prop where
 xn:Fit x.num.natAbs
 xd:Fit x.den
 yn:Fit y.num.natAbs
 yd:Fit y.den
 nn:Fits (x.num.natAbs*y.num.natAbs)
 nd:Fits (x.num.natAbs*y.den)
 nd':Fits (y.num.natAbs*x.den)
 dd:Fits (x.den*y.den)
 add:Fits (x.num.natAbs*y.den+y.num.natAbs*x.den)
theorem Room.roomy {x y:Rat} (h:Room x y):Roomy x y:=by
 unfold Room sz at h;have k1:=zBP x.num.natAbs y.num.natAbs;have k2:=zBP x.num.natAbs y.den;have k4:=zBP x.den y.den;have k5:=zBP y.num.natAbs x.den;have k6:=zHm (x.num.natAbs*y.den) (y.num.natAbs*x.den);have ft:∀ {n:Nat},n.log2<1000000000000→Fits n:=fun h=>h;exact ⟨zDD (by omega),zDD (by omega),zDD (by omega),zDD (by omega),ft (by omega),ft (by omega),ft (by omega),ft (by omega),ft (by omega)⟩
theorem zDL {x:Rat} (h:x≠0):(x.num.sign=1∧decide (x<0)=false)∨(x.num.sign = -1∧decide (x<0)=true):=by
 rcases Int.lt_trichotomy x.num 0 with a | a | a
 · exact .inr ⟨Int.sign_eq_neg_one_of_neg a,decide_eq_true ((zBr x).2 a)⟩
 · exact absurd (Rat.num_eq_zero.1 a) h
 · exact .inl ⟨Int.sign_eq_one_of_pos a,decide_eq_false fun e=>by have:=(zBr x).1 e;omega⟩
theorem sign3 (x:Rat):x.num.sign=1∨x.num.sign = -1∨x.num.sign=0:=by
 by_cases h:x=0
 · exact .inr (.inr (by rw [h];rfl))
 · rcases zDL h with ⟨h,_⟩ | ⟨h,_⟩
   · exact .inl h
   · exact .inr (.inl h)
theorem zFd {x:Rat} (h:x≠0):decide (x.num.sign<0)=decide (x<0)∧x.num.sign≠0:=by
 rcases zDL h with ⟨h1,h2⟩ | ⟨h1,h2⟩<;>rw [h1,h2]<;>decide
theorem zHu {x y:Rat} (hx:x≠0) (hy:y≠0):(IntKind.i64.wrap (x.num.sign*y.num.sign)=1∨IntKind.i64.wrap (x.num.sign*y.num.sign) = -1)∧decide (IntKind.i64.wrap (x.num.sign*y.num.sign)<0)=(decide (x<0) != decide (y<0)):=by
 rcases zDL hx with ⟨h1,h2⟩ | ⟨h1,h2⟩<;>rcases zDL hy with ⟨h3,h4⟩ | ⟨h3,h4⟩<;>rw [h1,h2,h3,h4]<;>exact ⟨by decide +kernel,by decide +kernel⟩
theorem zIf {x y:Rat} (h:x=0∨y=0):(IntKind.i64.wrap (x.num.sign*y.num.sign)==0)=true:=by
 rcases h with rfl | rfl
 · rw [show (0:Rat).num.sign=0 from rfl,Int.zero_mul];rfl
 · rw [show (0:Rat).num.sign=0 from rfl,Int.mul_zero];rfl
theorem mul_res {x y:Rat} (hx:x≠0) (hy:y≠0) (h:IsR w v (qOf (decide (IntKind.i64.wrap (x.num.sign*y.num.sign)<0)) (if IntKind.i64.wrap (x.num.sign*y.num.sign)=0 then 0 else x.num.natAbs*y.num.natAbs) (x.den*y.den))):IsR w v (x*y):=by
 obtain ⟨h1,h2⟩:=zHu hx hy;rw [if_neg (by omega),h2,← q_mul] at h;exact h
theorem IsR.zero' {x:Rat} (h:x=0):IsR w (.agg #[.int .i64 0,.slice none 0 0,.slice none 0 0]) x:=by rw [h];exact IsR.zero
theorem Sign_ok {x:Rat} (hx:IsR w v x):Ret prog 120 #[v] w (fun u _=>u = .int .i64 x.num.sign):=by
 obtain ⟨n,d,rfl,hn,hd⟩:=hx;refine J0 5 func120 rfl (rj fun K => ?_);refine K1 (zt fun b1 w1 hb hE hB1 hs => ?_);have hgb1:w.heap.size≤b1:=by rw [hb];exact E0.size
 replace E0:=E0.trans hE;clear hE hs hb;refine ag (rm [1] K ?_);refine rj fun K=>K1 (zB zBV rfl (K1 (zD zAe rfl hB1 rfl (ag (rm [2] K ?_)))));exact zE (en rfl E0 rfl)
theorem whole_nat (n:Nat):n%1073741824+1073741824*(n/1073741824%1073741824+1073741824*(n/1073741824/1073741824))=n:=by omega
theorem zJQ (hn:n<9223372036854775808):Ret prog 200 #[.int .i64 (n:Int)] w (fun v w'=>IsN w' v n):=by
 refine J0 13 func200 rfl (rj fun K=>ag (rm [0] K ?_));refine rJ fun K=>K1 (zAH (b:=1073741824) (n%1073741824) rfl rfl (by decide) rfl (mv (K1 (zAT (b:=1073741824) (n/1073741824) rfl rfl (by decide) rfl (by omega) (K1 (zAH (b:=1073741824) (n/1073741824%1073741824) rfl rfl (by decide) rfl (mv (K1 (zAT (b:=1073741824) (n/1073741824) rfl rfl (by decide) rfl (by omega) (K1 (zAT (b:=1073741824) (n/1073741824/1073741824) rfl rfl (by decide) rfl (by omega) ?_)))))))))));refine K1 (zi (cs:=dv [n%1073741824,n/1073741824%1073741824,n/1073741824/1073741824]) zAq info2' (by decide) (by decide) (by kernel_rfl) fun b w1 hb hE hB hs => ?_);replace E0:=E0.trans hE;clear hE hb hs;refine K1 (j0 E0 hb264 (zEs (ds:=[n%1073741824,n/1073741824%1073741824,n/1073741824/1073741824]) rfl (Nat.le_refl _) (Rd.of_blk hB) (by intro d hd;simp at hd;omega) (by decide)) fun v1_9 w1 E0 hr => ?_);rw [show nat30 [n%1073741824,n/1073741824%1073741824,n/1073741824/1073741824]=n from whole_nat n] at hr;refine ag (rm [2] K ?_);exact zE (en rfl E0 hr)
theorem int_res (h:IsR w v (qOf (decide ((1:Int)<0)) n 1)):IsR w v (n:Rat):=by
 have e:=zLE (n:Int);rw [decide_eq_false (by omega),Int.natAbs_natCast] at e;rw [show (decide ((1:Int)<0))=false from rfl,e] at h;exact h
theorem Int_ok (hn:n<9223372036854775808):Ret prog 112 #[.int .i64 (n:Int)] w (fun u w'=>IsR w' u (n:Rat)):=by
 refine J0 28 func112 rfl (rj fun K => ?_);refine K1 (zV zero50 fun b1 w1 hb hE hB1 hs => ?_);have hgb1:w.heap.size≤b1:=by rw [hb];exact E0.size
 replace E0:=E0.trans hE;clear hE hs hb;refine rm [0,2] K ?_;refine zA (rJ fun K=>K8 rfl (rm [0,2,5] K ?_));refine wcf (congrArg Value.bool (decide_eq_false (by omega))) (sk (rJ fun K=>K1 (j1 E0 hB1.ext hb200 (zJQ hn) fun v4_1 w2 E0 hB1 N1=>K1 (j2 E0 hB1.ext N1.ext hb162 (zFz _) fun v4_2 w3 E0 hB1 N1 N2 => ?_))));refine K1 (j3 E0 hB1.ext N1.ext N2.ext hb160 (zGg (.inl rfl) N1 N2 (by decide) (Nat.lt_of_le_of_lt (zDU (Nat.le_of_lt hn)) (by decide +kernel)) (by unfold Fits;decide +kernel)) fun v4_3 w4 E0 hB1 N1 N2 N3 => ?_);rw [if_neg (by decide)] at N3;refine K1 (runs_rstoreK rfl N3 (Cell3.of hB1 rfl) fun _ w9 hU hN => ?_);replace E0:=E0.upd hU hgb1;obtain ⟨cs,hB4,hl4,hN4⟩:=hN;refine rm [2] K ?_;exact zE (zQ ⟨rfl,_,zv rfl rfl rfl aggr50 hB4 hl4,E0,int_res hN4⟩)
theorem zEi {x y:Rat} (hx:IsR w u x) (hy:IsR w v y) (hr:Room x y):Ret prog 121 #[u,v] w (fun r w'=>IsR w' r (x*y)):=by
 have hf:=hr.roomy;obtain ⟨xn,xd,rfl,hxn,hxd⟩:=hx;obtain ⟨yn,yd,rfl,hyn,hyd⟩:=hy;refine J0 28 func121 rfl (rj fun K => ?_);refine K1 (zt fun b1 w1 hb hE hB1 hs => ?_);have hgb1:w.heap.size≤b1:=by rw [hb];exact E0.size
 replace E0:=E0.trans hE;replace hxn:=hxn.ext hE;replace hxd:=hxd.ext hE;replace hyn:=hyn.ext hE;replace hyd:=hyd.ext hE;clear hE hs hb;refine K1 (zt fun b2 w2 hb hE hB2 hs => ?_);have hgb2:w.heap.size≤b2:=by rw [hb];exact E0.size
 have ne_b1_b2:b1≠b2:=by have:=hB1.lt;omega
 replace E0:=E0.trans hE;replace hxn:=hxn.ext hE;replace hxd:=hxd.ext hE;replace hyn:=hyn.ext hE;replace hyd:=hyd.ext hE;replace hB1:=hB1.ext hE;clear hE hs hb;refine K1 (zV zero50 fun b3 w3 hb hE hB3 hs => ?_);have hgb3:w.heap.size≤b3:=by rw [hb];exact E0.size
 have ne_b1_b3:b1≠b3:=by have:=hB1.lt;omega
 have ne_b2_b3:b2≠b3:=by have:=hB2.lt;omega
 replace E0:=E0.trans hE;replace hxn:=hxn.ext hE;replace hxd:=hxd.ext hE;replace hyn:=hyn.ext hE;replace hyd:=hyd.ext hE;replace hB1:=hB1.ext hE;replace hB2:=hB2.ext hE;clear hE hs hb;refine rm [2,3,4] K ?_;refine zA (zA ?_);rcases (show x=0∨(x≠0∧y=0)∨(x≠0∧y≠0) from by by_cases a:x=0<;>by_cases b:y=0<;>simp [a,b]) with h0 | ⟨h0,h1⟩ | ⟨h0,h1⟩
 · have hz:=zIf (x:=x) (y:=y) (.inl h0);refine K6 fun K=>K1 (zB zBV rfl (K1 (zD zAe rfl hB1 rfl (K1 (zB zBV rfl (K1 (zD zAe rfl hB2 rfl (K8 rfl (K8 rfl (rs [2,3,4,10] K ?_))))))))));refine wct (congrArg Value.bool hz) (rj fun K=>K1 (zT (cs := #[.int .i64 0,.slice none 0 0,.slice none 0 0]) (by kernel_rfl) (K1 (zc zHM rfl hB3 rfl (Nat.le_of_ble_eq_true rfl) (by decide) rfl fun w4 hU hN => ?_))));replace E0:=E0.upd hU hgb3;replace hxn:=hxn.upd hU hB3 (by decide);replace hxd:=hxd.upd hU hB3 (by decide);replace hyn:=hyn.upd hU hB3 (by decide);replace hyd:=hyd.upd hU hB3 (by decide);replace hB1:=hB1.upd hU ne_b1_b3;replace hB2:=hB2.upd hU ne_b2_b3;clear hB3;have hB3:=hN;clear hN hU;refine rm [4] K ?_;exact zE (zU (zQ ⟨rfl,_,zv rfl rfl rfl aggr50 hB3 rfl,E0,IsR.zero' (by rw [h0,Rat.zero_mul])⟩))
 · have hz:=zIf (x:=x) (y:=y) (.inr h1);refine K6 fun K=>K1 (zB zBV rfl (K1 (zD zAe rfl hB1 rfl (K1 (zB zBV rfl (K1 (zD zAe rfl hB2 rfl (K8 rfl (K8 rfl (rs [2,3,4,10] K ?_))))))))));refine wct (congrArg Value.bool hz) (rj fun K=>K1 (zT (cs := #[.int .i64 0,.slice none 0 0,.slice none 0 0]) (by kernel_rfl) (K1 (zc zHM rfl hB3 rfl (Nat.le_of_ble_eq_true rfl) (by decide) rfl fun w4 hU hN => ?_))));replace E0:=E0.upd hU hgb3;replace hxn:=hxn.upd hU hB3 (by decide);replace hxd:=hxd.upd hU hB3 (by decide);replace hyn:=hyn.upd hU hB3 (by decide);replace hyd:=hyd.upd hU hB3 (by decide);replace hB1:=hB1.upd hU ne_b1_b3;replace hB2:=hB2.upd hU ne_b2_b3;clear hB3;have hB3:=hN;clear hN hU;refine rm [4] K ?_;exact zE (zU (zQ ⟨rfl,_,zv rfl rfl rfl aggr50 hB3 rfl,E0,IsR.zero' (by rw [h1,Rat.mul_zero])⟩))
 · have hz:(IntKind.i64.wrap (x.num.sign*y.num.sign)==0)=false:=beq_eq_false_iff_ne.2 (by have:=(zHu h0 h1).1;omega);rw [if_neg h0] at hxd;rw [if_neg h1] at hyd;refine K6 fun K=>K1 (zB zBV rfl (K1 (zD zAe rfl hB1 rfl (K1 (zB zBV rfl (K1 (zD zAe rfl hB2 rfl (K8 rfl (K8 rfl (rs [2,3,4,10] K ?_))))))))))
   refine wcf (congrArg Value.bool hz) (sk (zA (zBy 16 [([(2,none)],none),([(12,some 0)],none),([(3,none)],none),([(14,some 0)],none),([(13,some 2),(15,some 0)],none),([(2,none)],none),([(17,some 0)],none),([(3,none)],none),([(19,some 0)],none),([(18,some 2),(20,some 0)],none),([(2,none)],none),([(22,some 0)],none),([(3,none)],none),([(24,some 0)],none),([(23,some 2),(25,some 0)],none),([(16,some 10),(21,some 5),(26,some 0)],none)] mixed (by kernel_rfl) (by kernel_rfl) (by kernel_rfl) (by kernel_rfl) (by kernel_rfl) fun K hK=>dvp (fun σ wx hE hk=>zB zBV hk.1 ⟨Ext.refl _,rfl⟩) (dvp (fun σ wx hE hk=>zD zAe hk.1 (hB1.ext hE) rfl ⟨Ext.refl _,rfl⟩) (dvp (fun σ wx hE hk=>zB zBV hk.1 ⟨Ext.refl _,rfl⟩) (dvp (fun σ wx hE hk=>zD zAe hk.1 (hB2.ext hE) rfl ⟨Ext.refl _,rfl⟩) (dvp (fun σ wx hE hk=>zJ hk.1 hk.2.1 rfl ⟨Ext.refl _,rfl⟩) (dvp (fun σ wx hE hk=>zB zFN hk.1 ⟨Ext.refl _,rfl⟩) (dvp (fun σ wx hE hk=>zD zAf hk.1 (hB1.ext hE) rfl ⟨Ext.refl _,rfl⟩) (dvp (fun σ wx hE hk=>zB zFN hk.1 ⟨Ext.refl _,rfl⟩) (dvp (fun σ wx hE hk=>zD zAf hk.1 (hB2.ext hE) rfl ⟨Ext.refl _,rfl⟩) (dcp (fun v w'=>IsN w' v (x.num.natAbs*y.num.natAbs)) (fun _ _ _ _ hx h=>h.ext hx.toExt) (fun σ wx hE hk=>zH hb201 (CallK.of_ret (zCC (IsN.of_eq hk.1 (hxn.ext hE)) (IsN.of_eq hk.2.1 (hyn.ext hE)) hf.xn hf.yn) fun v w2 hX hr=>⟨hX,hr⟩) rfl) ?_))))))))))))
   refine dvp (fun σ wx hE hk=>zB zCM hk.1 ⟨Ext.refl _,rfl⟩) (dvp (fun σ wx hE hk=>zD zAf hk.1 (hB1.ext hE) rfl ⟨Ext.refl _,rfl⟩) (dvp (fun σ wx hE hk=>zB zCM hk.1 ⟨Ext.refl _,rfl⟩) (dvp (fun σ wx hE hk=>zD zAf hk.1 (hB2.ext hE) rfl ⟨Ext.refl _,rfl⟩) (dcp (fun v w'=>IsN w' v (x.den*y.den)) (fun _ _ _ _ hx h=>h.ext hx.toExt) (fun σ wx hE hk=>zH hb201 (CallK.of_ret (zCC (IsN.of_eq hk.1 (hxd.ext hE)) (IsN.of_eq hk.2.1 (hyd.ext hE)) hf.xd hf.yd) fun v w2 hX hr=>⟨hX,hr⟩) rfl) (dcp (fun v w'=>IsR w' v (x*y)) (fun _ _ _ _ hx h=>h.ext hx.toExt) (fun σ wx hE hk=>zH hb160 (CallK.eq3 hk.1 rfl rfl (CallK.of_ret (zGg ((zHu h0 h1).1.elim .inl fun e => .inr (.inl e)) hk.2.1 hk.2.2.1 (Nat.mul_ne_zero x.den_nz y.den_nz) hf.nn hf.dd) fun v w2 hX hr=>⟨hX,mul_res h0 h1 hr⟩)) rfl) (zAi (hK _ fun wq hE => ?_)))))));rintro _ rfl _ rfl _ rfl _ rfl _ rfl _ rfl _ rfl _ rfl _ rfl v21 N21 _ rfl _ rfl _ rfl _ rfl v26 N26 v27 N27;refine zh ?_;replace E0:=E0.trans hE;replace hxn:=hxn.ext hE;replace hxd:=hxd.ext hE;replace hyn:=hyn.ext hE;replace hyd:=hyd.ext hE;replace hB1:=hB1.ext hE;replace hB2:=hB2.ext hE;replace hB3:=hB3.ext hE;clear hE;refine K1 (runs_rstoreK rfl N27 (Cell3.of hB3 rfl) fun _ w9 hU hN => ?_);replace E0:=E0.upd hU hgb3;obtain ⟨cs,hB4,hl4,hN4⟩:=hN;refine zCh (zM (K5 [4] ?_))
   exact zE (zQ ⟨rfl,_,zv rfl rfl rfl aggr50 hB4 hl4,E0,hN4⟩)
theorem IsR.inv {n d:Value} {y:Rat} (h0:y≠0) (hn:IsN w n y.num.natAbs) (hd:IsN w d y.den):IsR w (.agg #[.int .i64 y.num.sign,d,n]) y⁻¹:=by
 have hb:y.num.natAbs≠0:=fun e=>h0 (Rat.num_eq_zero.1 (Int.natAbs_eq_zero.1 e));have e:y⁻¹=qOf (decide (y<0)) y.den y.num.natAbs:=by
  have:=q_div 1 y h0;rw [show decide ((1:Rat)<0)=false from by decide,show (1:Rat).num.natAbs=1 from rfl,show (1:Rat).den=1 from rfl,Nat.one_mul,Nat.one_mul,Rat.div_def,Rat.one_mul] at this;rw [this];cases decide (y<0)<;>rfl
 have hg:Nat.gcd y.den y.num.natAbs=1:=by rw [Nat.gcd_comm];exact y.reduced
 obtain ⟨h1,h2⟩:=zFd h0;rw [e,← h1];exact IsR.mkS (by have:=sign3 y;omega) y.den_nz hb (by rw [hg,Nat.div_one];exact hd) (by rw [hg,Nat.div_one];exact hn)
theorem sz_inv {y:Rat}:sz y⁻¹=sz y:=by
 by_cases h0:y=0
 · rw [h0,Rat.inv_zero]
 · have hb:y.num.natAbs≠0:=fun e=>h0 (Rat.num_eq_zero.1 (Int.natAbs_eq_zero.1 e));have e:y⁻¹=qOf (decide (y<0)) y.den y.num.natAbs:=by
    have:=q_div 1 y h0;rw [show decide ((1:Rat)<0)=false from by decide,show (1:Rat).num.natAbs=1 from rfl,show (1:Rat).den=1 from rfl,Nat.one_mul,Nat.one_mul,Rat.div_def,Rat.one_mul] at this;rw [this];cases decide (y<0)<;>rfl
   have hg:Nat.gcd y.den y.num.natAbs=1:=by rw [Nat.gcd_comm];exact y.reduced
   unfold sz;rw [e,zGa hb,zHz hb,hg,Nat.div_one,Nat.div_one];omega
theorem zMG {x y:Rat} (hx:IsR w u x) (hy:IsR w v y) (hr:Room x y):Ret prog 198 #[u,v] w (fun r w'=>∃ t,r = .tuple #[t,.int .i64 (if y=0 then 8 else 0)]∧IsR w' t (x/y)):=by
 obtain ⟨xn,xd,hxv,hxn,hxd⟩:=id hx;obtain ⟨xp,xl,xc,rfl,-⟩:=hxn.form;obtain ⟨xp2,xl2,xc2,rfl,-⟩:=hxd.form;subst hxv;obtain ⟨yn,yd,hyv,hyn,hyd⟩:=hy;obtain ⟨yp,yl,yc,rfl,-⟩:=hyn.form;obtain ⟨yp2,yl2,yc2,rfl,-⟩:=hyd.form;subst hyv;refine J0 19 func198 rfl (rj fun K => ?_);refine K1 (zt fun b1 w1 hb hE hB1 hs => ?_);have hgb1:w.heap.size≤b1:=by rw [hb];exact E0.size
 replace E0:=E0.trans hE;replace hx:=hx.ext hE;replace hyn:=hyn.ext hE;replace hyd:=hyd.ext hE;clear hE hs hb;refine K1 (zt fun b2 w2 hb hE hB2 hs => ?_);have hgb2:w.heap.size≤b2:=by rw [hb];exact E0.size
 have ne_b1_b2:b1≠b2:=by have:=hB1.lt;omega
 replace E0:=E0.trans hE;replace hx:=hx.ext hE;replace hyn:=hyn.ext hE;replace hyd:=hyd.ext hE;replace hB1:=hB1.ext hE;clear hE hs hb;refine K1 (zV zero50 fun b3 w3 hb hE hB3 hs => ?_);have hgb3:w.heap.size≤b3:=by rw [hb];exact E0.size
 have ne_b1_b3:b1≠b3:=by have:=hB1.lt;omega
 have ne_b2_b3:b2≠b3:=by have:=hB2.lt;omega
 replace E0:=E0.trans hE;replace hx:=hx.ext hE;replace hyn:=hyn.ext hE;replace hyd:=hyd.ext hE;replace hB1:=hB1.ext hE;replace hB2:=hB2.ext hE;clear hE hs hb;refine ag (rm [2,3,4] K ?_);refine zA (zA ?_);rcases (show y=0∨y≠0 from Classical.em _) with h0 | h0
 · have hz:(y.num.sign==0)=true:=by rw [h0];rfl
   refine K6 fun K=>K1 (zB zBV rfl (K1 (zD zAe rfl hB2 rfl (K8 rfl (rs [2,3,4,8] K ?_)))));refine wct (congrArg Value.bool hz) (rj fun K=>K1 (zT (cs := #[.int .i64 0,.slice none 0 0,.slice none 0 0]) (by kernel_rfl) (K1 (zc zHM rfl hB3 rfl (Nat.le_of_ble_eq_true rfl) (by decide) rfl fun w4 hU hN => ?_))));replace E0:=E0.upd hU hgb3;replace hx:=hx.upd hU hB3 (by decide);replace hyn:=hyn.upd hU hB3 (by decide);replace hyd:=hyd.upd hU hB3 (by decide);replace hB1:=hB1.upd hU ne_b1_b3;replace hB2:=hB2.upd hU ne_b2_b3;clear hB3;have hB3:=hN;clear hN hU;refine ag (rm [4,5] K ?_);refine zE (zU (zQ ?_));exact ⟨rfl,_,zW rfl rfl rfl rfl aggr50 hB3 rfl,E0,_,by rw [if_pos h0];rfl,IsR.zero' (by rw [h0,Rat.div_def,Rat.inv_zero,Rat.mul_zero])⟩
 · have hz:(y.num.sign==0)=false:=beq_eq_false_iff_ne.2 (zFd h0).2;rw [if_neg h0] at hyd;refine K6 fun K=>K1 (zB zBV rfl (K1 (zD zAe rfl hB2 rfl (K8 rfl (rs [2,3,4,8] K ?_)))));refine wcf (congrArg Value.bool hz) (sk (rj fun K=>K1 (zX aggr50 rfl hB1 (Nat.le_of_ble_eq_true rfl) (K1 (zB zBV rfl (K1 (zD zAe rfl hB2 rfl (K1 (zB zCM rfl (K1 (zD zAf rfl hB2 rfl (K1 (zB zFN rfl (K1 (zD zAf rfl hB2 rfl (K1 (zT (cs := #[.int .i64 y.num.sign,.slice yp2 yl2 yc2,.slice yp yl yc]) (by kernel_rfl) ?_)))))))))))))))));refine K1 (j6 E0 hx.ext hyn.ext hyd.ext hB1.ext hB2.ext hB3.ext hb121 (zEi hx (IsR.inv h0 hyn hyd) (by unfold Room;rw [sz_inv];exact hr)) fun v3_8 w4 E0 hx hyn hyd hB1 hB2 hB3 N1 => ?_);refine K1 (runs_rstoreK rfl N1 (Cell3.of hB3 rfl) fun _ w9 hU hN => ?_);replace E0:=E0.upd hU hgb3;obtain ⟨cs,hB4,hl4,hN4⟩:=hN;refine ag (rm [4,5] K ?_);refine zE (zQ ?_);exact ⟨rfl,_,zW rfl rfl rfl rfl aggr50 hB4 hl4,E0,_,by rw [if_neg h0];rfl,by rw [Rat.div_def];exact hN4⟩
theorem zFa {x y:Rat} (hx:x≠0) (hy:y≠0):x.num.sign=y.num.sign↔decide (x<0)=decide (y<0):=by
 rcases zDL hx with ⟨h1,h2⟩ | ⟨h1,h2⟩<;>rcases zDL hy with ⟨h3,h4⟩ | ⟨h3,h4⟩<;>rw [h1,h2,h3,h4]<;>decide
theorem add_same {x y:Rat} (hx:x≠0) (hy:y≠0) (hs:x.num.sign=y.num.sign) (h:IsR w v (qOf (decide (x.num.sign<0)) (if x.num.sign=0 then 0 else x.num.natAbs*y.den+y.num.natAbs*x.den) (x.den*y.den))):IsR w v (x+y):=by
 obtain ⟨h1,h2⟩:=zFd hx;rw [if_neg h2,h1,← zIL x y ((zFa hx hy).1 hs)] at h;exact h
theorem add_less {x y:Rat} (hx:x≠0) (hy:y≠0) (hs:x.num.sign≠y.num.sign) (hl:x.num.natAbs*y.den<y.num.natAbs*x.den) (h:IsR w v (qOf (decide (y.num.sign<0)) (if y.num.sign=0 then 0 else y.num.natAbs*x.den-x.num.natAbs*y.den) (x.den*y.den))):IsR w v (x+y):=by
 obtain ⟨h1,h2⟩:=zFd hy;rw [if_neg h2,h1,← zGT x y (fun e=>hs ((zFa hx hy).2 e)) (Nat.le_of_lt hl)] at h;exact h
theorem add_more {x y:Rat} (hx:x≠0) (hy:y≠0) (hs:x.num.sign≠y.num.sign) (hl:¬ x.num.natAbs*y.den<y.num.natAbs*x.den) (h:IsR w v (qOf (decide (x.num.sign<0)) (if x.num.sign=0 then 0 else x.num.natAbs*y.den-y.num.natAbs*x.den) (x.den*y.den))):IsR w v (x+y):=by
 obtain ⟨h1,h2⟩:=zFd hx;rw [if_neg h2,h1,← zIV x y (fun e=>hs ((zFa hx hy).2 e)) (Nat.le_of_not_lt hl)] at h;exact h
theorem Add_ok {x y:Rat} (hx:IsR w u x) (hy:IsR w v y) (hr:Room x y):Ret prog 113 #[u,v] w (fun r w'=>IsR w' r (x+y)):=by
 have hf:=hr.roomy;obtain ⟨xn,xd,hxv,hxn,hxd⟩:=id hx;obtain ⟨xp,xl,xc,rfl,-⟩:=hxn.form;obtain ⟨xp2,xl2,xc2,rfl,-⟩:=hxd.form;subst hxv;obtain ⟨yn,yd,hyv,hyn,hyd⟩:=id hy;obtain ⟨yp,yl,yc,rfl,-⟩:=hyn.form;obtain ⟨yp2,yl2,yc2,rfl,-⟩:=hyd.form;subst hyv;have E0:Ext w w:=Ext.refl w;refine J0 77 func113 rfl (rj fun K => ?_);refine K1 (zt fun b1 w1 hb hE hB1 hs => ?_);have hgb1:w.heap.size≤b1:=by rw [hb];exact E0.size
 replace E0:=E0.trans hE;replace hx:=hx.ext hE;replace hy:=hy.ext hE;replace hxn:=hxn.ext hE;replace hxd:=hxd.ext hE;replace hyn:=hyn.ext hE;replace hyd:=hyd.ext hE;clear hE hs hb;refine K1 (zt fun b2 w2 hb hE hB2 hs => ?_);have hgb2:w.heap.size≤b2:=by rw [hb];exact E0.size
 have ne_b1_b2:b1≠b2:=by have:=hB1.lt;omega
 replace E0:=E0.trans hE;replace hx:=hx.ext hE;replace hy:=hy.ext hE;replace hxn:=hxn.ext hE;replace hxd:=hxd.ext hE;replace hyn:=hyn.ext hE;replace hyd:=hyd.ext hE;replace hB1:=hB1.ext hE;clear hE hs hb;refine K1 (zV zero50 fun b3 w3 hb hE hB3 hs => ?_);have hgb3:w.heap.size≤b3:=by rw [hb];exact E0.size
 have ne_b1_b3:b1≠b3:=by have:=hB1.lt;omega
 have ne_b2_b3:b2≠b3:=by have:=hB2.lt;omega
 replace E0:=E0.trans hE;replace hx:=hx.ext hE;replace hy:=hy.ext hE;replace hxn:=hxn.ext hE;replace hxd:=hxd.ext hE;replace hyn:=hyn.ext hE;replace hyd:=hyd.ext hE;replace hB1:=hB1.ext hE;replace hB2:=hB2.ext hE;clear hE hs hb;refine rm [2,3,4] K ?_;refine zA (zA ?_);rcases (show x=0∨x≠0 from Classical.em _) with h0 | h0
 · have hz:(x.num.sign==0)=true:=by rw [h0];rfl
   have hne12:True:=trivial;refine K6 fun K=>K1 (zB zBV rfl (K1 (zD zAe rfl hB1 rfl (K8 rfl (rs [2,3,4,10] K ?_)))));refine wct (congrArg Value.bool hz) (rj fun K=>K1 (zX aggr50 rfl hB2 (Nat.le_of_ble_eq_true rfl) (K1 (runs_rstoreK rfl hy (Cell3.of hB3 rfl) fun _ w9 hU hN => ?_))));replace E0:=E0.upd hU hgb3;obtain ⟨cs,hB4,hl4,hN4⟩:=hN;refine rm [2,3,4] K ?_;refine zE (zU (zQ ?_));exact ⟨rfl,_,zv rfl rfl rfl aggr50 hB4 hl4,E0,by rw [h0,Rat.zero_add];exact hN4⟩
 · have hz:(x.num.sign==0)=false:=beq_eq_false_iff_ne.2 (zFd h0).2;rw [if_neg h0] at hxd;have hne12:True:=trivial;refine K6 fun K=>K1 (zB zBV rfl (K1 (zD zAe rfl hB1 rfl (K8 rfl (rs [2,3,4,10] K ?_)))));refine wcf (congrArg Value.bool hz) (sk (zA (zA ?_)));rcases (show y=0∨y≠0 from Classical.em _) with h1 | h1
   · have hz1:(y.num.sign==0)=true:=by rw [h1];rfl
     refine K6 fun K=>K1 (zB zBV rfl (K1 (zD zAe rfl hB2 rfl (K8 rfl (rs [2,3,4,14] K ?_)))));refine wct (congrArg Value.bool hz1) (rj fun K=>K1 (zX aggr50 rfl hB1 (Nat.le_of_ble_eq_true rfl) (K1 (runs_rstoreK rfl hx (Cell3.of hB3 rfl) fun _ w9 hU hN => ?_))));replace E0:=E0.upd hU hgb3;obtain ⟨cs,hB4,hl4,hN4⟩:=hN;refine rm [2,3,4] K ?_;refine zE (zU (zQ ?_));exact ⟨rfl,_,zv rfl rfl rfl aggr50 hB4 hl4,E0,by rw [h1,Rat.add_zero];exact hN4⟩
   · have hz1:(y.num.sign==0)=false:=beq_eq_false_iff_ne.2 (zFd h1).2;rw [if_neg h1] at hyd;refine K6 fun K=>K1 (zB zBV rfl (K1 (zD zAe rfl hB2 rfl (K8 rfl (rs [2,3,4,14] K ?_)))));refine wcf (congrArg Value.bool hz1) (sk (zA (zAK [([(2,none)],none),([(16,some 0)],none),([(3,none)],none),([(18,some 0)],none),([(2,none)],none),([(20,some 0)],none),([(17,some 4)],none),([(19,some 3)],none),([(21,some 2)],none)] mixed (by kernel_rfl) (by kernel_rfl) (by kernel_rfl) fun K hK=>dvp (fun σ wx hE hk=>zB zFN hk.1 ⟨Ext.refl _,rfl⟩) (dvp (fun σ wx hE hk=>zD zAf hk.1 (hB1.ext hE) rfl ⟨Ext.refl _,rfl⟩) (dvp (fun σ wx hE hk=>zB zFN hk.1 ⟨Ext.refl _,rfl⟩) (dvp (fun σ wx hE hk=>zD zAf hk.1 (hB2.ext hE) rfl ⟨Ext.refl _,rfl⟩) (dvp (fun σ wx hE hk=>zB zCM hk.1 ⟨Ext.refl _,rfl⟩) (dvp (fun σ wx hE hk=>zD zAf hk.1 (hB1.ext hE) rfl ⟨Ext.refl _,rfl⟩) (dvp (fun σ wx hE hk=>zS ⟨Ext.refl _,hk.1⟩) (dvp (fun σ wx hE hk=>zS ⟨Ext.refl _,hk.1⟩) (dvp (fun σ wx hE hk=>zS ⟨Ext.refl _,hk.1⟩) (zAi (hK _ fun wq hE => ?_)))))))))))));rintro _ rfl _ rfl _ rfl _ rfl _ rfl _ rfl _ rfl _ rfl _ rfl;refine zh ?_;replace E0:=E0.trans hE
     replace hx:=hx.ext hE;replace hy:=hy.ext hE;replace hxn:=hxn.ext hE;replace hxd:=hxd.ext hE;replace hyn:=hyn.ext hE;replace hyd:=hyd.ext hE;replace hB1:=hB1.ext hE;replace hB2:=hB2.ext hE;replace hB3:=hB3.ext hE;clear hE;refine zM (K5 [2,3,4,5,6,7] ?_);refine zAu (fun ρ w'=>∃ va vb vc,Keep ρ [(2,.pointer (some ⟨b1,0,none⟩)),(3,.pointer (some ⟨b2,0,none⟩)),(4,.pointer (some ⟨b3,0,none⟩)),(5,va),(6,vb),(7,vc)]∧Ext w w'∧IsN w' va (x.num.natAbs*y.den)∧IsN w' vb (y.num.natAbs*x.den)∧IsN w' vc (x.den*y.den)∧Blk w' b1 50 [.int .i64 x.num.sign,.slice xp xl xc,.slice xp2 xl2 xc2]∧Blk w' b2 50 [.int .i64 y.num.sign,.slice yp yl yc,.slice yp2 yl2 yc2]∧Blk w' b3 50 [.int .i64 0,(.slice none 0 0),(.slice none 0 0)]) ?_ ?_
     · refine zA ?_;rcases (show (x.den=1∧y.den=1)∨(x.den=1∧y.den≠1)∨x.den≠1 from by omega) with ⟨d1,d2⟩ | ⟨d1,d2⟩ | d1
       · skip
         refine K6 fun K=>K1 (zB zCM rfl (K1 (zD zAf rfl hB1 rfl (K1 (j9 E0 hx.ext hy.ext hxn.ext hxd.ext hyn.ext hyd.ext hB1.ext hB2.ext hB3.ext hb163 (zBc hxd) fun v6_2 w4 E0 hx hy hxn hxd hyn hyd hB1 hB2 hB3 hr => ?_)))));obtain rfl:=hr.trans (congrArg Value.bool (decide_eq_true d1));refine K1 (zq rfl (mv (K2 (zB zCM rfl (K2 (zD zAf rfl hB2 rfl (K2 (j9 E0 hx.ext hy.ext hxn.ext hxd.ext hyn.ext hyd.ext hB1.ext hB2.ext hB3.ext hb163 (zBc hyd) fun v6_7 w5 E0 hx hy hxn hxd hyn hyd hB1 hB2 hB3 hr => ?_))))))));obtain rfl:=hr.trans (congrArg Value.bool (decide_eq_true d2));refine K2 (zq rfl (pk rfl (rs [2,3,4,5,6,7,31] K ?_)));refine wcf rfl (zp (zO ?_));exact ⟨rfl,.slice xp xl xc,.slice yp yl yc,.slice xp2 xl2 xc2,(kp rfl),E0,by rw [d2,Nat.mul_one];exact hxn,by rw [d1,Nat.mul_one];exact hyn,by rw [d1,d2];rw [d1] at hxd;exact hxd,hB1,hB2,hB3⟩
       · skip
         refine K6 fun K=>K1 (zB zCM rfl (K1 (zD zAf rfl hB1 rfl (K1 (j9 E0 hx.ext hy.ext hxn.ext hxd.ext hyn.ext hyd.ext hB1.ext hB2.ext hB3.ext hb163 (zBc hxd) fun v6_2 w4 E0 hx hy hxn hxd hyn hyd hB1 hB2 hB3 hr => ?_)))));obtain rfl:=hr.trans (congrArg Value.bool (decide_eq_true d1));refine K1 (zq rfl (mv (K2 (zB zCM rfl (K2 (zD zAf rfl hB2 rfl (K2 (j9 E0 hx.ext hy.ext hxn.ext hxd.ext hyn.ext hyd.ext hB1.ext hB2.ext hB3.ext hb163 (zBc hyd) fun v6_7 w5 E0 hx hy hxn hxd hyn hyd hB1 hB2 hB3 hr => ?_))))))));obtain rfl:=hr.trans (congrArg Value.bool (decide_eq_false d2));refine K2 (zq rfl (pk rfl (rs [2,3,4,5,6,7,31] K ?_)))
         refine wct rfl (zAK [([(2,none)],none),([(32,some 0)],none),([(3,none)],none),([(34,some 0)],none),([(33,some 2),(35,some 0)],none),([(3,none)],none),([(37,some 0)],none),([(2,none)],none),([(39,some 0)],none),([(38,some 2),(40,some 0)],none),([(2,none)],none),([(42,some 0)],none),([(3,none)],none),([(44,some 0)],none),([(43,some 2),(45,some 0)],none),([(36,some 10)],none),([(41,some 6)],none),([(46,some 2)],none)] mixed (by kernel_rfl) (by kernel_rfl) (by kernel_rfl) fun K hK=>dvp (fun σ wx hE hk=>zB zFN hk.1 ⟨Ext.refl _,rfl⟩) (dvp (fun σ wx hE hk=>zD zAf hk.1 (hB1.ext hE) rfl ⟨Ext.refl _,rfl⟩) (dvp (fun σ wx hE hk=>zB zCM hk.1 ⟨Ext.refl _,rfl⟩) (dvp (fun σ wx hE hk=>zD zAf hk.1 (hB2.ext hE) rfl ⟨Ext.refl _,rfl⟩) (dcp (fun v w'=>IsN w' v (x.num.natAbs*y.den)) (fun _ _ _ _ hx h=>h.ext hx.toExt) (fun σ wx hE hk=>zH hb201 (CallK.of_ret (zCC (IsN.of_eq hk.1 (hxn.ext hE)) (IsN.of_eq hk.2.1 (hyd.ext hE)) hf.xn hf.yd) fun v w2 hX hr=>⟨hX,hr⟩) rfl) (dvp (fun σ wx hE hk=>zB zFN hk.1 ⟨Ext.refl _,rfl⟩) (dvp (fun σ wx hE hk=>zD zAf hk.1 (hB2.ext hE) rfl ⟨Ext.refl _,rfl⟩) (dvp (fun σ wx hE hk=>zB zCM hk.1 ⟨Ext.refl _,rfl⟩) (dvp (fun σ wx hE hk=>zD zAf hk.1 (hB1.ext hE) rfl ⟨Ext.refl _,rfl⟩) (dcp (fun v w'=>IsN w' v (y.num.natAbs*x.den)) (fun _ _ _ _ hx h=>h.ext hx.toExt) (fun σ wx hE hk=>zH hb201 (CallK.of_ret (zCC (IsN.of_eq hk.1 (hyn.ext hE)) (IsN.of_eq hk.2.1 (hxd.ext hE)) hf.yn hf.xd) fun v w2 hX hr=>⟨hX,hr⟩) rfl) (dvp (fun σ wx hE hk=>zB zCM hk.1 ⟨Ext.refl _,rfl⟩) (dvp (fun σ wx hE hk=>zD zAf hk.1 (hB1.ext hE) rfl ⟨Ext.refl _,rfl⟩) (dvp (fun σ wx hE hk=>zB zCM hk.1 ⟨Ext.refl _,rfl⟩) ?_)))))))))))))
         refine dvp (fun σ wx hE hk=>zD zAf hk.1 (hB2.ext hE) rfl ⟨Ext.refl _,rfl⟩) (dcp (fun v w'=>IsN w' v (x.den*y.den)) (fun _ _ _ _ hx h=>h.ext hx.toExt) (fun σ wx hE hk=>zH hb201 (CallK.of_ret (zCC (IsN.of_eq hk.1 (hxd.ext hE)) (IsN.of_eq hk.2.1 (hyd.ext hE)) hf.xd hf.yd) fun v w2 hX hr=>⟨hX,hr⟩) rfl) (dcp (fun v w'=>IsN w' v (x.num.natAbs*y.den)) (fun _ _ _ _ hx h=>h.ext hx.toExt) (fun σ wx hE hk=>zS ⟨Ext.refl _,hk.1⟩) (dcp (fun v w'=>IsN w' v (y.num.natAbs*x.den)) (fun _ _ _ _ hx h=>h.ext hx.toExt) (fun σ wx hE hk=>zS ⟨Ext.refl _,hk.1⟩) (dcp (fun v w'=>IsN w' v (x.den*y.den)) (fun _ _ _ _ hx h=>h.ext hx.toExt) (fun σ wx hE hk=>zS ⟨Ext.refl _,hk.1⟩) (zAi (hK _ fun wq hE => ?_))))));rintro _ rfl _ rfl _ rfl _ rfl v36 N36 _ rfl _ rfl _ rfl _ rfl v41 N41 _ rfl _ rfl _ rfl _ rfl v46 N46 v5 N5 v6 N6 v7 N7;refine zh ?_;replace E0:=E0.trans hE;replace hx:=hx.ext hE;replace hy:=hy.ext hE;replace hxn:=hxn.ext hE;replace hxd:=hxd.ext hE;replace hyn:=hyn.ext hE;replace hyd:=hyd.ext hE;replace hB1:=hB1.ext hE;replace hB2:=hB2.ext hE;replace hB3:=hB3.ext hE;clear hE;exact zO ⟨rfl,v5,v6,v7,(kp rfl),E0,N5,N6,N7,hB1,hB2,hB3⟩
       · skip
         refine K6 fun K=>K1 (zB zCM rfl (K1 (zD zAf rfl hB1 rfl (K1 (j9 E0 hx.ext hy.ext hxn.ext hxd.ext hyn.ext hyd.ext hB1.ext hB2.ext hB3.ext hb163 (zBc hxd) fun v6_2 w4 E0 hx hy hxn hxd hyn hyd hB1 hB2 hB3 hr => ?_)))));obtain rfl:=hr.trans (congrArg Value.bool (decide_eq_false d1));refine K1 (zq rfl (mv (K3 (K3 (K3 (K3 (pk rfl (rs [2,3,4,5,6,7,31] K ?_))))))))
         refine wct rfl (zAK [([(2,none)],none),([(32,some 0)],none),([(3,none)],none),([(34,some 0)],none),([(33,some 2),(35,some 0)],none),([(3,none)],none),([(37,some 0)],none),([(2,none)],none),([(39,some 0)],none),([(38,some 2),(40,some 0)],none),([(2,none)],none),([(42,some 0)],none),([(3,none)],none),([(44,some 0)],none),([(43,some 2),(45,some 0)],none),([(36,some 10)],none),([(41,some 6)],none),([(46,some 2)],none)] mixed (by kernel_rfl) (by kernel_rfl) (by kernel_rfl) fun K hK=>dvp (fun σ wx hE hk=>zB zFN hk.1 ⟨Ext.refl _,rfl⟩) (dvp (fun σ wx hE hk=>zD zAf hk.1 (hB1.ext hE) rfl ⟨Ext.refl _,rfl⟩) (dvp (fun σ wx hE hk=>zB zCM hk.1 ⟨Ext.refl _,rfl⟩) (dvp (fun σ wx hE hk=>zD zAf hk.1 (hB2.ext hE) rfl ⟨Ext.refl _,rfl⟩) (dcp (fun v w'=>IsN w' v (x.num.natAbs*y.den)) (fun _ _ _ _ hx h=>h.ext hx.toExt) (fun σ wx hE hk=>zH hb201 (CallK.of_ret (zCC (IsN.of_eq hk.1 (hxn.ext hE)) (IsN.of_eq hk.2.1 (hyd.ext hE)) hf.xn hf.yd) fun v w2 hX hr=>⟨hX,hr⟩) rfl) (dvp (fun σ wx hE hk=>zB zFN hk.1 ⟨Ext.refl _,rfl⟩) (dvp (fun σ wx hE hk=>zD zAf hk.1 (hB2.ext hE) rfl ⟨Ext.refl _,rfl⟩) (dvp (fun σ wx hE hk=>zB zCM hk.1 ⟨Ext.refl _,rfl⟩) (dvp (fun σ wx hE hk=>zD zAf hk.1 (hB1.ext hE) rfl ⟨Ext.refl _,rfl⟩) (dcp (fun v w'=>IsN w' v (y.num.natAbs*x.den)) (fun _ _ _ _ hx h=>h.ext hx.toExt) (fun σ wx hE hk=>zH hb201 (CallK.of_ret (zCC (IsN.of_eq hk.1 (hyn.ext hE)) (IsN.of_eq hk.2.1 (hxd.ext hE)) hf.yn hf.xd) fun v w2 hX hr=>⟨hX,hr⟩) rfl) (dvp (fun σ wx hE hk=>zB zCM hk.1 ⟨Ext.refl _,rfl⟩) (dvp (fun σ wx hE hk=>zD zAf hk.1 (hB1.ext hE) rfl ⟨Ext.refl _,rfl⟩) (dvp (fun σ wx hE hk=>zB zCM hk.1 ⟨Ext.refl _,rfl⟩) ?_)))))))))))))
         refine dvp (fun σ wx hE hk=>zD zAf hk.1 (hB2.ext hE) rfl ⟨Ext.refl _,rfl⟩) (dcp (fun v w'=>IsN w' v (x.den*y.den)) (fun _ _ _ _ hx h=>h.ext hx.toExt) (fun σ wx hE hk=>zH hb201 (CallK.of_ret (zCC (IsN.of_eq hk.1 (hxd.ext hE)) (IsN.of_eq hk.2.1 (hyd.ext hE)) hf.xd hf.yd) fun v w2 hX hr=>⟨hX,hr⟩) rfl) (dcp (fun v w'=>IsN w' v (x.num.natAbs*y.den)) (fun _ _ _ _ hx h=>h.ext hx.toExt) (fun σ wx hE hk=>zS ⟨Ext.refl _,hk.1⟩) (dcp (fun v w'=>IsN w' v (y.num.natAbs*x.den)) (fun _ _ _ _ hx h=>h.ext hx.toExt) (fun σ wx hE hk=>zS ⟨Ext.refl _,hk.1⟩) (dcp (fun v w'=>IsN w' v (x.den*y.den)) (fun _ _ _ _ hx h=>h.ext hx.toExt) (fun σ wx hE hk=>zS ⟨Ext.refl _,hk.1⟩) (zAi (hK _ fun wq hE => ?_))))));rintro _ rfl _ rfl _ rfl _ rfl v36 N36 _ rfl _ rfl _ rfl _ rfl v41 N41 _ rfl _ rfl _ rfl _ rfl v46 N46 v5 N5 v6 N6 v7 N7;refine zh ?_;replace E0:=E0.trans hE;replace hx:=hx.ext hE;replace hy:=hy.ext hE;replace hxn:=hxn.ext hE;replace hxd:=hxd.ext hE;replace hyn:=hyn.ext hE;replace hyd:=hyd.ext hE;replace hB1:=hB1.ext hE;replace hB2:=hB2.ext hE;replace hB3:=hB3.ext hE;clear hE;exact zO ⟨rfl,v5,v6,v7,(kp rfl),E0,N5,N6,N7,hB1,hB2,hB3⟩
     · clear E0 hxn hxd hyn hyd hx hy hB1 hB2 hB3;rintro ρ2 w2 ⟨va,vb,vc,hk,E0,hA,hC,hD,hB1,hB2,hB3⟩;refine wpe_k _ hk ?_;clear hk ρ2;refine zA (rj fun K=>K1 (zB zBV rfl (K1 (zD zAe rfl hB1 rfl (K1 (zB zBV rfl (K1 (zD zAe rfl hB2 rfl (K8 rfl (rm [2,3,4,5,6,7,51] K ?_))))))))));refine K0 rfl ?_ ?_<;>intro hc
       · have hss:x.num.sign=y.num.sign:=eq_of_beq hc;clear hc;refine zA (zBy 7 [([(2,none)],none),([(52,some 0)],none),([(5,none)],none),([(6,none)],none),([(54,some 1),(55,some 0)],none),([(7,none)],none),([(53,some 4),(56,some 1),(57,some 0)],none)] mixed (by kernel_rfl) (by kernel_rfl) (by kernel_rfl) (by kernel_rfl) (by kernel_rfl) fun K hK=>dvp (fun σ wx hE hk=>zB zBV hk.1 ⟨Ext.refl _,rfl⟩) (dvp (fun σ wx hE hk=>zD zAe hk.1 (hB1.ext hE) rfl ⟨Ext.refl _,rfl⟩) (dvp (fun σ wx hE hk=>zC ⟨Ext.refl _,hk.1⟩) (dvp (fun σ wx hE hk=>zC ⟨Ext.refl _,hk.1⟩) (dcp (fun v w'=>IsN w' v (x.num.natAbs*y.den+y.num.natAbs*x.den)) (fun _ _ _ _ hx h=>h.ext hx.toExt) (fun σ wx hE hk=>zH hb199 (CallK.of_ret (zMZ (IsN.of_eq hk.1 (hA.ext hE)) (IsN.of_eq hk.2.1 (hC.ext hE)) hf.nd.fit hf.nd'.fit) fun v w2 hX hr=>⟨hX,hr⟩) rfl) (dvp (fun σ wx hE hk=>zC ⟨Ext.refl _,hk.1⟩) (dcp (fun v w'=>IsR w' v (x+y)) (fun _ _ _ _ hx h=>h.ext hx.toExt) (fun σ wx hE hk=>zH hb160 (CallK.eq3 hk.1 rfl rfl (CallK.of_ret (zGg (sign3 x) hk.2.1 (IsN.of_eq hk.2.2.1 (hD.ext hE)) (Nat.mul_ne_zero x.den_nz y.den_nz) (hf.add) hf.dd) fun v w2 hX hr=>⟨hX,add_same h0 h1 hss hr⟩)) rfl) (zAi (hK _ fun wq hE => ?_)))))))));rintro _ rfl _ rfl _ rfl _ rfl v56 N56 _ rfl v58 N58;refine zh ?_;replace E0:=E0.trans hE
         replace hA:=hA.ext hE;replace hC:=hC.ext hE;replace hD:=hD.ext hE;replace hB1:=hB1.ext hE;replace hB2:=hB2.ext hE;replace hB3:=hB3.ext hE;clear hE;refine K1 (runs_rstoreK rfl N58 (Cell3.of hB3 rfl) fun _ w9 hU hN => ?_);replace E0:=E0.upd hU hgb3;obtain ⟨cs,hB4,hl4,hN4⟩:=hN;refine zCh (zM (K5 [2,3,4] ?_));exact zE (zU (zQ ⟨rfl,_,zv rfl rfl rfl aggr50 hB4 hl4,E0,hN4⟩))
       · have hss:x.num.sign≠y.num.sign:=fun e=>by rw [e] at hc;simp at hc
         clear hc;refine sk (zA (rJ fun K=>mv (K1 (j6 E0 hA.ext hC.ext hD.ext hB1.ext hB2.ext hB3.ext hb202 (zGq hA hC hf.nd.fit hf.nd'.fit) fun v10_2 w4 E0 hA hC hD hB1 hB2 hB3 hr => ?_))));obtain ⟨c,rfl,hcm⟩:=hr;refine K8 rfl (rm [2,3,4,5,6,7,62] K ?_);refine K0 rfl ?_ ?_<;>intro hc
         · have hlt:=hcm.1.1 (of_decide_eq_true hc);clear hc;refine zA (zBy 7 [([(3,none)],none),([(63,some 0)],none),([(6,none)],none),([(5,none)],none),([(65,some 1),(66,some 0)],none),([(7,none)],none),([(64,some 4),(67,some 1),(68,some 0)],none)] mixed (by kernel_rfl) (by kernel_rfl) (by kernel_rfl) (by kernel_rfl) (by kernel_rfl) fun K hK=>dvp (fun σ wx hE hk=>zB zBV hk.1 ⟨Ext.refl _,rfl⟩) (dvp (fun σ wx hE hk=>zD zAe hk.1 (hB2.ext hE) rfl ⟨Ext.refl _,rfl⟩) (dvp (fun σ wx hE hk=>zC ⟨Ext.refl _,hk.1⟩) (dvp (fun σ wx hE hk=>zC ⟨Ext.refl _,hk.1⟩) (dcp (fun v w'=>IsN w' v (y.num.natAbs*x.den-x.num.natAbs*y.den)) (fun _ _ _ _ hx h=>h.ext hx.toExt) (fun σ wx hE hk=>zH hb203 (CallK.of_ret (zJI (IsN.of_eq hk.1 (hC.ext hE)) (IsN.of_eq hk.2.1 (hA.ext hE)) hf.nd'.fit (Nat.le_of_lt hlt)) fun v w2 hX hr=>⟨hX,hr⟩) rfl) (dvp (fun σ wx hE hk=>zC ⟨Ext.refl _,hk.1⟩) (dcp (fun v w'=>IsR w' v (x+y)) (fun _ _ _ _ hx h=>h.ext hx.toExt) (fun σ wx hE hk=>zH hb160 (CallK.eq3 hk.1 rfl rfl (CallK.of_ret (zGg (sign3 y) hk.2.1 (IsN.of_eq hk.2.2.1 (hD.ext hE)) (Nat.mul_ne_zero x.den_nz y.den_nz) (hf.nd'.le (Nat.sub_le _ _)) hf.dd) fun v w2 hX hr=>⟨hX,add_less h0 h1 hss hlt hr⟩)) rfl) (zAi (hK _ fun wq hE => ?_)))))))));rintro _ rfl _ rfl _ rfl _ rfl v67 N67 _ rfl v69 N69;refine zh ?_;replace E0:=E0.trans hE
           replace hA:=hA.ext hE;replace hC:=hC.ext hE;replace hD:=hD.ext hE;replace hB1:=hB1.ext hE;replace hB2:=hB2.ext hE;replace hB3:=hB3.ext hE;clear hE;refine K1 (runs_rstoreK rfl N69 (Cell3.of hB3 rfl) fun _ w9 hU hN => ?_);replace E0:=E0.upd hU hgb3;obtain ⟨cs,hB4,hl4,hN4⟩:=hN;refine zCh (zM (K5 [2,3,4] ?_));exact zE (zU (zQ ⟨rfl,_,zv rfl rfl rfl aggr50 hB4 hl4,E0,hN4⟩))
         · have hge:¬ x.num.natAbs*y.den<y.num.natAbs*x.den:=fun e=>of_decide_eq_false hc (hcm.1.2 e);clear hc;refine sk (zA (zBy 7 [([(2,none)],none),([(70,some 0)],none),([(5,none)],none),([(6,none)],none),([(72,some 1),(73,some 0)],none),([(7,none)],none),([(71,some 4),(74,some 1),(75,some 0)],none)] mixed (by kernel_rfl) (by kernel_rfl) (by kernel_rfl) (by kernel_rfl) (by kernel_rfl) fun K hK=>dvp (fun σ wx hE hk=>zB zBV hk.1 ⟨Ext.refl _,rfl⟩) (dvp (fun σ wx hE hk=>zD zAe hk.1 (hB1.ext hE) rfl ⟨Ext.refl _,rfl⟩) (dvp (fun σ wx hE hk=>zC ⟨Ext.refl _,hk.1⟩) (dvp (fun σ wx hE hk=>zC ⟨Ext.refl _,hk.1⟩) (dcp (fun v w'=>IsN w' v (x.num.natAbs*y.den-y.num.natAbs*x.den)) (fun _ _ _ _ hx h=>h.ext hx.toExt) (fun σ wx hE hk=>zH hb203 (CallK.of_ret (zJI (IsN.of_eq hk.1 (hA.ext hE)) (IsN.of_eq hk.2.1 (hC.ext hE)) hf.nd.fit (Nat.le_of_not_lt hge)) fun v w2 hX hr=>⟨hX,hr⟩) rfl) (dvp (fun σ wx hE hk=>zC ⟨Ext.refl _,hk.1⟩) (dcp (fun v w'=>IsR w' v (x+y)) (fun _ _ _ _ hx h=>h.ext hx.toExt) (fun σ wx hE hk=>zH hb160 (CallK.eq3 hk.1 rfl rfl (CallK.of_ret (zGg (sign3 x) hk.2.1 (IsN.of_eq hk.2.2.1 (hD.ext hE)) (Nat.mul_ne_zero x.den_nz y.den_nz) (hf.nd.le (Nat.sub_le _ _)) hf.dd) fun v w2 hX hr=>⟨hX,add_more h0 h1 hss hge hr⟩)) rfl) (zAi (hK _ fun wq hE => ?_))))))))));rintro _ rfl _ rfl _ rfl _ rfl v74 N74 _ rfl v76 N76
           refine zh ?_;replace E0:=E0.trans hE;replace hA:=hA.ext hE;replace hC:=hC.ext hE;replace hD:=hD.ext hE;replace hB1:=hB1.ext hE;replace hB2:=hB2.ext hE;replace hB3:=hB3.ext hE;clear hE;refine K1 (runs_rstoreK rfl N76 (Cell3.of hB3 rfl) fun _ w9 hU hN => ?_);replace E0:=E0.upd hU hgb3;obtain ⟨cs,hB4,hl4,hN4⟩:=hN;refine zCh (zM (K5 [2,3,4] ?_));exact zE (zQ ⟨rfl,_,zv rfl rfl rfl aggr50 hB4 hl4,E0,hN4⟩)
end Go.Proofs.YtjiendlfobjanaaGreatDoor.R
namespace Go.Proofs.YtjiendlfobjanaaGreatDoor
open Go Go.RowKit Go.Proofs Tryz
variable {E b c cap i ix len n o sz' sz0 sz2:Nat} {P:Program} {T ty:TypeId} {af:Array Edge} {cs row:List Value} {g:Option (Nat×Bool)} {p:Option Addr} {pos:String} {r:Option Nat} {rows:List (List Value)} {v:Value} {w w':World} {x y:Operand} {σ:Operand→Value}
def RowB (E n sz:Nat) (x:List Nat) (w:World) (v:Value) (rows:List (List Value)):Prop :=
 (∀ r,r∈rows→r.length=n)∧∃ p c,v = .slice p rows.length c∧rows.length≤c∧((rows=[]∧p=none∧c=0)∨∃ b cs,p=some ⟨b,0,none⟩∧sz≤b∧b ∉ x∧Blk w b E cs∧cs.length=n*c∧cs.take (n*rows.length)=rows.flatten)
def RowIn (E n b c:Nat) (w:World) (rows:List (List Value)):Prop:=(∀ r,r∈rows→r.length=n)∧∃ cs,Blk w b E cs∧cs.length=n*c∧cs.take (n*rows.length)=rows.flatten
def zBL (E sz:Nat) (row:List Value) (v:Value) (w:World):Prop:=∃ b,v = .slice (some ⟨b,0,none⟩) 1 1∧sz≤b∧Blk w b E row
theorem RowB.nil {sz:Nat} {x:List Nat}:RowB E n sz x w (.slice none 0 0) []:=⟨(fun r hr=>by cases hr),none,0,rfl,Nat.le_refl _,.inl ⟨rfl,rfl,rfl⟩⟩
theorem RowB.ext {sz:Nat} {x:List Nat} (h:RowB E n sz x w v rows) (hx:Ext w w'):RowB E n sz x w' v rows:=by
 obtain ⟨h0,p,c,h1,h2,h3⟩:=h;refine ⟨h0,p,c,h1,h2,?_⟩;rcases h3 with h | ⟨b,cs,e1,e2,e3,e4,e5,e6⟩
 · exact .inl h
 · exact .inr ⟨b,cs,e1,e2,e3,e4.ext hx,e5,e6⟩
theorem zBL.ext {sz:Nat} (h:zBL E sz row v w) (hx:Ext w w'):zBL E sz row v w':=by
 obtain ⟨b,h1,h2,h3⟩:=h;exact ⟨b,h1,h2,h3.ext hx⟩
theorem zBL.extS {S:List Nat} {sz:Nat} (h:zBL E sz row v w) (hx:ExtS S w w') (hS:∀ b∈S,b<sz):zBL E sz row v w':=by
 obtain ⟨b,h1,h2,h3⟩:=h;refine ⟨b,h1,h2,?_⟩;show w'.heap[b]? = _;rw [hx.block b h3.lt (fun hm=>by have:=hS b hm;omega)];exact h3
theorem zBL.le {sz:Nat} (h:zBL E sz row v w) (hs:sz'≤sz):zBL E sz' row v w:=by
 obtain ⟨b,h1,h2,h3⟩:=h;exact ⟨b,h1,Nat.le_trans hs h2,h3⟩
theorem RowB.upd {sz:Nat} {x:List Nat} (h:RowB E n sz x w v rows) (hu:Upd c w w') (hc:Blk w c T cs) (hT:T≠E):RowB E n sz x w' v rows:=by
 obtain ⟨h0,p,k,h1,h2,h3⟩:=h;refine ⟨h0,p,k,h1,h2,?_⟩;rcases h3 with h | ⟨b,cs',e1,e2,e3,e4,e5,e6⟩
 · exact .inl h
 · exact .inr ⟨b,cs',e1,e2,e3,e4.upd hu fun e=>by subst e;exact hT (hc.inj e4).1,e5,e6⟩
theorem RowB.updX {sz:Nat} {x:List Nat} (h:RowB E n sz x w v rows) (hu:Upd c w w') (hc:c∈x):RowB E n sz x w' v rows:=by
 obtain ⟨h0,p,k,h1,h2,h3⟩:=h;refine ⟨h0,p,k,h1,h2,?_⟩;rcases h3 with h | ⟨b,cs',e1,e2,e3,e4,e5,e6⟩
 · exact .inl h
 · exact .inr ⟨b,cs',e1,e2,e3,e4.upd hu fun e=>by subst e;exact e3 hc,e5,e6⟩
theorem RowB.form {sz:Nat} {x:List Nat} (h:RowB E n sz x w v rows):∃ p c,v = .slice p rows.length c:=by
 obtain ⟨h0,p,c,h1,-⟩:=h;exact ⟨p,c,h1⟩
theorem RowB.sub {sz:Nat} {x y:List Nat} (h:RowB E n sz x w v rows) (hs:∀ b∈y,b∈x):RowB E n sz y w v rows:=by
 obtain ⟨h0,p,c,h1,h2,h3⟩:=h;refine ⟨h0,p,c,h1,h2,?_⟩;rcases h3 with h | ⟨b,cs,e1,e2,e3,e4,e5,e6⟩
 · exact .inl h
 · exact .inr ⟨b,cs,e1,e2,fun hm=>e3 (hs b hm),e4,e5,e6⟩
theorem RowB.new {sz y:Nat} {x:List Nat} (h:RowB E n sz x w v rows) (hy:w.heap.size≤y):RowB E n sz (y :: x) w v rows:=by
 obtain ⟨h0,p,c,h1,h2,h3⟩:=h;refine ⟨h0,p,c,h1,h2,?_⟩;rcases h3 with h | ⟨b,cs,e1,e2,e3,e4,e5,e6⟩
 · exact .inl h
 · exact .inr ⟨b,cs,e1,e2,fun hm=>by
    rcases List.mem_cons.1 hm with h | h
    · have:=e4.lt;omega
    · exact e3 h,e4,e5,e6⟩
theorem RowB.sz {sz:Nat} {x:List Nat} (h:RowB E n sz x w v rows) (hs:sz'≤sz):RowB E n sz' x w v rows:=by
 obtain ⟨h0,p,c,h1,h2,h3⟩:=h;refine ⟨h0,p,c,h1,h2,?_⟩;rcases h3 with h | ⟨b,cs,e1,e2,e3,e4,e5,e6⟩
 · exact .inl h
 · exact .inr ⟨b,cs,e1,by omega,e3,e4,e5,e6⟩
theorem RowB.cases {sz:Nat} {x:List Nat} (h:RowB E n sz x w v rows) :
 (∃ b c,v = .slice (some ⟨b,0,none⟩) rows.length c∧rows.length+1≤c∧sz≤b∧b ∉ x∧RowIn E n b c w rows)∨(∃ p c,v = .slice p rows.length c∧c<rows.length+1):=by
 obtain ⟨h0,p,c,h1,h2,h3⟩:=h;by_cases hc:rows.length+1≤c
 · rcases h3 with ⟨e1,e2,e3⟩ | ⟨b,cs,e1,e2,e3,e4,e5,e6⟩
   · omega
   · exact .inl ⟨b,c,by rw [h1,e1],hc,e2,e3,h0,cs,e4,e5,e6⟩
 · exact .inr ⟨p,c,h1,by omega⟩
theorem RowIn.acc {sz:Nat} {x:List Nat} (h:RowIn E n b c w rows) (hs:sz≤b) (hx:b ∉ x) (hc:rows.length≤c):RowB E n sz x w (.slice (some ⟨b,0,none⟩) rows.length c) rows:=by
 obtain ⟨h0,cs,h1,h2,h3⟩:=h;exact ⟨h0,_,c,rfl,hc,.inr ⟨b,cs,rfl,hs,hx,h1,h2,h3⟩⟩
theorem RowIn.same (h:RowIn E n b c w rows) (he:w'.heap[b]? = w.heap[b]?):RowIn E n b c w' rows:=by
 obtain ⟨h0,cs,h1,h2,h3⟩:=h;exact ⟨h0,cs,by show w'.heap[b]? = _;rw [he];exact h1,h2,h3⟩
theorem RowIn.blk (h:RowIn E n b c w rows):∃ cs,Blk w b E cs:=by obtain ⟨h0,cs,h1,_⟩:=h;exact ⟨cs,h1⟩
theorem zHt:∀ (vs cs:List Value) (o:Nat),o+vs.length≤cs.length→(zBI cs o vs).take (o+vs.length)=cs.take o++vs
 | [],cs,o,_=>by simp [zBI]
 | v :: vs,cs,o,h=>by
  simp only [List.length_cons] at h ⊢;show (zBI (cs.set o v) (o+1) vs).take _=_;rw [show o+(vs.length+1)=o+1+vs.length by omega,zHt vs (cs.set o v) (o+1) (by rw [List.length_set];omega)];rw [List.take_succ_eq_append_getElem (by rw [List.length_set];omega),List.take_set_of_le (Nat.le_refl o),List.getElem_set_self,List.append_assoc];rfl
theorem zEV {n:Nat}:∀ {rows:List (List Value)},(∀ r,r∈rows→r.length=n)→rows.flatten.length=n*rows.length
 | [],_=>by simp
 | r :: rows,h=>by
  rw [List.flatten_cons,List.length_append,zEV fun x hx=>h x (List.mem_cons_of_mem _ hx),h r List.mem_cons_self,List.length_cons,Nat.mul_succ,Nat.add_comm]
theorem zLw (h:∀ r,r∈rows→r.length=n) (hr:row.length=n):∀ r,r∈rows++[row]→r.length=n:=fun r hm=>by
 rcases List.mem_append.1 hm with h1 | h1
 · exact h r h1
 · rw [List.mem_singleton.1 h1];exact hr
section laws
variable {K:Value→World→Prop} {d:Option Tmp}
structure RowT (P:Program) (T E n:Nat):Prop where
 sl:P.underlying T=some (.slice E)
 el:∃ z bytes,(P.info? E).map (fun i=>(i.zero,i.size,i.bytes))=some (some z,n,bytes)∧z.cells.size=n∧0<bytes∧bytes≤128
theorem zCp {T sz:Nat} (hT:RowT P T E n) (hx:σ x = .slice (some ⟨b,0,none⟩) rows.length c) (hc:rows.length+1≤c) (hB:RowIn E n b c w rows) (hy:zBL E sz row (σ y) w) (hr:row.length=n) (hok:row.all zAp=true) :
 Runs P r ⟨d,.call { callee := .builtin .append,args := #[x,y],argTypes := #[T,T] },ty,pos,af,g⟩ σ w (fun v w'=>ExtS [b] w w'∧RowIn E n b c w' (rows++[row])∧v = .slice (some ⟨b,0,none⟩) (rows++[row]).length c):=by
 obtain ⟨h0,cs,h1,h2,h3⟩:=hB;obtain ⟨b2,e1,_,e2⟩:=hy;obtain ⟨z,bytes,hi,hz,hb0,hb1⟩:=hT.el;have hle:(rows.length+1)*n≤cs.length:=by rw [h2,Nat.mul_comm n];exact Nat.mul_le_mul_right n hc
 refine zAg (n:=n) hT.sl hT.sl hi hx e1 h1 (Cells.blk e2) (by rw [hr,Nat.one_mul]) hc (by omega) hok fun w' hU hN=>⟨hU.toS (by simp),⟨zLw h0 hr,_,hN,by rw [zAh];exact h2,?_⟩,by simp⟩;rw [Nat.zero_add,List.length_append,List.length_singleton,Nat.mul_add,Nat.mul_one,Nat.mul_comm rows.length n];have hs:=zHt row cs (n*rows.length) (by rw [hr];rw [Nat.add_mul,Nat.one_mul,Nat.mul_comm] at hle;exact hle);rw [hr] at hs;rw [hs,h3,List.flatten_append];simp
theorem zBw {T sz:Nat} {x0 xx:List Nat} (hT:RowT P T E n) (hx:σ x = .slice p rows.length c) (hA:RowB E n sz0 x0 w (.slice p rows.length c) rows) (hc:c<rows.length+1) (hy:zBL E sz2 row (σ y) w) (hr:row.length=n) (hl:rows.length<100000) (hs:sz≤w.heap.size) (hxx:∀ y∈xx,y<w.heap.size) :
 Runs P r ⟨d,.call { callee := .builtin .append,args := #[x,y],argTypes := #[T,T] },ty,pos,af,g⟩ σ w (fun v w'=>Ext w w'∧RowB E n sz xx w' v (rows++[row])):=by
 obtain ⟨b2,e1,_,e2⟩:=hy;obtain ⟨h0,p',c',h1,h2,h3⟩:=hA;cases h1;obtain ⟨z,bytes,hi,hz,hb0,hb1⟩:=hT.el;have hnew:=zAS (rows.length+1) c;have hold:Cells w p E rows.flatten:=by
  rcases h3 with ⟨e1,_,_⟩ | ⟨b,cs,e1,e2,e3,e4,e5,e6⟩
  · subst e1;exact .inl rfl
  · exact .inr ⟨b,0,cs,e1,e4,by rw [zEV h0,List.drop_zero];exact e6⟩
 have hbig:Builtin.nextslicecap (rows.length+1) c*bytes≤281474976710656:=by
  have:Builtin.nextslicecap (rows.length+1) c*bytes≤500000*128:=Nat.mul_le_mul (by omega) hb1;omega
 refine zAO (n:=n) hT.sl hT.sl hi hz hb0 hx e1 hold (by rw [zEV h0,Nat.mul_comm]) (Cells.blk e2) (by rw [hr,Nat.one_mul]) (by omega) hbig fun w' rest c' g1 hE hB g2 _=>⟨hE,zLw h0 hr,_,c',by simp,by simpa using g1,.inr ⟨w.heap.size,_,rfl,hs,fun hm=>by have:=hxx _ hm;omega,hB,?_,?_⟩⟩
 · have hrl:rest.length=(c'-(rows.length+1))*n:=by rw [g2];simp [Builtin.zeroCells,hz]
   rw [List.length_append,List.length_append,zEV h0,hr,hrl];obtain ⟨k,rfl⟩:∃ k,c'=rows.length+1+k:=⟨c'-(rows.length+1),by omega⟩;rw [show rows.length+1+k-(rows.length+1)=k by omega,Nat.mul_add,Nat.mul_add,Nat.mul_one,Nat.mul_comm k]
 · have hf:(rows.flatten++row).length=n*(rows++[row]).length:=by rw [List.length_append,zEV h0,hr,List.length_append,List.length_singleton,Nat.mul_add,Nat.mul_one]
   rw [List.take_append_of_le_length (by omega),List.take_of_length_le (by omega),List.flatten_append];simp
structure NearR (E sz:Nat) (x:List Nat) (w w':World):Prop where
 ext:∀ W:World,W.heap.size≤sz→Ext W w→Ext W w'
 blk:∀ b T cs,(b<sz∨b∈x∨T≠E)→Blk w b T cs→Blk w' b T cs
 size:w.heap.size≤w'.heap.size
theorem NearR.of_ext {sz:Nat} {x:List Nat} (h:Ext w w'):NearR E sz x w w':=⟨fun _ _ hx=>hx.trans h,fun _ _ _ _ hb=>hb.ext h,h.size⟩
theorem NearR.of_extS {sz:Nat} {x:List Nat} (h:ExtS [b] w w') (hs:sz≤b) (hx:b ∉ x) (hB:RowIn E n b c w rows):NearR E sz x w w':=by
 obtain ⟨cs0,hB0⟩:=hB.blk;refine ⟨fun W hW hx=>hx.updSS h (fun c hc=>by rw [List.mem_singleton.1 hc];omega),fun b' T cs h1 h2 => ?_,h.size⟩;have hne:b'≠b:=fun e=>by
  subst e;rcases h1 with h1 | h1 | h1
  · omega
  · exact hx h1
  · exact h1 (h2.inj hB0).1
 show w'.heap[b']? = _;rw [h.block b' h2.lt (by rw [List.mem_singleton];exact hne)];exact h2
theorem zCO {T sz:Nat} {xx:List Nat} (hT:RowT P T E n) (hx:σ x=v) (hA:RowB E n sz xx w v rows) (hy:zBL E sz2 row (σ y) w) (hr:row.length=n) (hok:row.all zAp=true) (hl:rows.length<100000) (hs:sz≤w.heap.size) (hxx:∀ y∈xx,y<w.heap.size)
 (hk:∀ v' w',NearR E sz xx w w'→RowB E n sz xx w' v' (rows++[row])→K v' w'):Runs P r ⟨d,.call { callee := .builtin .append,args := #[x,y],argTypes := #[T,T] },ty,pos,af,g⟩ σ w K:=by
 rcases hA.cases with ⟨b,c,e,hc,hb,hbx,hB⟩ | ⟨p,c,e,hc⟩
 · rw [e] at hx;refine Runs.mono (zCp hT hx hc hB hy hr hok) fun v' w' ⟨h1,h2,h3⟩ => ?_;refine hk _ _ (NearR.of_extS h1 hb hbx hB) ?_;rw [h3];exact h2.acc hb hbx (by simpa using hc)
 · rw [e] at hx hA;refine Runs.mono (zBw (sz:=sz) (xx:=xx) hT hx hA hc hy hr hl hs hxx) fun v' w' ⟨h1,h2⟩ => ?_;exact hk _ _ (NearR.of_ext h1) h2
end laws
theorem zKn {n:Nat}:∀ {rows:List (List Value)} {i:Nat},(∀ r,r∈rows→r.length=n)→i<rows.length→(rows.flatten.drop (n*i)).take n=rows.getD i []
 | [],i,_,hi=>by simp at hi
 | r :: rows,0,h,_=>by
  rw [Nat.mul_zero,List.drop_zero,List.flatten_cons,List.take_append_of_le_length (by rw [h r List.mem_cons_self];exact Nat.le_refl _),List.take_of_length_le (by rw [h r List.mem_cons_self];exact Nat.le_refl _)];rfl
 | r :: rows,i+1,h,hi=>by
  have hr:=h r List.mem_cons_self;rw [List.flatten_cons,Nat.mul_succ,List.drop_append,List.drop_of_length_le (by rw [hr];exact Nat.le_add_left _ _),List.nil_append,hr,Nat.add_sub_cancel];exact zKn (fun x hx=>h x (List.mem_cons_of_mem _ hx)) (by simpa using hi)
def RowR (E n:Nat) (w:World) (p:Option Addr) (rows:List (List Value)):Prop:=rows=[]∨∃ b cs,p=some ⟨b,0,none⟩∧Blk w b E cs∧n*rows.length≤cs.length∧∀ i,i<rows.length→(cs.drop (n*i)).take n=rows.getD i []
theorem RowR.ext (h:RowR E n w p rows) (hx:Ext w w'):RowR E n w' p rows:=by
 rcases h with h | ⟨b,cs,h1,h2,h3,h4⟩
 · exact .inl h
 · exact .inr ⟨b,cs,h1,h2.ext hx,h3,h4⟩
theorem rows_at (h0:∀ r,r∈rows→r.length=n) (h:cs.take (n*rows.length)=rows.flatten):n*rows.length≤cs.length∧∀ i,i<rows.length→(cs.drop (n*i)).take n=rows.getD i []:=by
 have hl:=congrArg List.length h;rw [zEV h0,List.length_take] at hl;refine ⟨by omega,fun i hi => ?_⟩;rw [← zKn h0 hi,← h,List.drop_take,List.take_take,Nat.min_eq_left];have h1:n*(i+1)≤n*rows.length:=Nat.mul_le_mul_left _ hi;rw [Nat.mul_succ] at h1;omega
theorem RowB.rd {sz:Nat} {x:List Nat} (h:RowB E n sz x w v rows):∃ p c,v = .slice p rows.length c∧RowR E n w p rows:=by
 obtain ⟨h0,p,c,h1,h2,h3⟩:=h;refine ⟨p,c,h1,?_⟩;rcases h3 with ⟨e,_⟩ | ⟨b,cs,e1,e2,e3,e4,e5,e6⟩
 · exact .inl e
 · obtain ⟨g1,g2⟩:=rows_at h0 e6;exact .inr ⟨b,cs,e1,e4,g1,g2⟩
theorem RowR.at (h:RowR E n w p rows) (hi:i<rows.length):∃ b cs,p=some ⟨b,0,none⟩∧Blk w b E cs∧n*i+n≤cs.length∧(cs.drop (n*i)).take n=rows.getD i []:=by
 rcases h with h | ⟨b,cs,h1,h2,h3,h4⟩
 · rw [h] at hi;simp at hi
 · refine ⟨b,cs,h1,h2,?_,h4 i hi⟩;have h5:n*(i+1)≤n*rows.length:=Nat.mul_le_mul_left _ hi;rw [Nat.mul_succ] at h5;omega
structure El where
 k:Int
 a:Int
 b:Int
 c:Int
 d:Int
 v:List UInt8
def elc (e:El):List Value:=[.int .i64 e.k,.int .i64 e.a,.int .i64 e.b,.int .i64 e.c,.int .i64 e.d,.int .i64 0,.int .i64 0,S e.v]
theorem zLB:prog.underlying 79=some (.slice 119):=by kernel_rfl
theorem info119:(prog.info? 119).map (fun i=>(i.zero,i.size,i.bytes))=some (some (.agg #[.int .i64 0,.int .i64 0,.int .i64 0,.int .i64 0,.int .i64 0,.int .i64 0,.int .i64 0,.string ⟨#[]⟩]),8,72):=by kernel_rfl
theorem info119':(prog.info? 119).map (fun i=>(i.zero,i.size))=some (some (.agg #[.int .i64 0,.int .i64 0,.int .i64 0,.int .i64 0,.int .i64 0,.int .i64 0,.int .i64 0,.string ⟨#[]⟩]),8):=by kernel_rfl
theorem zero119:(prog.info? 119).bind (·.zero)=some (.agg #[.int .i64 0,.int .i64 0,.int .i64 0,.int .i64 0,.int .i64 0,.int .i64 0,.int .i64 0,.string ⟨#[]⟩]):=by kernel_rfl
theorem size119:(prog.info? 119).map (·.size)=some 8:=by kernel_rfl
theorem zDR:zAV prog 79 119 8:=by unfold zAV;exact ⟨by kernel_rfl,by kernel_rfl⟩
theorem zJK:Aggr prog 119 8:=by unfold Aggr;exact ⟨by kernel_rfl,by kernel_rfl⟩
theorem row79:RowT prog 79 119 8:=⟨zLB,_,_,info119,rfl,by decide,by decide⟩
theorem zCV:Plain prog 79:=by unfold Plain;exact ⟨by kernel_rfl,by kernel_rfl⟩
theorem zEj:zAA prog 169 0 0:=by unfold zAA;kernel_rfl
theorem zFQ:zAA prog 82 0 0:=by unfold zAA;kernel_rfl
theorem zCH:zAA prog 82 1 1:=by unfold zAA;kernel_rfl
theorem zMc:zAA prog 82 2 2:=by unfold zAA;kernel_rfl
theorem fo119_1:zAA prog 119 1 1:=by unfold zAA;kernel_rfl
theorem fo119_2:zAA prog 119 2 2:=by unfold zAA;kernel_rfl
theorem fo119_3:zAA prog 119 3 3:=by unfold zAA;kernel_rfl
theorem fo119_4:zAA prog 119 4 4:=by unfold zAA;kernel_rfl
theorem zMk:zAA prog 119 7 7:=by unfold zAA;kernel_rfl
theorem zIb:(prog.info? 79).map (·.size)=some 1:=by kernel_rfl
theorem size3:(prog.info? 3).map (·.size)=some 1:=by kernel_rfl
theorem zDS:(prog.info? 82).map (·.size)=some 3:=by kernel_rfl
theorem zID:(prog.info? 82).bind (·.zero)=some (.agg #[.int .i64 0,.slice none 0 0,.slice none 0 0]):=by kernel_rfl
theorem zCv:Aggr prog 82 3:=by unfold Aggr;exact ⟨by kernel_rfl,by kernel_rfl⟩
def mx (a b:Int):Int:=if b>a then b else a
def el0:El:=⟨0,0,0,0,0,[]⟩
def topE (n:Int) (e:El):Int:=mx (mx (mx (mx n e.a) e.b) e.c) e.d
def tops (n:Int) (es:List El):Int:=es.foldl topE n
theorem tops_take {n:Int} {es:List El} (h:i<es.length):tops n (es.take (i+1))=topE (tops n (es.take i)) (es.getD i el0):=by
 unfold tops;rw [List.take_succ_eq_append_getElem h,List.foldl_append,List.getD_eq_getElem?_getD,List.getElem?_eq_getElem h];rfl
theorem zGL (e:El):(elc e).length=8:=rfl
theorem zMX (es:List El):∀ r,r∈es.map elc→r.length=8:=fun r hr=>by
 obtain ⟨e,-,rfl⟩:=List.mem_map.1 hr;rfl
theorem zMq {es:List El} (h:i<es.length) (d:El):(es.map elc).getD i []=elc (es.getD i d):=by
 rw [List.getD_eq_getElem?_getD,List.getElem?_map,List.getD_eq_getElem?_getD,List.getElem?_eq_getElem h];rfl
section laws
variable {K:Value→World→Prop} {d:Option Tmp}
theorem zAW {T:Nat} {i:Operand} {k:IntKind} (hT:zAV P T E n) (hx:σ x = .slice (some ⟨b,0,none⟩) len cap) (hi:σ i = .int k (ix:Int)) (h1:ix<len) (hk:K (.pointer (some ⟨b,n*ix,none⟩)) w):Runs P r ⟨d,.indexAddr T x i,ty,pos,af,g⟩ σ w K:=by
 refine zG hT hx hi (by omega) (by omega) ?_;rw [show 0+((ix:Nat):Int).toNat*n=n*ix from by rw [Nat.zero_add,Int.toNat_natCast,Nat.mul_comm]];exact hk
theorem zIe {e:El} (hx:σ x = .pointer (some ⟨b,o,none⟩)) (ho:o=8*i) (hB:Blk w b 119 cs) (hl:8*i+8≤cs.length) (he:(cs.drop (8*i)).take 8=elc e) (hk:K (.agg (elc e).toArray) w):Runs prog r ⟨d,.load 119 x,ty,pos,af,g⟩ σ w K:=by
 subst ho;exact zX zJK hx hB hl (by rw [he];exact hk)
theorem zAy {a:Addr} (hx:σ x = .pointer (some a)) (hk:K (.pointer (some a)) w):Runs P r ⟨d,.nilCheck x,ty,pos,af,g⟩ σ w K:=by
 refine zo (fun _ e=>by cases e) ?_ hk;simp [execOp,hx]
theorem runs_max5 {x1 x2 x3 x4 x5:Operand} {a1 a2 a3 a4 a5:Int} (h1:σ x1 = .int .i64 a1) (h2:σ x2 = .int .i64 a2) (h3:σ x3 = .int .i64 a3) (h4:σ x4 = .int .i64 a4) (h5:σ x5 = .int .i64 a5) (hk:K (.int .i64 (mx (mx (mx (mx a1 a2) a3) a4) a5)) w):Runs P r ⟨d,.call { callee := .builtin .max,args := #[x1,x2,x3,x4,x5],argTypes := #[T,T,T,T,T] },ty,pos,af,g⟩ σ w K:=by
 refine zo (fun _ e=>by cases e) ?_ hk;simp [execOp,resolve,h1,h2,h3,h4,h5,invoke,builtin,Builtin.max_,Builtin.max2,mx]
theorem zCP {e:El} (hy:σ y = .agg (elc e).toArray) (hk:∀ v w',Ext w w'→zBL 119 w.heap.size (elc e) v w'→K v w'):Runs prog r ⟨d,.buildSlice 79 1 #[(0,y)],ty,pos,af,g⟩ σ w K:=by
 refine zi (cs:=elc e) zLB info119' (by decide) (by decide) ?_ fun b w' hb hE hB hs=>hk _ _ hE ⟨b,rfl,Nat.le_of_eq hb.symm,hB⟩;show Instr.fill _ _ [(0,σ y)]=_;rw [hy]
 kernel_rfl
end laws
end Go.Proofs.YtjiendlfobjanaaGreatDoor
namespace Go.Proofs.YtjiendlfobjanaaGreatDoor
open Go Go.RowKit Go.Proofs Tryz
set_option maxRecDepth 10000
set_option maxHeartbeats 2000000
attribute [local irreducible] Runs WPE CallK Ret
variable {i:Nat} {w w0:World}
theorem els_at {es:List El} (h:i<es.length):8*i+8≤(es.map elc).flatten.length∧((es.map elc).flatten.drop (8*i)).take 8=elc (es.getD i el0):=by
 refine ⟨?_,by rw [zKn (zMX es) (by simpa using h),zMq h el0]⟩;rw [zEV (zMX es),List.length_map];omega
theorem map_take {rows es:List El} (h:i<es.length):(rows++es.take (i+1)).map elc=(rows++es.take i).map elc++[elc (es.getD i el0)]:=by
 rw [List.take_succ_eq_append_getElem h,← List.append_assoc,List.map_append,List.getD_eq_getElem?_getD,List.getElem?_eq_getElem h];rfl
theorem zMv {bb ab ac:Nat} {nd:Int} {ve:Value} {rows es:List El} (E0:Ext w w0) (hgbb:w.heap.size≤bb) (hB:Blk w0 bb 169 [.int .i64 (nd),ve,.slice none 0 0]) (hA:Blk w0 ab 119 (es.map elc).flatten) (hR:RowB 119 8 w.heap.size [ab] w0 ve (rows.map elc)) (hl:rows.length+es.length≤1000):CallK prog 108 #[.pointer (some ⟨bb,0,none⟩),.slice (some ⟨ab,0,none⟩) es.length ac] w0 (fun r w'=>r = .int .i64 (tops nd es)∧Ext w w'∧∃ ve',Blk w' bb 169 [.int .i64 (tops nd es),ve',.slice none 0 0]∧RowB 119 8 w.heap.size [ab] w' ve' ((rows++es).map elc)):=by
 refine zCu 49 func108 rfl rfl (Nat.le_of_ble_eq_true rfl) (rj fun K=>ag (rm [0,1] K ?_));refine zA (rJ fun K=>K1 (zI zDR rfl (mv (rm [0,7,8,9] K ?_))));refine zF (zg (X:=Nat) (fun i ρ w'=>∃ ve,Keep ρ [(0,.pointer (some ⟨bb,0,none⟩)),(7,.slice (some ⟨ab,0,none⟩) es.length ac),(8,.int .i64 (es.length:Nat)),(9,.int .i64 (i:Nat))]∧i≤es.length∧Ext w w'∧Blk w' bb 169 [.int .i64 (tops nd (es.take i)),ve,.slice none 0 0]∧Blk w' ab 119 (es.map elc).flatten∧RowB 119 8 w.heap.size [ab] w' ve ((rows++es.take i).map elc)) (fun i=>es.length-i) 0 ⟨_,(kp rfl),Nat.zero_le _,E0,hB,hA,by simpa using hR⟩ ?_);clear E0 hB hA hR;rintro i ρ1 w1 ⟨ve,hk,hil,E0,hB,hA,hR⟩;refine wpe_k _ hk ?_;clear hk ρ1;have ne_bb_ab:bb≠ab:=fun e=>by subst e;exact absurd (hB.inj hA).1 (by decide)
 refine rj fun K=>K8 rfl (rm [0,7,8,9,10] K ?_);refine zA ?_;refine K0 rfl ?_ ?_<;>intro hc
 · have hlt:i<es.length:=t_lt hc;clear hc;obtain ⟨he1,he2⟩:=els_at hlt;generalize hee:es.getD i el0=e at he2;refine sk (zA (zF (rj fun K=>K1 (zAW zDR rfl rfl hlt (K1 (zIe rfl rfl hA he1 he2 ?_))))));refine K1 (zV zero119 fun b1 w1 hb hE hB1 hs => ?_);have hgb1:w.heap.size≤b1:=by rw [hb];exact E0.size
   have ne_bb_b1:bb≠b1:=by have:=hB.lt;omega
   have ne_ab_b1:ab≠b1:=by have:=hA.lt;omega
   replace hR:=hR.new (y:=b1) (Nat.le_of_eq hb.symm);replace E0:=E0.trans hE;replace hB:=hB.ext hE;replace hA:=hA.ext hE;replace hR:=hR.ext hE;clear hE hs hb;refine K1 (zc size119 rfl hB1 rfl (Nat.le_of_ble_eq_true rfl) (by decide) rfl fun w2 hU hN => ?_);replace E0:=E0.upd hU hgb1;replace hR:=hR.updX hU (by simp);replace hB:=hB.upd hU ne_bb_b1;replace hA:=hA.upd hU ne_ab_b1;clear hB1;have hB1:=hN;clear hN hU;replace hB1:Blk _ b1 119 (elc e):=hB1;refine rm [0,6,7,8,9] K ?_
   refine zA (wpe_tailM 0 8 [([(0,none)],none),([(0,none)],none),([(14,some 0)],none),([(15,some 0)],none),([(16,some 0)],none),([(17,some 0)],none),([(6,none)],none),([(19,some 0)],none)] mixed (by kernel_rfl) (by kernel_rfl) (by kernel_rfl) (by kernel_rfl) (by kernel_rfl) (by kernel_rfl) fun K hK=>dvp (fun σ wx hE hk=>zC ⟨Ext.refl _,hk.1⟩) (dvp (fun σ wx hE hk=>zC ⟨Ext.refl _,hk.1⟩) (dvp (fun σ wx hE hk=>zAy hk.1 ⟨Ext.refl _,rfl⟩) (dvp (fun σ wx hE hk=>zB zEj hk.1 ⟨Ext.refl _,rfl⟩) (dvp (fun σ wx hE hk=>zB zCH hk.1 ⟨Ext.refl _,rfl⟩) (dvp (fun σ wx hE hk=>zD zCV hk.1 (hB.ext hE) rfl ⟨Ext.refl _,rfl⟩) (dvp (fun σ wx hE hk=>zX zJK hk.1 (hB1.ext hE) (Nat.le_of_ble_eq_true rfl) ⟨Ext.refl _,rfl⟩) (dcp (fun v w'=>zBL 119 0 (elc e) v w') (fun _ _ _ _ hx h=>h.ext hx.toExt) (fun σ wx hE hk=>zCP hk.1 fun v w2 hX h=>⟨hX,h.le (Nat.zero_le _)⟩) (zAi (hK _ fun wq hE => ?_))))))))));rintro _ rfl _ rfl _ rfl _ rfl _ rfl _ rfl _ rfl v20 N20;refine zh ?_;replace E0:=E0.trans hE;replace hB:=hB.ext hE;replace hA:=hA.ext hE;replace hR:=hR.ext hE;replace hB1:=hB1.ext hE;clear hE;refine K1 (zCO row79 rfl hR N20 (zGL _) rfl (by rw [List.length_map,List.length_append,List.length_take];omega) E0.size (all2 hB1.lt hA.lt) fun v21 w3 hN hR2 => ?_)
   replace E0:=hN.ext _ (Nat.le_refl _) E0;replace hB:=hN.blk _ _ _ (.inr (.inr (by decide))) hB;replace hA:=hN.blk _ _ _ (.inr (.inl (by simp))) hA;replace hB1:=hN.blk _ _ _ (.inr (.inl (by simp))) hB1;clear hR;have hR:=hR2;clear hR2 hN N20;obtain ⟨p21,c21,rfl⟩:=hR.form;refine K1 (zAy rfl (K1 (zB zEj rfl (K1 (zB zCH rfl (K1 (zc zIb rfl hB rfl (Nat.le_of_ble_eq_true rfl) (by decide) rfl fun w3 hU hN => ?_)))))));replace E0:=E0.upd hU hgbb;replace hA:=hA.upd hU (Ne.symm ne_bb_ab);replace hR:=hR.upd hU hB (by decide);replace hB1:=hB1.upd hU (Ne.symm ne_bb_b1);clear hB;have hB:=hN;clear hN hU;refine zCh (zM (K5 [0,6,7,8,9] ?_))
   refine zFj 15 [([(0,none)],none),([(0,none)],none),([(26,some 0)],none),([(27,some 0)],none),([(28,some 0)],none),([(29,some 0)],none),([(6,none)],none),([(31,some 0)],none),([(6,none)],none),([(33,some 0)],none),([(6,none)],none),([(35,some 0)],none),([(6,none)],none),([(37,some 0)],none),([(30,some 8),(32,some 6),(34,some 4),(36,some 2),(38,some 0)],none)] mixed (by kernel_rfl) (by kernel_rfl) (by kernel_rfl) (by kernel_rfl) (by kernel_rfl) fun K hK=>dvp (fun σ wx hE hk=>zC ⟨Ext.refl _,hk.1⟩) (dvp (fun σ wx hE hk=>zC ⟨Ext.refl _,hk.1⟩) (dvp (fun σ wx hE hk=>zAy hk.1 ⟨Ext.refl _,rfl⟩) (dvp (fun σ wx hE hk=>zB zEj hk.1 ⟨Ext.refl _,rfl⟩) (dvp (fun σ wx hE hk=>zB zFQ hk.1 ⟨Ext.refl _,rfl⟩) (dvp (fun σ wx hE hk=>zD zAe hk.1 (hB.ext hE) rfl ⟨Ext.refl _,rfl⟩) (dvp (fun σ wx hE hk=>zB fo119_1 hk.1 ⟨Ext.refl _,rfl⟩) (dvp (fun σ wx hE hk=>zD zAe hk.1 (hB1.ext hE) rfl ⟨Ext.refl _,rfl⟩) (dvp (fun σ wx hE hk=>zB fo119_2 hk.1 ⟨Ext.refl _,rfl⟩) (dvp (fun σ wx hE hk=>zD zAe hk.1 (hB1.ext hE) rfl ⟨Ext.refl _,rfl⟩) (dvp (fun σ wx hE hk=>zB fo119_3 hk.1 ⟨Ext.refl _,rfl⟩) (dvp (fun σ wx hE hk=>zD zAe hk.1 (hB1.ext hE) rfl ⟨Ext.refl _,rfl⟩) (dvp (fun σ wx hE hk=>zB fo119_4 hk.1 ⟨Ext.refl _,rfl⟩) (dvp (fun σ wx hE hk=>zD zAe hk.1 (hB1.ext hE) rfl ⟨Ext.refl _,rfl⟩) ?_)))))))))))))
   refine dvp (fun σ wx hE hk=>runs_max5 hk.1 hk.2.1 hk.2.2.1 hk.2.2.2.1 hk.2.2.2.2.1 ⟨Ext.refl _,rfl⟩) (zAi (hK _ fun wq hE => ?_));rintro _ rfl _ rfl _ rfl _ rfl _ rfl _ rfl _ rfl _ rfl _ rfl _ rfl _ rfl _ rfl _ rfl _ rfl _ rfl;refine zh ?_;replace E0:=E0.trans hE;replace hB:=hB.ext hE;replace hA:=hA.ext hE;replace hR:=hR.ext hE;replace hB1:=hB1.ext hE;clear hE;refine K1 (zAy rfl (K1 (zB zEj rfl (K1 (zB zFQ rfl (K1 (zc size3 rfl hB rfl (Nat.le_of_ble_eq_true rfl) (by decide) rfl fun w4 hU hN => ?_)))))));replace E0:=E0.upd hU hgbb;replace hA:=hA.upd hU (Ne.symm ne_bb_ab);replace hR:=hR.upd hU hB (by decide);replace hB1:=hB1.upd hU (Ne.symm ne_bb_b1);clear hB;have hB:=hN;clear hN hU;replace hB:Blk _ bb 169 [.int .i64 (topE (tops nd (es.take i)) e),.slice p21 _ c21,.slice none 0 0]:=hB;refine zCh (zR (zM (K5 [0,7,8,9] ?_)));refine K6 fun K=>K8 rfl (mv (rl K (zO (⟨rfl,i+1,⟨.slice p21 ((rows++es.take i).map elc++[elc e]).length c21,⟨rfl,rfl,rfl,rfl,rfl,rfl,rfl,congrArg (Value.int .i64) (zr (by omega)),trivial⟩,by omega,E0,?_,hA,?_⟩,by omega⟩))))
   · rw [tops_take hlt,hee];exact hB
   · rw [map_take hlt,hee];exact hR.sub (by simp)
 · have hge:=f_lt hc;obtain rfl:i=es.length:=by omega
   clear hc;rw [List.take_length] at hB hR;refine zY (zx (zl (zL (zM (rJ fun K=>K1 (zAy rfl (K1 (zB zEj rfl (K1 (zB zFQ rfl (K1 (zD zAe rfl hB rfl (ag (rm [0,4,7,8,9] K ?_))))))))))))));exact zE (zQ ⟨rfl,_,zj rfl rfl,rfl,E0,_,hB,hR⟩)
end Go.Proofs.YtjiendlfobjanaaGreatDoor
namespace Go.Proofs.YtjiendlfobjanaaGreatDoor
open Go Go.RowKit Go.Proofs Tryz Go.Shelf Go.Sort
end Go.Proofs.YtjiendlfobjanaaGreatDoor
namespace Go.Proofs.YtjiendlfobjanaaGreatDoor
variable {B a b:Nat} {s:Bool}
theorem zJi (hb:b≠0) (ha:a<B) (hb1:b<B):(qOf s a b).num.natAbs<B∧(qOf s a b).den<B:=by
 rw [zGa hb,zHz hb];exact ⟨Nat.lt_of_le_of_lt (Nat.div_le_self _ _) ha,Nat.lt_of_le_of_lt (Nat.div_le_self _ _) hb1⟩
def Qt (a:Nat) (w:Rat):Prop:=∃ D z:Int,D≠0∧w*D=z∧D.natAbs≤2^a∧z.natAbs≤2^a
theorem qt_sz {w:Rat} (h:Qt a w):sz w≤2*(a+1):=by
 obtain ⟨D,z,h1,h2,h3,h4⟩:=h;exact sz_of h1 h2 (by rw [Nat.pow_succ];omega) (by rw [Nat.pow_succ];omega)
theorem qt_mono {w:Rat} (h:Qt a w) (hab:a≤b):Qt b w:=by
 obtain ⟨D,z,h1,h2,h3,h4⟩:=h;have:=Nat.pow_le_pow_right (show 0<2 by decide) hab;exact ⟨D,z,h1,h2,by omega,by omega⟩
theorem qt_inv {w:Rat} (hw:w≠0) (h:Qt a w):Qt a (1/w):=by
 obtain ⟨D,z,h1,h2,h3,h4⟩:=h;have hD:=ne_cast h1;have hz:(z:Rat)≠0:=by rw [← h2];intro e;rcases Rat.mul_eq_zero.1 e with e | e<;>contradiction
 exact ⟨z,D,fun e=>hz (by rw [e];rfl),by rw [← h2];grind,h4,h3⟩
end Go.Proofs.YtjiendlfobjanaaGreatDoor
namespace Go.Proofs.YtjiendlfobjanaaGreatDoor
open Go Go.RowKit Go.Proofs Tryz
set_option maxRecDepth 10000
set_option maxHeartbeats 2000000
attribute [local irreducible] Runs WPE CallK Ret
variable {af:Array Edge} {cap i ix:Nat} {cv v:Value} {f:FuncId} {g:Option (Nat×Bool)} {l:List Rat} {p:Option Addr} {pos:String} {r:Option Nat} {ty:TypeId} {w w':World} {x:Operand} {σ:Operand→Value}
theorem rsign_le (x:Rat):rsign x≤0↔¬ 0<x:=by
 by_cases h0:x=0
 · subst h0;decide
 · rcases rsign_cases h0 with ⟨h1,h2⟩ | ⟨h1,h2⟩
   · rw [h2];exact ⟨fun e=>by omega,fun e=>absurd h1 e⟩
   · rw [h2];exact ⟨fun _=>by grind,fun _=>by decide⟩
theorem above1_ok {x:Rat} (hx:IsNum w v x):Ret prog 190 #[v] w (fun r _=>r = .bool (decide (¬ 0<x))):=by
 have hx0:=hx;obtain ⟨xn,xd,rfl,hxn,hxd⟩:=hx0;refine J0 6 func190 rfl (rj fun K => ?_);refine K1 (zt fun b1 w1 hb hE hB1 hs => ?_);have hgb1:w.heap.size≤b1:=by rw [hb];exact E0.size
 replace E0:=E0.trans hE;replace hx:=hx.ext hE;clear hE hs hb;refine ag (rm [1] K ?_);refine zA ?_;have hNX:NumAt b1 x _:=⟨_,hB1,rfl,hx⟩;refine K6 fun K=>K1 (za rfl hNX fun v3 N3=>K1 (j0 E0 hb19 (Sign_ok N3) fun vi w2 E0 hr => ?_));subst hr;refine K8 rfl (ag (rs [2] K ?_));exact zE (en rfl E0 (congrArg Value.bool (decide_eq_decide.2 (by rw [rsign_le]))))
def PRA (w:World) (p:Option Addr) (l:List Rat):Prop:=∀ i,i<l.length→∃ b o T cs,p=some ⟨b,o,none⟩∧Blk w b T cs∧o+3*i+3≤cs.length∧IsNum w (.agg ((cs.drop (o+3*i)).take 3).toArray) (l.getD i 0)
theorem PRA.ext (h:PRA w p l) (hx:Ext w w'):PRA w' p l:=fun i hi=>by
 obtain ⟨b,o,T,cs,h1,h2,h3,h4⟩:=h i hi;exact ⟨b,o,T,cs,h1,h2.ext hx,h3,h4.ext hx⟩
def zJd (w:World) (v:Value) (l:List Rat):Prop:=∃ p cap,v = .slice p l.length cap∧l.length≤cap∧PRA w p l∧l.length≤4096
section laws
variable {K:Value→World→Prop} {d:Option Tmp}
theorem runs_ploadA (hP:PRA w p l) (hi:i<l.length) (hx:σ x = .pointer (p.map fun a=>a.add (3*i))) (hk:∀ v,IsNum w v (l.getD i 0)→K v w):Runs prog r ⟨d,.load 37 x,ty,pos,af,g⟩ σ w K:=by
 obtain ⟨b,o,T,cs,h1,h2,h3,h4⟩:=hP i hi;rw [h1] at hx;exact zAo (o:=o+3*i) (by rw [hx];simp [zAa]) h2 h3 h4 hk
theorem runs_pindexA {i:Operand} {k:IntKind} (hP:PRA w p l) (hx:σ x = .slice p l.length cap) (hi:σ i = .int k (ix:Int)) (h1:ix<l.length) (hk:K (.pointer (p.map fun a=>a.add (3*ix))) w):Runs prog r ⟨d,.indexAddr 25 x i,ty,pos,af,g⟩ σ w K:=by
 obtain ⟨b,o,T,cs,e1,h2,h3,h4⟩:=hP ix h1;subst e1;refine zG zAB hx hi (by omega) (by omega) ?_;rw [show o+((ix:Nat):Int).toNat*3=o+3*ix from by omega];simpa [zAa] using hk
end laws
theorem drop_consP0 {l:Poly} (h:i<l.length):l.drop i=l.getD i 0 :: l.drop (i+1):=by
 rw [List.drop_eq_getElem_cons h];simp [h]
theorem IndexN_ok {c:Poly} {pr:Rat→Bool} (hc:zJd w cv c) (hf:zAs prog f) (hsig:∀ i,i<c.length→∀ (w':World) (v:Value),Ext w w'→IsNum w' v (c.getD i 0)→Ret prog f #[v] w' (fun u _=>u = .bool (pr (c.getD i 0)))):Ret prog 265 #[cv,.func (.func f) #[] #[]] w (fun u _=>u = .int .i64 (idxL pr c 0)):=by
 obtain ⟨cp,cc,rfl,hcc,hC,hcl⟩:=hc;have E0:Ext w w:=Ext.refl w;refine J0 19 func265 rfl (rj fun K=>ag (rm [0,1] K ?_));refine zA (rJ fun K=>K1 (zI zAB rfl (mv (rm [0,1,7,8] K ?_))));refine zF (zg (X:=Nat) (fun i ρ w'=>Keep ρ [(0,.slice cp c.length cc),(1,.func (.func f) #[] #[]),(7,.int .i64 (c.length:Nat)),(8,.int .i64 (i:Nat))]∧i≤c.length∧Ext w w'∧idxL pr (c.drop i) i=idxL pr c 0) (fun i=>c.length-i) 0 ⟨(kp rfl),Nat.zero_le _,E0,rfl⟩ ?_);clear E0;rintro i ρ1 w1 ⟨hk,hil,E0,hI⟩;refine wpe_k _ hk ?_;clear hk ρ1;refine rj fun K=>K8 rfl (rm [0,1,7,8,9] K ?_);refine zA ?_;refine K0 rfl ?_ ?_<;>intro hc
 · have hlt:i<c.length:=t_lt hc;clear hc;have hC1:=hC.ext E0;rw [drop_consP0 (by omega),idxL] at hI;refine sk (zA (zF (rJ fun K=>ag (rm [0,1,5,7,8] K ?_))));refine rJ fun K=>mv (mv (K1 (runs_pindexA (l:=c) hC1 rfl rfl hlt (K1 (runs_ploadA hC1 hlt rfl fun v15 N15=>K1 (zBm rfl hf (CallK.of_ret (hsig i hlt _ v15 E0 N15) fun v19 w2 hE hr => ?_)))))));subst hr;replace E0:=E0.trans hE;clear hE N15 hC1;refine rm [0,1,5,7,8,16] K ?_;refine K0 rfl ?_ ?_<;>intro hc
   · have hcc2:pr (c.getD i 0)=true:=hc;clear hc;rw [if_pos hcc2] at hI;refine rJ fun K=>ag (rm [0,1,4,7,8] K ?_);refine zE (zZ (zU (zAI (zZ (zU (zQ ?_))))));exact ⟨rfl,_,zj rfl rfl,E0,by rw [← hI];rfl⟩
   · have hcc2:pr (c.getD i 0)=false:=hc;clear hc;rw [if_neg (by rw [hcc2];decide)] at hI;exact zp (zR (zM (K6 fun K=>K8 rfl (mv (rl K (zO (⟨rfl,i+1,⟨⟨rfl,rfl,rfl,rfl,rfl,rfl,rfl,congrArg (Value.int .i64) (zr (by omega)),trivial⟩,by omega,E0,hI⟩,by omega⟩)))))))
 · have hge:=f_lt hc;obtain rfl:i=c.length:=by omega
   clear hc;rw [List.drop_eq_nil_of_le (by omega),idxL] at hI;refine zY (zx (zl (zL (zM (rj fun K=>ag (rm [0,1,4,7,8] K ?_))))));refine zE (zQ ?_);exact ⟨rfl,_,zj rfl rfl,E0,by rw [← hI];rfl⟩
theorem ContainsN_ok {c:Poly} {pr:Rat→Bool} (hc:zJd w cv c) (hf:zAs prog f) (hsig:∀ i,i<c.length→∀ (w':World) (v:Value),Ext w w'→IsNum w' v (c.getD i 0)→Ret prog f #[v] w' (fun u _=>u = .bool (pr (c.getD i 0)))):Ret prog 189 #[cv,.func (.func f) #[] #[]] w (fun u _=>u = .bool (c.any pr)):=by
 refine J0 9 func189 rfl (rj fun K=>ag (rm [0,1] K ?_));refine rJ fun K=>mv (K1 (j0 E0 hb265 (IndexN_ok hc hf hsig) fun vi w2 E0 hr => ?_));subst hr;refine K8 rfl (ag (rm [4] K ?_));refine zE (zQ ?_);exact ⟨rfl,_,zj rfl rfl,E0,congrArg Value.bool (by
  rcases @zFC _ pr c 0 with ⟨e1,e2⟩ | ⟨e1,e2,e3⟩
  · rw [e2];exact decide_eq_false (by omega)
  · rw [e3];exact decide_eq_true (by omega))⟩
theorem above_okA {p:Poly} (hp:zJd w v p):Ret prog 99 #[v] w (fun u _=>u = .bool (!(p.any fun x=>decide (¬ 0<x)))):=by
 refine J0 6 func99 rfl (rj fun K=>ag (rm [0] K ?_));refine rJ fun K=>K1 (j0 E0 hb189 (ContainsN_ok (pr:=fun x=>decide (¬ 0<x)) hp hb190 fun i hi w2 v hE hv=>above1_ok hv) fun vi w2 E0 hr => ?_);subst hr;refine K1 (zq rfl (ag (rm [2] K ?_)));exact zE (en rfl E0 rfl)
end Go.Proofs.YtjiendlfobjanaaGreatDoor
