/-
  A part of the proof: MapC, W13, W14, W15, Poly, W16, Poly2, Range, RangeM, RangeX, MapI, W95, W96, W97, W101, W102, W103, W104, W105, W106, W107, W17, W18, W19, W20, W98, AppE, W21, W22.
-/
import Derived.Test.YtjiendlfobjanaaGreatDoorH02
import Derived.DeepKeys4
import Derived.Laws.Cover3
import Derived.Maps.RangeRun
import Derived.RangeFuncKeeps
import Derived.RangeFuncLeaves
namespace Go.Proofs.YtjiendlfobjanaaGreatDoor
open Go Go.RowKit Go.Proofs Tryz
set_option maxRecDepth 10000
variable {P:Program} {af:Array Edge} {b c n:Nat} {ds:List Nat} {g:Option (Nat×Bool)} {m:List (List Nat×Rat)} {p:Option Addr} {pos:String} {q:Rat} {r:Option Nat} {ty:TypeId} {v:Value} {w w':World} {x y:Operand} {σ:Operand→Value}
section
theorem laidOutT:laidOutB prog=true:=by kernel_rfl
theorem zNY:prog.underlying 303=some (.array 8 3):=by kernel_rfl
theorem und3:prog.underlying 3=some (.int .i64):=by kernel_rfl
theorem zIX:prog.underlying 299=some (.map 303 37):=by kernel_rfl
theorem row303:(303:TypeId)<prog.types.size:=of_decide_eq_true (by kernel_rfl)
theorem zLZ:prog.cellsOf 303=8:=by kernel_rfl
theorem cells3:prog.cellsOf 3=1:=by kernel_rfl
theorem wide303:(match prog.underlying 303 with | some (.array _ _) | some (.struct _)=>true | _=>false)=true:=by kernel_rfl
theorem zGy:WideMaps.KeyLaw prog 303:=deep_law_laid laidOutT (m:=2) (by omega) row303 (by kernel_rfl) wide303
theorem kty303:prog.keyType 303=true:=by kernel_rfl
def pk (l:List Nat):Value := .agg (l.map fun (n:Nat)=>Value.int .i64 ((n:Nat):Int)).toArray
def Pw (l:List Nat):Prop:=l.length=8∧∀ x∈l,x<4611686018427387904
theorem lit_wf (h:n<4611686018427387904):(Lit.int .i64 (n:Int)).wf=true:=by
 simp [Lit.wf,IntKind.min,IntKind.max,IntKind.bits,IntKind.signed];omega
theorem lits3 (d:Nat) (h:n<4611686018427387904):prog.keyLits (d+1) 3 [Value.int .i64 (n:Int)]=some [.int .i64 (n:Int)]:=by
 simp [Program.keyLits,und3,lit_wf h]
theorem zKe {l:List Nat} (h:Pw l):∃ k,keyOf prog 303 (pk l)=some k:=by
 obtain ⟨hl,hb⟩:=h
 match l,hl with
 | [a,b,c,d,e,f,g,i],_ =>
  have w1:=lits3 469 (hb a (by simp));have w2:=lits3 469 (hb b (by simp));have w3:=lits3 469 (hb c (by simp));have w4:=lits3 469 (hb d (by simp));have w5:=lits3 469 (hb e (by simp));have w6:=lits3 469 (hb f (by simp));have w7:=lits3 469 (hb g (by simp));have w8:=lits3 469 (hb i (by simp));unfold keyOf;rw [zNY];simp only [kty303,pk,Value.formed,zNY,zLZ,Value.cells,Program.keyLits,List.map_cons,List.map_nil,cells3];simp only [Nat.reduceAdd] at w1 w2 w3 w4 w5 w6 w7 w8;simp [w1,w2,w3,w4,w5,w6,w7,w8,List.range,List.range.loop,Value.formed,zNY,zLZ]
theorem zLt {l m:List Nat} (h:pk l=pk m):l=m:=by
 unfold pk at h;injection h with h
 have h:=congrArg Array.toList h;simp at h;exact List.map_inj_right (f:=fun (n:Nat)=>Value.int .i64 ((n:Nat):Int)) (fun a b e=>by injection e with _ e;omega) |>.1 h
def Ents (w:World):List MapEntry→List (List Nat×Rat)→Prop
 | [],[]=>True
 | e :: es,p :: m=>(e.key=pk p.1∧Pw p.1∧IsNum w e.val p.2)∧Ents w es m
 | _,_=>False
def IsMap (w:World) (b:Nat) (m:List (List Nat×Rat)):Prop :=
 ∃ (es:List MapEntry) (c:Nat),w.heap[b]? = some (.map ⟨es⟩ c)∧Ents w es m∧(m.map (·.1)).Nodup∧(es.map (·.born)).Nodup∧∀ e∈es,e.born<c
variable {es:List MapEntry} {k:List Nat}
theorem Ents.mono (hx:∀ v q,IsNum w v q→IsNum w' v q):∀ {es:List MapEntry} {m:List (List Nat×Rat)},Ents w es m→Ents w' es m
 | [],[],_=>trivial
 | _ :: _,_ :: _,h=>⟨⟨h.1.1,h.1.2.1,hx _ _ h.1.2.2⟩,Ents.mono hx h.2⟩
theorem Ents.len:∀ {es:List MapEntry} {m:List (List Nat×Rat)},Ents w es m→es.length=m.length
 | [],[],_=>rfl
 | _ :: _,_ :: _,h=>congrArg (· + 1) (Ents.len h.2)
theorem Ents.get:∀ {es:List MapEntry} {m:List (List Nat×Rat)} {j:Nat} {e:MapEntry},Ents w es m→es[j]? = some e→∃ p,m[j]? = some p∧e.key=pk p.1∧Pw p.1∧IsNum w e.val p.2
 | _ :: _,p :: _,0,e,h,he=>by
  cases he;exact ⟨p,rfl,h.1⟩
 | _ :: _,_ :: _,j+1,e,h,he=>Ents.get (j:=j) h.2 he
theorem Ents.key:∀ {es:List MapEntry} {m:List (List Nat×Rat)},Ents w es m→∀ e∈es,∃ l,keyOf prog 303 e.key=some l:=fun h e he=>by
 obtain ⟨j,hj⟩:=List.getElem?_of_mem he;obtain ⟨p,_,h2,h3,_⟩:=h.get hj;rw [h2];exact zKe h3
theorem Ents.has:∀ {es:List MapEntry} {m:List (List Nat×Rat)},Ents w es m→∀ p∈m,∃ e∈es,e.key=pk p.1
 | [],[],_,p,hp=>by cases hp
 | e :: _,_ :: _,h,p,hp=>by
  rcases List.mem_cons.1 hp with rfl | hp
  · exact ⟨e,List.mem_cons_self,h.1.1⟩
  · obtain ⟨e',h1,h2⟩:=Ents.has h.2 p hp;exact ⟨e',List.mem_cons_of_mem _ h1,h2⟩
theorem Ents.set {e:MapEntry} {p:List Nat×Rat} (he:e.key=pk p.1∧Pw p.1∧IsNum w e.val p.2):∀ {es:List MapEntry} {m:List (List Nat×Rat)} {j:Nat},Ents w es m→Ents w (es.set j e) (m.set j p)
 | [],[],_,_=>trivial
 | _ :: _,_ :: _,0,h=>⟨he,h.2⟩
 | _ :: _,_ :: _,j+1,h=>⟨h.1,Ents.set he (j:=j) h.2⟩
theorem Ents.push {e:MapEntry} {p:List Nat×Rat} (he:e.key=pk p.1∧Pw p.1∧IsNum w e.val p.2):∀ {es:List MapEntry} {m:List (List Nat×Rat)},Ents w es m→Ents w (es++[e]) (m++[p])
 | [],[],_=>⟨he,trivial⟩
 | _ :: _,_ :: _,h=>⟨h.1,Ents.push he h.2⟩
theorem Ents.erase:∀ {es:List MapEntry} {m:List (List Nat×Rat)} {j:Nat},Ents w es m→Ents w (es.eraseIdx j) (m.eraseIdx j)
 | [],[],_,_=>trivial
 | _ :: _,_ :: _,0,h=>h.2
 | _ :: _,_ :: _,j+1,h=>⟨h.1,Ents.erase (j:=j) h.2⟩
def mget (m:List (List Nat×Rat)) (k:List Nat):Rat:=((m.find? fun p=>p.1==k).map (·.2)).getD 0
def mset (m:List (List Nat×Rat)) (k:List Nat) (q:Rat):List (List Nat×Rat) :=
 match m.findIdx? fun p=>p.1==k with
 | some j=>m.set j (k,q)
 | none=>m++[(k,q)]
def mdel (m:List (List Nat×Rat)) (k:List Nat):List (List Nat×Rat) :=
 match m.findIdx? fun p=>p.1==k with
 | some j=>m.eraseIdx j
 | none=>m
theorem find_none (h:∀ p∈m,p.1≠k):m.findIdx? (fun p=>p.1==k)=none∧m.find? (fun p=>p.1==k)=none:=by
 constructor
 · rw [List.findIdx?_eq_none_iff];intro p hp;simpa using h p hp
 · rw [List.find?_eq_none];intro p hp;simpa using h p hp
theorem zHp:∀ {m:List (List Nat×Rat)} {j:Nat} {p:List Nat×Rat},(m.map (·.1)).Nodup→m[j]? = some p→m.findIdx? (fun x=>x.1==p.1)=some j∧m.find? (fun x=>x.1==p.1)=some p
 | a :: m,0,p,_,h=>by
  cases h;simp [List.findIdx?_cons]
 | a :: m,j+1,p,hn,h=>by
  rw [List.map_cons,List.nodup_cons] at hn;have h:m[j]? = some p:=h;obtain ⟨h1,h2⟩:=zHp hn.2 h;have hne:(a.1==p.1)=false:=by
   rw [beq_eq_false_iff_ne];intro e;exact hn.1 (e ▸ List.mem_map.2 ⟨p,List.mem_of_getElem? h,rfl⟩)
  rw [List.findIdx?_cons,List.find?_cons,hne];simp only [h1,h2,Option.map_some,Bool.false_eq_true,if_false];exact ⟨trivial,trivial⟩
theorem IsMap.find (h:Ents w es m) (hn:(m.map (·.1)).Nodup) (hk:Pw k) :
 ((Instr.findKey 303 (pk k) es).run prog w = .ok none w∧m.findIdx? (fun p=>p.1==k)=none∧m.find? (fun p=>p.1==k)=none) ∨
 ∃ j e q,(Instr.findKey 303 (pk k) es).run prog w = .ok (some (j,e.val)) w∧es[j]? = some e∧e.key=pk k∧IsNum w e.val q∧m[j]? = some (k,q)∧m.findIdx? (fun p=>p.1==k)=some j∧m.find? (fun p=>p.1==k)=some (k,q):=by
 obtain ⟨l,hl⟩:=zKe hk;rcases zGy.find w hl es h.key with ⟨h1,h2⟩ | ⟨j,e,h1,h2,h3⟩
 · refine .inl ⟨h1,find_none fun p hp e => ?_⟩;obtain ⟨e',g1,g2⟩:=h.has p hp;exact h2 e' g1 (by rw [g2,e])
 · obtain ⟨p,g1,g2,g3,g4⟩:=h.get h2;have he:p.1=k:=zLt (g2.symm.trans h3);obtain ⟨p1,p2⟩:=p;cases he;exact .inr ⟨j,e,p2,h1,h2,h3,g4,g1,(zHp hn g1).1,(zHp hn g1).2⟩
def zDu (w:World) (b:Nat) (es:List MapEntry) (c:Nat):World:={ w with heap:=w.heap.setIfInBounds b (.map ⟨es⟩ c) }
variable {c':Nat} {es':List MapEntry}
theorem zCy (h:w.heap[b]? = some (.map ⟨es⟩ c)):Upd b w (zDu w b es' c') :=
 ⟨rfl,rfl,rfl,by simp [zDu],fun k hk=>by simp [zDu,Ne.symm hk],fun T cs h'=>by unfold Blk at h';rw [h] at h';cases h'⟩
theorem zGL (h:w.heap[b]? = some (.map ⟨es⟩ c)):(zDu w b es' c').heap[b]? = some (.map ⟨es'⟩ c'):=by
 have hb:=(Array.getElem?_eq_some_iff.1 h).1;simp [zDu,hb]
theorem Rd.updM (h:Rd w p ds) (hu:Upd b w w') (hb:w.heap[b]? = some (.map ⟨es⟩ c)):Rd w' p ds:=fun i hi=>by
 obtain ⟨c',o,cs',h1,h2,h3⟩:=h i hi;refine ⟨c',o,cs',h1,h2.upd hu (fun e => ?_),h3⟩;subst e;unfold Blk at h2;rw [hb] at h2;cases h2
theorem IsW.updM (h:IsW w v n) (hu:Upd b w w') (hb:w.heap[b]? = some (.map ⟨es⟩ c)):IsW w' v n:=by
 obtain ⟨p,ds,cap,h1,h2,h3,h4,h5⟩:=h;exact ⟨p,ds,cap,h1,h2,h3.updM hu hb,h4,h5⟩
theorem IsNum.updM (h:IsNum w v q) (hu:Upd b w w') (hb:w.heap[b]? = some (.map ⟨es⟩ c)):IsNum w' v q:=by
 obtain ⟨n,d,hv,h1,h2⟩:=h;exact ⟨n,d,hv,h1.updM hu hb,h2.updM hu hb⟩
theorem IsMap.ext (h:IsMap w b m) (hx:Ext w w'):IsMap w' b m:=by
 obtain ⟨es,c,h1,h2,h3⟩:=h;have hb:=(Array.getElem?_eq_some_iff.1 h1).1;exact ⟨es,c,by rw [hx.block b hb];exact h1,h2.mono fun _ _ k=>k.ext hx,h3⟩
theorem IsMap.new (h:w.heap[b]? = some (.map #[] 0)):IsMap w b []:=⟨[],0,h,trivial,List.nodup_nil,List.nodup_nil,fun _ h=>by cases h⟩
variable {d:Option Tmp} {K:Value→World→Prop}
theorem runs_makeMap {t:TypeId} (hk:∀ b w',b=w.heap.size→Ext w w'→w'.heap[b]? = some (.map #[] 0)→w'.heap.size=b+1→K (.map (some b)) w') :
 Runs P r ⟨d,.makeMap t none,ty,pos,af,g⟩ σ w K:=by
 refine zAb (fun _ e=>by cases e) (v := .map (some w.heap.size)) (w':={ w with heap:=w.heap.push (.map #[] 0) }) ?_ ?_
 · simp [execOp,Instr.makeMap,newObj,Sem.run]
 · exact hk _ _ rfl (Ext.push _) (by simp) (by simp)
theorem zIK (hx:σ x = .map (some b)) (hy:σ y=pk k) (hp:Pw k) (hm:IsMap w b m) (hk:∀ v,IsNum w v (mget m k)→K v w) :
 Runs prog r ⟨d,.lookup 299 x y false,ty,pos,af,g⟩ σ w K:=by
 obtain ⟨es,c,h1,h2,h3,_⟩:=hm;obtain ⟨l,hl⟩:=zKe hp;rcases IsMap.find h2 h3 hp with ⟨f1,_,f3⟩ | ⟨j,e,q,f1,_,_,f4,_,_,f7⟩
 · refine zl (fun _ e=>by cases e) (v := .agg #[.bool false,.slice none 0 0,.slice none 0 0]) ?_ (hk _ ?_)
   · have hz:(zeroValue 37).run prog w = .ok (.agg #[.bool false,.slice none 0 0,.slice none 0 0]) w:=by
      have:=zAP;cases hi:prog.info? 37 with
      | none=>simp [hi] at this
      | some i=>simp [hi] at this;simp [zeroValue,typeInfo,hi,this]
     simp [execOp,Instr.lookup,hx,hy,run_underlying zIX,MapKept.run_getObj_map h1,zGy.check w _ hl,f1,hz,Result.andThen]
   · rw [mget,f3];exact IsNum.zero
 · refine zl (fun _ e=>by cases e) (v:=e.val) ?_ (hk _ ?_)
   · simp [execOp,Instr.lookup,hx,hy,run_underlying zIX,MapKept.run_getObj_map h1,zGy.check w _ hl,f1,Result.andThen]
   · rw [mget,f7];exact f4
theorem runs_mapUpdate {z:Operand} (hx:σ x = .map (some b)) (hy:σ y=pk k) (hp:Pw k) (hz:IsNum w (σ z) q) (hm:IsMap w b m) (hk:∀ w',Upd b w w'→(∀ v q,IsNum w v q→IsNum w' v q)→IsMap w' b (mset m k q)→K undef w') :
 Runs prog r ⟨d,.mapUpdate 299 x y z,ty,pos,af,g⟩ σ w K:=by
 obtain ⟨es,c,h1,h2,h3,h4,h5⟩:=hm;obtain ⟨l,hl⟩:=zKe hp;have hset:∀ es' c',(setObj b (.map ⟨es'⟩ c')).run prog w = .ok () (zDu w b es' c'):=fun es' c'=>MapKept.run_setObj_map _ h1;have hmono:∀ es' c' v q,IsNum w v q→IsNum (zDu w b es' c') v q:=fun es' c' v q h=>h.updM (zCy h1) h1;rcases IsMap.find h2 h3 hp with ⟨f1,f2,_⟩ | ⟨j,e,q0,f1,f2,f3,_,f5,f6,_⟩
 · refine zGk (fun _ e=>by cases e) (w':=zDu w b (es++[{ key:=pk k,val:=σ z,born:=c }]) (c+1)) ?_ (hk _ (zCy h1) (hmono _ _) ?_)
   · simp [execOp,Instr.mapUpdate,hx,hy,run_underlying zIX,MapKept.run_getObj_map h1,zGy.check w _ hl,f1,hset,Result.andThen]
   · refine ⟨_,_,zGL h1,?_,?_,?_,?_⟩
     · rw [mset,f2];exact Ents.push ⟨rfl,hp,hmono _ _ _ _ hz⟩ (h2.mono (hmono _ _))
     · rw [mset,f2];have hn:∀ p∈m,p.1≠k:=by
        rw [List.findIdx?_eq_none_iff] at f2;intro p hp e;have:=f2 p hp;simp [e] at this
       simp only [List.map_append,List.map_cons,List.map_nil];rw [List.nodup_append];refine ⟨h3,by simp,fun a ha a' ha' => ?_⟩;simp at ha';subst ha';obtain ⟨p,hp1,rfl⟩:=List.mem_map.1 ha;exact hn p hp1
     · simp only [List.map_append,List.map_cons,List.map_nil];rw [List.nodup_append];refine ⟨h4,by simp,fun a ha a' ha' => ?_⟩;simp at ha';subst ha';obtain ⟨e,he,rfl⟩:=List.mem_map.1 ha;have:=h5 e he;omega
     · intro e he;rcases List.mem_append.1 he with he | he
       · have:=h5 e he;omega
       · simp at he;subst he;exact Nat.lt_succ_self _
 · refine zGk (fun _ e=>by cases e) (w':=zDu w b (es.set j { e with key:=pk k,val:=σ z }) c) ?_ (hk _ (zCy h1) (hmono _ _) ?_)
   · have hmod:(es.modify j fun e=>{ e with key:=pk k,val:=σ z })=es.set j { e with key:=pk k,val:=σ z }:=by
      apply List.ext_getElem?;intro i;rw [List.getElem?_modify,List.getElem?_set];by_cases hij:j=i
      · subst hij;have hj:=(List.getElem?_eq_some_iff.1 f2).1;rw [if_pos rfl,if_pos hj,f2];simp
      · rw [if_neg hij];simp [hij]
     simp [execOp,Instr.mapUpdate,hx,hy,run_underlying zIX,MapKept.run_getObj_map h1,zGy.check w _ hl,f1,hset,Result.andThen,f2,f3,zGy.stays w hl,hmod]
   · have hm':m.set j (k,q)=mset m k q:=by rw [mset,f6]
     refine ⟨_,_,zGL h1,?_,?_,?_,?_⟩
     · rw [← hm'];exact Ents.set ⟨rfl,hp,hmono _ _ _ _ hz⟩ (h2.mono (hmono _ _))
     · rw [← hm',List.map_set];have:(m.map (·.1)).set j k=m.map (·.1):=by
        apply List.ext_getElem?;intro i;rw [List.getElem?_set];by_cases hij:j=i
        · subst hij;have hj:=(List.getElem?_eq_some_iff.1 f5).1;rw [if_pos rfl,if_pos (by simpa using hj),List.getElem?_map,f5];rfl
        · rw [if_neg hij]
       rw [this];exact h3
     · have:(es.set j { e with key:=pk k,val:=σ z }).map (·.born)=es.map (·.born):=by
        rw [List.map_set];apply List.ext_getElem?;intro i;rw [List.getElem?_set];by_cases hij:j=i
        · subst hij;have hj:=(List.getElem?_eq_some_iff.1 f2).1;rw [if_pos rfl,if_pos (by simpa using hj),List.getElem?_map,f2];rfl
        · rw [if_neg hij]
       rw [this];exact h4
     · intro e' he';rcases List.mem_or_eq_of_mem_set he' with h | rfl
       · exact h5 _ h
       · exact h5 e (List.mem_of_getElem? f2)
theorem zHw {α β:Type} (f:α→β):∀ (l:List α) (j:Nat),(l.eraseIdx j).map f=(l.map f).eraseIdx j
 | [],_=>rfl
 | _ :: _,0=>rfl
 | a :: l,j+1=>congrArg (f a :: ·) (zHw f l j)
theorem runs_delete (hx:σ x = .map (some b)) (hy:σ y=pk k) (hp:Pw k) (hm:IsMap w b m) (hk:∀ w',Upd b w w'→(∀ v q,IsNum w v q→IsNum w' v q)→IsMap w' b (mdel m k)→K (.tuple #[]) w') :
 Runs prog r ⟨d,.call { callee := .builtin .delete,args := #[x,y],argTypes := #[299,303] },ty,pos,af,g⟩ σ w K:=by
 obtain ⟨es,c,h1,h2,h3,h4,h5⟩:=hm;obtain ⟨l,hl⟩:=zKe hp;have hset:∀ es' c',(setObj b (.map ⟨es'⟩ c')).run prog w = .ok () (zDu w b es' c'):=fun es' c'=>MapKept.run_setObj_map _ h1;have hmono:∀ es' c' v q,IsNum w v q→IsNum (zDu w b es' c') v q:=fun es' c' v q h=>h.updM (zCy h1) h1;rcases IsMap.find h2 h3 hp with ⟨f1,f2,_⟩ | ⟨j,e,q0,f1,f2,f3,_,f5,f6,_⟩
 · refine zAb (fun _ e=>by cases e) (w':=zDu w b es c) (v := .tuple #[]) ?_ (hk _ (zCy h1) (hmono _ _) ?_)
   · simp [execOp,resolve,hx,hy,invoke,builtin,Builtin.delete_,run_underlying zIX,MapKept.run_getObj_map h1,zGy.check w _ hl,f1,hset,Result.andThen]
   · rw [mdel,f2];exact ⟨_,_,zGL h1,h2.mono (hmono _ _),h3,h4,h5⟩
 · refine zAb (fun _ e=>by cases e) (w':=zDu w b (es.eraseIdx j) c) (v := .tuple #[]) ?_ (hk _ (zCy h1) (hmono _ _) ?_)
   · have he:(⟨es⟩:Array MapEntry).eraseIdxIfInBounds j=⟨es.eraseIdx j⟩:=by
      have hj:=(List.getElem?_eq_some_iff.1 f2).1;simp [Array.eraseIdxIfInBounds,hj]
     simp [execOp,resolve,hx,hy,invoke,builtin,Builtin.delete_,run_underlying zIX,MapKept.run_getObj_map h1,zGy.check w _ hl,f1,hset,Result.andThen,he]
   · rw [mdel,f6];refine ⟨_,_,zGL h1,(h2.mono (hmono _ _)).erase,?_,?_,?_⟩
     · rw [zHw];exact h3.sublist (List.eraseIdx_sublist _ _)
     · rw [zHw];exact h4.sublist (List.eraseIdx_sublist _ _)
     · intro e' he';exact h5 e' (List.mem_of_mem_eraseIdx he')
end
end Go.Proofs.YtjiendlfobjanaaGreatDoor
namespace Go.Proofs.YtjiendlfobjanaaGreatDoor
open Go Go.RowKit Go.Proofs Tryz
set_option maxRecDepth 10000
set_option maxHeartbeats 2000000
attribute [local irreducible] Runs WPE CallK Ret
variable {a b n:Nat} {v:Value} {w:World}
theorem IsNum.mk' {s:Bool} {n d:Value} (ha:a≠0) (hb:b≠0) (hn:IsW w n (a/Nat.gcd a b)) (hd:IsW w d (if b/Nat.gcd a b=1 then 0 else b/Nat.gcd a b)):IsNum w (.agg #[.bool s,n,d]) (qOf s a b) :=
 ⟨n,d,by rw [zNJ ha hb],by rw [zNK hb];exact hn,by rw [zNH hb];exact hd⟩
theorem IsW.form (h:IsW w v n):∃ p l c,v = .slice p l c∧(l=0↔n=0):=by
 obtain ⟨p,ds,c,h1,h2,h3,h4,h5⟩:=h;refine ⟨p,ds.length,c,h1,?_⟩;rw [List.length_eq_zero_iff,← h5];exact h4.zero.symm
theorem zBT {s:Bool} {n d:Value} (hn:IsW w n a) (hd:IsW w d b) (hb0:b≠0) (hfa:Fit a) (hfb:Fit b):Ret prog 102 #[.bool s,n,d] w (fun v w'=>IsNum w' v (qOf s a b)):=by
 obtain ⟨pn,ln,kn,rfl,hnz⟩:=hn.form;have E0:Ext w w:=Ext.refl w;refine J0 44 func102 rfl (rj fun K => ?_);refine K1 (zK zAP fun b1 w1 hb hE hB1 hs => ?_);have hgb1:w.heap.size≤b1:=by rw [hb];exact E0.size
 replace E0:=E0.trans hE;replace hn:=hn.ext hE;replace hd:=hd.ext hE;clear hE hs hb;refine rm [0,1,2,6] K ?_;refine zA (rJ fun K=>K1 (zJ zX rfl (K8 rfl (rm [0,1,2,6,10] K ?_))));refine K0 rfl ?_ ?_<;>intro hc
 · have ha0:a=0:=hnz.1 (by have:=eq_of_beq hc;omega);clear hc;subst ha0;refine rj fun K=>K1 (zj (cs := #[.bool false,.slice none 0 0,.slice none 0 0]) (by kernel_rfl) (K1 (zZ zGN rfl hB1 rfl (Nat.le_of_ble_eq_true rfl) (by decide) rfl fun w2 hU hN => ?_)));replace E0:=E0.upd hU hgb1;replace hn:=hn.upd hU hB1 (by decide);replace hd:=hd.upd hU hB1 (by decide);clear hB1;have hB1:=hN;clear hN hU;refine rm [0,6] K ?_;refine zE (zY (zQ ?_));exact ⟨rfl,_,zx rfl rfl rfl zAB hB1 rfl,E0,by rw [qOf_zero];exact IsNum.zero⟩
 · have ha0:a≠0:=fun e=>by rw [hnz.2 e] at hc;cases hc
   clear hc;refine sk (zCJ (fun ρ w'=>∃ vn vd,Keep ρ [(0,.bool s),(1,vn),(2,vd),(6,.pointer (some ⟨b1,0,none⟩))]∧Ext w w'∧IsW w' vn (a/Nat.gcd a b)∧IsW w' vd (b/Nat.gcd a b)∧Blk w' b1 37 [Value.bool false,Value.slice none 0 0,Value.slice none 0 0]) ?_ ?_)
   · refine zA ?_;rcases (show a=1∨(a≠1∧b=1)∨(a≠1∧b≠1) from by omega) with h1 | ⟨h1,h2⟩ | ⟨h1,h2⟩
     · have hab:a=1∨b=1:=Or.inl h1;refine rI fun K=>K1 (j3 E0 hn.ext hd.ext hB1.ext hb156 (zGx hn) fun v3_1 w2 E0 hn hd hB1 hr => ?_);obtain rfl:=hr.trans (congrArg Value.bool (decide_eq_true h1));refine K1 (zAF rfl (mv (K3 (K3 (K3 (pc0 rfl (rs [0,1,2,6,19] K ?_)))))));refine wcf rfl (zz (zV ?_));have hg:Nat.gcd a b=1:=by rcases hab with e | e<;>rw [e]<;>simp
       exact ⟨rfl,_,_,(kp rfl),E0,by rw [hg,Nat.div_one];exact hn,by rw [hg,Nat.div_one];exact hd,hB1⟩
     · have hab:a=1∨b=1:=Or.inr h2;refine rI fun K=>K1 (j3 E0 hn.ext hd.ext hB1.ext hb156 (zGx hn) fun v3_1 w2 E0 hn hd hB1 hr => ?_);obtain rfl:=hr.trans (congrArg Value.bool (decide_eq_false h1));refine K1 (zAF rfl (mv (K7 (K2 (j3 E0 hn.ext hd.ext hB1.ext hb156 (zGx hd) fun v3_5 w3 E0 hn hd hB1 hr => ?_)))));obtain rfl:=hr.trans (congrArg Value.bool (decide_eq_true h2));refine K2 (zAF rfl (pc0 rfl (rs [0,1,2,6,19] K ?_)));refine wcf rfl (zz (zV ?_));have hg:Nat.gcd a b=1:=by rcases hab with e | e<;>rw [e]<;>simp
       exact ⟨rfl,_,_,(kp rfl),E0,by rw [hg,Nat.div_one];exact hn,by rw [hg,Nat.div_one];exact hd,hB1⟩
     · skip
       refine rI fun K=>K1 (j3 E0 hn.ext hd.ext hB1.ext hb156 (zGx hn) fun v3_1 w2 E0 hn hd hB1 hr => ?_);obtain rfl:=hr.trans (congrArg Value.bool (decide_eq_false h1));refine K1 (zAF rfl (mv (K7 (K2 (j3 E0 hn.ext hd.ext hB1.ext hb156 (zGx hd) fun v3_5 w3 E0 hn hd hB1 hr => ?_)))));obtain rfl:=hr.trans (congrArg Value.bool (decide_eq_false h2));refine K2 (zAF rfl (pc0 rfl (rs [0,1,2,6,19] K ?_)));refine wct rfl (rJ fun K=>mv (K1 (j3 E0 hn.ext hd.ext hB1.ext hb155 (zIk hn hd hfa hfb) fun v4_2 w4 E0 hn hd hB1 hgv => ?_)));have hg0:Nat.gcd a b≠0:=fun e=>ha0 (Nat.gcd_eq_zero_iff.1 e).1;have hfg:Fit (Nat.gcd a b):=hfa.le (Nat.le_of_dvd (Nat.pos_of_ne_zero ha0) (Nat.gcd_dvd_left a b));refine ag (rm [0,1,2,6,7] K ?_);refine rJ fun K=>K1 (j4 E0 hn.ext hd.ext hB1.ext hgv.ext hb156 (zGx hgv) fun v5_1 w5 E0 hn hd hB1 hgv hr => ?_);subst hr;refine K1 (zAF rfl (rm [0,1,2,6,7,25] K ?_));refine K0 rfl ?_ ?_<;>intro hc
       · clear hc;refine rJ fun K=>mv (K1 (j4 E0 hn.ext hd.ext hB1.ext hgv.ext hb191 (zMq hn hgv hfa hfg hg0) fun v6_2 w6 E0 hn hd hB1 hgv hr => ?_));obtain ⟨q1,r1,rfl,hq2,-⟩:=hr;refine mv (xt rfl (xt rfl (ag (rm [0,1,2,6,7] K ?_))));refine rI fun K=>mv (K1 (j5 E0 hn.ext hd.ext hB1.ext hgv.ext hq2.ext hb191 (zMq hd hgv hfb hfg hg0) fun v7_2 w7 E0 hn hd hB1 hgv hq2 hr => ?_));obtain ⟨q2,r2,rfl,hq4,-⟩:=hr;exact mv (xt rfl (xt rfl (ag (rl K (zV ⟨rfl,_,_,(kp rfl),E0,hq2,hq4,hB1⟩)))))
       · have hg1:Nat.gcd a b=1:=by simpa using hc
         clear hc;refine zz (zV ?_);have hg:Nat.gcd a b=1:=hg1;exact ⟨rfl,_,_,(kp rfl),E0,by rw [hg,Nat.div_one];exact hn,by rw [hg,Nat.div_one];exact hd,hB1⟩
   · clear E0 hn hd hB1;rintro ρ2 w2 ⟨vn,vd,hk,E0,hn,hd,hB1⟩;obtain ⟨p1,l1,k1,rfl,-⟩:=hn.form;obtain ⟨p2,l2,k2,rfl,-⟩:=hd.form;refine wpe_k _ hk ?_;clear hk ρ2;refine zA (rJ fun K=>K1 (j3 E0 hn.ext hd.ext hB1.ext hb156 (zGx hd) fun v8_1 w2 E0 hn hd hB1 hr => ?_));subst hr;refine rm [0,1,2,6,39] K ?_;refine K0 rfl ?_ ?_<;>intro hc
     · have hd1:b/Nat.gcd a b=1:=of_decide_eq_true hc;clear hc;refine K6 fun K=>ag (rs [0,1,2,6] K ?_);refine rJ fun K=>mv (mv (K1 (zj (cs := #[.bool s,.slice p1 l1 k1,.slice none 0 0]) (by kernel_rfl) (K1 (zZ zGN rfl hB1 rfl (Nat.le_of_ble_eq_true rfl) (by decide) rfl fun w3 hU hN => ?_)))));replace E0:=E0.upd hU hgb1;replace hn:=hn.upd hU hB1 (by decide);replace hd:=hd.upd hU hB1 (by decide);clear hB1;have hB1:=hN;clear hN hU;refine rm [0,6] K ?_;refine zE (zQ ?_);exact ⟨rfl,_,zx rfl rfl rfl zAB hB1 rfl,E0,IsNum.mk' ha0 hb0 hn (by rw [if_pos hd1];exact IsW.nil rfl)⟩
     · have hd1:b/Nat.gcd a b≠1:=of_decide_eq_false hc;clear hc;refine sk (rJ fun K=>mv (mv (K1 (zj (cs := #[.bool s,.slice p1 l1 k1,.slice p2 l2 k2]) (by kernel_rfl) (K1 (zZ zGN rfl hB1 rfl (Nat.le_of_ble_eq_true rfl) (by decide) rfl fun w3 hU hN => ?_))))));replace E0:=E0.upd hU hgb1;replace hn:=hn.upd hU hB1 (by decide);replace hd:=hd.upd hU hB1 (by decide);clear hB1;have hB1:=hN;clear hN hU;refine rm [0,6] K ?_;refine zE (zQ ?_);exact ⟨rfl,_,zx rfl rfl rfl zAB hB1 rfl,E0,IsNum.mk' ha0 hb0 hn (by rw [if_neg hd1];exact hd)⟩
variable {q:Rat} {u:Value}
theorem zDE (a b:Nat):(a*b).log2≤a.log2+b.log2+1:=by
 by_cases h0:a*b=0
 · rw [h0];exact Nat.zero_le _
 · have ha:a≠0:=fun e=>h0 (by rw [e,Nat.zero_mul]);have hb:b≠0:=fun e=>h0 (by rw [e,Nat.mul_zero]);have h1:=(Nat.log2_lt ha).1 (Nat.lt_succ_self _);have h2:=(Nat.log2_lt hb).1 (Nat.lt_succ_self _);have h3:a*b<2^(a.log2+1)*2^(b.log2+1):=Nat.mul_lt_mul'' h1 h2;rw [← Nat.pow_add] at h3;have:=(Nat.log2_lt h0).2 h3;omega
theorem log2_add_le (a b:Nat):(a+b).log2≤max a.log2 b.log2+1:=by
 by_cases h0:a+b=0
 · rw [h0];exact Nat.zero_le _
 · have h1:∀ n L:Nat,n.log2≤L→n<2^(L+1):=fun n L h=>by
    by_cases hn:n=0
    · rw [hn];exact Nat.pow_pos (by decide)
    · exact (Nat.log2_lt hn).1 (by omega)
   have h2:=h1 a (max a.log2 b.log2) (Nat.le_max_left _ _);have h3:=h1 b (max a.log2 b.log2) (Nat.le_max_right _ _);have h4:a+b<2^(max a.log2 b.log2+1+1):=by rw [Nat.pow_succ 2 (max a.log2 b.log2+1)];omega
   have:=(Nat.log2_lt h0).2 h4;omega
theorem room_of {x y:Rat} (h:rroom x y=true):x.num.natAbs.log2+x.den.log2+(y.num.natAbs.log2+y.den.log2)<1099511627776:=of_decide_eq_true h
theorem zDi (h:n.log2<8796093022208):Fit n:=h
structure Fits (x y:Rat):Prop where
 xn:Fit x.num.natAbs
 xd:Fit x.den
 yn:Fit y.num.natAbs
 yd:Fit y.den
 nn:Fit (x.num.natAbs*y.num.natAbs)
 nd:Fit (x.num.natAbs*y.den)
 dn:Fit (x.den*y.num.natAbs)
 dd:Fit (x.den*y.den)
 nd':Fit (y.num.natAbs*x.den)
 add:Fit (x.num.natAbs*y.den+y.num.natAbs*x.den)
theorem zGd {x y:Rat} (h:rroom x y=true):Fits x y:=by
 have h0:=room_of h;have k1:=zDE x.num.natAbs y.num.natAbs;have k2:=zDE x.num.natAbs y.den;have k3:=zDE x.den y.num.natAbs;have k4:=zDE x.den y.den;have k5:=zDE y.num.natAbs x.den;have k6:=log2_add_le (x.num.natAbs*y.den) (y.num.natAbs*x.den);exact ⟨zDi (by omega),zDi (by omega),zDi (by omega),zDi (by omega),zDi (by omega),zDi (by omega),zDi (by omega),zDi (by omega),zDi (by omega),zDi (by omega)⟩
theorem IsNum.form (h:IsNum w v q):∃ p1 l1 k1 p2 l2 k2,v = .agg #[.bool (decide (q<0)),.slice p1 l1 k1,.slice p2 l2 k2]∧(l1=0↔q=0)∧(l2=0↔q.den=1)∧IsW w (.slice p1 l1 k1) q.num.natAbs∧IsW w (.slice p2 l2 k2) (if q.den=1 then 0 else q.den):=by
 obtain ⟨n,d,rfl,h1,h2⟩:=h;obtain ⟨p1,l1,k1,rfl,e1⟩:=h1.form;obtain ⟨p2,l2,k2,rfl,e2⟩:=h2.form;refine ⟨p1,l1,k1,p2,l2,k2,rfl,?_,?_,h1,h2⟩
 · rw [e1,Int.natAbs_eq_zero,Rat.num_eq_zero]
 · rw [e2];have:=q.den_pos;by_cases h:q.den=1
   · simp [h]
   · simp [h];omega
theorem zIA (x:Rat):decide (-x<0)=(!decide (x<0)&&decide (x≠0)):=by
 have h1:=zDH x;have h2:=zDH (-x);rw [Rat.neg_num] at h2;have h3:x≠0↔x.num≠0:=not_congr Rat.num_eq_zero.symm;by_cases a:x.num<0
 · rw [decide_eq_true (h1.2 a),decide_eq_false (fun e=>by have:=h2.1 e;omega)];rfl
 · rw [decide_eq_false (fun e=>a (h1.1 e))];by_cases b:x.num=0
   · rw [decide_eq_false (fun e=>by have:=h2.1 e;omega),decide_eq_false (fun e=>(h3.1 e) b)];rfl
   · rw [decide_eq_true (h2.2 (by omega)),decide_eq_true (h3.2 b)];rfl
theorem IsNum.neg_mk {n d:Value} {x:Rat} {s:Bool} (hs:s=(!decide (x<0)&&decide (x≠0))) (hn:IsW w n x.num.natAbs) (hd:IsW w d (if x.den=1 then 0 else x.den)):IsNum w (.agg #[.bool s,n,d]) (-x) :=
 ⟨n,d,by rw [zIA,hs],by rw [Rat.neg_num,Int.natAbs_neg];exact hn,by rw [Rat.neg_den];exact hd⟩
theorem rabs_neg (x:Rat):decide (rabs x<0)=false:=by
 have h1:=zDH x;unfold rabs;by_cases h:x<0
 · rw [if_pos h,zIA,decide_eq_true h];rfl
 · rw [if_neg h,decide_eq_false h]
theorem zLz (x:Rat):(rabs x).num.natAbs=x.num.natAbs∧(rabs x).den=x.den:=by
 unfold rabs;by_cases h:x<0
 · rw [if_pos h,Rat.neg_num,Int.natAbs_neg,Rat.neg_den];exact ⟨rfl,rfl⟩
 · rw [if_neg h];exact ⟨rfl,rfl⟩
theorem zNI (n:Int):qOf (decide (n<0)) n.natAbs 1=(n:Rat):=by
 have e:sgn (decide (n<0)) n.natAbs=n:=by
  by_cases h:n<0
  · rw [decide_eq_true h];simp only [sgn,if_true];omega
  · rw [decide_eq_false h];simp only [sgn,Bool.false_eq_true,if_false];omega
 rw [qOf,e];exact Rat.mkRat_self (n:Rat)
theorem zJd:Fit 1:=zDi (by decide +kernel)
theorem zAY {x:Rat} (hx:IsNum w v x):Ret prog 19 #[v] w (fun u _=>u = .int .i64 (rsign x)):=by
 obtain ⟨p1,l1,k1,p2,l2,k2,rfl,hz1,hz2,hxn,hxd⟩:=hx.form;refine J0 11 func19 rfl (rj fun K => ?_);refine K1 (zk fun b1 w1 hb hE hB1 hs => ?_);have hgb1:w.heap.size≤b1:=by rw [hb];exact E0.size
 replace E0:=E0.trans hE;clear hE hs hb;refine ag (rm [1] K ?_);refine zA (zG (zA ?_));rcases (show x=0∨(x≠0∧x<0)∨(x≠0∧¬ x<0) from by by_cases a:x=0;exact Or.inl a;by_cases b:x<0;exact Or.inr (Or.inl ⟨a,b⟩);exact Or.inr (Or.inr ⟨a,b⟩)) with h1 | ⟨h1,h2⟩ | ⟨h1,h2⟩
 · obtain rfl:=hz1.2 h1;refine K6 fun K=>K1 (zB zBz rfl (K1 (zD zAf rfl hB1 rfl (K1 (zJ zX rfl (K8 rfl (ag (rs [1,3] K ?_))))))));refine wct rfl (rj fun K=>ag (rm [2] K ?_));refine zE (zh (zY (zQ ?_)));exact ⟨rfl,_,zm rfl rfl,E0,by rw [h1];rfl⟩
 · have hl:l1≠0:=fun e=>h1 (hz1.1 e);refine K6 fun K=>K1 (zB zBz rfl (K1 (zD zAf rfl hB1 rfl (K1 (zJ zX rfl (K8 rfl (ag (rs [1,3] K ?_))))))));refine wcf (congrArg Value.bool (beq_eq_false_iff_ne.2 (by omega))) (rj fun K=>K1 (zB zCf rfl (K1 (zD zBm rfl hB1 rfl (ag (rm [8] K ?_))))));refine wct (congrArg Value.bool (decide_eq_true h2)) (rj fun K=>ag (rm [2] K ?_));refine zE (zh (zY (zQ ?_)));exact ⟨rfl,_,zm rfl rfl,E0,by rw [rsign,Int.sign_eq_neg_one_of_neg ((zDH x).1 h2)];rfl⟩
 · have hl:l1≠0:=fun e=>h1 (hz1.1 e);refine K6 fun K=>K1 (zB zBz rfl (K1 (zD zAf rfl hB1 rfl (K1 (zJ zX rfl (K8 rfl (ag (rs [1,3] K ?_))))))));refine wcf (congrArg Value.bool (beq_eq_false_iff_ne.2 (by omega))) (rj fun K=>K1 (zB zCf rfl (K1 (zD zBm rfl hB1 rfl (ag (rm [8] K ?_))))));refine wcf (congrArg Value.bool (decide_eq_false h2)) (zz (zT (zN (rj fun K=>ag (rm [2] K ?_)))));refine zE (zQ ?_);exact ⟨rfl,_,zm rfl rfl,E0,by rw [rsign,Int.sign_eq_one_of_pos (by have k1:=zDH x;have k2:x.num≠0:=fun e=>h1 (Rat.num_eq_zero.1 e);have k3:¬ x.num<0:=fun e=>h2 (k1.2 e);omega)];rfl⟩
theorem zNe {x:Rat} (hx:IsNum w v x):Ret prog 236 #[v] w (fun u w'=>IsNum w' u (rabs x)):=by
 obtain ⟨p1,l1,k1,p2,l2,k2,rfl,hz1,hz2,hxn,hxd⟩:=hx.form;refine J0 8 func236 rfl (rj fun K => ?_);refine K1 (zk fun b1 w1 hb hE hB1 hs => ?_);have hgb1:w.heap.size≤b1:=by rw [hb];exact E0.size
 replace E0:=E0.trans hE;replace hxn:=hxn.ext hE;replace hxd:=hxd.ext hE;clear hE hs hb;refine K1 (zK zAP fun b2 w2 hb hE hB2 hs => ?_);have hgb2:w.heap.size≤b2:=by rw [hb];exact E0.size
 have ne_b1_b2:b1≠b2:=by have:=hB1.lt;omega
 replace E0:=E0.trans hE;replace hxn:=hxn.ext hE;replace hxd:=hxd.ext hE;replace hB1:=hB1.ext hE;clear hE hs hb;refine rm [1,2] K ?_;refine rj fun K=>K1 (zB zBz rfl (K1 (zD zAf rfl hB1 rfl (K1 (zB zEk rfl (K1 (zD zAf rfl hB1 rfl (K1 (zj (cs := #[.bool false,.slice p1 l1 k1,.slice p2 l2 k2]) (by kernel_rfl) ?_)))))))));refine K1 (zI rfl (⟨.slice p1 l1 k1,.slice p2 l2 k2,by rw [rabs_neg];rfl,by rw [(zLz x).1];exact hxn,by rw [(zLz x).2];exact hxd⟩:IsNum _ _ (rabs x)) (Cell3.of hB2 rfl) fun _ w9 hU hN => ?_);replace E0:=E0.upd hU hgb2;obtain ⟨cs,hB4,hl4,hN4⟩:=hN;refine rm [2] K ?_;exact zE (zQ ⟨rfl,_,zx rfl rfl rfl zAB hB4 hl4,E0,hN4⟩)
theorem zIb {x:Rat} (hx:IsNum w v x):Ret prog 132 #[v] w (fun u w'=>IsNum w' u (-x)):=by
 obtain ⟨p1,l1,k1,p2,l2,k2,rfl,hz1,hz2,hxn,hxd⟩:=hx.form;refine J0 17 func132 rfl (rj fun K => ?_);refine K1 (zk fun b1 w1 hb hE hB1 hs => ?_);have hgb1:w.heap.size≤b1:=by rw [hb];exact E0.size
 replace E0:=E0.trans hE;replace hxn:=hxn.ext hE;replace hxd:=hxd.ext hE;clear hE hs hb;refine K1 (zK zAP fun b2 w2 hb hE hB2 hs => ?_);have hgb2:w.heap.size≤b2:=by rw [hb];exact E0.size
 have ne_b1_b2:b1≠b2:=by have:=hB1.lt;omega
 replace E0:=E0.trans hE;replace hxn:=hxn.ext hE;replace hxd:=hxd.ext hE;replace hB1:=hB1.ext hE;clear hE hs hb;refine rm [1,2] K ?_;refine zA ?_;rcases (show x<0∨¬ x<0 from Classical.em _) with h1 | h1
 · rw [decide_eq_true h1] at hB1;refine K6 fun K=>K1 (zB zCf rfl (K1 (zD zBm rfl hB1 rfl (K1 (zAF rfl (mv (K3 (K3 (K3 (K3 (pc0 rfl (K1 (zB zBz rfl (K1 (zD zAf rfl hB1 rfl (K1 (zB zEk rfl (K1 (zD zAf rfl hB1 rfl (K1 (zj (cs := #[.bool false,.slice p1 l1 k1,.slice p2 l2 k2]) (by kernel_rfl) ?_)))))))))))))))))))));refine K1 (zI rfl (IsNum.neg_mk (x:=x) (by rw [decide_eq_true h1];rfl) hxn hxd) (Cell3.of hB2 rfl) fun _ w9 hU hN => ?_);replace E0:=E0.upd hU hgb2;obtain ⟨cs,hB4,hl4,hN4⟩:=hN;refine rs [2] K ?_;exact zE (zQ ⟨rfl,_,zx rfl rfl rfl zAB hB4 hl4,E0,hN4⟩)
 · rw [decide_eq_false h1] at hB1;refine K6 fun K=>K1 (zB zCf rfl (K1 (zD zBm rfl hB1 rfl (K1 (zAF rfl (mv (K2 (zB zBz rfl (K2 (zD zAf rfl hB1 rfl (K2 (zJ zX rfl (K2 (zH rfl rfl rfl (pc0 rfl (K1 (zB zBz rfl (K1 (zD zAf rfl hB1 rfl (K1 (zB zEk rfl (K1 (zD zAf rfl hB1 rfl (K1 (zj (cs := #[.bool (decide ((l1:Int)>0)),.slice p1 l1 k1,.slice p2 l2 k2]) (by kernel_rfl) ?_)))))))))))))))))))))))));refine K1 (zI rfl (IsNum.neg_mk (x:=x) (by rw [decide_eq_false h1];by_cases e:x=0;(have:=hz1.2 e;subst this;simp [e]);(have:l1≠0:=fun z=>e (hz1.1 z);simp [e];omega)) hxn hxd) (Cell3.of hB2 rfl) fun _ w9 hU hN => ?_);replace E0:=E0.upd hU hgb2;obtain ⟨cs,hB4,hl4,hN4⟩:=hN;refine rs [2] K ?_;exact zE (zQ ⟨rfl,_,zx rfl rfl rfl zAB hB4 hl4,E0,hN4⟩)
theorem zMt (h:n≤9223372036854775808):Fit n:=by
 have:=zKW h;have e:(9223372036854775808:Nat).log2=63:=by decide +kernel
 exact zDi (by omega)
theorem zNx:prog.underlying 2=some (.int .i64):=by kernel_rfl
theorem zJx:prog.underlying 164=some (.int .u64):=by kernel_rfl
theorem zBw {n:Int} (h0 : -9223372036854775808≤n) (h9:n≤9223372036854775807):Ret prog 38 #[.int .i64 n] w (fun u w'=>IsNum w' u (n:Rat)):=by
 refine J0 16 func38 rfl (rj fun K => ?_);refine K1 (zK zAP fun b1 w1 hb hE hB1 hs => ?_);have hgb1:w.heap.size≤b1:=by rw [hb];exact E0.size
 replace E0:=E0.trans hE;clear hE hs hb;refine rm [0,2] K ?_;refine zA (zA ?_);rcases (show n<0∨¬ n<0 from Classical.em _) with h1 | h1
 · skip
   refine rI fun K=>K8 rfl (rs [0,2,4] K ?_);refine wct (congrArg Value.bool (decide_eq_true h1)) (rJ fun K=>K1 (zCi zNx zJx rfl (K1 (zJn rfl ?_))));rw [show IntKind.u64.wrap (0-IntKind.u64.wrap n)=((n.natAbs:Nat):Int) from by rw [zBv,zBv];omega];refine K1 (j1 E0 hB1.ext hb105 (zEv (by omega)) fun v2_3 w2 E0 hB1 hw1=>K1 (j2 E0 hB1.ext hw1.ext hb106 (zHA _) fun v2_4 w3 E0 hB1 hw1 ho1=>K1 (j3 E0 hB1.ext hw1.ext ho1.ext hb102 (zBT hw1 ho1 (by decide) (zMt (by omega)) zJd) fun v2_5 w4 E0 hB1 hw1 ho1 hq1 => ?_)));rw [show (true:Bool)=decide (n<0) from (decide_eq_true h1).symm,zNI] at hq1;refine K1 (zI rfl hq1 (Cell3.of hB1 rfl) fun _ w9 hU hN => ?_);replace E0:=E0.upd hU hgb1;obtain ⟨cs,hB4,hl4,hN4⟩:=hN;refine rm [2] K ?_;exact zE (zY (zQ ⟨rfl,_,zx rfl rfl rfl zAB hB4 hl4,E0,hN4⟩))
 · skip
   refine rI fun K=>K8 rfl (rs [0,2,4] K ?_);refine wcf (congrArg Value.bool (decide_eq_false h1)) (sk (rJ fun K=>K1 (zCi zNx zJx rfl ?_)));rw [show IntKind.u64.wrap n=((n.natAbs:Nat):Int) from by rw [zBv];omega];refine K1 (j1 E0 hB1.ext hb105 (zEv (by omega)) fun v3_2 w2 E0 hB1 hw1=>K1 (j2 E0 hB1.ext hw1.ext hb106 (zHA _) fun v3_3 w3 E0 hB1 hw1 ho1=>K1 (j3 E0 hB1.ext hw1.ext ho1.ext hb102 (zBT hw1 ho1 (by decide) (zMt (by omega)) zJd) fun v3_4 w4 E0 hB1 hw1 ho1 hq1 => ?_)));rw [show (false:Bool)=decide (n<0) from (decide_eq_false h1).symm,zNI] at hq1;refine K1 (zI rfl hq1 (Cell3.of hB1 rfl) fun _ w9 hU hN => ?_);replace E0:=E0.upd hU hgb1;obtain ⟨cs,hB4,hl4,hN4⟩:=hN;refine rm [2] K ?_;exact zE (zQ ⟨rfl,_,zx rfl rfl rfl zAB hB4 hl4,E0,hN4⟩)
theorem zCz {x y:Rat} (hx:IsNum w u x) (hy:IsNum w v y) (hr:rroom x y=true):Ret prog 101 #[u,v] w (fun r w'=>IsNum w' r (x*y)):=by
 have hx0:=hx;have hy0:=hy;obtain ⟨xn,xd,rfl,hxn,hxd⟩:=hx0;obtain ⟨yn,yd,rfl,hyn,hyd⟩:=hy0;have hf:=zGd hr;refine J0 21 func101 rfl (rj fun K => ?_);refine K1 (zk fun b1 w1 hb hE hB1 hs => ?_);have hgb1:w.heap.size≤b1:=by rw [hb];exact E0.size
 replace E0:=E0.trans hE;replace hx:=hx.ext hE;replace hy:=hy.ext hE;replace hxn:=hxn.ext hE;replace hyn:=hyn.ext hE;clear hE hs hb;refine K1 (zk fun b2 w2 hb hE hB2 hs => ?_);have hgb2:w.heap.size≤b2:=by rw [hb];exact E0.size
 have ne_b1_b2:b1≠b2:=by have:=hB1.lt;omega
 replace E0:=E0.trans hE;replace hx:=hx.ext hE;replace hy:=hy.ext hE;replace hxn:=hxn.ext hE;replace hyn:=hyn.ext hE;replace hB1:=hB1.ext hE;clear hE hs hb;refine K1 (zK zAP fun b3 w3 hb hE hB3 hs => ?_);have hgb3:w.heap.size≤b3:=by rw [hb];exact E0.size
 have ne_b1_b3:b1≠b3:=by have:=hB1.lt;omega
 have ne_b2_b3:b2≠b3:=by have:=hB2.lt;omega
 replace E0:=E0.trans hE;replace hx:=hx.ext hE;replace hy:=hy.ext hE;replace hxn:=hxn.ext hE;replace hyn:=hyn.ext hE;replace hB1:=hB1.ext hE;replace hB2:=hB2.ext hE;clear hE hs hb;refine rm [2,3,4] K ?_;refine zA ?_;have hnw:NoW [b3] _:=noW1 hB3 (by decide)
 refine zCb [⟨16,b3,Cell3 b3,NumAt b3 (x*y)⟩] [([(2,none)],none),([(5,some 0)],none),([(3,none)],none),([(7,some 0)],none),([(6,some 2),(8,some 0)],none),([(2,none)],none),([(10,some 0)],none),([(3,none)],none),([(12,some 0)],none),([(11,some 2),(13,some 0)],none),([(2,none)],none),([(15,some 0)],none),([(3,none)],none),([(17,some 0)],none),([(16,some 2),(18,some 0)],none),([(9,some 10),(14,some 5),(19,some 0)],none),([(4,none),(20,some 0)],none)] mixed (by kernel_rfl) (by kernel_rfl) (by kernel_rfl) (by simp) (by kernel_rfl) (all1 (zFY hB3 rfl)) fun K hK=>dsv rfl (fun σ wx hE hk=>zB zCf hk.1 ⟨Ext.refl _,rfl⟩) (dsv rfl (fun σ wx hE hk=>zD zBm hk.1 (hB1.extS hE (nin1 ne_b1_b3)) rfl ⟨Ext.refl _,rfl⟩) (dsv rfl (fun σ wx hE hk=>zB zCf hk.1 ⟨Ext.refl _,rfl⟩) (dsv rfl (fun σ wx hE hk=>zD zBm hk.1 (hB2.extS hE (nin1 ne_b2_b3)) rfl ⟨Ext.refl _,rfl⟩) (dsv rfl (fun σ wx hE hk=>zKj zNZ hk.1 hk.2.1 ⟨Ext.refl _,rfl⟩) (dsv rfl (fun σ wx hE hk=>zB zBz hk.1 ⟨Ext.refl _,rfl⟩) (dsv rfl (fun σ wx hE hk=>zD zAf hk.1 (hB1.extS hE (nin1 ne_b1_b3)) rfl ⟨Ext.refl _,rfl⟩) (dsv rfl (fun σ wx hE hk=>zB zBz hk.1 ⟨Ext.refl _,rfl⟩) (dsv rfl (fun σ wx hE hk=>zD zAf hk.1 (hB2.extS hE (nin1 ne_b2_b3)) rfl ⟨Ext.refl _,rfl⟩) (dsn (fun v w'=>IsW w' v (x.num.natAbs*y.num.natAbs)) rfl (fun _ _ _ h1 hx h=>h.extS hx (hnw.ext h1)) (fun σ wx hE hk=>zC hb103 (CallK.of_ret (zDk (IsW.of_eq hk.1 (hxn.extS hE hnw)) (IsW.of_eq hk.2.1 (hyn.extS hE hnw)) hf.xn hf.yn) fun v w2 hX hr=>⟨hX,hr⟩) rfl) (dsv rfl (fun σ wx hE hk=>zW zAB hk.1 (hB1.extS hE (nin1 ne_b1_b3)) (Nat.le_of_ble_eq_true rfl) ⟨Ext.refl _,rfl⟩) (dsn (fun v w'=>IsW w' v (x.den)) rfl (fun _ _ _ h1 hx h=>h.extS hx (hnw.ext h1)) (fun σ wx hE hk=>zC hb104 (CallK.of_ret (zCH (IsNum.of_eq hk.1 (hx.extS hE hnw))) fun v w2 hX hr=>⟨hX,hr⟩) rfl) (dsv rfl (fun σ wx hE hk=>zW zAB hk.1 (hB2.extS hE (nin1 ne_b2_b3)) (Nat.le_of_ble_eq_true rfl) ⟨Ext.refl _,rfl⟩) (dsn (fun v w'=>IsW w' v (y.den)) rfl (fun _ _ _ h1 hx h=>h.extS hx (hnw.ext h1)) (fun σ wx hE hk=>zC hb104 (CallK.of_ret (zCH (IsNum.of_eq hk.1 (hy.extS hE hnw))) fun v w2 hX hr=>⟨hX,hr⟩) rfl) ?_)))))))))))))
 refine dsn (fun v w'=>IsW w' v (x.den*y.den)) rfl (fun _ _ _ h1 hx h=>h.extS hx (hnw.ext h1)) (fun σ wx hE hk=>zC hb103 (CallK.of_ret (zDk hk.1 hk.2.1 hf.xd hf.yd) fun v w2 hX hr=>⟨hX,hr⟩) rfl) ?_;refine dsn (fun v w'=>IsNum w' v (x*y)) rfl (fun _ _ _ h1 hx h=>h.extS hx (hnw.ext h1)) (fun σ wx hE hk=>zC hb102 (CallK.eq3 hk.1 rfl rfl (CallK.of_ret (zBT hk.2.1 hk.2.2.1 (Nat.mul_ne_zero x.den_nz y.den_nz) hf.nn hf.dd) fun v w2 hX hr=>⟨hX,by rw [q_mul];exact hr⟩)) rfl) ?_;refine dss _ rfl (fun σ wx hE hpre hk=>zAx hk.1 hk.2.1 hpre) (zHn (hK _ fun wq hS hP => ?_));rintro _ rfl _ rfl _ rfl _ rfl _ rfl _ rfl _ rfl _ rfl _ rfl v14 N14 _ rfl v16 N16 _ rfl v18 N18 v19 N19 v20 N20 _ _;refine zU ?_;obtain ⟨⟨cs,hB4,hl4,hN4⟩,-⟩:=hP;replace E0:=E0.updS hS hgb3;refine zN (K5 [4] ?_);exact zE (zQ ⟨rfl,_,zx rfl rfl rfl zAB hB4 hl4,E0,hN4⟩)
variable {P:Program} {T ty:TypeId} {af:Array Edge} {g:Option (Nat×Bool)} {k':IntKind} {pos:String} {r:Option Nat} {x y:Operand} {σ:Operand→Value}
theorem IsW.formF (h:IsW w v n) (hf:Fit n):∃ p l c,v = .slice p l c∧(l=0↔n=0)∧l≤137438953473:=by
 obtain ⟨p,ds,c,h1,h2,h3,h4,h5⟩:=h;refine ⟨p,ds.length,c,h1,?_,h4.fit (h5 ▸ hf)⟩;rw [List.length_eq_zero_iff,← h5];exact h4.zero.symm
theorem IsNum.formF (h:IsNum w v q) (hfn:Fit q.num.natAbs) (hfd:Fit q.den):∃ p1 l1 k1 p2 l2 k2,v = .agg #[.bool (decide (q<0)),.slice p1 l1 k1,.slice p2 l2 k2]∧(l1=0↔q=0)∧(l2=0↔q.den=1)∧IsW w (.slice p1 l1 k1) q.num.natAbs∧IsW w (.slice p2 l2 k2) (if q.den=1 then 0 else q.den)∧l1≤137438953473∧l2≤137438953473:=by
 obtain ⟨n,d,rfl,h1,h2⟩:=h;have hfd':Fit (if q.den=1 then 0 else q.den):=hfd.le (by split<;>omega);obtain ⟨p1,l1,k1,rfl,e1,b1⟩:=h1.formF hfn;obtain ⟨p2,l2,k2,rfl,e2,b2⟩:=h2.formF hfd';refine ⟨p1,l1,k1,p2,l2,k2,rfl,?_,?_,h1,h2,b1,b2⟩
 · rw [e1,Int.natAbs_eq_zero,Rat.num_eq_zero]
 · rw [e2];have:=q.den_pos;by_cases h:q.den=1
   · simp [h]
   · simp [h];omega
theorem zKl {K:Value→World→Prop} {d:Option Tmp} {T2:TypeId} {k:IntKind} {a b:Int} (hx:σ x = .int k a) (hy:σ y = .int k' b) (hk:K (.int k (if b<a then b else a)) w) :
 Runs P r ⟨d,.call { callee := .builtin .min,args := #[x,y],argTypes := #[T,T2] },ty,pos,af,g⟩ σ w K:=by
 refine zl (fun _ e=>by cases e) ?_ hk;simp [execOp,resolve,hx,hy,invoke,builtin,Builtin.min_,Builtin.min2]
theorem zCj {K:Value→World→Prop} {d:Option Tmp} {T2:TypeId} {k:IntKind} {a b:Int} (hx:σ x = .int k a) (hy:σ y = .int k' b) (hk:K (.int k (if a<b then b else a)) w) :
 Runs P r ⟨d,.call { callee := .builtin .max,args := #[x,y],argTypes := #[T,T2] },ty,pos,af,g⟩ σ w K:=by
 refine zl (fun _ e=>by cases e) ?_ hk;simp [execOp,resolve,hx,hy,invoke,builtin,Builtin.max_,Builtin.max2]
def rcmpI (x y:Rat):Int:=if x<y then -1 else if x=y then 0 else 1
theorem zMA {x y:Rat} {c:Int} (h:(x.num*y.den<y.num*x.den∧c = -1)∨(x.num*y.den=y.num*x.den∧c=0)∨(y.num*x.den<x.num*y.den∧c=1)):c=rcmpI x y:=by
 unfold rcmpI;have hl:=Rat.lt_iff x y;have he:x=y→x.num*y.den=y.num*x.den:=fun e=>by rw [e]
 rcases h with ⟨h1,h2⟩ | ⟨h1,h2⟩ | ⟨h1,h2⟩
 · rw [if_pos (hl.2 h1),h2]
 · have hxy:x=y:=by
    have e1:=Rat.mkRat_self x;have e2:=Rat.mkRat_self y;rw [← e1,← e2];exact (Rat.mkRat_eq_iff x.den_nz y.den_nz).2 h1
   have h3:¬ x<y:=fun e=>by have:=hl.1 e;omega
   rw [if_neg h3,if_pos hxy,h2]
 · have h3:¬ x<y:=fun e=>by have:=hl.1 e;omega
   have h4:¬ x=y:=fun e=>by have:=he e;omega
   rw [if_neg h3,if_neg h4,h2]
theorem cmp_signs {x y:Rat} (h:rsign x≠rsign y):(if (-1:Int)<(if IntKind.i64.wrap (rsign x-rsign y)<1 then IntKind.i64.wrap (rsign x-rsign y) else 1) then (if IntKind.i64.wrap (rsign x-rsign y)<1 then IntKind.i64.wrap (rsign x-rsign y) else 1) else -1)=rcmpI x y:=by
 have hx:(0:Int)<x.den:=by have:=x.den_pos;omega
 have hy:(0:Int)<y.den:=by have:=y.den_pos;omega
 refine zMA ?_;unfold rsign at h ⊢;have pos:∀ {a b:Int},0<a→0<b→0<a*b:=fun h1 h2=>Int.mul_pos h1 h2;have neg:∀ {a b:Int},a<0→0<b→a*b<0:=fun h1 h2=>Int.mul_neg_of_neg_of_pos h1 h2;have zer:∀ {a b:Int},a=0→a*b=0:=fun h1=>by rw [h1,Int.zero_mul]
 rcases Int.lt_trichotomy x.num 0 with a | a | a<;>rcases Int.lt_trichotomy y.num 0 with b | b | b
 · rw [Int.sign_eq_neg_one_of_neg a,Int.sign_eq_neg_one_of_neg b] at h;exact absurd rfl h
 · rw [Int.sign_eq_neg_one_of_neg a,b];exact Or.inl ⟨by have:=neg a hy;omega,by decide⟩
 · rw [Int.sign_eq_neg_one_of_neg a,Int.sign_eq_one_of_pos b];exact Or.inl ⟨by have:=neg a hy;have:=pos b hx;omega,by decide⟩
 · rw [a,Int.sign_eq_neg_one_of_neg b];exact Or.inr (Or.inr ⟨by have:=neg b hx;omega,by decide⟩)
 · rw [a,b] at h;exact absurd rfl h
 · rw [a,Int.sign_eq_one_of_pos b];exact Or.inl ⟨by have:=pos b hx;omega,by decide⟩
 · rw [Int.sign_eq_one_of_pos a,Int.sign_eq_neg_one_of_neg b];exact Or.inr (Or.inr ⟨by have:=pos a hy;have:=neg b hx;omega,by decide⟩)
 · rw [Int.sign_eq_one_of_pos a,b];exact Or.inr (Or.inr ⟨by have:=pos a hy;omega,by decide⟩)
 · rw [Int.sign_eq_one_of_pos a,Int.sign_eq_one_of_pos b] at h;exact absurd rfl h
theorem cmp_same {x y:Rat} {cm:Int} (h:rsign x=rsign y) (hc:CmpIs cm (x.num.natAbs*y.den) (y.num.natAbs*x.den)):IntKind.i64.wrap (rsign x*(if (-1:Int)<(if cm<1 then cm else 1) then (if cm<1 then cm else 1) else -1))=rcmpI x y:=by
 have hm:(if (-1:Int)<(if cm<1 then cm else 1) then (if cm<1 then cm else 1) else -1)=(if cm<0 then -1 else if cm=0 then 0 else 1):=by
  split<;>split<;>split<;>omega
 rw [hm];obtain ⟨c1,c2⟩:=hc;have ex:(x.num.natAbs*y.den:Nat)=(x.num*y.den).natAbs:=by rw [Int.natAbs_mul];rfl
 have ey:(y.num.natAbs*x.den:Nat)=(y.num*x.den).natAbs:=by rw [Int.natAbs_mul];rfl
 rw [ex,ey] at c1 c2;have hx:(0:Int)<x.den:=by have:=x.den_pos;omega
 have hy:(0:Int)<y.den:=by have:=y.den_pos;omega
 have pos:∀ {a b:Int},0<a→0<b→0<a*b:=fun h1 h2=>Int.mul_pos h1 h2;have neg:∀ {a b:Int},a<0→0<b→a*b<0:=fun h1 h2=>Int.mul_neg_of_neg_of_pos h1 h2;refine zMA ?_;unfold rsign at h ⊢;rcases Int.lt_trichotomy x.num 0 with a | a | a
 · rw [Int.sign_eq_neg_one_of_neg a] at h ⊢;have b:y.num<0:=Int.sign_eq_neg_one_iff_neg.1 h.symm;have k1:=neg a hy;have k2:=neg b hx;by_cases e1:cm<0
   · rw [if_pos e1];have:=c1.1 e1;exact Or.inr (Or.inr ⟨by omega,by decide⟩)
   · rw [if_neg e1];by_cases e2:cm=0
     · rw [if_pos e2];have:=c2.1 e2;exact Or.inr (Or.inl ⟨by omega,by decide⟩)
     · rw [if_neg e2];exact Or.inl ⟨by have h3:¬ (x.num * ↑y.den).natAbs<(y.num * ↑x.den).natAbs:=fun e=>e1 (c1.2 e);have h4:¬ (x.num * ↑y.den).natAbs=(y.num * ↑x.den).natAbs:=fun e=>e2 (c2.2 e);omega,by decide⟩
 · rw [a] at h ⊢;have b:y.num=0:=Int.sign_eq_zero_iff_zero.1 h.symm;rw [b];exact Or.inr (Or.inl ⟨by simp,by rw [Int.sign_zero,Int.zero_mul];rfl⟩)
 · rw [Int.sign_eq_one_of_pos a] at h ⊢;have b:0<y.num:=Int.sign_eq_one_iff_pos.1 h.symm;have k1:=pos a hy;have k2:=pos b hx;by_cases e1:cm<0
   · rw [if_pos e1];have:=c1.1 e1;exact Or.inl ⟨by omega,by decide⟩
   · rw [if_neg e1];by_cases e2:cm=0
     · rw [if_pos e2];have:=c2.1 e2;exact Or.inr (Or.inl ⟨by omega,by decide⟩)
     · rw [if_neg e2];exact Or.inr (Or.inr ⟨by have h3:¬ (x.num * ↑y.den).natAbs<(y.num * ↑x.den).natAbs:=fun e=>e1 (c1.2 e);have h4:¬ (x.num * ↑y.den).natAbs=(y.num * ↑x.den).natAbs:=fun e=>e2 (c2.2 e);omega,by decide⟩)
theorem zFL {x y:Rat} (hx:IsNum w u x) (hy:IsNum w v y) (hr:rroom x y=true):Ret prog 146 #[u,v] w (fun r w'=>IsNum w' r (x+y)):=by
 have hf:=zGd hr;obtain ⟨p1,l1,k1,p2,l2,k2,rfl,hz1,hz2,hxn,hxd,hb1,hb2⟩:=hx.formF hf.xn hf.xd;obtain ⟨p3,l3,k3,p4,l4,k4,rfl,hz3,hz4,hyn,hyd,hb3,hb4⟩:=hy.formF hf.yn hf.yd;have E0:Ext w w:=Ext.refl w;refine J0 66 func146 rfl (rj fun K => ?_);refine K1 (zk fun b1 w1 hb hE hB1 hs => ?_);have hgb1:w.heap.size≤b1:=by rw [hb];exact E0.size
 replace E0:=E0.trans hE;replace hx:=hx.ext hE;replace hy:=hy.ext hE;replace hxn:=hxn.ext hE;replace hyn:=hyn.ext hE;clear hE hs hb;refine K1 (zk fun b2 w2 hb hE hB2 hs => ?_);have hgb2:w.heap.size≤b2:=by rw [hb];exact E0.size
 have ne_b1_b2:b1≠b2:=by have:=hB1.lt;omega
 replace E0:=E0.trans hE;replace hx:=hx.ext hE;replace hy:=hy.ext hE;replace hxn:=hxn.ext hE;replace hyn:=hyn.ext hE;replace hB1:=hB1.ext hE;clear hE hs hb;refine K1 (zK zAP fun b3 w3 hb hE hB3 hs => ?_);have hgb3:w.heap.size≤b3:=by rw [hb];exact E0.size
 have ne_b1_b3:b1≠b3:=by have:=hB1.lt;omega
 have ne_b2_b3:b2≠b3:=by have:=hB2.lt;omega
 replace E0:=E0.trans hE;replace hx:=hx.ext hE;replace hy:=hy.ext hE;replace hxn:=hxn.ext hE;replace hyn:=hyn.ext hE;replace hB1:=hB1.ext hE;replace hB2:=hB2.ext hE;clear hE hs hb;refine rm [2,3,4] K ?_;refine zA (zAc [([(2,none)],none),([(8,some 0)],none),([(3,none)],none),([(10,some 0)],none),([],none),([(9,some 3)],none),([(11,some 2)],none),([(12,some 2)],none)] mixed (by kernel_rfl) (by kernel_rfl) (by kernel_rfl) fun K hK=>dvp (fun σ wx hE hk=>zB zBz hk.1 ⟨Ext.refl _,rfl⟩) (dvp (fun σ wx hE hk=>zD zAf hk.1 (hB1.ext hE) rfl ⟨Ext.refl _,rfl⟩) (dvp (fun σ wx hE hk=>zB zBz hk.1 ⟨Ext.refl _,rfl⟩) (dvp (fun σ wx hE hk=>zD zAf hk.1 (hB2.ext hE) rfl ⟨Ext.refl _,rfl⟩) (dcp (fun v w'=>IsW w' v (1)) (fun _ _ _ _ hx h=>h.ext hx.toExt) (fun σ wx hE hk=>zC hb106 (CallK.of_ret (zHA _) fun v w2 hX hr=>⟨hX,hr⟩) rfl) (dvp (fun σ wx hE hk=>zp ⟨Ext.refl _,hk.1⟩) (dvp (fun σ wx hE hk=>zp ⟨Ext.refl _,hk.1⟩) (dcp (fun v w'=>IsW w' v (1)) (fun _ _ _ _ hx h=>h.ext hx.toExt) (fun σ wx hE hk=>zp ⟨Ext.refl _,hk.1⟩) (zAR (hK _ fun wq hE => ?_))))))))));rintro _ rfl _ rfl _ rfl _ rfl v12 N12 _ rfl _ rfl v7 N7;refine zU ?_;replace E0:=E0.trans hE
 replace hx:=hx.ext hE;replace hy:=hy.ext hE;replace hxn:=hxn.ext hE;replace hyn:=hyn.ext hE;replace hB1:=hB1.ext hE;replace hB2:=hB2.ext hE;replace hB3:=hB3.ext hE;clear hE;refine zN (K5 [2,3,4,5,6,7] ?_);refine zCJ (fun ρ w'=>∃ v5 v6 v7,Keep ρ [(2,.pointer (some ⟨b1,0,none⟩)),(3,.pointer (some ⟨b2,0,none⟩)),(4,.pointer (some ⟨b3,0,none⟩)),(5,v5),(6,v6),(7,v7)]∧Ext w w'∧IsW w' v5 (x.num.natAbs*y.den)∧IsW w' v6 (y.num.natAbs*x.den)∧IsW w' v7 (x.den*y.den)∧Blk w' b1 37 [Value.bool (decide (x<0)),Value.slice p1 l1 k1,Value.slice p2 l2 k2]∧Blk w' b2 37 [Value.bool (decide (y<0)),Value.slice p3 l3 k3,Value.slice p4 l4 k4]∧Blk w' b3 37 [Value.bool false,Value.slice none 0 0,Value.slice none 0 0]) ?_ ?_
 · refine rj fun K=>K1 (zB zEk rfl (K1 (zD zAf rfl hB1 rfl (K1 (zJ zX rfl (K1 (zB zEk rfl (K1 (zD zAf rfl hB2 rfl (K1 (zJ zX rfl (K1 (zy (l2+l4) rfl rfl rfl (by omega) (K8 rfl (rm [2,3,4,5,6,7,20] K ?_)))))))))))))));refine K0 rfl ?_ ?_<;>intro hc
   · clear hc
     refine zAc [([(5,none)],none),([(3,none)],none),([(22,some 0)],none),([(21,some 2),(23,some 0)],none),([(6,none)],none),([(2,none)],none),([(26,some 0)],none),([(25,some 2),(27,some 0)],none),([(2,none)],none),([(29,some 0)],none),([(3,none)],none),([(31,some 0)],none),([(30,some 2),(32,some 0)],none),([(24,some 9)],none),([(28,some 6)],none),([(33,some 2)],none)] mixed (by kernel_rfl) (by kernel_rfl) (by kernel_rfl) fun K hK=>dvp (fun σ wx hE hk=>zF ⟨Ext.refl _,hk.1⟩) (dvp (fun σ wx hE hk=>zW zAB hk.1 (hB2.ext hE) (Nat.le_of_ble_eq_true rfl) ⟨Ext.refl _,rfl⟩) (dcp (fun v w'=>IsW w' v (y.den)) (fun _ _ _ _ hx h=>h.ext hx.toExt) (fun σ wx hE hk=>zC hb104 (CallK.of_ret (zCH (IsNum.of_eq hk.1 (hy.ext hE))) fun v w2 hX hr=>⟨hX,hr⟩) rfl) (dcp (fun v w'=>IsW w' v (x.num.natAbs*y.den)) (fun _ _ _ _ hx h=>h.ext hx.toExt) (fun σ wx hE hk=>zC hb103 (CallK.of_ret (zDk (IsW.of_eq hk.1 (hxn.ext hE)) hk.2.1 hf.xn hf.yd) fun v w2 hX hr=>⟨hX,hr⟩) rfl) (dvp (fun σ wx hE hk=>zF ⟨Ext.refl _,hk.1⟩) (dvp (fun σ wx hE hk=>zW zAB hk.1 (hB1.ext hE) (Nat.le_of_ble_eq_true rfl) ⟨Ext.refl _,rfl⟩) (dcp (fun v w'=>IsW w' v (x.den)) (fun _ _ _ _ hx h=>h.ext hx.toExt) (fun σ wx hE hk=>zC hb104 (CallK.of_ret (zCH (IsNum.of_eq hk.1 (hx.ext hE))) fun v w2 hX hr=>⟨hX,hr⟩) rfl) (dcp (fun v w'=>IsW w' v (y.num.natAbs*x.den)) (fun _ _ _ _ hx h=>h.ext hx.toExt) (fun σ wx hE hk=>zC hb103 (CallK.of_ret (zDk (IsW.of_eq hk.1 (hyn.ext hE)) hk.2.1 hf.yn hf.xd) fun v w2 hX hr=>⟨hX,hr⟩) rfl) (dvp (fun σ wx hE hk=>zW zAB hk.1 (hB1.ext hE) (Nat.le_of_ble_eq_true rfl) ⟨Ext.refl _,rfl⟩) (dcp (fun v w'=>IsW w' v (x.den)) (fun _ _ _ _ hx h=>h.ext hx.toExt) (fun σ wx hE hk=>zC hb104 (CallK.of_ret (zCH (IsNum.of_eq hk.1 (hx.ext hE))) fun v w2 hX hr=>⟨hX,hr⟩) rfl) (dvp (fun σ wx hE hk=>zW zAB hk.1 (hB2.ext hE) (Nat.le_of_ble_eq_true rfl) ⟨Ext.refl _,rfl⟩) (dcp (fun v w'=>IsW w' v (y.den)) (fun _ _ _ _ hx h=>h.ext hx.toExt) (fun σ wx hE hk=>zC hb104 (CallK.of_ret (zCH (IsNum.of_eq hk.1 (hy.ext hE))) fun v w2 hX hr=>⟨hX,hr⟩) rfl) (dcp (fun v w'=>IsW w' v (x.den*y.den)) (fun _ _ _ _ hx h=>h.ext hx.toExt) (fun σ wx hE hk=>zC hb103 (CallK.of_ret (zDk hk.1 hk.2.1 hf.xd hf.yd) fun v w2 hX hr=>⟨hX,hr⟩) rfl) (dcp (fun v w'=>IsW w' v (x.num.natAbs*y.den)) (fun _ _ _ _ hx h=>h.ext hx.toExt) (fun σ wx hE hk=>zp ⟨Ext.refl _,hk.1⟩) ?_)))))))))))))
     refine dcp (fun v w'=>IsW w' v (y.num.natAbs*x.den)) (fun _ _ _ _ hx h=>h.ext hx.toExt) (fun σ wx hE hk=>zp ⟨Ext.refl _,hk.1⟩) (dcp (fun v w'=>IsW w' v (x.den*y.den)) (fun _ _ _ _ hx h=>h.ext hx.toExt) (fun σ wx hE hk=>zp ⟨Ext.refl _,hk.1⟩) (zAR (hK _ fun wq hE => ?_)));rintro _ rfl _ rfl v23 N23 v24 N24 _ rfl _ rfl v27 N27 v28 N28 _ rfl v30 N30 _ rfl v32 N32 v33 N33 v5 N5 v6 N6 v7 N7;refine zU ?_;replace E0:=E0.trans hE;replace hx:=hx.ext hE;replace hy:=hy.ext hE;replace hxn:=hxn.ext hE;replace hyn:=hyn.ext hE;replace hB1:=hB1.ext hE;replace hB2:=hB2.ext hE;replace hB3:=hB3.ext hE;replace N12:=N12.ext hE;clear hE;exact zV ⟨rfl,_,_,_,(kp rfl),E0,N5,N6,N7,hB1,hB2,hB3⟩
   · have hd0:l2+l4=0:=by have:=of_decide_eq_false hc;omega
     clear hc;have hd1:x.den=1:=hz2.1 (by omega);have hd2:y.den=1:=hz4.1 (by omega);refine zz (zV ?_);exact ⟨rfl,_,_,_,(kp rfl),E0,by rw [hd2,Nat.mul_one];exact hxn,by rw [hd1,Nat.mul_one];exact hyn,by rw [hd1,hd2];exact N7,hB1,hB2,hB3⟩
 · clear E0 hxn hyn hB1 hB2 hB3;rintro ρ2 w2 ⟨v5,v6,v7,hk,E0,h5,h6,h7,hB1,hB2,hB3⟩;refine wpe_k _ hk ?_;clear hk ρ2;refine zA (zG (rj fun K=>K1 (zB zCf rfl (K1 (zD zBm rfl hB1 rfl (K1 (zB zCf rfl (K1 (zD zBm rfl hB2 rfl (K1 (runs_beql zNZ rfl rfl (ag (rm [2,3,4,5,6,7,34] K ?_)))))))))))));refine K0 rfl ?_ ?_<;>intro hc
   · have he:decide (x<0)=decide (y<0):=eq_of_beq hc;clear hc;refine zA ?_;have hnw:NoW [b3] _:=noW1 hB3 (by decide);refine zCb [⟨7,b3,Cell3 b3,NumAt b3 (x+y)⟩] [([(2,none)],none),([(40,some 0)],none),([(5,none)],none),([(6,none)],none),([(42,some 1),(43,some 0)],none),([(7,none)],none),([(41,some 4),(44,some 1),(45,some 0)],none),([(4,none),(46,some 0)],none)] mixed (by kernel_rfl) (by kernel_rfl) (by kernel_rfl) (by simp) (by kernel_rfl) (all1 (zFY hB3 rfl)) fun K hK=>dsv rfl (fun σ wx hE hk=>zB zCf hk.1 ⟨Ext.refl _,rfl⟩) (dsv rfl (fun σ wx hE hk=>zD zBm hk.1 (hB1.extS hE (nin1 ne_b1_b3)) rfl ⟨Ext.refl _,rfl⟩) (dsv rfl (fun σ wx hE hk=>zF ⟨Ext.refl _,hk.1⟩) (dsv rfl (fun σ wx hE hk=>zF ⟨Ext.refl _,hk.1⟩) (dsn (fun v w'=>IsW w' v (x.num.natAbs*y.den+y.num.natAbs*x.den)) rfl (fun _ _ _ h1 hx h=>h.extS hx (hnw.ext h1)) (fun σ wx hE hk=>zC hb234 (CallK.of_ret (zMi (IsW.of_eq hk.1 (h5.extS hE hnw)) (IsW.of_eq hk.2.1 (h6.extS hE hnw)) hf.nd hf.nd') fun v w2 hX hr=>⟨hX,hr⟩) rfl) (dsv rfl (fun σ wx hE hk=>zF ⟨Ext.refl _,hk.1⟩) ?_)))))
     refine dsn (fun v w'=>IsNum w' v (x+y)) rfl (fun _ _ _ h1 hx h=>h.extS hx (hnw.ext h1)) (fun σ wx hE hk=>zC hb102 (CallK.eq3 hk.1 rfl rfl (CallK.of_ret (zBT hk.2.1 (IsW.of_eq hk.2.2.1 (h7.extS hE hnw)) (Nat.mul_ne_zero x.den_nz y.den_nz) hf.add hf.dd) fun v w2 hX hr=>⟨hX,by rw [q_add_same x y he];exact hr⟩)) rfl) ?_;refine dss _ rfl (fun σ wx hE hpre hk=>zAx hk.1 hk.2.1 hpre) (zHn (hK _ fun wq hS hP => ?_));rintro _ rfl _ rfl _ rfl _ rfl v44 N44 _ rfl v46 N46 _ _;refine zU ?_;obtain ⟨⟨cs,hB4,hl4,hN4⟩,-⟩:=hP;replace E0:=E0.updS hS hgb3;refine zN (K5 [2,3,4] ?_);exact zE (zh (zY (zQ ⟨rfl,_,zx rfl rfl rfl zAB hB4 hl4,E0,hN4⟩)))
   · have he:decide (x<0)≠decide (y<0):=beq_eq_false_iff_ne.1 hc;clear hc;refine rJ fun K=>mv (K1 (j6 E0 h5.ext h6.ext h7.ext hB1.ext hB2.ext hB3.ext hb174 (zMo h5 h6 hf.nd hf.nd') fun v6_2 w4 E0 h5 h6 h7 hB1 hB2 hB3 hr => ?_));obtain ⟨cm,rfl,hcm⟩:=hr;refine K8 rfl (ag (rm [2,3,4,5,6,7,47] K ?_));refine K0 rfl ?_ ?_<;>intro hc
     · have hlt:x.num.natAbs*y.den<y.num.natAbs*x.den:=hcm.1.1 (of_decide_eq_true hc);clear hc;refine zA ?_;have hnw:NoW [b3] _:=noW1 hB3 (by decide);refine zCb [⟨7,b3,Cell3 b3,NumAt b3 (x+y)⟩] [([(3,none)],none),([(52,some 0)],none),([(6,none)],none),([(5,none)],none),([(54,some 1),(55,some 0)],none),([(7,none)],none),([(53,some 4),(56,some 1),(57,some 0)],none),([(4,none),(58,some 0)],none)] mixed (by kernel_rfl) (by kernel_rfl) (by kernel_rfl) (by simp) (by kernel_rfl) (all1 (zFY hB3 rfl)) fun K hK=>dsv rfl (fun σ wx hE hk=>zB zCf hk.1 ⟨Ext.refl _,rfl⟩) (dsv rfl (fun σ wx hE hk=>zD zBm hk.1 (hB2.extS hE (nin1 ne_b2_b3)) rfl ⟨Ext.refl _,rfl⟩) (dsv rfl (fun σ wx hE hk=>zF ⟨Ext.refl _,hk.1⟩) (dsv rfl (fun σ wx hE hk=>zF ⟨Ext.refl _,hk.1⟩) (dsn (fun v w'=>IsW w' v (y.num.natAbs*x.den-x.num.natAbs*y.den)) rfl (fun _ _ _ h1 hx h=>h.extS hx (hnw.ext h1)) (fun σ wx hE hk=>zC hb235 (CallK.of_ret (zNv (IsW.of_eq hk.1 (h6.extS hE hnw)) (IsW.of_eq hk.2.1 (h5.extS hE hnw)) hf.nd' (Nat.le_of_lt hlt)) fun v w2 hX hr=>⟨hX,hr⟩) rfl) (dsv rfl (fun σ wx hE hk=>zF ⟨Ext.refl _,hk.1⟩) ?_)))))
       refine dsn (fun v w'=>IsNum w' v (x+y)) rfl (fun _ _ _ h1 hx h=>h.extS hx (hnw.ext h1)) (fun σ wx hE hk=>zC hb102 (CallK.eq3 hk.1 rfl rfl (CallK.of_ret (zBT hk.2.1 (IsW.of_eq hk.2.2.1 (h7.extS hE hnw)) (Nat.mul_ne_zero x.den_nz y.den_nz) (hf.nd'.le (Nat.sub_le _ _)) hf.dd) fun v w2 hX hr=>⟨hX,by rw [zIv x y he (Nat.le_of_lt hlt)];exact hr⟩)) rfl) ?_;refine dss _ rfl (fun σ wx hE hpre hk=>zAx hk.1 hk.2.1 hpre) (zHn (hK _ fun wq hS hP => ?_));rintro _ rfl _ rfl _ rfl _ rfl v56 N56 _ rfl v58 N58 _ _;refine zU ?_;obtain ⟨⟨cs,hB4,hl4,hN4⟩,-⟩:=hP;replace E0:=E0.updS hS hgb3;refine zN (K5 [2,3,4] ?_);exact zE (zh (zY (zQ ⟨rfl,_,zx rfl rfl rfl zAB hB4 hl4,E0,hN4⟩)))
     · have hge:y.num.natAbs*x.den≤x.num.natAbs*y.den:=Nat.le_of_not_lt fun e=>of_decide_eq_false hc (hcm.1.2 e);clear hc;refine zz (zT (zN (zA ?_)));have hnw:NoW [b3] _:=noW1 hB3 (by decide);refine zCb [⟨7,b3,Cell3 b3,NumAt b3 (x+y)⟩] [([(2,none)],none),([(59,some 0)],none),([(5,none)],none),([(6,none)],none),([(61,some 1),(62,some 0)],none),([(7,none)],none),([(60,some 4),(63,some 1),(64,some 0)],none),([(4,none),(65,some 0)],none)] mixed (by kernel_rfl) (by kernel_rfl) (by kernel_rfl) (by simp) (by kernel_rfl) (all1 (zFY hB3 rfl)) fun K hK=>dsv rfl (fun σ wx hE hk=>zB zCf hk.1 ⟨Ext.refl _,rfl⟩) (dsv rfl (fun σ wx hE hk=>zD zBm hk.1 (hB1.extS hE (nin1 ne_b1_b3)) rfl ⟨Ext.refl _,rfl⟩) (dsv rfl (fun σ wx hE hk=>zF ⟨Ext.refl _,hk.1⟩) (dsv rfl (fun σ wx hE hk=>zF ⟨Ext.refl _,hk.1⟩) (dsn (fun v w'=>IsW w' v (x.num.natAbs*y.den-y.num.natAbs*x.den)) rfl (fun _ _ _ h1 hx h=>h.extS hx (hnw.ext h1)) (fun σ wx hE hk=>zC hb235 (CallK.of_ret (zNv (IsW.of_eq hk.1 (h5.extS hE hnw)) (IsW.of_eq hk.2.1 (h6.extS hE hnw)) hf.nd hge) fun v w2 hX hr=>⟨hX,hr⟩) rfl) (dsv rfl (fun σ wx hE hk=>zF ⟨Ext.refl _,hk.1⟩) ?_)))))
       refine dsn (fun v w'=>IsNum w' v (x+y)) rfl (fun _ _ _ h1 hx h=>h.extS hx (hnw.ext h1)) (fun σ wx hE hk=>zC hb102 (CallK.eq3 hk.1 rfl rfl (CallK.of_ret (zBT hk.2.1 (IsW.of_eq hk.2.2.1 (h7.extS hE hnw)) (Nat.mul_ne_zero x.den_nz y.den_nz) (hf.nd.le (Nat.sub_le _ _)) hf.dd) fun v w2 hX hr=>⟨hX,by rw [q_add_more x y he hge];exact hr⟩)) rfl) ?_;refine dss _ rfl (fun σ wx hE hpre hk=>zAx hk.1 hk.2.1 hpre) (zHn (hK _ fun wq hS hP => ?_));rintro _ rfl _ rfl _ rfl _ rfl v63 N63 _ rfl v65 N65 _ _;refine zU ?_;obtain ⟨⟨cs,hB4,hl4,hN4⟩,-⟩:=hP;replace E0:=E0.updS hS hgb3;refine zN (K5 [2,3,4] ?_);exact zE (zQ ⟨rfl,_,zx rfl rfl rfl zAB hB4 hl4,E0,hN4⟩)
theorem room_neg (x y:Rat):rroom x (-y)=rroom x y:=by
 unfold rroom sz;rw [Rat.neg_num,Int.natAbs_neg,Rat.neg_den]
theorem zNh {x y:Rat} (hx:IsNum w u x) (hy:IsNum w v y) (hr:rroom x y=true):Ret prog 237 #[u,v] w (fun r w'=>IsNum w' r (x-y)):=by
 have hx0:=hx;have hy0:=hy;obtain ⟨xn,xd,rfl,hxn,hxd⟩:=hx0;obtain ⟨yn,yd,rfl,hyn,hyd⟩:=hy0;refine J0 9 func237 rfl (rj fun K => ?_);refine K1 (zk fun b1 w1 hb hE hB1 hs => ?_);have hgb1:w.heap.size≤b1:=by rw [hb];exact E0.size
 replace E0:=E0.trans hE;replace hx:=hx.ext hE;replace hy:=hy.ext hE;clear hE hs hb;refine K1 (zk fun b2 w2 hb hE hB2 hs => ?_);have hgb2:w.heap.size≤b2:=by rw [hb];exact E0.size
 have ne_b1_b2:b1≠b2:=by have:=hB1.lt;omega
 replace E0:=E0.trans hE;replace hx:=hx.ext hE;replace hy:=hy.ext hE;replace hB1:=hB1.ext hE;clear hE hs hb;refine K1 (zK zAP fun b3 w3 hb hE hB3 hs => ?_);have hgb3:w.heap.size≤b3:=by rw [hb];exact E0.size
 have ne_b1_b3:b1≠b3:=by have:=hB1.lt;omega
 have ne_b2_b3:b2≠b3:=by have:=hB2.lt;omega
 replace E0:=E0.trans hE;replace hx:=hx.ext hE;replace hy:=hy.ext hE;replace hB1:=hB1.ext hE;replace hB2:=hB2.ext hE;clear hE hs hb;refine rm [2,3,4] K ?_;refine zA ?_;have hnw:NoW [b3] _:=noW1 hB3 (by decide);refine zCb [⟨4,b3,Cell3 b3,NumAt b3 (x-y)⟩] [([(2,none)],none),([(3,none)],none),([(6,some 0)],none),([(5,some 2),(7,some 0)],none),([(4,none),(8,some 0)],none)] mixed (by kernel_rfl) (by kernel_rfl) (by kernel_rfl) (by simp) (by kernel_rfl) (all1 (zFY hB3 rfl)) fun K hK=>dsv rfl (fun σ wx hE hk=>zW zAB hk.1 (hB1.extS hE (nin1 ne_b1_b3)) (Nat.le_of_ble_eq_true rfl) ⟨Ext.refl _,rfl⟩) (dsv rfl (fun σ wx hE hk=>zW zAB hk.1 (hB2.extS hE (nin1 ne_b2_b3)) (Nat.le_of_ble_eq_true rfl) ⟨Ext.refl _,rfl⟩) (dsn (fun v w'=>IsNum w' v (-y)) rfl (fun _ _ _ h1 hx h=>h.extS hx (hnw.ext h1)) (fun σ wx hE hk=>zC hb132 (CallK.of_ret (zIb (IsNum.of_eq hk.1 (hy.extS hE hnw))) fun v w2 hX hr=>⟨hX,hr⟩) rfl) ?_));refine dsn (fun v w'=>IsNum w' v (x-y)) rfl (fun _ _ _ h1 hx h=>h.extS hx (hnw.ext h1)) (fun σ wx hE hk=>zC hb146 (CallK.of_ret (zFL (IsNum.of_eq hk.1 (hx.extS hE hnw)) hk.2.1 (by rw [room_neg];exact hr)) fun v w2 hX hr=>⟨hX,by rw [Rat.sub_eq_add_neg];exact hr⟩) rfl) ?_;refine dss _ rfl (fun σ wx hE hpre hk=>zAx hk.1 hk.2.1 hpre) (zHn (hK _ fun wq hS hP => ?_));rintro _ rfl _ rfl v7 N7 v8 N8 _ _;refine zU ?_
 obtain ⟨⟨cs,hB4,hl4,hN4⟩,-⟩:=hP;replace E0:=E0.updS hS hgb3;refine zN (K5 [4] ?_);exact zE (zQ ⟨rfl,_,zx rfl rfl rfl zAB hB4 hl4,E0,hN4⟩)
theorem zNf {x y:Rat} (hx:IsNum w u x) (hy:IsNum w v y) (hr:rroom x y=true):Ret prog 37 #[u,v] w (fun r w'=>∃ q,r = .tuple #[q,.int .i64 (if y=0 then 8 else 0)]∧IsNum w' q (x/y)):=by
 have hf:=zGd hr;obtain ⟨p1,l1,k1,p2,l2,k2,rfl,hz1,hz2,hxn,hxd,hb1,hb2⟩:=hx.formF hf.xn hf.xd;obtain ⟨p3,l3,k3,p4,l4,k4,rfl,hz3,hz4,hyn,hyd,hb3,hb4⟩:=hy.formF hf.yn hf.yd;refine J0 27 func37 rfl (rj fun K => ?_);refine K1 (zk fun b1 w1 hb hE hB1 hs => ?_);have hgb1:w.heap.size≤b1:=by rw [hb];exact E0.size
 replace E0:=E0.trans hE;replace hx:=hx.ext hE;replace hy:=hy.ext hE;replace hxn:=hxn.ext hE;replace hyn:=hyn.ext hE;clear hE hs hb;refine K1 (zk fun b2 w2 hb hE hB2 hs => ?_);have hgb2:w.heap.size≤b2:=by rw [hb];exact E0.size
 have ne_b1_b2:b1≠b2:=by have:=hB1.lt;omega
 replace E0:=E0.trans hE;replace hx:=hx.ext hE;replace hy:=hy.ext hE;replace hxn:=hxn.ext hE;replace hyn:=hyn.ext hE;replace hB1:=hB1.ext hE;clear hE hs hb;refine K1 (zK zAP fun b3 w3 hb hE hB3 hs => ?_);have hgb3:w.heap.size≤b3:=by rw [hb];exact E0.size
 have ne_b1_b3:b1≠b3:=by have:=hB1.lt;omega
 have ne_b2_b3:b2≠b3:=by have:=hB2.lt;omega
 replace E0:=E0.trans hE;replace hx:=hx.ext hE;replace hy:=hy.ext hE;replace hxn:=hxn.ext hE;replace hyn:=hyn.ext hE;replace hB1:=hB1.ext hE;replace hB2:=hB2.ext hE;clear hE hs hb;refine ag (rm [2,3,4] K ?_);refine zA (zA ?_);rcases (show y=0∨y≠0 from Classical.em _) with hy0 | hy0
 · obtain rfl:=hz3.2 hy0;refine K6 fun K=>K1 (zB zBz rfl (K1 (zD zAf rfl hB2 rfl (K1 (zJ zX rfl (K8 rfl (rs [2,3,4,9] K ?_)))))));refine wct rfl (rj fun K=>K1 (zj (cs := #[.bool false,.slice none 0 0,.slice none 0 0]) (by kernel_rfl) (K1 (zI rfl IsNum.zero (Cell3.of hB3 rfl) fun _ w9 hU hN => ?_))));replace E0:=E0.upd hU hgb3;obtain ⟨cs,hB4,hl4,hN4⟩:=hN;refine ag (rm [4,5] K ?_);refine zE (zY (zQ ?_));exact ⟨rfl,_,zu rfl rfl rfl rfl zAB hB4 hl4,E0,_,by rw [if_pos hy0];rfl,by rw [hy0,Rat.div_def,Rat.inv_zero,Rat.mul_zero];exact hN4⟩
 · have hl:l3≠0:=fun e=>hy0 (hz3.1 e);refine K6 fun K=>K1 (zB zBz rfl (K1 (zD zAf rfl hB2 rfl (K1 (zJ zX rfl (K8 rfl (rs [2,3,4,9] K ?_)))))));refine wcf (congrArg Value.bool (beq_eq_false_iff_ne.2 (by omega))) (sk (zA ?_));have hnw:NoW [b3] _:=noW1 hB3 (by decide)
   refine zCb [⟨16,b3,Cell3 b3,NumAt b3 (x/y)⟩] [([(2,none)],none),([(11,some 0)],none),([(3,none)],none),([(13,some 0)],none),([(12,some 2),(14,some 0)],none),([(2,none)],none),([(16,some 0)],none),([(3,none)],none),([(18,some 0)],none),([(17,some 2),(19,some 0)],none),([(2,none)],none),([(21,some 0)],none),([(3,none)],none),([(23,some 0)],none),([(22,some 2),(24,some 0)],none),([(15,some 10),(20,some 5),(25,some 0)],none),([(4,none),(26,some 0)],none),([],none)] mixed (by kernel_rfl) (by kernel_rfl) (by kernel_rfl) (by simp) (by kernel_rfl) (all1 (zFY hB3 rfl)) fun K hK=>dsv rfl (fun σ wx hE hk=>zB zCf hk.1 ⟨Ext.refl _,rfl⟩) (dsv rfl (fun σ wx hE hk=>zD zBm hk.1 (hB1.extS hE (nin1 ne_b1_b3)) rfl ⟨Ext.refl _,rfl⟩) (dsv rfl (fun σ wx hE hk=>zB zCf hk.1 ⟨Ext.refl _,rfl⟩) (dsv rfl (fun σ wx hE hk=>zD zBm hk.1 (hB2.extS hE (nin1 ne_b2_b3)) rfl ⟨Ext.refl _,rfl⟩) (dsv rfl (fun σ wx hE hk=>zKj zNZ hk.1 hk.2.1 ⟨Ext.refl _,rfl⟩) (dsv rfl (fun σ wx hE hk=>zB zBz hk.1 ⟨Ext.refl _,rfl⟩) (dsv rfl (fun σ wx hE hk=>zD zAf hk.1 (hB1.extS hE (nin1 ne_b1_b3)) rfl ⟨Ext.refl _,rfl⟩) (dsv rfl (fun σ wx hE hk=>zW zAB hk.1 (hB2.extS hE (nin1 ne_b2_b3)) (Nat.le_of_ble_eq_true rfl) ⟨Ext.refl _,rfl⟩) (dsn (fun v w'=>IsW w' v (y.den)) rfl (fun _ _ _ h1 hx h=>h.extS hx (hnw.ext h1)) (fun σ wx hE hk=>zC hb104 (CallK.of_ret (zCH (IsNum.of_eq hk.1 (hy.extS hE hnw))) fun v w2 hX hr=>⟨hX,hr⟩) rfl) (dsn (fun v w'=>IsW w' v (x.num.natAbs*y.den)) rfl (fun _ _ _ h1 hx h=>h.extS hx (hnw.ext h1)) (fun σ wx hE hk=>zC hb103 (CallK.of_ret (zDk (IsW.of_eq hk.1 (hxn.extS hE hnw)) hk.2.1 hf.xn hf.yd) fun v w2 hX hr=>⟨hX,hr⟩) rfl) (dsv rfl (fun σ wx hE hk=>zW zAB hk.1 (hB1.extS hE (nin1 ne_b1_b3)) (Nat.le_of_ble_eq_true rfl) ⟨Ext.refl _,rfl⟩) (dsn (fun v w'=>IsW w' v (x.den)) rfl (fun _ _ _ h1 hx h=>h.extS hx (hnw.ext h1)) (fun σ wx hE hk=>zC hb104 (CallK.of_ret (zCH (IsNum.of_eq hk.1 (hx.extS hE hnw))) fun v w2 hX hr=>⟨hX,hr⟩) rfl) (dsv rfl (fun σ wx hE hk=>zB zBz hk.1 ⟨Ext.refl _,rfl⟩) (dsv rfl (fun σ wx hE hk=>zD zAf hk.1 (hB2.extS hE (nin1 ne_b2_b3)) rfl ⟨Ext.refl _,rfl⟩) ?_)))))))))))))
   refine dsn (fun v w'=>IsW w' v (x.den*y.num.natAbs)) rfl (fun _ _ _ h1 hx h=>h.extS hx (hnw.ext h1)) (fun σ wx hE hk=>zC hb103 (CallK.of_ret (zDk hk.1 (IsW.of_eq hk.2.1 (hyn.extS hE hnw)) hf.xd hf.yn) fun v w2 hX hr=>⟨hX,hr⟩) rfl) ?_;refine dsn (fun v w'=>IsNum w' v (x/y)) rfl (fun _ _ _ h1 hx h=>h.extS hx (hnw.ext h1)) (fun σ wx hE hk=>zC hb102 (CallK.eq3 hk.1 rfl rfl (CallK.of_ret (zBT hk.2.1 hk.2.2.1 (Nat.mul_ne_zero x.den_nz (fun e=>hy0 (Rat.num_eq_zero.1 (Int.natAbs_eq_zero.1 e)))) hf.nd hf.dn) fun v w2 hX hr=>⟨hX,by rw [q_div x y hy0];exact hr⟩)) rfl) ?_;refine dss _ rfl (fun σ wx hE hpre hk=>zAx hk.1 hk.2.1 hpre) (dsv rfl (fun σ wx hE hk=>zp ⟨Ext.refl _,rfl⟩) (zHn (hK _ fun wq hS hP => ?_)));rintro _ rfl _ rfl _ rfl _ rfl _ rfl _ rfl _ rfl _ rfl v19 N19 v20 N20 _ rfl v22 N22 _ rfl _ rfl v25 N25 v26 N26 _ _ _ rfl;refine zU ?_;obtain ⟨⟨cs,hB4,hl4,hN4⟩,-⟩:=hP;replace E0:=E0.updS hS hgb3;refine zN (K5 [4,5] ?_);refine zE (zQ ?_);exact ⟨rfl,_,zu rfl rfl rfl rfl zAB hB4 hl4,E0,_,by rw [if_neg hy0];rfl,hN4⟩
theorem zCn {x y:Rat} (hx:IsNum w u x) (hy:IsNum w v y) (hr:rroom x y=true):Ret prog 73 #[u,v] w (fun r _=>r = .int .i64 (rcmpI x y)):=by
 have hf:=zGd hr;obtain ⟨p1,l1,k1,p2,l2,k2,rfl,hz1,hz2,hxn,hxd,hb1,hb2⟩:=hx.formF hf.xn hf.xd;obtain ⟨p3,l3,k3,p4,l4,k4,rfl,hz3,hz4,hyn,hyd,hb3,hb4⟩:=hy.formF hf.yn hf.yd;refine J0 34 func73 rfl (rj fun K => ?_);refine K1 (zk fun b1 w1 hb hE hB1 hs => ?_);have hgb1:w.heap.size≤b1:=by rw [hb];exact E0.size
 replace E0:=E0.trans hE;replace hx:=hx.ext hE;replace hy:=hy.ext hE;replace hxn:=hxn.ext hE;replace hyn:=hyn.ext hE;clear hE hs hb;refine K1 (zk fun b2 w2 hb hE hB2 hs => ?_);have hgb2:w.heap.size≤b2:=by rw [hb];exact E0.size
 have ne_b1_b2:b1≠b2:=by have:=hB1.lt;omega
 replace E0:=E0.trans hE;replace hx:=hx.ext hE;replace hy:=hy.ext hE;replace hxn:=hxn.ext hE;replace hyn:=hyn.ext hE;replace hB1:=hB1.ext hE;clear hE hs hb;refine ag (rm [2,3] K ?_);refine zA (zAc [([(2,none)],none),([(7,some 0)],none),([(3,none)],none),([(9,some 0)],none),([(8,some 2)],none),([(10,some 1)],none)] mixed (by kernel_rfl) (by kernel_rfl) (by kernel_rfl) fun K hK=>dvp (fun σ wx hE hk=>zW zAB hk.1 (hB1.ext hE) (Nat.le_of_ble_eq_true rfl) ⟨Ext.refl _,rfl⟩) (dvp (fun σ wx hE hk=>zC hb19 (CallK.of_ret (zAY (IsNum.of_eq hk.1 (hx.ext hE))) fun v w2 hX hr=>⟨hX,hr⟩) rfl) (dvp (fun σ wx hE hk=>zW zAB hk.1 (hB2.ext hE) (Nat.le_of_ble_eq_true rfl) ⟨Ext.refl _,rfl⟩) (dvp (fun σ wx hE hk=>zC hb19 (CallK.of_ret (zAY (IsNum.of_eq hk.1 (hy.ext hE))) fun v w2 hX hr=>⟨hX,hr⟩) rfl) (dvp (fun σ wx hE hk=>zp ⟨Ext.refl _,hk.1⟩) (dvp (fun σ wx hE hk=>zp ⟨Ext.refl _,hk.1⟩) (zAR (hK _ fun wq hE => ?_))))))));rintro _ rfl _ rfl _ rfl _ rfl _ rfl _ rfl;refine zU ?_;replace E0:=E0.trans hE;replace hx:=hx.ext hE;replace hy:=hy.ext hE;replace hxn:=hxn.ext hE;replace hyn:=hyn.ext hE;replace hB1:=hB1.ext hE;replace hB2:=hB2.ext hE;clear hE;refine zN (K5 [2,3,5,6] ?_);refine zA (rJ fun K=>mv (K8 rfl (rm [2,3,5,6,13] K ?_)));refine K0 rfl ?_ ?_<;>intro hc
 · have hne:rsign x≠rsign y:=bne_iff_ne.1 hc;clear hc;refine rJ fun K=>mv (K8 rfl (K1 (zKl rfl rfl (K1 (zCj rfl rfl (ag (rm [4] K ?_)))))));exact zE (zY (en rfl E0 (congrArg (Value.int .i64) (cmp_signs hne))))
 · have heq:rsign x=rsign y:=bne_eq_false_iff_eq.1 hc;clear hc
   refine sk (zA (zAc [([(5,none)],none),([(2,none)],none),([(20,some 0)],none),([(3,none)],none),([(22,some 0)],none),([(21,some 2),(23,some 0)],none),([(3,none)],none),([(25,some 0)],none),([(2,none)],none),([(27,some 0)],none),([(26,some 2),(28,some 0)],none),([(24,some 5),(29,some 0)],none),([(30,some 0)],none),([(31,some 0)],none),([(19,some 13),(32,some 0)],none),([(33,some 0)],none)] mixed (by kernel_rfl) (by kernel_rfl) (by kernel_rfl) fun K hK=>dvp (fun σ wx hE hk=>zF ⟨Ext.refl _,hk.1⟩) (dvp (fun σ wx hE hk=>zB zBz hk.1 ⟨Ext.refl _,rfl⟩) (dvp (fun σ wx hE hk=>zD zAf hk.1 (hB1.ext hE) rfl ⟨Ext.refl _,rfl⟩) (dvp (fun σ wx hE hk=>zW zAB hk.1 (hB2.ext hE) (Nat.le_of_ble_eq_true rfl) ⟨Ext.refl _,rfl⟩) (dcp (fun v w'=>IsW w' v (y.den)) (fun _ _ _ _ hx h=>h.ext hx.toExt) (fun σ wx hE hk=>zC hb104 (CallK.of_ret (zCH (IsNum.of_eq hk.1 (hy.ext hE))) fun v w2 hX hr=>⟨hX,hr⟩) rfl) (dcp (fun v w'=>IsW w' v (x.num.natAbs*y.den)) (fun _ _ _ _ hx h=>h.ext hx.toExt) (fun σ wx hE hk=>zC hb103 (CallK.of_ret (zDk (IsW.of_eq hk.1 (hxn.ext hE)) hk.2.1 hf.xn hf.yd) fun v w2 hX hr=>⟨hX,hr⟩) rfl) (dvp (fun σ wx hE hk=>zB zBz hk.1 ⟨Ext.refl _,rfl⟩) (dvp (fun σ wx hE hk=>zD zAf hk.1 (hB2.ext hE) rfl ⟨Ext.refl _,rfl⟩) (dvp (fun σ wx hE hk=>zW zAB hk.1 (hB1.ext hE) (Nat.le_of_ble_eq_true rfl) ⟨Ext.refl _,rfl⟩) (dcp (fun v w'=>IsW w' v (x.den)) (fun _ _ _ _ hx h=>h.ext hx.toExt) (fun σ wx hE hk=>zC hb104 (CallK.of_ret (zCH (IsNum.of_eq hk.1 (hx.ext hE))) fun v w2 hX hr=>⟨hX,hr⟩) rfl) (dcp (fun v w'=>IsW w' v (y.num.natAbs*x.den)) (fun _ _ _ _ hx h=>h.ext hx.toExt) (fun σ wx hE hk=>zC hb103 (CallK.of_ret (zDk (IsW.of_eq hk.1 (hyn.ext hE)) hk.2.1 hf.yn hf.xd) fun v w2 hX hr=>⟨hX,hr⟩) rfl) ?_))))))))))))
   refine dcp (fun v _=>∃ c,v = .int .i64 c∧CmpIs c (x.num.natAbs*y.den) (y.num.natAbs*x.den)) (fun _ _ _ _ _ h=>h) (fun σ wx hE hk=>zC hb174 (CallK.of_ret (zMo hk.1 hk.2.1 hf.nd hf.nd') fun v w2 hX hr=>⟨hX,hr⟩) rfl) ?_;refine dcp (fun v _=>∃ c:Int,v = .int .i64 (if c<1 then c else 1)∧CmpIs c (x.num.natAbs*y.den) (y.num.natAbs*x.den)) (fun _ _ _ _ _ h=>h) (fun σ wx hE hk=>(by obtain ⟨c,e,hc⟩:=hk.1;exact zKl rfl e ⟨Ext.refl _,c,rfl,hc⟩)) ?_;refine dcp (fun v _=>∃ c:Int,v = .int .i64 (if (-1:Int)<(if c<1 then c else 1) then (if c<1 then c else 1) else -1)∧CmpIs c (x.num.natAbs*y.den) (y.num.natAbs*x.den)) (fun _ _ _ _ _ h=>h) (fun σ wx hE hk=>(by obtain ⟨c,e,hc⟩:=hk.1;exact zCj rfl e ⟨Ext.refl _,c,rfl,hc⟩)) ?_;refine dcp (fun v _=>v = .int .i64 (rcmpI x y)) (fun _ _ _ _ _ h=>h) (fun σ wx hE hk=>(by obtain ⟨c,e,hc⟩:=hk.2.1;exact zH hk.1 e rfl ⟨Ext.refl _,congrArg (Value.int .i64) (cmp_same heq hc)⟩)) ?_;refine dcp (fun v _=>v = .int .i64 (rcmpI x y)) (fun _ _ _ _ _ h=>h) (fun σ wx hE hk=>zp ⟨Ext.refl _,hk.1⟩) (zAR (hK _ fun wq hE => ?_));rintro _ rfl _ rfl _ rfl _ rfl v23 N23 v24 N24 _ rfl _ rfl _ rfl v28 N28 v29 N29 v30 N30 v31 N31 v32 N32 v33 N33 v4 N4;refine zU ?_;replace E0:=E0.trans hE
   replace hx:=hx.ext hE;replace hy:=hy.ext hE;replace hxn:=hxn.ext hE;replace hyn:=hyn.ext hE;replace hB1:=hB1.ext hE;replace hB2:=hB2.ext hE;clear hE;refine zN (K5 [4] ?_);exact zE (en rfl E0 N4)
end Go.Proofs.YtjiendlfobjanaaGreatDoor
namespace Go.Proofs.YtjiendlfobjanaaGreatDoor
open Go Go.RowKit Go.Proofs Tryz
variable {T ty:TypeId} {af:Array Edge} {b c cap i ix k o sz':Nat} {cs:List Value} {g:Option (Nat×Bool)} {l:List Rat} {p:Option Addr} {pos:String} {q:Rat} {r:Option Nat} {u v:Value} {w w':World} {x y:Operand} {σ:Operand→Value}
def PRd (w:World) (p:Option Addr) (l:List Rat):Prop :=
 l=[]∨∃ b o cs,p=some ⟨b,o,none⟩∧Blk w b 37 cs∧o+3*l.length≤cs.length∧∀ i,i<l.length→IsNum w (.agg ((cs.drop (o+3*i)).take 3).toArray) (l.getD i 0)
def zM (w:World) (v:Value) (l:List Rat):Prop:=∃ p cap,v = .slice p l.length cap∧l.length≤cap∧PRd w p l∧l.length≤4096
def IsOwn (sz:Nat) (w:World) (v:Value) (l:List Rat):Prop:=∃ p cap,v = .slice p l.length cap∧l.length≤cap∧PRd w p l∧l.length≤4096∧(l≠[]→∃ b,p=some ⟨b,0,none⟩∧sz≤b)
theorem IsOwn.poly {sz:Nat} (h:IsOwn sz w v l):zM w v l:=by
 obtain ⟨p,c,h1,h2,h3,h4,_⟩:=h;exact ⟨p,c,h1,h2,h3,h4⟩
theorem IsOwn.sz {sz:Nat} (h:IsOwn sz w v l) (hs:sz'≤sz):IsOwn sz' w v l:=by
 obtain ⟨p,c,h1,h2,h3,h4,h5⟩:=h;exact ⟨p,c,h1,h2,h3,h4,fun hn=>let ⟨b,e1,e2⟩:=h5 hn;⟨b,e1,Nat.le_trans hs e2⟩⟩
theorem PRd.ext (h:PRd w p l) (hx:Ext w w'):PRd w' p l:=by
 rcases h with h | ⟨b,o,cs,h1,h2,h3,h4⟩
 · exact .inl h
 · exact .inr ⟨b,o,cs,h1,h2.ext hx,h3,fun i hi=>(h4 i hi).ext hx⟩
theorem zM.ext (h:zM w v l) (hx:Ext w w'):zM w' v l:=by
 obtain ⟨p,c,h1,h2,h3,h4⟩:=h;exact ⟨p,c,h1,h2,h3.ext hx,h4⟩
theorem IsOwn.ext {sz:Nat} (h:IsOwn sz w v l) (hx:Ext w w'):IsOwn sz w' v l:=by
 obtain ⟨p,c,h1,h2,h3,h4,h5⟩:=h;exact ⟨p,c,h1,h2,h3.ext hx,h4,h5⟩
theorem zM.of_eq (h:v=u) (hx:zM w u l):zM w v l:=h ▸ hx
theorem zM.nil:zM w (.slice none 0 0) []:=⟨none,0,rfl,Nat.le_refl _,.inl rfl,by decide⟩
theorem IsOwn.nil {sz:Nat}:IsOwn sz w (.slice none 0 0) []:=⟨none,0,rfl,Nat.le_refl _,.inl rfl,by decide,fun h=>absurd rfl h⟩
theorem PRd.upd (h:PRd w p l) (hu:Upd b w w') (hb:Blk w b 37 cs) (hp:∀ a,p=some a→l≠[]→a.block≠b):PRd w' p l:=by
 rcases h with h | ⟨c,o,cs',h1,h2,h3,h4⟩
 · exact .inl h
 · by_cases h0:l=[]
   · exact .inl h0
   · exact .inr ⟨c,o,cs',h1,h2.upd hu (hp _ h1 h0),h3,fun i hi=>(h4 i hi).upd hu hb (by decide)⟩
theorem PRd.lt (h:PRd w p l) (h0:l≠[]):∃ a,p=some a∧a.block<w.heap.size:=by
 rcases h with h | ⟨c,o,cs',h1,h2,h3,h4⟩
 · exact absurd h h0
 · exact ⟨_,h1,h2.lt⟩
theorem PRd.ne (h:PRd w p l) (hb:w.heap.size≤b):∀ a,p=some a→l≠[]→a.block≠b:=fun a ha h0=>by
 obtain ⟨a',h1,h2⟩:=h.lt h0;rw [ha] at h1;cases h1;omega
theorem PRd.at (h:PRd w p l) (hi:i<l.length):∃ b o cs,p=some ⟨b,o,none⟩∧Blk w b 37 cs∧o+3*i+3≤cs.length∧IsNum w (.agg ((cs.drop (o+3*i)).take 3).toArray) (l.getD i 0):=by
 rcases h with h | ⟨c,o,cs',h1,h2,h3,h4⟩
 · subst h;simp at hi
 · exact ⟨c,o,cs',h1,h2,by omega,h4 i hi⟩
theorem PRd.take (h:PRd w p l) (n:Nat):PRd w p (l.take n):=by
 rcases h with h | ⟨b,o,cs,h1,h2,h3,h4⟩
 · exact .inl (by rw [h];simp)
 · refine .inr ⟨b,o,cs,h1,h2,by simp;omega,fun i hi => ?_⟩;have hi':i<n∧i<l.length:=by simp at hi;omega
   have:=h4 i hi'.2;rwa [show (l.take n).getD i 0=l.getD i 0 from by simp [hi'.1]]
theorem PRd.cells (h:PRd w p l):∃ cs,Cells w p 37 cs∧cs.length=l.length*3∧∀ i,i<l.length→IsNum w (.agg ((cs.drop (3*i)).take 3).toArray) (l.getD i 0):=by
 rcases h with h | ⟨b,o,cs,h1,h2,h3,h4⟩
 · subst h;exact ⟨[],.inl rfl,rfl,fun i hi=>by simp at hi⟩
 · refine ⟨(cs.drop o).take (l.length*3),.inr ⟨b,o,cs,h1,h2,by simp⟩,by simp;omega,fun i hi => ?_⟩;have:=h4 i hi;rwa [show (((cs.drop o).take (l.length*3)).drop (3*i)).take 3=(cs.drop (o+3*i)).take 3 from by
    rw [List.drop_take,List.take_take,List.drop_drop,Nat.min_eq_left (by omega)]]
def PBlk (w:World) (b:Nat) (l:List Rat):Prop:=∃ cs,Blk w b 37 cs∧3*l.length≤cs.length∧∀ i,i<l.length→IsNum w (.agg ((cs.drop (3*i)).take 3).toArray) (l.getD i 0)
theorem PBlk.ext (h:PBlk w b l) (hx:Ext w w'):PBlk w' b l:=by
 obtain ⟨cs,h1,h2,h3⟩:=h;exact ⟨cs,h1.ext hx,h2,fun i hi=>(h3 i hi).ext hx⟩
theorem PBlk.lt (h:PBlk w b l):b<w.heap.size:=by obtain ⟨cs,h1,_⟩:=h;exact h1.lt
theorem PBlk.rd (h:PBlk w b l):PRd w (some ⟨b,0,none⟩) l:=by
 obtain ⟨cs,h1,h2,h3⟩:=h;exact .inr ⟨b,0,cs,rfl,h1,by omega,fun i hi=>by rw [Nat.zero_add];exact h3 i hi⟩
theorem PRd.blk (h:PRd w (some ⟨b,0,none⟩) l) (h0:l≠[]):PBlk w b l:=by
 rcases h with h | ⟨c,o,cs,h1,h2,h3,h4⟩
 · exact absurd h h0
 · cases h1;exact ⟨cs,h2,by omega,fun i hi=>by have:=h4 i hi;rwa [Nat.zero_add] at this⟩
theorem PBlk.upd (h:PBlk w b l) (hu:Upd c w w') (hc:Blk w c 37 cs) (hne:b≠c):PBlk w' b l:=by
 obtain ⟨cs',h1,h2,h3⟩:=h;exact ⟨cs',h1.upd hu hne,h2,fun i hi=>(h3 i hi).upd hu hc (by decide)⟩
theorem splice3 (cs:List Value) (o:Nat) (a b c:Value):zAy cs o [a,b,c]=((cs.set o a).set (o+1) b).set (o+2) c:=rfl
theorem zBY {a b c:Value} (hk:3*k+3≤cs.length):((zAy cs (3*k) [a,b,c]).drop (3*i)).take 3=if i=k then [a,b,c] else (cs.drop (3*i)).take 3:=by
 rw [splice3];apply List.ext_getElem?;intro j;by_cases hj:j<3
 · rw [List.getElem?_take,if_pos hj,List.getElem?_drop];by_cases hik:i=k
   · subst hik;rw [if_pos rfl];have h0:3*i<cs.length:=by omega
     have h1:3*i+1<cs.length:=by omega
     have h2:3*i+2<cs.length:=by omega
     match j,hj with
     | 0,_=>simp [List.getElem?_set,h0,h1,h2]
     | 1,_=>simp [List.getElem?_set,h0,h1,h2]
     | 2,_=>simp [List.getElem?_set,h0,h1,h2]
   · rw [if_neg hik,List.getElem?_set_ne (by omega),List.getElem?_set_ne (by omega),List.getElem?_set_ne (by omega),List.getElem?_take,if_pos hj,List.getElem?_drop]
 · rw [List.getElem?_take,if_neg hj];split
   · rw [List.getElem?_eq_none (by simp;omega)]
   · rw [List.getElem?_take,if_neg hj]
section laws
variable {K:Value→World→Prop} {d:Option Tmp}
theorem zBD (hx:σ x = .pointer (some ⟨b,o,none⟩)) (ho:o=3*k) (hy:IsNum w (σ y) q) (hB:PBlk w b l) (hk:k<l.length)
 (hc:∀ v w',Upd b w w'→PBlk w' b (l.set k q)→K v w'):Runs prog r ⟨d,.store 37 x y,ty,pos,af,g⟩ σ w K:=by
 subst ho;obtain ⟨cs,hB,hl,hN⟩:=hB;have hy0:=hy;obtain ⟨n,dd,he,hn,hd⟩:=hy;obtain ⟨p1,ds1,c1,rfl,-⟩:=hn;obtain ⟨p2,ds2,c2,rfl,-⟩:=hd;refine zZ zGN hx hB (by rw [he];rfl) (by omega) (by decide) (by rw [he];rfl) fun w' hU hS=>hc _ w' hU ?_;rw [he] at hS hy0;refine ⟨_,hS,by rw [zAh,List.length_set];exact hl,fun i hi => ?_⟩;rw [List.length_set] at hi;show IsNum w' (.agg (((zAy cs (3*k) [_,_,_]).drop (3*i)).take 3).toArray) _;rw [zBY (by omega)];by_cases hik:i=k
 · subst hik;rw [if_pos rfl,show (l.set i q).getD i 0=q from by simp [hi]];exact hy0.upd hU hB (by decide)
 · rw [if_neg hik,show (l.set k q).getD i 0=l.getD i 0 from by simp [List.getElem?_set_ne (Ne.symm hik)]];exact (hN i hi).upd hU hB (by decide)
theorem zAK (hx:σ x = .pointer (some ⟨b,o,none⟩)) (hB:Blk w b T cs) (hl:o+3≤cs.length) (hN:IsNum w (.agg ((cs.drop o).take 3).toArray) q) (hk:∀ v,IsNum w v q→K v w) :
 Runs prog r ⟨d,.load 37 x,ty,pos,af,g⟩ σ w K:=zW zAB hx hB hl (hk _ hN)
theorem zL (hx:σ x = .pointer (some ⟨b,0,none⟩)) (h:NumAt b q w) (hk:∀ v,IsNum w v q→K v w):Runs prog r ⟨d,.load 37 x,ty,pos,af,g⟩ σ w K:=by
 obtain ⟨cs,hB,hl,hN⟩:=h;refine zAK hx hB (by omega) ?_ hk;rw [List.drop_zero,List.take_of_length_le (by omega)];exact hN
theorem zAW (hP:PRd w p l) (hi:i<l.length) (hx:σ x = .pointer (p.map fun a=>a.add (3*i))) (hk:∀ v,IsNum w v (l.getD i 0)→K v w):Runs prog r ⟨d,.load 37 x,ty,pos,af,g⟩ σ w K:=by
 obtain ⟨b,o,cs,h1,h2,h3,h4⟩:=hP.at hi;rw [h1] at hx;exact zAK (o:=o+3*i) (by rw [hx];simp [zAk]) h2 h3 h4 hk
theorem zAA:zAZ prog 25 37 3:=by unfold zAZ;exact ⟨by kernel_rfl,by kernel_rfl⟩
theorem zAV:prog.underlying 25=some (.slice 37):=by kernel_rfl
theorem zAU {i:Operand} {k:IntKind} (hP:PRd w p l) (hx:σ x = .slice p l.length cap) (hi:σ i = .int k (ix:Int)) (h1:ix<l.length) (hk:K (.pointer (p.map fun a=>a.add (3*ix))) w):Runs prog r ⟨d,.indexAddr 25 x i,ty,pos,af,g⟩ σ w K:=by
 obtain ⟨b,o,cs,e1,h2,h3,h4⟩:=hP.at h1;subst e1;refine zO zAA hx hi (by omega) (by omega) ?_;rw [show o+((ix:Nat):Int).toNat*3=o+3*ix from by omega];simpa [zAk] using hk
end laws
end Go.Proofs.YtjiendlfobjanaaGreatDoor
namespace Go.Proofs.YtjiendlfobjanaaGreatDoor
open Go Go.RowKit Go.Proofs Tryz
set_option maxRecDepth 10000
set_option maxHeartbeats 2000000
attribute [local irreducible] Runs WPE CallK Ret
variable {E c i k n:Nat} {P:Program} {af:Array Edge} {cs:List Value} {g:Option (Nat×Bool)} {l:List Rat} {p:Option Addr} {pos:String} {r:Option Nat} {t' ty:TypeId} {u v:Value} {w w':World} {x y:Operand} {σ:Operand→Value}
theorem up_isW {x:Value} (hx:IsW w x n) (hf:Fit n) (hk:k≤64):Ret prog 267 #[x,.int .i64 (k:Int)] w (fun v w'=>IsW w' v (n*2^k)):=by
 obtain ⟨p,ds,c,rfl,h2,h3,h4,h5⟩:=hx;have hl:=h4.fit (h5 ▸ hf);refine (up_ok h3 h4.1 (by omega) (by omega)).mono fun v w' _ h => ?_;obtain ⟨ob,es,O,e1,e2,e3,e4,e5,e6,e7,e8⟩:=h;exact ⟨_,es,_,e1,e2,e3,e4,by rw [e5,h5]⟩
theorem q_half (x:Rat):x*(1/2)=qOf (decide (x<0)) x.num.natAbs (x.den*2^1):=by
 rw [q_mul x (1/2),show decide ((1/2:Rat)<0)=false from by decide +kernel,show (1/2:Rat).num.natAbs=1 from by decide +kernel,show (1/2:Rat).den=2 from by decide +kernel,Nat.mul_one,Bool.bne_false]
theorem fit_half {x:Rat} (hr:rroom x (1/2)=true):Fit (x.den*2^1):=by
 have:=(zGd hr).dd;rwa [show (1/2:Rat).den=2^1 from by decide +kernel] at this
theorem zCA:zt prog 47 0 0:=by unfold zt;kernel_rfl
theorem zCW:zt prog 47 1 3:=by unfold zt;kernel_rfl
def zw (w:World) (v:Value) (a b:Rat):Prop:=∃ n1 d1 n2 d2,v = .agg #[.bool (decide (a<0)),n1,d1,.bool (decide (b<0)),n2,d2]∧IsNum w (.agg #[.bool (decide (a<0)),n1,d1]) a∧IsNum w (.agg #[.bool (decide (b<0)),n2,d2]) b
theorem zw.ext {a b:Rat} (h:zw w v a b) (hx:Ext w w'):zw w' v a b:=by
 obtain ⟨n1,d1,n2,d2,h1,h2,h3⟩:=h;exact ⟨n1,d1,n2,d2,h1,h2.ext hx,h3.ext hx⟩
theorem zDT:(prog.info? 37).map (fun i=>(i.zero,i.size,i.bytes))=some (some (.agg #[.bool false,.slice none 0 0,.slice none 0 0]),3,56):=by kernel_rfl
section laws
variable {K:Value→World→Prop} {d:Option Tmp}
theorem run_eqGuard_slice (op:BinOp) (t:TypeId) (x y:Operand) (p q:Option Addr) (l c l' c':Nat) (w:World):(eqGuard op t x y (.slice p l c) (.slice q l' c')).run P w = .ok () w:=by
 unfold eqGuard;cases op<;>simp
theorem zGI {t e:TypeId} {l:Nat} (hT:P.underlying t=some (.slice e)) (hx:σ x = .slice p l c) (hy:σ y = .slice none 0 0) (hk:K (.bool p.isNone) w):Runs P r ⟨d,.binOp .eql t x y t',ty,pos,af,g⟩ σ w K:=by
 refine zl (fun _ e=>by cases e) ?_ hk;simp [execOp,binOp,hx,hy,run_eqGuard_slice,run_equal_slice_nil w t e p l c hT]
theorem zEd {T:Nat} (hT:P.underlying T=some (.slice E)) (hi:(P.info? E).map (·.size)=some n) (hk:∀ b w',b=w.heap.size→Ext w w'→w'.heap.size=b+1→K (.slice (some ⟨b,0,none⟩) 0 0) w'):Runs P r ⟨d,.buildSlice T 0 #[],ty,pos,af,g⟩ σ w K:=by
 refine zAb (fun _ e=>by cases e) (v := .slice (some ⟨w.heap.size,0,none⟩) 0 0) (w':={ w with heap:=w.heap.push (.cells #[] E) }) ?_ (hk _ _ rfl (Ext.push _) (by simp));simp only [execOp,Instr.buildSlice];simp [run_underlying hT,run_sizeOf' hi,Instr.fill,newRow];exact congrArg (fun c=>w.alloc (Obj.cells c E)) (Array.eq_empty_of_size_eq_zero (by simp))
end laws
theorem zDX {rest:List Value} (h:3*i+3≤cs.length):((cs++rest).drop (3*i)).take 3=(cs.drop (3*i)).take 3:=by
 rw [List.drop_append_of_le_length (by omega),List.take_append_of_le_length (by simp;omega)]
theorem zEV {m:Nat} (h:m<l.length):l.take (m+1)=l.take m++[l.getD m 0]:=by
 rw [List.take_succ_eq_append_getElem h];simp [h]
theorem trim_zero {m:Nat} (h:m<l.length) (h0:l.getD m 0=0):trim (l.take (m+1))=trim (l.take m):=by
 rw [zEV h,h0];simp [trim]
theorem trim_top {m:Nat} (h:m<l.length) (h0:l.getD m 0≠0):trim (l.take (m+1))=l.take (m+1):=by
 rw [zEV h];generalize l.getD m 0=x at *;simp [trim,h0]
theorem zDp {x:Rat}:rsign x=0↔x=0:=by
 unfold rsign;rw [Int.sign_eq_zero_iff_zero,Rat.num_eq_zero]
def rminR (x y:Rat):Rat:=if rcmpI y x<0 then y else x
def rmaxR (x y:Rat):Rat:=if 0<rcmpI y x then y else x
theorem Min_ok {x y:Rat} (hx:IsNum w u x) (hy:IsNum w v y) (hr:rroom y x=true):Ret prog 81 #[u,v] w (fun r w'=>IsNum w' r (rminR x y)):=by
 have hx0:=hx;have hy0:=hy;obtain ⟨xn,xd,rfl,hxn,hxd⟩:=hx0;obtain ⟨yn,yd,rfl,hyn,hyd⟩:=hy0;refine J0 11 func81 rfl (rj fun K => ?_);refine K1 (zk fun b1 w1 hb hE hB1 hs => ?_);have hgb1:w.heap.size≤b1:=by rw [hb];exact E0.size
 replace E0:=E0.trans hE;replace hx:=hx.ext hE;replace hy:=hy.ext hE;clear hE hs hb;refine K1 (zk fun b2 w2 hb hE hB2 hs => ?_);have hgb2:w.heap.size≤b2:=by rw [hb];exact E0.size
 have ne_b1_b2:b1≠b2:=by have:=hB1.lt;omega
 replace E0:=E0.trans hE;replace hx:=hx.ext hE;replace hy:=hy.ext hE;replace hB1:=hB1.ext hE;clear hE hs hb;refine K1 (zK zAP fun b3 w3 hb hE hB3 hs => ?_);have hgb3:w.heap.size≤b3:=by rw [hb];exact E0.size
 have ne_b1_b3:b1≠b3:=by have:=hB1.lt;omega
 have ne_b2_b3:b2≠b3:=by have:=hB2.lt;omega
 replace E0:=E0.trans hE;replace hx:=hx.ext hE;replace hy:=hy.ext hE;replace hB1:=hB1.ext hE;replace hB2:=hB2.ext hE;clear hE hs hb;refine rm [2,3,4] K ?_;refine zA (rj fun K=>K1 (zW zAB rfl hB2 (Nat.le_of_ble_eq_true rfl) (K1 (zW zAB rfl hB1 (Nat.le_of_ble_eq_true rfl) (K1 (j5 E0 hx.ext hy.ext hB1.ext hB2.ext hB3.ext hb73 (zCn hy hx hr) fun v1_2 w4 E0 hx hy hB1 hB2 hB3 hr => ?_))))));subst hr;refine K8 rfl (rm [2,3,4,8] K ?_);refine K0 rfl ?_ ?_<;>intro hc
 · have hlt:rcmpI y x<0:=of_decide_eq_true hc;clear hc;refine rj fun K=>K1 (zW zAB rfl hB2 (Nat.le_of_ble_eq_true rfl) (K1 (zI rfl hy (Cell3.of hB3 rfl) fun _ w9 hU hN => ?_)));replace E0:=E0.upd hU hgb3;obtain ⟨cs,hB4,hl4,hN4⟩:=hN;refine rm [4] K ?_;refine zE (zY (zQ ?_));exact ⟨rfl,_,zx rfl rfl rfl zAB hB4 hl4,E0,by rw [rminR,if_pos hlt];exact hN4⟩
 · have hlt:¬ rcmpI y x<0:=of_decide_eq_false hc;clear hc;refine sk (rj fun K=>K1 (zW zAB rfl hB1 (Nat.le_of_ble_eq_true rfl) (K1 (zI rfl hx (Cell3.of hB3 rfl) fun _ w9 hU hN => ?_))));replace E0:=E0.upd hU hgb3;obtain ⟨cs,hB4,hl4,hN4⟩:=hN;refine rm [4] K ?_;refine zE (zQ ?_);exact ⟨rfl,_,zx rfl rfl rfl zAB hB4 hl4,E0,by rw [rminR,if_neg hlt];exact hN4⟩
theorem Max_ok {x y:Rat} (hx:IsNum w u x) (hy:IsNum w v y) (hr:rroom y x=true):Ret prog 82 #[u,v] w (fun r w'=>IsNum w' r (rmaxR x y)):=by
 have hx0:=hx;have hy0:=hy;obtain ⟨xn,xd,rfl,hxn,hxd⟩:=hx0;obtain ⟨yn,yd,rfl,hyn,hyd⟩:=hy0;refine J0 11 func82 rfl (rj fun K => ?_);refine K1 (zk fun b1 w1 hb hE hB1 hs => ?_);have hgb1:w.heap.size≤b1:=by rw [hb];exact E0.size
 replace E0:=E0.trans hE;replace hx:=hx.ext hE;replace hy:=hy.ext hE;clear hE hs hb;refine K1 (zk fun b2 w2 hb hE hB2 hs => ?_);have hgb2:w.heap.size≤b2:=by rw [hb];exact E0.size
 have ne_b1_b2:b1≠b2:=by have:=hB1.lt;omega
 replace E0:=E0.trans hE;replace hx:=hx.ext hE;replace hy:=hy.ext hE;replace hB1:=hB1.ext hE;clear hE hs hb;refine K1 (zK zAP fun b3 w3 hb hE hB3 hs => ?_);have hgb3:w.heap.size≤b3:=by rw [hb];exact E0.size
 have ne_b1_b3:b1≠b3:=by have:=hB1.lt;omega
 have ne_b2_b3:b2≠b3:=by have:=hB2.lt;omega
 replace E0:=E0.trans hE;replace hx:=hx.ext hE;replace hy:=hy.ext hE;replace hB1:=hB1.ext hE;replace hB2:=hB2.ext hE;clear hE hs hb;refine rm [2,3,4] K ?_;refine zA (rj fun K=>K1 (zW zAB rfl hB2 (Nat.le_of_ble_eq_true rfl) (K1 (zW zAB rfl hB1 (Nat.le_of_ble_eq_true rfl) (K1 (j5 E0 hx.ext hy.ext hB1.ext hB2.ext hB3.ext hb73 (zCn hy hx hr) fun v1_2 w4 E0 hx hy hB1 hB2 hB3 hr => ?_))))));subst hr;refine K8 rfl (rm [2,3,4,8] K ?_);refine K0 rfl ?_ ?_<;>intro hc
 · have hlt:0<rcmpI y x:=of_decide_eq_true hc;clear hc;refine rj fun K=>K1 (zW zAB rfl hB2 (Nat.le_of_ble_eq_true rfl) (K1 (zI rfl hy (Cell3.of hB3 rfl) fun _ w9 hU hN => ?_)));replace E0:=E0.upd hU hgb3;obtain ⟨cs,hB4,hl4,hN4⟩:=hN;refine rm [4] K ?_;refine zE (zY (zQ ?_));exact ⟨rfl,_,zx rfl rfl rfl zAB hB4 hl4,E0,by rw [rmaxR,if_pos hlt];exact hN4⟩
 · have hlt:¬ 0<rcmpI y x:=of_decide_eq_false hc;clear hc;refine sk (rj fun K=>K1 (zW zAB rfl hB1 (Nat.le_of_ble_eq_true rfl) (K1 (zI rfl hx (Cell3.of hB3 rfl) fun _ w9 hU hN => ?_))));replace E0:=E0.upd hU hgb3;obtain ⟨cs,hB4,hl4,hN4⟩:=hN;refine rm [4] K ?_;refine zE (zQ ?_);exact ⟨rfl,_,zx rfl rfl rfl zAB hB4 hl4,E0,by rw [rmaxR,if_neg hlt];exact hN4⟩
theorem shifted_ok {x:Rat} (hx:IsNum w v x) (hr:rroom x (1/2)=true):Ret prog 223 #[v,.int .i64 (-1)] w (fun r w'=>IsNum w' r (x*(1/2))):=by
 have hf:=zGd hr;have hx0:=hx;obtain ⟨xn,xd,rfl,hxn,hxd⟩:=hx0;refine J0 26 func223 rfl (rj fun K => ?_);refine K1 (zk fun b1 w1 hb hE hB1 hs => ?_);have hgb1:w.heap.size≤b1:=by rw [hb];exact E0.size
 replace E0:=E0.trans hE;replace hx:=hx.ext hE;replace hxn:=hxn.ext hE;clear hE hs hb;refine K1 (zK zAP fun b2 w2 hb hE hB2 hs => ?_);have hgb2:w.heap.size≤b2:=by rw [hb];exact E0.size
 have ne_b1_b2:b1≠b2:=by have:=hB1.lt;omega
 replace E0:=E0.trans hE;replace hx:=hx.ext hE;replace hxn:=hxn.ext hE;replace hB1:=hB1.ext hE;clear hE hs hb;refine rm [1,2,4] K ?_;refine zA (rJ fun K=>K8 rfl (rm [1,2,4,6] K ?_));refine wct rfl (zA ?_);have hnw:NoW [b2] _:=noW1 hB2 (by decide)
 refine zCb [⟨10,b2,Cell3 b2,NumAt b2 (x*(1/2))⟩] [([(2,none)],none),([(7,some 0)],none),([(2,none)],none),([(9,some 0)],none),([(2,none)],none),([(11,some 0)],none),([(1,none)],none),([(13,some 0)],none),([(12,some 2),(14,some 0)],none),([(8,some 7),(10,some 5),(15,some 0)],none),([(4,none),(16,some 0)],none)] mixed (by kernel_rfl) (by kernel_rfl) (by kernel_rfl) (by simp) (by kernel_rfl) (all1 (zFY hB2 rfl)) fun K hK=>dsv rfl (fun σ wx hE hk=>zB zCf hk.1 ⟨Ext.refl _,rfl⟩) (dsv rfl (fun σ wx hE hk=>zD zBm hk.1 (hB1.extS hE (nin1 ne_b1_b2)) rfl ⟨Ext.refl _,rfl⟩) (dsv rfl (fun σ wx hE hk=>zB zBz hk.1 ⟨Ext.refl _,rfl⟩) (dsv rfl (fun σ wx hE hk=>zD zAf hk.1 (hB1.extS hE (nin1 ne_b1_b2)) rfl ⟨Ext.refl _,rfl⟩) (dsv rfl (fun σ wx hE hk=>zW zAB hk.1 (hB1.extS hE (nin1 ne_b1_b2)) (Nat.le_of_ble_eq_true rfl) ⟨Ext.refl _,rfl⟩) (dsn (fun v w'=>IsW w' v (x.den)) rfl (fun _ _ _ h1 hx h=>h.extS hx (hnw.ext h1)) (fun σ wx hE hk=>zC hb104 (CallK.of_ret (zCH (IsNum.of_eq hk.1 (hx.extS hE hnw))) fun v w2 hX hr=>⟨hX,hr⟩) rfl) (dsv rfl (fun σ wx hE hk=>zF ⟨Ext.refl _,hk.1⟩) (dsv rfl (fun σ wx hE hk=>zJn hk.1 ⟨Ext.refl _,rfl⟩) (dsn (fun v w'=>IsW w' v (x.den*2^1)) rfl (fun _ _ _ h1 hx h=>h.extS hx (hnw.ext h1)) (fun σ wx hE hk=>zC hb267 (CallK.eq2 rfl hk.2.1 (CallK.of_ret (up_isW (k:=1) hk.1 hf.xd (by decide)) fun v w2 hX hr=>⟨hX,hr⟩)) rfl) ?_))))))))
 refine dsn (fun v w'=>IsNum w' v (x*(1/2))) rfl (fun _ _ _ h1 hx h=>h.extS hx (hnw.ext h1)) (fun σ wx hE hk=>zC hb102 (CallK.eq3 hk.1 rfl rfl (CallK.of_ret (zBT (IsW.of_eq hk.2.1 (hxn.extS hE hnw)) hk.2.2.1 (Nat.mul_ne_zero x.den_nz (by decide)) hf.xn (fit_half hr)) fun v w2 hX hr=>⟨hX,by rw [q_half];exact hr⟩)) rfl) ?_;refine dss _ rfl (fun σ wx hE hpre hk=>zAx hk.1 hk.2.1 hpre) (zHn (hK _ fun wq hS hP => ?_));rintro _ rfl _ rfl _ rfl _ rfl _ rfl v12 N12 _ rfl _ rfl v15 N15 v16 N16 _ _;refine zU ?_;obtain ⟨⟨cs,hB4,hl4,hN4⟩,-⟩:=hP;replace E0:=E0.updS hS hgb2;refine zN (K5 [4] ?_);exact zE (zY (zQ ⟨rfl,_,zx rfl rfl rfl zAB hB4 hl4,E0,hN4⟩))
theorem SpanMid_ok {a b:Rat} (hs:zw w v a b) (hr:rroom a b=true) (hr2:rroom (a+b) (1/2)=true):Ret prog 138 #[v] w (fun r w'=>IsNum w' r ((a+b)*(1/2))):=by
 obtain ⟨n1,d1,n2,d2,rfl,hx,hy⟩:=hs;refine J0 9 func138 rfl (rj fun K => ?_);refine K1 (zk fun b1 w1 hb hE hB1 hs => ?_);have hgb1:w.heap.size≤b1:=by rw [hb];exact E0.size
 replace E0:=E0.trans hE;replace hx:=hx.ext hE;replace hy:=hy.ext hE;clear hE hs hb;refine K1 (zK zAP fun b2 w2 hb hE hB2 hs => ?_);have hgb2:w.heap.size≤b2:=by rw [hb];exact E0.size
 have ne_b1_b2:b1≠b2:=by have:=hB1.lt;omega
 replace E0:=E0.trans hE;replace hx:=hx.ext hE;replace hy:=hy.ext hE;replace hB1:=hB1.ext hE;clear hE hs hb;refine rm [1,2] K ?_;refine rj fun K=>K1 (zB zCA rfl (K1 (zW zAB rfl hB1 (Nat.le_of_ble_eq_true rfl) (K1 (zB zCW rfl (K1 (zW zAB rfl hB1 (Nat.le_of_ble_eq_true rfl) (K1 (j4 E0 hx.ext hy.ext hB1.ext hB2.ext hb146 (zFL hx hy hr) fun v1_4 w3 E0 hx hy hB1 hB2 N7=>K1 (j5 E0 hx.ext hy.ext hB1.ext hB2.ext N7.ext hb223 (shifted_ok N7 hr2) fun v1_5 w4 E0 hx hy hB1 hB2 N7 N8=>K1 (zI rfl N8 (Cell3.of hB2 rfl) fun _ w9 hU hN => ?_)))))))))));replace E0:=E0.upd hU hgb2;obtain ⟨cs,hB4,hl4,hN4⟩:=hN;refine rm [2] K ?_;exact zE (zQ ⟨rfl,_,zx rfl rfl rfl zAB hB4 hl4,E0,hN4⟩)
theorem SpanWidth_ok {a b:Rat} (hs:zw w v a b) (hr:rroom b a=true):Ret prog 147 #[v] w (fun r w'=>IsNum w' r (rabs (b-a))):=by
 obtain ⟨n1,d1,n2,d2,rfl,hx,hy⟩:=hs;refine J0 9 func147 rfl (rj fun K => ?_);refine K1 (zk fun b1 w1 hb hE hB1 hs => ?_);have hgb1:w.heap.size≤b1:=by rw [hb];exact E0.size
 replace E0:=E0.trans hE;replace hx:=hx.ext hE;replace hy:=hy.ext hE;clear hE hs hb;refine K1 (zK zAP fun b2 w2 hb hE hB2 hs => ?_);have hgb2:w.heap.size≤b2:=by rw [hb];exact E0.size
 have ne_b1_b2:b1≠b2:=by have:=hB1.lt;omega
 replace E0:=E0.trans hE;replace hx:=hx.ext hE;replace hy:=hy.ext hE;replace hB1:=hB1.ext hE;clear hE hs hb;refine rm [1,2] K ?_;refine rj fun K=>K1 (zB zCW rfl (K1 (zW zAB rfl hB1 (Nat.le_of_ble_eq_true rfl) (K1 (zB zCA rfl (K1 (zW zAB rfl hB1 (Nat.le_of_ble_eq_true rfl) (K1 (j4 E0 hx.ext hy.ext hB1.ext hB2.ext hb237 (zNh hy hx hr) fun v1_4 w3 E0 hx hy hB1 hB2 N7=>K1 (j5 E0 hx.ext hy.ext hB1.ext hB2.ext N7.ext hb236 (zNe N7) fun v1_5 w4 E0 hx hy hB1 hB2 N7 N8=>K1 (zI rfl N8 (Cell3.of hB2 rfl) fun _ w9 hU hN => ?_)))))))))));replace E0:=E0.upd hU hgb2;obtain ⟨cs,hB4,hl4,hN4⟩:=hN;refine rm [2] K ?_;exact zE (zQ ⟨rfl,_,zx rfl rfl rfl zAB hB4 hl4,E0,hN4⟩)
theorem zDR {x y:Rat} (hx:IsNum w u x) (hy:IsNum w v y) (hr:rroom x y=true):Ret prog 69 #[u,v] w (fun r w'=>IsNum w' r (x/y)):=by
 have hx0:=hx;have hy0:=hy;obtain ⟨xn,xd,rfl,hxn,hxd⟩:=hx0;obtain ⟨yn,yd,rfl,hyn,hyd⟩:=hy0;refine J0 14 func69 rfl (rj fun K => ?_);refine K1 (zk fun b1 w1 hb hE hB1 hs => ?_);have hgb1:w.heap.size≤b1:=by rw [hb];exact E0.size
 replace E0:=E0.trans hE;replace hx:=hx.ext hE;replace hy:=hy.ext hE;clear hE hs hb;refine K1 (zk fun b2 w2 hb hE hB2 hs => ?_);have hgb2:w.heap.size≤b2:=by rw [hb];exact E0.size
 have ne_b1_b2:b1≠b2:=by have:=hB1.lt;omega
 replace E0:=E0.trans hE;replace hx:=hx.ext hE;replace hy:=hy.ext hE;replace hB1:=hB1.ext hE;clear hE hs hb;refine K1 (zK zAP fun b3 w3 hb hE hB3 hs => ?_);have hgb3:w.heap.size≤b3:=by rw [hb];exact E0.size
 have ne_b1_b3:b1≠b3:=by have:=hB1.lt;omega
 have ne_b2_b3:b2≠b3:=by have:=hB2.lt;omega
 replace E0:=E0.trans hE;replace hx:=hx.ext hE;replace hy:=hy.ext hE;replace hB1:=hB1.ext hE;replace hB2:=hB2.ext hE;clear hE hs hb;refine rm [2,3,4] K ?_;refine rj fun K=>K1 (zW zAB rfl hB1 (Nat.le_of_ble_eq_true rfl) (K1 (zW zAB rfl hB2 (Nat.le_of_ble_eq_true rfl) (K1 (j5 E0 hx.ext hy.ext hB1.ext hB2.ext hB3.ext hb37 (zNf hx hy hr) fun v1_2 w4 E0 hx hy hB1 hB2 hB3 hr => ?_)))));obtain ⟨q,rfl,hq⟩:=hr;refine mv (xt rfl (xt rfl ?_));refine K1 (zK zAP fun b5 w5 hb hE hB5 hs => ?_);have hgb5:w.heap.size≤b5:=by rw [hb];exact E0.size
 have ne_b1_b5:b1≠b5:=by have:=hB1.lt;omega
 have ne_b2_b5:b2≠b5:=by have:=hB2.lt;omega
 have ne_b3_b5:b3≠b5:=by have:=hB3.lt;omega
 replace E0:=E0.trans hE;replace hx:=hx.ext hE;replace hy:=hy.ext hE;replace hB1:=hB1.ext hE;replace hB2:=hB2.ext hE;replace hB3:=hB3.ext hE;replace hq:=hq.ext hE;clear hE hs hb;refine K1 (zI rfl hq (Cell3.of hB5 rfl) fun _ w9 hU hN5 => ?_);replace E0:=E0.upd hU hgb5;replace hB3:=hB3.upd hU ne_b3_b5;refine ag (rm [4,5] K ?_);refine rj fun K=>K1 (zL rfl hN5 fun v13 hq2=>K1 (zI rfl hq2 (Cell3.of hB3 rfl) fun _ w9 hU hN => ?_));replace E0:=E0.upd hU hgb3;obtain ⟨cs,hB4,hl4,hN4⟩:=hN;refine rm [4] K ?_;exact zE (zQ ⟨rfl,_,zx rfl rfl rfl zAB hB4 hl4,E0,hN4⟩)
theorem zDD:Ret prog 100 #[] w (fun r w'=>IsNum w' r 1):=by
 refine J0 2 func100 rfl (rj fun K => ?_);refine K1 (zK zAP fun b1 w1 hb hE hB1 hs => ?_);have hgb1:w.heap.size≤b1:=by rw [hb];exact E0.size
 replace E0:=E0.trans hE;clear hE hs hb;refine rm [0] K ?_;refine rj fun K=>K1 (j1 E0 hB1.ext hb38 (zBw (by decide) (by decide)) fun v1_0 w2 E0 hB1 N1=>K1 (zI rfl N1 (Cell3.of hB1 rfl) fun _ w9 hU hN => ?_));replace E0:=E0.upd hU hgb1;obtain ⟨cs,hB4,hl4,hN4⟩:=hN;refine rm [0] K ?_;exact zE (zQ ⟨rfl,_,zx rfl rfl rfl zAB hB4 hl4,E0,hN4⟩)
theorem zIF {a b:Int} (h1 : -9223372036854775808≤a) (h2:a≤9223372036854775807) (h3 : -9223372036854775808≤b) (h4:b≤9223372036854775807) (hr:rroom (a:Rat) (b:Rat)=true):Ret prog 96 #[.int .i64 a,.int .i64 b] w (fun r w'=>IsNum w' r ((a:Rat)/(b:Rat))):=by
 refine J0 10 func96 rfl (rj fun K => ?_);refine K1 (zK zAP fun b1 w1 hb hE hB1 hs => ?_);have hgb1:w.heap.size≤b1:=by rw [hb];exact E0.size
 replace E0:=E0.trans hE;clear hE hs hb;refine rm [0,1,4] K ?_;refine rJ fun K=>K1 (j1 E0 hB1.ext hb38 (zBw h1 h2) fun v1_1 w2 E0 hB1 N6=>mv (K1 (j2 E0 hB1.ext N6.ext hb38 (zBw h3 h4) fun v1_3 w3 E0 hB1 N6 N8=>K1 (j3 E0 hB1.ext N6.ext N8.ext hb69 (zDR N6 N8 hr) fun v1_4 w4 E0 hB1 N6 N8 N9=>K1 (zI rfl N9 (Cell3.of hB1 rfl) fun _ w9 hU hN => ?_)))));replace E0:=E0.upd hU hgb1;obtain ⟨cs,hB4,hl4,hN4⟩:=hN;refine rm [4] K ?_;exact zE (zQ ⟨rfl,_,zx rfl rfl rfl zAB hB4 hl4,E0,hN4⟩)
theorem zFj (hp:zM w v l):Ret prog 68 #[v] w (fun r w'=>IsOwn w.heap.size w' r l):=by
 obtain ⟨p,cap,rfl,hc,hP,hl⟩:=hp;refine J0 8 func68 rfl (rj fun K=>ag (rm [0] K ?_));refine zA (zA ?_);rcases p with _ | a
 · obtain rfl:l=[]:=by
    rcases hP with h | ⟨b,o,cs,h1,_⟩
    · exact h
    · cases h1
   refine rI fun K=>K1 (zGI zAV rfl rfl (rs [0,4] K ?_));refine wct rfl (rj fun K=>ag (rm [2] K ?_));exact zE (zY (en rfl E0 IsOwn.nil))
 · skip
   refine rI fun K=>K1 (zGI zAV rfl rfl (rs [0,4] K ?_));refine wcf rfl (sk (zA ?_));rcases (show l=[]∨l≠[] from Classical.em _) with h0 | h0
   · subst h0;refine K6 fun K=>K1 (zEd zAV zGN fun b0 w1 hb0 hE hs => ?_);have hgb0:w.heap.size≤b0:=by rw [hb0];exact E0.size
     replace E0:=E0.trans hE;replace hP:=hP.ext hE;clear hE hs hb0;refine mv (K1 (runs_append_nil zAV zAV zDT rfl rfl (Nat.le_refl _) (ag (rs [2] K ?_))));exact zE (en rfl E0 ⟨_,0,rfl,Nat.le_refl _,.inl rfl,by decide,fun h=>absurd rfl h⟩)
   · have hl0:0<l.length:=List.length_pos_iff.2 h0;refine K6 fun K=>K1 (zEd zAV zGN fun b0 w1 hb0 hE hs => ?_);have hgb0:w.heap.size≤b0:=by rw [hb0];exact E0.size
     replace E0:=E0.trans hE;replace hP:=hP.ext hE;clear hE hs hb0;refine mv ?_;obtain ⟨cs,hcs,hcl,hcn⟩:=hP.cells;refine K1 (zAJ zAV zAV zDT rfl (by decide) rfl rfl (.inl rfl) rfl hcs hcl (by omega) (by have:=zAa (0+l.length) 0;omega) fun w2 rest c hcc hE hB hrest hs => ?_);rw [List.nil_append] at hB;refine ag (rs [2] K ?_);refine zE (zQ ?_);refine ⟨rfl,_,zm rfl rfl,E0.trans hE,some ⟨_,0,none⟩,c,?_,by omega,.inr ⟨_,0,_,rfl,hB,by simp;omega,fun i hi => ?_⟩,hl,fun _=>⟨_,rfl,E0.size⟩⟩
     · show Value.slice _ (0+l.length) c=_;rw [Nat.zero_add]
     · rw [Nat.zero_add,zDX (by omega)];exact (hcn i hi).ext hE
theorem zBZ (hp:zM w v l):Ret prog 34 #[v] w (fun r w'=>IsOwn w.heap.size w' r (trim l)):=by
 obtain ⟨p,cap,rfl,hc,hP,hl⟩:=hp;have E0:Ext w w:=Ext.refl w;refine J0 23 func34 rfl (rj fun K=>ag (rm [0] K ?_));refine zA (zG (zo (X:=Nat) (fun n ρ w'=>Keep ρ [(0,.slice p n cap)]∧n≤l.length∧Ext w w'∧trim (l.take n)=trim l) (fun n=>n) l.length ⟨(kp rfl),Nat.le_refl _,E0,by rw [List.take_length]⟩ ?_));clear E0;rintro n ρ1 w1 ⟨hk,hn,E0,ht⟩;refine wpe_k _ hk ?_;clear hk ρ1;refine zA (zA ?_);rcases n with _ | m
 · skip
   refine rI fun K=>K1 (zJ zAA rfl (K9 false rfl (decide_eq_false (by omega)) (mv (K3 (K3 (K3 (K3 (K3 (K3 (K3 (K3 (pc0 rfl (rl K ?_)))))))))))));refine zN (K5 [0,7,8,9,10,11,12,13,14,15] ?_);refine wcf rfl (zi (zAE (zv (zP (zN (zA ?_))))));have htt:trim l=l.take 0:=by rw [← ht];rfl
   refine K6 fun K=>mv ?_;have hlen:(trim l).length=0:=by rw [htt];simp<;>omega
   have hsz:=E0.size;refine K1 (j0 E0 hb68 (zFj (l:=trim l) ⟨p,cap,by rw [hlen];rfl,by omega,by rw [htt];exact (hP.ext E0).take _,by omega⟩) fun v3 w3 E0 hr => ?_);refine ag (rs [0,2] K ?_);exact zE (en rfl E0 (hr.sz hsz))
 · have hP1:=hP.ext E0;refine rI fun K=>K1 (zJ zAA rfl (K9 true rfl (decide_eq_true (by omega)) (mv (K7 (K7 (K2 (zJ zAA rfl (K2 (zAS (b:=1) m rfl rfl rfl (by omega) ?_)))))))));have hmin:(l.take (m+1)).length=m+1:=by simp;omega
   refine K2 (zAU (l:=l.take (m+1)) (cap:=cap) (ix:=m) (hP1.take (m+1)) (by rw [hmin];rfl) rfl (by omega) ?_);refine K2 (zAW (hP1.take (m+1)) (i:=m) (by omega) rfl fun v12 hN12 => ?_);rw [show (l.take (m+1)).getD m 0=l.getD m 0 from by simp] at hN12;refine K2 (zC hb19 (CallK.of_ret (zAY hN12) fun v13 w2 hE hr => ?_) rfl);subst hr;replace E0:=E0.trans hE;clear hE hN12 hP1;refine K2 (zH rfl rfl rfl (pc0 rfl (rs [0,7,8,9,10,11,12,13,14,15] K ?_)));refine K0 rfl ?_ ?_<;>intro hc
   · have hz:l.getD m 0=0:=zDp.1 (eq_of_beq hc);clear hc;exact sk (zG (rI fun K=>mv (K1 (zJ zAA rfl (K1 (zAS (b:=1) (m) rfl rfl rfl (by omega) (K1 (zCP zAA rfl rfl (by omega) (by omega) (ag (rl K (zT (zV (⟨rfl,m,⟨(kp rfl),by omega,E0,(trim_zero (by omega) hz).symm.trans ht⟩,by omega⟩)))))))))))))
   · have hz:l.getD m 0≠0:=fun e=>beq_eq_false_iff_ne.1 hc (zDp.2 e);clear hc;have htt:trim l=l.take (m+1):=by rw [← ht,trim_top (by omega) hz]
     refine zi (zAE (zv (zP (zN (rj fun K=>mv ?_)))));have hlen:(trim l).length=m+1:=by rw [htt];simp<;>omega
     have hsz:=E0.size;refine K1 (j0 E0 hb68 (zFj (l:=trim l) ⟨p,cap,by rw [hlen];rfl,by omega,by rw [htt];exact (hP.ext E0).take _,by omega⟩) fun v3 w3 E0 hr => ?_);refine ag (rm [0,2] K ?_);exact zE (en rfl E0 (hr.sz hsz))
theorem zCK (hp:zM w v l):Ret prog 18 #[v] w (fun r _=>r = .int .i64 (((trim l).length:Int)-1)):=by
 refine J0 7 func18 rfl (rj fun K=>ag (rm [0] K ?_));refine rJ fun K=>K1 (j0 E0 hb34 (zBZ hp) fun v1_1 w1 E0 hr => ?_);obtain ⟨p,cap,rfl,_,_,hl,_⟩:=hr;refine K1 (zJ zAA rfl (K1 (zH (v := .int .i64 (((trim l).length:Int)-1)) rfl rfl (congrArg (fun z=>some (Value.int .i64 z)) (zAG (by omega) (by omega))) (ag (rm [2] K ?_)))));exact zE (en rfl E0 rfl)
end Go.Proofs.YtjiendlfobjanaaGreatDoor
namespace Go.Proofs.YtjiendlfobjanaaGreatDoor
open Go Go.RowKit Go.Proofs Tryz
variable {A l:List Rat} {af:Array Edge} {b b2 c cap i ix k len o:Nat} {c2 v:Value} {cs:List Value} {g:Option (Nat×Bool)} {p:Option Addr} {pos:String} {q:Rat} {r:Option Nat} {ty:TypeId} {w w' w0:World} {x y:Operand} {α β:Type} {σ:Operand→Value}
theorem zDo {x y z:Rat} (h:radd x y=some z):rroom x y=true∧z=x+y:=by
 unfold radd at h;split at h
 · rename_i hr;cases h;exact ⟨hr,rfl⟩
 · cases h
theorem zKg {x y z:Rat} (h:rsub x y=some z):rroom x y=true∧z=x-y:=by
 unfold rsub at h;split at h
 · rename_i hr;cases h;exact ⟨hr,rfl⟩
 · cases h
theorem zBn {x y z:Rat} (h:rmul x y=some z):rroom x y=true∧z=x*y:=by
 unfold rmul at h;split at h
 · rename_i hr;cases h;exact ⟨hr,rfl⟩
 · cases h
theorem zCC {x y z:Rat} (h:rdiv x y=some z):rroom x y=true∧z=x/y:=by
 unfold rdiv at h;split at h
 · rename_i hr;cases h;exact ⟨hr,rfl⟩
 · cases h
theorem bind_some {o:Option α} {f:α→Option β} {b:β} (h:o.bind f=some b):∃ a,o=some a∧f a=some b:=by
 cases o with
 | none=>cases h
 | some a=>exact ⟨a,rfl,h⟩
theorem map_some {o:Option α} {f:α→β} {b:β} (h:o.map f=some b):∃ a,o=some a∧f a=b:=by
 cases o with
 | none=>cases h
 | some a=>exact ⟨a,rfl,Option.some.inj h⟩
theorem zDh (h:i<l.length):l.drop i=l.getD i 0 :: l.drop (i+1):=by
 rw [List.drop_eq_getElem_cons h];simp [h]
theorem NumAt.extS {S:List Nat} (h:NumAt b q w) (hx:ExtS S w w') (hb:b ∉ S) (hS:NoW S w):NumAt b q w':=by
 obtain ⟨cs,h1,h2,h3⟩:=h;exact ⟨cs,h1.extS hx hb,h2,h3.extS hx hS⟩
theorem NumAt.upd (h:NumAt b q w) (hu:Upd c w w') (hc:Blk w c 37 cs) (hne:b≠c):NumAt b q w':=by
 obtain ⟨cs',h1,h2,h3⟩:=h;exact ⟨cs',h1.upd hu hne,h2,h3.upd hu hc (by decide)⟩
theorem NumAt.lt (h:NumAt b q w):b<w.heap.size:=by obtain ⟨cs,h1,_⟩:=h;exact h1.lt
theorem noWP (h:PBlk w b l):NoW [b] w:=by
 obtain ⟨cs,h1,_⟩:=h;exact noW1 h1 (by decide)
theorem PRd.extS {S:List Nat} (h:PRd w p l) (hx:ExtS S w w') (hp:∀ a,p=some a→l≠[]→a.block ∉ S) (hS:NoW S w):PRd w' p l:=by
 rcases h with h | ⟨c,o,cs',h1,h2,h3,h4⟩
 · exact .inl h
 · by_cases h0:l=[]
   · exact .inl h0
   · exact .inr ⟨c,o,cs',h1,h2.extS hx (hp _ h1 h0),h3,fun i hi=>(h4 i hi).extS hx hS⟩
theorem zHN {O O':List Rat} (hB:PBlk w0 b O) :
 (⟨i,b,fun w=>PBlk w b O,fun w=>PBlk w b O'⟩:StoreSpec).blk<w0.heap.size∧(⟨i,b,fun w=>PBlk w b O,fun w=>PBlk w b O'⟩:StoreSpec).pre w0∧∀ w w',ExtS [b] w0 w→ExtS [b] w w'→w'.heap[(⟨i,b,fun w=>PBlk w b O,fun w=>PBlk w b O'⟩:StoreSpec).blk]? = w.heap[(⟨i,b,fun w=>PBlk w b O,fun w=>PBlk w b O'⟩:StoreSpec).blk]? →
  ((⟨i,b,fun w=>PBlk w b O,fun w=>PBlk w b O'⟩:StoreSpec).pre w→(⟨i,b,fun w=>PBlk w b O,fun w=>PBlk w b O'⟩:StoreSpec).pre w')∧((⟨i,b,fun w=>PBlk w b O,fun w=>PBlk w b O'⟩:StoreSpec).post w→(⟨i,b,fun w=>PBlk w b O,fun w=>PBlk w b O'⟩:StoreSpec).post w'):=by
 have key:∀ (w w':World) (L:List Rat),ExtS [b] w w'→w'.heap[b]? = w.heap[b]?→PBlk w b L→PBlk w' b L:=fun w w' L hx he h=>by
  obtain ⟨cs,h1,h2,h3⟩:=h;exact ⟨cs,by show w'.heap[b]? = _;rw [he];exact h1,h2,fun i hi=>(h3 i hi).extS hx (noW1 h1 (by decide))⟩
 exact ⟨hB.lt,hB,fun w w' _ hx he=>⟨key w w' O hx he,key w w' O' hx he⟩⟩
section laws
variable {K:Value→World→Prop} {d:Option Tmp}
theorem zCs (hx:σ x = .pointer (some ⟨b,o,none⟩)) (ho:o=3*k) (hB:PBlk w b l) (hk:k<l.length) (hc:∀ v,IsNum w v (l.getD k 0)→K v w):Runs prog r ⟨d,.load 37 x,ty,pos,af,g⟩ σ w K:=by
 subst ho;obtain ⟨cs,h1,h2,h3⟩:=hB;exact zAK hx h1 (by omega) (h3 k hk) hc
theorem zBH {i:Operand} {k:IntKind} (hx:σ x = .slice (some ⟨b,0,none⟩) len cap) (hi:σ i = .int k (ix:Int)) (h1:ix<len) (hk:K (.pointer (some ⟨b,3*ix,none⟩)) w):Runs prog r ⟨d,.indexAddr 25 x i,ty,pos,af,g⟩ σ w K:=by
 refine zO zAA hx hi (by omega) (by omega) ?_;rw [show 0+((ix:Nat):Int).toNat*3=3*ix from by omega];exact hk
end laws
def AccP (sz:Nat) (w:World) (v:Value) (A:List Rat):Prop :=
 ∃ p c,v = .slice p A.length c∧A.length≤c∧((A=[]∧p=none∧c=0)∨∃ b cs,p=some ⟨b,0,none⟩∧sz≤b∧Blk w b 37 cs∧cs.length=3*c∧∀ i,i<A.length→IsNum w (.agg ((cs.drop (3*i)).take 3).toArray) (A.getD i 0))
theorem AccP.nil {sz:Nat}:AccP sz w (.slice none 0 0) []:=⟨none,0,rfl,Nat.le_refl _,.inl ⟨rfl,rfl,rfl⟩⟩
theorem AccP.ext {sz:Nat} (h:AccP sz w v A) (hx:Ext w w'):AccP sz w' v A:=by
 obtain ⟨p,c,h1,h2,h3⟩:=h;refine ⟨p,c,h1,h2,?_⟩;rcases h3 with h3 | ⟨b,cs,e1,e2,e3,e4,e5⟩
 · exact .inl h3
 · exact .inr ⟨b,cs,e1,e2,e3.ext hx,e4,fun i hi=>(e5 i hi).ext hx⟩
theorem AccP.own {sz:Nat} (h:AccP sz w v A) (hl:A.length≤4096):IsOwn sz w v A:=by
 obtain ⟨p,c,h1,h2,h3⟩:=h;rcases h3 with ⟨e1,e2,e3⟩ | ⟨b,cs,e1,e2,e3,e4,e5⟩
 · exact ⟨p,c,h1,h2,.inl e1,hl,fun hn=>absurd e1 hn⟩
 · exact ⟨p,c,h1,h2,.inr ⟨b,0,cs,e1,e3,by omega,fun i hi=>by rw [Nat.zero_add];exact e5 i hi⟩,hl,fun _=>⟨b,e1,e2⟩⟩
theorem AccP.upd {sz:Nat} (h:AccP sz w v A) (hu:Upd c w w') (hc:Blk w c 37 cs) (hne:∀ b k,v = .slice (some ⟨b,0,none⟩) A.length k→b≠c):AccP sz w' v A:=by
 obtain ⟨p,k,h1,h2,h3⟩:=h;refine ⟨p,k,h1,h2,?_⟩;rcases h3 with h3 | ⟨b,cs',e1,e2,e3,e4,e5⟩
 · exact .inl h3
 · refine .inr ⟨b,cs',e1,e2,e3.upd hu (hne b k (by rw [h1,e1])),e4,fun i hi=>(e5 i hi).upd hu hc (by decide)⟩
theorem AccP.new {sz:Nat} (h:AccP sz w v A) (hc:w.heap.size≤c):∀ b k,v = .slice (some ⟨b,0,none⟩) A.length k→b≠c:=fun b k e=>by
 obtain ⟨p,k',h1,h2,h3⟩:=h;rcases h3 with ⟨e1,e2,e3⟩ | ⟨b',cs',e1,e2,e3,e4,e5⟩
 · rw [h1,e2] at e;cases e
 · rw [h1,e1] at e;cases e;have:=e3.lt;omega
theorem zFC (h:i<A.length):(A++[q]).getD i 0=A.getD i 0:=by
 simp [List.getElem?_append_left h]
theorem zFD:(A++[q]).getD A.length 0=q:=by simp
def AppX (sz:Nat) (w w':World):Prop:=Ext w w'∨∃ b cs,sz≤b∧Blk w b 37 cs∧Upd b w w'
theorem AppX.ext {sz:Nat} (h:AppX sz w w') (hs:w0.heap.size≤sz) (hE:Ext w0 w):Ext w0 w':=by
 rcases h with h | ⟨b,cs,h1,h2,h3⟩
 · exact hE.trans h
 · exact hE.upd h3 (by omega)
theorem AppX.num {sz:Nat} (h:AppX sz w w') (hc:c<sz) (hN:NumAt c q w):NumAt c q w':=by
 rcases h with h | ⟨b,cs,h1,h2,h3⟩
 · exact hN.ext h
 · exact hN.upd h3 h2 (by omega)
theorem zEo {K:Value→World→Prop} {d:Option Tmp} {sz:Nat} {c1 c3:Value}
 (hx:AccP sz w (σ x) A) (hy:σ y = .slice (some ⟨b2,0,none⟩) 1 1) (hB2:Blk w b2 37 [c1,c2,c3]) (hq:IsNum w (.agg #[c1,c2,c3]) q) (hA:A.length<4096) (hsz:sz≤w.heap.size)
 (hk:∀ v w',AppX sz w w'→AccP sz w' v (A++[q])→K v w') :
 Runs prog r ⟨d,.call { callee := .builtin .append,args := #[x,y],argTypes := #[25,25] },ty,pos,af,g⟩ σ w K:=by
 obtain ⟨p,c,h1,h2,h3⟩:=hx;have hq0:=hq;have hcells:Cells w (some ⟨b2,0,none⟩) 37 [c1,c2,c3]:=Cells.blk hB2;have hok:[c1,c2,c3].all zBl=true:=by
  obtain ⟨n,dd,he,hn,hd⟩:=hq;obtain ⟨p1,ds1,k1,rfl,-⟩:=hn;obtain ⟨p2,ds2,k2,rfl,-⟩:=hd;cases he;rfl
 have fin:∀ (w':World) (b c':Nat) (cs':List Value),sz≤b→A.length+1≤c'→Blk w' b 37 cs'→cs'.length=3*c'→(∀ i,i<A.length→IsNum w' (.agg ((cs'.drop (3*i)).take 3).toArray) (A.getD i 0))→((cs'.drop (3*A.length)).take 3=[c1,c2,c3])→IsNum w' (.agg #[c1,c2,c3]) q →
  AccP sz w' (.slice (some ⟨b,0,none⟩) (A.length+1) c') (A++[q]):=fun w' b c' cs' g1 g2 g3 g4 g5 g6 g7=>by
  refine ⟨_,c',by simp,by simpa using g2,.inr ⟨b,cs',rfl,g1,g3,g4,fun i hi => ?_⟩⟩;by_cases hi':i<A.length
  · rw [zFC hi'];exact g5 i hi'
  · have:i=A.length:=by simp at hi;omega
    subst this;rw [g6,zFD];exact g7
 by_cases hc:A.length+1≤c
 · -- within the capacity
   rcases h3 with ⟨e1,e2,e3⟩ | ⟨b,cs,e1,e2,e3,e4,e5⟩
   · omega
   · subst e1;refine zBM (n:=3) zAV zAV zDT h1 hy e3 hcells rfl hc (by omega) hok fun w' hU hN=>hk _ w' ?_ ?_
     · exact .inr ⟨b,cs,e2,e3,hU⟩
     · rw [Nat.zero_add,show A.length*3=3*A.length from by omega] at hN;refine fin w' b c _ e2 hc hN (by rw [zAh];exact e4) (fun i hi => ?_) ?_ (hq0.upd hU e3 (by decide))
       · rw [zBY (by omega),if_neg (by omega)];exact (e5 i hi).upd hU e3 (by decide)
       · rw [zBY (by omega),if_pos rfl]
 · have hnew:=zAa (A.length+1) c;have hold:∃ old,Cells w p 37 old∧old.length=A.length*3∧∀ i,i<A.length→IsNum w (.agg ((old.drop (3*i)).take 3).toArray) (A.getD i 0):=by
    rcases h3 with ⟨e1,e2,e3⟩ | ⟨b,cs,e1,e2,e3,e4,e5⟩
    · subst e1;exact ⟨[],.inl rfl,rfl,fun i hi=>by simp at hi⟩
    · refine ⟨cs.take (A.length*3),.inr ⟨b,0,cs,e1,e3,by simp⟩,by simp;omega,fun i hi => ?_⟩;have:=e5 i hi;rwa [show ((cs.take (A.length*3)).drop (3*i)).take 3=(cs.drop (3*i)).take 3 from by
       rw [List.drop_take,List.take_take,Nat.min_eq_left (by omega)]]
   obtain ⟨old,o1,o2,o3⟩:=hold;refine zAJ zAV zAV zDT rfl (by decide) h1 hy o1 o2 hcells rfl (by omega) (by omega) fun w' rest c' g1 hE hB g2 _=>hk _ w' ?_ ?_
   · exact .inl hE
   · have hrl:rest.length=(c'-(A.length+1))*3:=by rw [g2];simp [Builtin.zeroCells,Value.cells]
     refine fin w' _ c' _ hsz g1 hB (by simp [o2,hrl];omega) (fun i hi => ?_) ?_ (hq0.ext hE)
     · rw [List.append_assoc,zDX (by omega)];exact (o3 i hi).ext hE
     · rw [List.append_assoc,List.drop_append_of_le_length (by omega),List.drop_of_length_le (by omega)];simp
variable {N n:Nat} {P:Program} {Q:Post} {T:TypeId} {args:Array Value} {ds:List Nat} {f:FuncId} {fn:Func} {Φ:Value→World→Prop} {δ:List Deferred} {ρ:Env}
structure OthX (l:Nat) (w w':World):Prop where
 os:w'.os=w.os
 tape:w'.tape=w.tape
 output:w'.output=w.output
 size:w'.heap.size=w.heap.size
 block:∀ k,k≠l→w'.heap[k]? = w.heap[k]?
 no:∀ T cs,¬ Blk w l T cs
theorem OthX.upd {l:Nat} (h:OthX l w w'):Upd l w w':=⟨h.os,h.tape,h.output,h.size,h.block,fun T cs hb=>absurd hb (h.no T cs)⟩
theorem Blk.oth {l:Nat} (h:Blk w b T cs) (hx:OthX l w w'):Blk w' b T cs :=
 h.upd hx.upd fun e=>hx.no T cs (e ▸ h)
theorem Ext.oth {l:Nat} (h:Ext w0 w) (hx:OthX l w w') (hl:w0.heap.size≤l):Ext w0 w':=h.upd hx.upd hl
theorem zBr {l:Nat} {o:Obj} (o':Obj) (h:w.heap[l]? = some o) (ho:o.isCells=false):OthX l w (w.putObj l o') :=
 ⟨rfl,rfl,rfl,by simp [World.putObj],fun k hk=>World.putObj_heap_other hk,fun T cs hb=>by
  unfold Blk at hb;rw [h] at hb;cases hb;cases ho⟩
def BlkLe (w w':World):Prop:=∀ b T cs,Blk w b T cs→Blk w' b T cs
theorem OthX.le {l:Nat} (h:OthX l w w'):BlkLe w w':=fun _ _ _ hb=>hb.oth h
theorem Rd.le (h:Rd w p ds) (hx:BlkLe w w'):Rd w' p ds:=fun i hi=>by
 obtain ⟨b,o,cs,h1,h2,h3⟩:=h i hi;exact ⟨b,o,cs,h1,hx _ _ _ h2,h3⟩
theorem IsW.le (h:IsW w v n) (hx:BlkLe w w'):IsW w' v n:=by
 obtain ⟨p,ds,cap,h1,h2,h3,h4,h5⟩:=h;exact ⟨p,ds,cap,h1,h2,h3.le hx,h4,h5⟩
theorem IsNum.le (h:IsNum w v q) (hx:BlkLe w w'):IsNum w' v q:=by
 obtain ⟨n,d,hv,h1,h2⟩:=h;exact ⟨n,d,hv,h1.le hx,h2.le hx⟩
theorem PRd.le (h:PRd w p l) (hx:BlkLe w w'):PRd w' p l:=by
 rcases h with h | ⟨b,o,cs,h1,h2,h3,h4⟩
 · exact .inl h
 · exact .inr ⟨b,o,cs,h1,hx _ _ _ h2,h3,fun i hi=>(h4 i hi).le hx⟩
theorem NumAt.le (h:NumAt b q w) (hx:BlkLe w w'):NumAt b q w':=by
 obtain ⟨cs,h1,h2,h3⟩:=h;exact ⟨cs,hx _ _ _ h1,h2,h3.le hx⟩
theorem zM.le (h:zM w v l) (hx:BlkLe w w'):zM w' v l:=by
 obtain ⟨p,c,h1,h2,h3,h4⟩:=h;exact ⟨p,c,h1,h2,h3.le hx,h4⟩
def NC (w w':World):Prop:=∀ (k:Nat) (o:Obj),w.heap[k]? = some o→o.isCells=false→w'.heap[k]? = some o
theorem NC.refl (w:World):NC w w:=fun _ _ h _=>h
theorem NC.trans {a b c:World} (h:NC a b) (k:NC b c):NC a c:=fun i o hi ho=>k i o (h i o hi ho) ho
theorem NC.ext (h:Ext w w'):NC w w':=fun _ _ hk _=>h.heap hk
theorem NC.upd (h:Upd b w w') (hb:Blk w b T cs):NC w w':=fun k o hk ho=>by
 by_cases e:k=b
 · subst e;unfold Blk at hb;rw [hb] at hk;cases hk;cases ho
 · rw [h.block k e];exact hk
theorem NC.extS (h:ExtS [b] w w') (hb:Blk w b T cs):NC w w':=fun k o hk ho=>by
 by_cases e:k=b
 · subst e;unfold Blk at hb;rw [hb] at hk;cases hk;cases ho
 · rw [h.block k (Array.getElem?_eq_some_iff.1 hk).1 (by simpa using e)];exact hk
def zGp (P:Program) (l:Nat) (args:Array Value) (w:World) (K:Value→World→Prop):Prop :=
 ∃ fn tmps assign body,(Instr.yield l args).run P w = .ok (.round l fn tmps assign body) w∧RoundIn (W none) 0 P l fn tmps assign body w (fun e w'=>∃ v,e = .returned v∧K v w')
theorem zGm {K:Value→World→Prop} {d:Option Tmp} {l:Nat} {args:Array Operand} {ts:Array TypeId}
 (hx:σ x = .func (.yield l) #[] #[]) (hy:zGp P l (args.toList.map σ).toArray w K) :
 Runs P none ⟨d,.call { callee := .value x,args:=args,argTypes:=ts },ty,pos,af,g⟩ σ w K:=by
 obtain ⟨fn,tmps,assign,body,h1,h2⟩:=hy;have ha:(args.toList.map σ).toArray=args.map σ:=amap _ _;rw [ha] at h1;unfold Runs;rw [zBu (fun _ e=>by cases e)];have:(execOp σ ⟨d,.call { callee := .value x,args:=args,argTypes:=ts },ty,pos,af,g⟩).run P w = .ok (.round l fn tmps assign body) w:=by
  simp only [execOp,resolve,hx,Deferred.ofValue];simp [invoke,h1]
 rw [this];exact h2
def exts (ρ:Env):List (Tmp×Value)→Env
 | []=>ρ
 | (p,v) :: l=>exts ((p,v) :: ρ) l
theorem zLG {N:Nat} {δ:List Deferred}:∀ (l:List (Tmp×Value)) (ρ:Env) (tmps:Array Value),Fr N { tmps:=tmps,defers:=δ } ρ→(∀ x∈l,x.1<N) →
 Fr N { tmps:=l.foldl (fun t (x:Tmp×Value)=>t.setIfInBounds x.1 x.2) tmps,defers:=δ } (exts ρ l)
 | [],ρ,tmps,h,_=>h
 | (p,v) :: l,ρ,tmps,h,hp=>by
  have h1:Fr N { tmps:=tmps.setIfInBounds p v,defers:=δ } ((p,v) :: ρ):=h.put (some p) v (fun d hd=>by cases hd;exact hp (p,v) (by simp));exact zLG l _ _ h1 fun x hx=>hp x (by simp [hx])
def mark (D:Nat):Deferred:={ target := .collected D,args := #[] }
theorem zIZ {g:Operand} {ps:Array Tmp} {assign body:Code} {cap:Array Value}
 (hgd:(match g with | .tmp t=>(dom ρ).contains t | _=>true)=true) (hg:look ρ g = .func (.func f) #[] cap) (hf:zAq P f) (hps:ps.toList.all (fun p=>decide (p<N))=true)
 (I:Nat→World→Prop) (Kp:World→World→Prop) (n:Nat) (enc:Nat→Array Value→World→Prop)
 (hsz:∀ i args w,enc i args w→args.size=ps.size)
 (h0:∀ w1,Ext w w1→I 0 w1)
 (hIe:∀ i w1 w2,I i w1→Ext w1 w2→I i w2)
 (hIo:∀ i l w1 w2,w.heap.size≤l→I i w1→OthX l w1 w2→I i w2)
 (hseq:∀ (l:Nat) (J:Nat→World→Prop),(∀ i w1 w2,J i w1→Ext w1 w2→J i w2)→(∀ i w1,J i w1→I i w1) →
  (∀ i,i<n→∀ args w1,J i w1→enc i args w1→zGp P l args w1 (fun u w2=>u = .bool true∧J (i+1) w2∧Kp w1 w2)) →
  ∀ w1,Ext w w1→J 0 w1→CallK P f (#[.func (.yield l) #[] #[]]++cap) w1 (fun _ w2=>J n w2))
 (hround:∀ (l i:Nat) (args:Array Value) (w1:World),w.heap.size≤l→i<n→I i w1→enc i args w1 →
  WPE P (some l) N assign (fun e ρ' δ' w2=>e = .normal∧δ'=[]∧NC w1 w2 ∧
   ∀ w3,OthX l w2 w3→WPE P (some l) N body (fun e _ _ w4=>e = .normal∧NC w3 w4∧∀ w5,OthX l w4 w5→I (i+1) w5∧Kp w1 w5) [] ρ' w3) [] (exts ρ (ps.toList.zip args.toList)) w1)
 (hdone:∀ (D:Nat) (w2:World),w.heap.size≤D→I n w2→w2.heap[D]? = some (.deferred (some []))→Q .normal ρ (mark D :: δ) w2) :
 WPE P none N (.rangeFunc g ps assign body) Q δ ρ w:=fun a hfr hd=>by
 refine wpIn_rangeFunc (F:=W none) fun fn hfn => ?_;obtain ⟨rec,hrec⟩:∃ rec:LoopState→Loop,rec=fun st=>{ state:=st,pending:=none,fn,tmps:=a.tmps,params:=ps,assign,body,defers:=w.heap.size }:=⟨_,rfl⟩;obtain ⟨W1,hW1⟩:∃ W1,(w.alloc (.deferred (some []))).alloc (.loop (rec .ready))=W1:=⟨_,rfl⟩;have hL1:W1.heap[w.heap.size+1]? = some (.loop (rec .ready)):=by
  rw [← hW1];have:=World.alloc_heap_new (w.alloc (.deferred (some []))) (.loop (rec .ready));rwa [World.size_alloc] at this
 have hK1:W1.heap[w.heap.size]? = some (.deferred (some [])):=by
  rw [← hW1];exact (Below.heap_alloc _ _ _ (by simp)).trans (World.alloc_heap_new w _)
 have hE1:Ext w W1:=by
  rw [← hW1];exact (Ext.push (w:=w) (.deferred (some []))).trans (Ext.push (w:=w.alloc (.deferred (some []))) (.loop (rec .ready)))
 have hgv:a.eval g = .func (.func f) #[] cap:=by
  rw [hfr.eval g (fun t e=>by subst e;simpa using hgd)];exact hg
 refine ⟨w.heap.size+1,[mark w.heap.size],W1,{ target := .fn (.func f) cap,args := #[.func (.yield (w.heap.size+1)) #[] #[]] },W1,f,#[.func (.yield (w.heap.size+1)) #[] #[]]++cap,W1,?_,?_,?_,?_,?_,?_⟩
 · rw [← hW1,hrec];exact run_enterLoop_outer fn a.tmps ps assign body
 · simp only [resolve,hgv];simp [go_sem]
 · intro f' _;trivial
 · simp [invoke,go_sem,hf (#[.func (.yield (w.heap.size+1)) #[] #[]]++cap) W1]
 · intro h;cases h
 · refine zMn (h:=Calls.mono (hseq (w.heap.size+1) (fun i W=>I i W∧W.heap[w.heap.size+1]? = some (.loop (rec .ready))∧W.heap[w.heap.size]? = some (.deferred (some [])))
    (fun i w1 w2 h hE=>⟨hIe i w1 w2 h.1 hE,hE.heap h.2.1,hE.heap h.2.2⟩) (fun i w1 h=>h.1) ?_ W1 hE1 ⟨h0 W1 hE1,hL1,hK1⟩) ?_)
   · rintro i hi args w1 ⟨hI,hl,hk⟩ he;have hlt:w.heap.size+1<w1.heap.size:=(Array.getElem?_eq_some_iff.1 hl).1;have hy:=run_yield (P:=P) (args:=args) hl (by rw [hrec];exact hsz i args w1 he);rw [hrec] at hy;refine ⟨fn,_,assign,body,hy,roundIn_of_wpIn hfn ?_⟩;have hfr2:=zLG (N:=N) (δ:=[]) (ps.toList.zip args.toList) ρ a.tmps ⟨hfr.size,hfr.at_⟩ (fun x hx=>by
      have:=(List.of_mem_zip hx).1;simpa using List.all_eq_true.1 hps _ this)
     have hzip:(ps.zip args).foldl (fun t (x:Tmp×Value)=>t.setIfInBounds x.1 x.2) a.tmps=(ps.toList.zip args.toList).foldl (fun t (x:Tmp×Value)=>t.setIfInBounds x.1 x.2) a.tmps:=by
      rw [← Array.foldl_toList];simp
     rw [← hzip] at hfr2;refine wpIn_mono (hround (w.heap.size+1) i args w1 (by omega) hi hI he _ hfr2 rfl) ?_;rintro e a2 w2 ⟨ρ2,hf2,rfl,hd2,hkeep,hbody⟩;have hl2:=hkeep _ _ hl rfl;have hk2:=hkeep _ _ hk rfl;refine ⟨_,run_beginRound hl2 (by rw [hrec]),?_⟩;have hlt2:=(Array.getElem?_eq_some_iff.1 hl2).1;have ho2:=zBr (.loop { rec .ready with state := .busy }) hl2 rfl;have hl3:(w2.putObj (w.heap.size+1) (.loop { rec .ready with state := .busy })).heap[w.heap.size+1]? = some (.loop { rec .ready with state := .busy }):=World.putObj_heap_same hlt2;have hk3:(w2.putObj (w.heap.size+1) (.loop { rec .ready with state := .busy })).heap[w.heap.size]? = some (.deferred (some [])):=(World.putObj_heap_other (by omega)).trans hk2;refine wpIn_mono (hbody _ ho2 a2 hf2 hd2) ?_;rintro e a4 w4 ⟨ρ4,hf4,rfl,hkeep4,hfin⟩;have hl4:=hkeep4 _ _ hl3 rfl;have hk4:=hkeep4 _ _ hk3 rfl;have hlt4:=(Array.getElem?_eq_some_iff.1 hl4).1;have hr4:=run_endRound (P:=P) none hl4;have ho4:=zBr (.loop (rec .ready)) hl4 rfl;obtain ⟨g1,g2⟩:=hfin _ ho4;refine ⟨_,_,hr4,_,rfl,rfl,⟨?_,?_,?_⟩,?_⟩
     · rw [hrec] at g1 ⊢;exact g1
     · rw [hrec];exact World.putObj_heap_same hlt4
     · exact (World.putObj_heap_other (by omega)).trans hk4
     · rw [hrec] at g2 ⊢;exact g2
   · rintro e w2 ⟨v,rfl,hI,hl,hk⟩;have hlt:w.heap.size+1<w2.heap.size:=(Array.getElem?_eq_some_iff.1 hl).1;refine ⟨none,_,by have:=run_endLoop (P:=P) hl (by rw [hrec];simp);rw [hrec] at this;exact this,?_⟩;refine ⟨ρ,⟨hfr.size,hfr.at_⟩,?_⟩;show Q .normal ρ ([mark w.heap.size]++a.defers) _;rw [hd];refine hdone w.heap.size _ (Nat.le_refl _) ?_ ((World.putObj_heap_other (by omega)).trans hk);exact hIo n (w.heap.size+1) _ _ (by omega) hI (zBr _ hl rfl)
theorem zFb {c:Code} (N:Nat)
 (hf:P.funcs[f]? = some fn) (hb:fn.body=some c) (hN:fn.ntmps=N) (hargs:args.size≤N)
 (h:WPE P none N c (funQ fun ρ δ w'=>∃ D v,δ=[mark D]∧w'.heap[D]? = some (.deferred (some []))∧∀ w2,OthX D w' w2→Gives P fn N ρ w2 v∧Ext w w2∧Φ v w2) [] (args0 0 args.toList) w):Ret P f args w Φ:=by
 subst hN;refine callsW' (r:=none) (n:=0) (callsIn_of_wp_marks hf hb trivial ?_);refine wpIn_mono (h _ (zHF fn args hargs) rfl) ?_
 have key:∀ (a:Act) (w':World) (ρ:Env),Fr fn.ntmps a ρ→(∃ D v,a.defers=[mark D]∧w'.heap[D]? = some (.deferred (some []))∧∀ w2,OthX D w' w2→Gives P fn fn.ntmps ρ w2 v∧Ext w w2∧Φ v w2) →
  LeavesInM (W none) 0 P fn a.tmps (fun e w'=>∃ v,e = .returned v∧Ext w w'∧Φ v w') a.defers .returning w':=by
  rintro a w' ρ hfr ⟨D,v,hd,hD,hfin⟩;rw [hd];refine ⟨by simp,.inl ⟨D,_,rfl,run_takeDeferred hD,?_⟩⟩;obtain ⟨g1,g2,g3⟩:=hfin _ (zBr (.deferred none) hD rfl);exact ⟨v,g1 a hfr,v,rfl,g2,g3⟩
 rintro e a w' ⟨ρ,hfr,hq⟩;cases e with
 | normal=>exact key a w' ρ hfr hq
 | ret=>exact key a w' ρ hfr hq
 | _=>exact hq.elim
theorem ret_of_wpeM2 {c:Code} (N:Nat)
 (hf:P.funcs[f]? = some fn) (hb:fn.body=some c) (hN:fn.ntmps=N) (hargs:args.size≤N)
 (h:WPE P none N c (funQ fun ρ δ w'=>(δ=[]∧∃ v,Gives P fn N ρ w' v∧Ext w w'∧Φ v w')∨∃ D v,δ=[mark D]∧w'.heap[D]? = some (.deferred (some []))∧∀ w2,OthX D w' w2→Gives P fn N ρ w2 v∧Ext w w2∧Φ v w2) [] (args0 0 args.toList) w):Ret P f args w Φ:=by
 subst hN;refine callsW' (r:=none) (n:=0) (callsIn_of_wp_marks hf hb trivial ?_);refine wpIn_mono (h _ (zHF fn args hargs) rfl) ?_
 have key:∀ (a:Act) (w':World) (ρ:Env),Fr fn.ntmps a ρ→((a.defers=[]∧∃ v,Gives P fn fn.ntmps ρ w' v∧Ext w w'∧Φ v w')∨∃ D v,a.defers=[mark D]∧w'.heap[D]? = some (.deferred (some []))∧∀ w2,OthX D w' w2→Gives P fn fn.ntmps ρ w2 v∧Ext w w2∧Φ v w2) →
  LeavesInM (W none) 0 P fn a.tmps (fun e w'=>∃ v,e = .returned v∧Ext w w'∧Φ v w') a.defers .returning w':=by
  rintro a w' ρ hfr (⟨hd,v,g1,g2,g3⟩ | ⟨D,v,hd,hD,hfin⟩)
  · rw [hd];exact ⟨v,g1 a hfr,v,rfl,g2,g3⟩
  · rw [hd];refine ⟨by simp,.inl ⟨D,_,rfl,run_takeDeferred hD,?_⟩⟩;obtain ⟨g1,g2,g3⟩:=hfin _ (zBr (.deferred none) hD rfl);exact ⟨v,g1 a hfr,v,rfl,g2,g3⟩
 rintro e a w' ⟨ρ,hfr,hq⟩;cases e with
 | normal=>exact key a w' ρ hfr hq
 | ret=>exact key a w' ρ hfr hq
 | _=>exact hq.elim
def NCx (a b:World):Prop:=NC a b
theorem NCx.ext {a b c:World} (h:NCx a b) (hx:Ext b c):NCx a c:=NC.trans h (NC.ext hx)
theorem NCx.tr {a b c:World} (h:NCx a b) (k:NC b c):NCx a c:=NC.trans h k
def DefAt (D:Nat) (w:World):Prop:=w.heap[D]? = some (.deferred (some []))
theorem DefAt.nc {D:Nat} (h:DefAt D w) (k:NC w w'):DefAt D w':=k _ _ h rfl
theorem DefAt.ext {D:Nat} (h:DefAt D w) (k:Ext w w'):DefAt D w':=h.nc (NC.ext k)
theorem wpe_rangeX {X:Type} {g:Operand} {ps:Array Tmp} {assign body:Code} {cap:Array Value}
 (hgd:(match g with | .tmp t=>(dom ρ).contains t | _=>true)=true) (hg:look ρ g = .func (.func f) #[] cap) (hf:zAq P f) (hps:ps.toList.all (fun p=>decide (p<N))=true)
 (I:X→World→Prop) (Kp:World→World→Prop) (x0:X) (fin:X→Prop) (enc:X→X→Array Value→World→Prop)
 (hsz:∀ i j args w,enc i j args w→args.size=ps.size)
 (h0:∀ w1,Ext w w1→I x0 w1)
 (hIe:∀ i w1 w2,I i w1→Ext w1 w2→I i w2)
 (hIo:∀ i l w1 w2,w.heap.size≤l→I i w1→OthX l w1 w2→I i w2)
 (hseq:∀ (l:Nat) (J:X→World→Prop),(∀ i w1 w2,J i w1→Ext w1 w2→J i w2)→(∀ i it w1 w2 a c s d,w.heap.size≤it→J i w1→w1.heap[it]? = some (.mapIter a c s d)→OthX it w1 w2→J i w2)→(∀ i w1,J i w1→I i w1) →
  (∀ i j args w1,J i w1→enc i j args w1→zGp P l args w1 (fun u w2=>u = .bool true∧J j w2∧Kp w1 w2)) →
  ∀ w1,Ext w w1→J x0 w1→CallK P f (#[.func (.yield l) #[] #[]]++cap) w1 (fun _ w2=>∃ x,fin x∧J x w2))
 (hround:∀ (l:Nat) (i j:X) (args:Array Value) (w1:World),w.heap.size≤l→(∃ lo,w1.heap[l]? = some (.loop lo))→I i w1→enc i j args w1 →
  WPE P (some l) N assign (fun e ρ' δ' w2=>e = .normal∧δ'=[]∧NC w1 w2 ∧
   ∀ w3,OthX l w2 w3→WPE P (some l) N body (fun e _ _ w4=>e = .normal∧NC w3 w4∧∀ w5,OthX l w4 w5→I j w5∧Kp w1 w5) [] ρ' w3) [] (exts ρ (ps.toList.zip args.toList)) w1)
 (hdone:∀ (x:X) (D:Nat) (w2:World),fin x→w.heap.size≤D→I x w2→w2.heap[D]? = some (.deferred (some []))→Q .normal ρ (mark D :: δ) w2) :
 WPE P none N (.rangeFunc g ps assign body) Q δ ρ w:=fun a hfr hd=>by
 refine wpIn_rangeFunc (F:=W none) fun fn hfn => ?_;obtain ⟨rec,hrec⟩:∃ rec:LoopState→Loop,rec=fun st=>{ state:=st,pending:=none,fn,tmps:=a.tmps,params:=ps,assign,body,defers:=w.heap.size }:=⟨_,rfl⟩;obtain ⟨W1,hW1⟩:∃ W1,(w.alloc (.deferred (some []))).alloc (.loop (rec .ready))=W1:=⟨_,rfl⟩;have hL1:W1.heap[w.heap.size+1]? = some (.loop (rec .ready)):=by
  rw [← hW1];have:=World.alloc_heap_new (w.alloc (.deferred (some []))) (.loop (rec .ready));rwa [World.size_alloc] at this
 have hK1:W1.heap[w.heap.size]? = some (.deferred (some [])):=by
  rw [← hW1];exact (Below.heap_alloc _ _ _ (by simp)).trans (World.alloc_heap_new w _)
 have hE1:Ext w W1:=by
  rw [← hW1];exact (Ext.push (w:=w) (.deferred (some []))).trans (Ext.push (w:=w.alloc (.deferred (some []))) (.loop (rec .ready)))
 have hgv:a.eval g = .func (.func f) #[] cap:=by
  rw [hfr.eval g (fun t e=>by subst e;simpa using hgd)];exact hg
 refine ⟨w.heap.size+1,[mark w.heap.size],W1,{ target := .fn (.func f) cap,args := #[.func (.yield (w.heap.size+1)) #[] #[]] },W1,f,#[.func (.yield (w.heap.size+1)) #[] #[]]++cap,W1,?_,?_,?_,?_,?_,?_⟩
 · rw [← hW1,hrec];exact run_enterLoop_outer fn a.tmps ps assign body
 · simp only [resolve,hgv];simp [go_sem]
 · intro f' _;trivial
 · simp [invoke,go_sem,hf (#[.func (.yield (w.heap.size+1)) #[] #[]]++cap) W1]
 · intro h;cases h
 · refine zMn (h:=Calls.mono (hseq (w.heap.size+1) (fun i W=>I i W∧W.heap[w.heap.size+1]? = some (.loop (rec .ready))∧W.heap[w.heap.size]? = some (.deferred (some [])))
    (fun i w1 w2 h hE=>⟨hIe i w1 w2 h.1 hE,hE.heap h.2.1,hE.heap h.2.2⟩)
    (fun i it w1 w2 a c s d hw h hi hO=>⟨hIo i it w1 w2 hw h.1 hO,by rw [hO.block _ (fun e=>by rw [← e,h.2.1] at hi;cases hi)];exact h.2.1,by rw [hO.block _ (fun e=>by rw [← e,h.2.2] at hi;cases hi)];exact h.2.2⟩) (fun i w1 h=>h.1) ?_ W1 hE1 ⟨h0 W1 hE1,hL1,hK1⟩) ?_)
   · rintro i j args w1 ⟨hI,hl,hk⟩ he;have hlt:w.heap.size+1<w1.heap.size:=(Array.getElem?_eq_some_iff.1 hl).1;have hy:=run_yield (P:=P) (args:=args) hl (by rw [hrec];exact hsz i j args w1 he);rw [hrec] at hy;refine ⟨fn,_,assign,body,hy,roundIn_of_wpIn hfn ?_⟩;have hfr2:=zLG (N:=N) (δ:=[]) (ps.toList.zip args.toList) ρ a.tmps ⟨hfr.size,hfr.at_⟩ (fun x hx=>by
      have:=(List.of_mem_zip hx).1;simpa using List.all_eq_true.1 hps _ this)
     have hzip:(ps.zip args).foldl (fun t (x:Tmp×Value)=>t.setIfInBounds x.1 x.2) a.tmps=(ps.toList.zip args.toList).foldl (fun t (x:Tmp×Value)=>t.setIfInBounds x.1 x.2) a.tmps:=by
      rw [← Array.foldl_toList];simp
     rw [← hzip] at hfr2;refine wpIn_mono (hround (w.heap.size+1) i j args w1 (by omega) ⟨_,hl⟩ hI he _ hfr2 rfl) ?_;rintro e a2 w2 ⟨ρ2,hf2,rfl,hd2,hkeep,hbody⟩;have hl2:=hkeep _ _ hl rfl;have hk2:=hkeep _ _ hk rfl;refine ⟨_,run_beginRound hl2 (by rw [hrec]),?_⟩;have hlt2:=(Array.getElem?_eq_some_iff.1 hl2).1;have ho2:=zBr (.loop { rec .ready with state := .busy }) hl2 rfl;have hl3:(w2.putObj (w.heap.size+1) (.loop { rec .ready with state := .busy })).heap[w.heap.size+1]? = some (.loop { rec .ready with state := .busy }):=World.putObj_heap_same hlt2;have hk3:(w2.putObj (w.heap.size+1) (.loop { rec .ready with state := .busy })).heap[w.heap.size]? = some (.deferred (some [])):=(World.putObj_heap_other (by omega)).trans hk2;refine wpIn_mono (hbody _ ho2 a2 hf2 hd2) ?_;rintro e a4 w4 ⟨ρ4,hf4,rfl,hkeep4,hfin⟩;have hl4:=hkeep4 _ _ hl3 rfl;have hk4:=hkeep4 _ _ hk3 rfl;have hlt4:=(Array.getElem?_eq_some_iff.1 hl4).1;have hr4:=run_endRound (P:=P) none hl4;have ho4:=zBr (.loop (rec .ready)) hl4 rfl;obtain ⟨g1,g2⟩:=hfin _ ho4;refine ⟨_,_,hr4,_,rfl,rfl,⟨?_,?_,?_⟩,?_⟩
     · rw [hrec] at g1 ⊢;exact g1
     · rw [hrec];exact World.putObj_heap_same hlt4
     · exact (World.putObj_heap_other (by omega)).trans hk4
     · rw [hrec] at g2 ⊢;exact g2
   · rintro e w2 ⟨v,rfl,x,hfx,hI,hl,hk⟩;have hlt:w.heap.size+1<w2.heap.size:=(Array.getElem?_eq_some_iff.1 hl).1;refine ⟨none,_,by have:=run_endLoop (P:=P) hl (by rw [hrec];simp);rw [hrec] at this;exact this,?_⟩;refine ⟨ρ,⟨hfr.size,hfr.at_⟩,?_⟩;show Q .normal ρ ([mark w.heap.size]++a.defers) _;rw [hd];refine hdone x w.heap.size _ hfx (Nat.le_refl _) ?_ ((World.putObj_heap_other (by omega)).trans hk);exact hIo x (w.heap.size+1) _ _ (by omega) hI (zBr _ hl rfl)
end Go.Proofs.YtjiendlfobjanaaGreatDoor
namespace Go.Proofs.YtjiendlfobjanaaGreatDoor
open Go Go.RowKit Go.Proofs Tryz
set_option maxRecDepth 10000
variable {af:Array Edge} {b it:Nat} {g:Option (Nat×Bool)} {m:List (List Nat×Rat)} {pos:String} {r:Option Nat} {ty:TypeId} {w w':World} {x:Operand} {σ:Operand→Value}
section
variable {done:List (List Nat)}
def zCo (w:World) (it b:Nat) (m:List (List Nat×Rat)) (done:List (List Nat)):Prop :=
 ∃ (es:List MapEntry) (c:Nat) (ds:List MapEntry),w.heap[b]? = some (.map ⟨es⟩ c)∧Ents w es m∧(m.map (·.1)).Nodup∧(es.map (·.born)).Nodup∧(∀ e∈es,e.born<c) ∧
  w.heap[it]? = some (.mapIter (some b) c ⟨ds.map (·.born)⟩ c)∧(∀ e∈ds,e∈es)∧ds.map (·.key)=done.map pk∧(ds.map (·.born)).Nodup
theorem zCo.nc (h:zCo w it b m done) (hn:NC w w') (hx:∀ v q,IsNum w v q→IsNum w' v q):zCo w' it b m done:=by
 obtain ⟨es,c,ds,h1,h2,h3,h4,h5,h6,h7⟩:=h;exact ⟨es,c,ds,hn _ _ h1 rfl,h2.mono hx,h3,h4,h5,hn _ _ h6 rfl,h7⟩
theorem zCo.ext (h:zCo w it b m done) (hx:Ext w w'):zCo w' it b m done:=h.nc (NC.ext hx) fun _ _ k=>k.ext hx
variable {d:Option Tmp} {K:Value→World→Prop}
theorem runs_range (hx:σ x = .map (some b)) (hm:IsMap w b m) (hk:∀ it w',it=w.heap.size→Ext w w'→zCo w' it b m []→w'.heap.size=it+1→K (.pointer (some ⟨it,0,none⟩)) w') :
 Runs prog r ⟨d,.range 299 x,ty,pos,af,g⟩ σ w K:=by
 obtain ⟨es,c,h1,h2,h3,h4,h5⟩:=hm;refine zAb (fun _ e=>by cases e) (v := .pointer (some ⟨w.heap.size,0,none⟩)) (w':=w.alloc (.mapIter (some b) c #[] c)) ?_ (hk _ _ rfl (Ext.push _) ?_ (by show (w.heap.push _).size=_;simp))
 · simp [execOp,hx,run_range_map w 299 303 37 b ⟨es⟩ c zIX h1]
 · have hb:=(Array.getElem?_eq_some_iff.1 h1).1;exact ⟨es,c,[],by rw [heap_alloc_old _ _ hb];exact h1,h2.mono fun _ _ k=>k.ext (Ext.push _),h3,h4,h5,heap_alloc_new _ _,(fun _ h=>absurd h List.not_mem_nil),rfl,List.nodup_nil⟩
theorem runs_next (hx:σ x = .pointer (some ⟨it,0,none⟩)) (hi:zCo w it b m done)
 (h0:(∀ k,k∈m.map (·.1)→k∈done)→K (.tuple #[.bool false]) w)
 (h1:∀ k v w',k∈m.map (·.1)→k ∉ done→OthX it w w'→zCo w' it b m (done++[k])→K (.tuple #[.bool true,pk k,v]) w') :
 Runs prog r ⟨d,.next x false,ty,pos,af,g⟩ σ w K:=by
 obtain ⟨es,c,ds,e1,e2,e3,e4,e5,e6,e7,e8,e9⟩:=hi;have hborn:∀ e∈es,∀ e'∈es,e.born=e'.born→e=e':=fun e he e' he' h=>born_inj e4 he he' h;have hin:∀ e∈es,∀ k,e.key=pk k→k∈done→(ds.map (·.born)).contains e.born=true:=by
  intro e he k hk hd;have:pk k∈ds.map (·.key):=by rw [e8];exact List.mem_map.2 ⟨k,hd,rfl⟩
  obtain ⟨e',h1,h2⟩:=List.mem_map.1 this;obtain ⟨j,hj⟩:=List.getElem?_of_mem he;obtain ⟨j',hj'⟩:=List.getElem?_of_mem (e7 e' h1);obtain ⟨p,g1,g2,_⟩:=e2.get hj;obtain ⟨p',g1',g2',_⟩:=e2.get hj';have hp:p.1=k:=zLt (g2.symm.trans hk);have hp':p'.1=k:=zLt (g2'.symm.trans h2);have hjj:j=j':=by
   have a1:=(zHp e3 g1).1;have a2:=(zHp e3 g1').1;rw [hp] at a1;rw [hp',a1] at a2;exact Option.some.inj a2
  subst hjj;rw [hj] at hj';cases hj';rw [List.contains_iff_mem];exact List.mem_map.2 ⟨e,h1,rfl⟩
 rcases run_next_at (P:=prog) w ty it b c c ⟨ds.map (·.born)⟩ ⟨es⟩ c e6 e1 e5 (Nat.le_refl _) with ⟨hs,hr⟩ | ⟨e,he,w1,hw1,hr⟩
 · refine zl (fun _ e=>by cases e) (v := .tuple #[.bool false]) (by simp [execOp,hx,hr]) (h0 fun k hk => ?_);have hall:=all_seen ⟨es⟩ ⟨ds.map (·.born)⟩ hs
   obtain ⟨p,hp,rfl⟩:=List.mem_map.1 hk;obtain ⟨e,g1,g2⟩:=e2.has p hp;have:=hall e g1;rw [Array.contains_iff_mem] at this;have:e.born∈ds.map (·.born):=by simpa using this
   obtain ⟨e',g3,g4⟩:=List.mem_map.1 this;have:=hborn e' (e7 e' g3) e g1 g4;subst this;have:pk p.1∈done.map pk:=by rw [← e8,← g2];exact List.mem_map.2 ⟨_,g3,rfl⟩
   obtain ⟨k',g5,g6⟩:=List.mem_map.1 this;rw [← zLt g6];exact g5
 · obtain ⟨g1,g2⟩:=mem_left he;have g1:e∈es:=g1;obtain ⟨j,hj⟩:=List.getElem?_of_mem g1;obtain ⟨p,k1,k2,k3,k4⟩:=e2.get hj;have hit:it<w.heap.size:=(Array.getElem?_eq_some_iff.1 e6).1;have hbi:b≠it:=fun h=>by subst h;rw [e1] at e6;cases e6
   have hh:w1.heap=w.heap∧w1.os=w.os∧w1.tape=w.tape∧w1.output=w.output:=by rcases hw1 with rfl | rfl<;>exact ⟨rfl,rfl,rfl,rfl⟩
   obtain ⟨hh1,hh2,hh3,hh4⟩:=hh
   have hO:OthX it w (ChangeMaps.setBlock w1 it (.mapIter (some b) c ((⟨ds.map (·.born)⟩:Array Nat).push e.born) c)) :=
    ⟨hh2,hh3,hh4,by simp [ChangeMaps.setBlock,hh1],fun k hk=>by simp [ChangeMaps.setBlock,hh1,Ne.symm hk],fun T cs h=>by unfold Blk at h;rw [e6] at h;cases h⟩
   have hW:(ChangeMaps.setBlock w1 it (.mapIter (some b) c ((⟨ds.map (·.born)⟩:Array Nat).push e.born) c)).heap[it]? = some (.mapIter (some b) c ⟨(ds++[e]).map (·.born)⟩ c):=by
    simp [ChangeMaps.setBlock,hh1,hit]
   generalize ChangeMaps.setBlock w1 it (.mapIter (some b) c ((⟨ds.map (·.born)⟩:Array Nat).push e.born) c)=W at hr hO hW
   refine zAb (fun _ e=>by cases e) (v := .tuple #[.bool true,e.key,e.val]) (w':=W) (by simp [execOp,hx,hr]) ?_;rw [k2];refine h1 p.1 _ _ (List.mem_map.2 ⟨p,List.mem_of_getElem? k1,rfl⟩) (fun hd => ?_) hO ?_
   · have:=hin e g1 p.1 k2 hd;have g2:(ds.map (·.born)).contains e.born=false:=by simpa using g2
     rw [this] at g2;cases g2
   · refine ⟨es,c,ds++[e],by rw [hO.block b hbi];exact e1,e2.mono fun _ _ k=>k.le hO.le,e3,e4,e5,hW,?_,?_,?_⟩
     · intro e' he';rcases List.mem_append.1 he' with h | h
       · exact e7 e' h
       · simp at h;subst h;exact g1
     · rw [List.map_append,List.map_append,e8];simp [k2]
     · rw [List.map_append,List.nodup_append];refine ⟨e9,by simp,fun a ha a' ha' => ?_⟩;simp at ha';subst ha';intro h;subst h;have g2:(ds.map (·.born)).contains e.born=false:=by simpa using g2
       rw [List.contains_iff_mem.2 ha] at g2;cases g2
theorem runs_entry {k:List Nat} (hx:σ x = .pointer (some ⟨it,0,none⟩)) (hi:zCo w it b m (done++[k])) (hk:∀ v,K (.tuple #[pk k,v]) w) :
 Runs prog r ⟨d,.entry x,ty,pos,af,g⟩ σ w K:=by
 obtain ⟨es,c,ds,e1,e2,e3,e4,e5,e6,e7,e8,e9⟩:=hi;have hlen:ds.length=done.length+1:=by have:=congrArg List.length e8;simpa using this
 have hne:ds≠[]:=fun h=>by rw [h] at hlen;simp at hlen
 obtain ⟨ds',e,rfl⟩:∃ ds' e,ds=ds'++[e]:=⟨ds.dropLast,ds.getLast hne,(List.dropLast_concat_getLast hne).symm⟩;have hkey:e.key=pk k:=by
  rw [List.map_append,List.map_append] at e8;have:=(List.append_inj' e8 rfl).2;simpa using this
 have he:e∈es:=e7 e (by simp);have:=run_entry_at (P:=prog) w it b c ⟨ds'.map (·.born)⟩ ⟨es⟩ c e (by rw [e6];simp) e1 he e4
 exact zl (fun _ e=>by cases e) (v := .tuple #[e.key,e.val]) (by simp [execOp,hx,this]) (by rw [hkey];exact hk _)
end
end Go.Proofs.YtjiendlfobjanaaGreatDoor
namespace Go.Proofs.YtjiendlfobjanaaGreatDoor
open Go Go.RowKit Go.Proofs Tryz
set_option maxRecDepth 10000
set_option maxHeartbeats 2000000
attribute [local irreducible] Runs WPE CallK Ret
variable {E b cap ix len n o:Nat} {P:Program} {af:Array Edge} {g:Option (Nat×Bool)} {pos:String} {r:Option Nat} {ty:TypeId} {v:Value} {w w':World} {x:Operand} {σ:Operand→Value}
theorem sl120:zAZ prog 120 3 1:=by unfold zAZ;exact ⟨by kernel_rfl,by kernel_rfl⟩
section
variable {K:Value→World→Prop} {d:Option Tmp}
theorem zDV {T:Nat} {i:Operand} (hT:zAZ P T E n) (hx:σ x = .slice (some ⟨b,o,none⟩) len cap) (hi:σ i = .int .i64 (ix:Int)) (h1:ix<len)
 (hk:K (.pointer (some ⟨b,o+ix*n,none⟩)) w):Runs P r ⟨d,.indexAddr T x i,ty,pos,af,g⟩ σ w K :=
 zO hT hx hi (by omega) (by omega) (by simpa using hk)
end
def zBx (w:World) (v:Value) (l:List Nat):Prop :=
 ∃ b T cs c,v = .slice (some ⟨b,0,none⟩) l.length c∧Blk w b T cs∧(∀ i,i<l.length→cs[i]? = some (.int .i64 ((l.getD i 0:Nat):Int)))∧l.length<1000000∧∀ x∈l,x<4611686018427387904
theorem zBx.ext {l:List Nat} (h:zBx w v l) (hx:Ext w w'):zBx w' v l:=by
 obtain ⟨b,T,cs,c,h1,h2,h3⟩:=h;exact ⟨b,T,cs,c,h1,h2.ext hx,h3⟩
theorem zLK:prog.underlying 303=some (.array 8 3)∧(prog.info? 3).map (·.size)=some 1:=⟨by kernel_rfl,by kernel_rfl⟩
section
variable {K:Value→World→Prop} {d:Option Tmp}
theorem runs_arr303 (hx:σ x = .pointer (some ⟨b,0,none⟩)) (hk:K (.slice (some ⟨b,0,none⟩) 8 8) w):Runs prog r ⟨d,.slice 303 x none none none,ty,pos,af,g⟩ σ w K:=by
 refine zl (fun _ e=>by cases e) ?_ hk;simp only [execOp,Instr.sliceAt,Option.map_none,hx];simp [Instr.sliceAt,run_underlying zLK.1,run_sizeOf' zLK.2,zAk,Instr.sureAddr,Program.arrayLen,zLK.1,slicedAt,Instr.sliceBounds]
end
theorem zCF (l:List Nat):(pk l).cells.toList=l.map fun (n:Nat)=>Value.int .i64 ((n:Nat):Int):=by simp [pk,Value.cells]
variable {k:Nat} {cs:List Value} {m:List (List Nat×Rat)} {w0:World}
theorem BlkLe.refl (w:World):BlkLe w w:=fun _ _ _ h=>h
theorem BlkLe.ext {a b c:World} (h:BlkLe a b) (hx:Ext b c):BlkLe a c:=fun x T cs hb=>(h x T cs hb).ext hx
theorem BlkLe.updN {a b c:World} {x:Nat} (h:BlkLe a b) (hu:Upd x b c) (hx:a.heap.size≤x):BlkLe a c:=fun y T cs hb=>(h y T cs hb).upd hu (by have:=hb.lt;omega)
theorem BlkLe.updM {a b c:World} {x:Nat} {es:List MapEntry} (h:BlkLe a b) (hu:Upd x b c) (hm:b.heap[x]? = some (.map ⟨es⟩ k)):BlkLe a c:=fun y T cs hb=>(h y T cs hb).upd hu (fun e=>by
 subst e;have h1:=h _ T cs hb;unfold Blk at h1;rw [hm] at h1;cases h1)
theorem BlkLe.updI {a b c:World} {x:Nat} (h:BlkLe a b) (hu:Upd x b c) (hm:IsMap b x m):BlkLe a c:=by
 obtain ⟨es,k,h1,_⟩:=hm;exact h.updM hu h1
theorem IsMap.updB {x T:Nat} (h:IsMap w b m) (hu:Upd x w w') (hx:Blk w x T cs) (hT:T≠164):IsMap w' b m:=by
 obtain ⟨es,c,h1,h2,h3⟩:=h;exact ⟨es,c,by rw [hu.block b (fun e=>by subst e;unfold Blk at hx;rw [h1] at hx;cases hx)];exact h1,h2.mono fun _ _ k=>k.upd hu hx hT,h3⟩
def madd (m:List (List Nat×Rat)) (k:List Nat) (x:Rat):List (List Nat×Rat):=if mget m k+x=0 then mdel m k else mset m k (mget m k+x)
theorem pk_load {k:List Nat} (hk:Pw k):(((pk k).cells.toList.drop 0).take 8).toArray=(k.map fun (n:Nat)=>Value.int .i64 ((n:Nat):Int)).toArray:=by
 rw [zCF,List.drop_zero,List.take_of_length_le (by rw [List.length_map,hk.1];exact Nat.le_refl _)]
theorem zMl:Aggr prog 303 8:=by unfold Aggr;exact ⟨by kernel_rfl,by kernel_rfl⟩
theorem pk_len {k:List Nat} (hk:Pw k):0+8≤(pk k).cells.toList.length:=by rw [zCF,List.length_map,hk.1];exact Nat.le_refl _
section
variable {K:Value→World→Prop} {d:Option Tmp}
theorem zCO {k:List Nat} (hx:σ x = .pointer (some ⟨b,0,none⟩)) (hB:Blk w b 303 (pk k).cells.toList) (hk:Pw k) (hK:K (pk k) w):Runs prog r ⟨d,.load 303 x,ty,pos,af,g⟩ σ w K :=
 zW zMl hx hB (pk_len hk) (by rw [pk_load hk];exact hK)
end
theorem zNF {x:Rat} (hB:Blk w b 37 v.cells.toList) (hx:IsNum w v x):NumAt b x w:=by
 obtain ⟨n,d,rfl,h1,h2⟩:=hx;exact ⟨_,hB,rfl,n,d,rfl,h1,h2⟩
theorem zJi {x:Rat} (h:NumAt b x w):Cell3 b w:=by
 obtain ⟨cs,h1,h2,_⟩:=h;exact ⟨cs,h1,h2⟩
theorem zMG {x:Rat}:(rsign x==0)=decide (x=0):=by
 rw [Bool.eq_iff_iff,beq_iff_eq,decide_eq_true_eq];exact zDp
theorem sumAdd_ok {k:List Nat} {x:Rat} (E0:Ext w w0) (hgb:w.heap.size≤b) (hm:IsMap w0 b m) (hkw:Pw k) (hx:IsNum w0 v x) (hrr:rroom (mget m k) x=true):CallK prog 297 #[.map (some b),pk k,v] w0 (fun _ w'=>Ext w w'∧BlkLe w0 w'∧IsMap w' b (madd m k x)):=by
 have hBL:=BlkLe.refl w0;refine zBj 19 func297 rfl rfl (Nat.le_of_ble_eq_true rfl) (rj fun K => ?_);refine K1 (zk fun b1 w1 hb hE hB1 hs => ?_);have hgb1:w.heap.size≤b1:=by rw [hb];exact E0.size
 have hwb1:w0.heap.size≤b1:=by rw [hb];exact Nat.le_refl _
 replace E0:=E0.trans hE;replace hm:=hm.ext hE;replace hx:=hx.ext hE;replace hBL:=hBL.ext hE;have hss:=hE.size;clear hE hs hb;refine K1 (zk fun b2 w2 hb hE hB2 hs => ?_);have hgb2:w.heap.size≤b2:=by rw [hb];exact E0.size
 have hwb2:w0.heap.size≤b2:=by rw [hb];exact hss
 have ne_b1_b2:b1≠b2:=by have:=hB1.lt;omega
 replace E0:=E0.trans hE;replace hm:=hm.ext hE;replace hx:=hx.ext hE;replace hBL:=hBL.ext hE;replace hB1:=hB1.ext hE;clear hE hs hb;have hC:=zNF hB2 hx;refine rm [0,4,5] K ?_;refine zA (zA (zAN 5 [([(0,none)],none),([(4,none)],none),([(6,some 1),(7,some 0)],none),([(5,none)],none),([(8,some 1),(9,some 0)],none)] mixed (by kernel_rfl) (by kernel_rfl) (by kernel_rfl) (by kernel_rfl) (by kernel_rfl) fun K hK=>dvp (fun σ wx hE hk=>zF ⟨Ext.refl _,hk.1⟩) (dcp (fun v _=>v=pk k) (fun _ _ _ _ _ h=>h) (fun σ wx hE hk=>zCO hk.1 (hB1.ext hE) hkw ⟨Ext.refl _,rfl⟩) (dcp (fun v w'=>IsNum w' v (mget m k)) (fun _ _ _ _ hx h=>h.ext hx.toExt) (fun σ wx hE hk=>zIK hk.1 hk.2.1 hkw (hm.ext hE) fun v h=>⟨Ext.refl _,h⟩) (dcp (fun v w'=>IsNum w' v x) (fun _ _ _ _ hx h=>h.ext hx.toExt) (fun σ wx hE hk=>zL hk.1 (hC.ext hE) fun v h=>⟨Ext.refl _,h⟩) (dcp (fun v w'=>IsNum w' v (mget m k+x)) (fun _ _ _ _ hx h=>h.ext hx.toExt) (fun σ wx hE hk=>zC hb146 (CallK.of_ret (zFL hk.1 hk.2.1 hrr) fun v w2 hX hr=>⟨hX,hr⟩) rfl) (zAR (hK _ fun wq hE => ?_))))))));rintro _ rfl v7 N7 v8 N8 v9 N9 v10 N10;refine zU ?_;replace E0:=E0.trans hE;replace hm:=hm.ext hE;replace hBL:=hBL.ext hE;replace hB1:=hB1.ext hE;replace hC:=hC.ext hE;replace hx:=hx.ext hE;replace hB2:=hB2.ext hE;clear hE
 refine K1 (zI rfl N10 (zJi hC) fun _ w9 hU hN4 => ?_);replace hm:=hm.updB hU hB2 (by decide);replace hBL:=hBL.updN hU hwb2;replace hB1:=hB1.upd hU ne_b1_b2;replace E0:=E0.upd hU hgb2;clear hB2 hx hC N10;refine zAi (zN (K5 [0,4,5] ?_));refine rj fun K=>K1 (zL rfl hN4 fun v11 N11=>K1 (j4 E0 hm.ext hB1.ext hN4.ext hBL.ext hb19 (zAY N11) fun vi w2 E0 hm hB1 hN4 hBL hr => ?_));subst hr;refine K8 rfl (rm [0,4,5,13] K ?_);refine K0 rfl ?_ ?_<;>intro hc
 · have h0:mget m k+x=0:=by rw [zMG] at hc;exact of_decide_eq_true hc
   clear hc;refine rJ fun K=>K1 (zCO rfl hB1 hkw (K1 (runs_delete rfl rfl hkw hm fun w9 hU hle hm2 => ?_)));replace hBL:=hBL.updI hU hm;replace E0:=E0.upd hU hgb;clear hU hm hle;refine rm [] K ?_;refine zE (zY (zQ ?_));exact ⟨rfl,_,zBd rfl,E0,hBL,by rw [madd,if_pos h0];exact hm2⟩
 · have h0:¬ mget m k+x=0:=by rw [zMG] at hc;exact of_decide_eq_false hc
   clear hc;refine sk (rI fun K=>K1 (zCO rfl hB1 hkw (K1 (zL rfl hN4 fun v18 N18=>K1 (runs_mapUpdate rfl rfl hkw N18 hm fun w9 hU hle hm2 => ?_)))));replace hBL:=hBL.updI hU hm;replace E0:=E0.upd hU hgb;clear hU hm hle N18;refine rl K (zGw ?_);exact ⟨rfl,_,zBd rfl,E0,hBL,by rw [madd,if_neg h0];exact hm2⟩
variable {q:Rat}
theorem zero47':(prog.info? 47).bind (·.zero)=some (.agg #[.bool false,.slice none 0 0,.slice none 0 0,.bool false,.slice none 0 0,.slice none 0 0]):=by kernel_rfl
theorem size47':(prog.info? 47).map (·.size)=some 6:=by kernel_rfl
theorem aggr47':Aggr prog 47 6:=by unfold Aggr;exact ⟨by kernel_rfl,by kernel_rfl⟩
theorem zFh {n1 d1 n2 d2:Value} {a b:Rat} (h1:IsNum w (.agg #[.bool (decide (a<0)),n1,d1]) a) (h2:IsNum w (.agg #[.bool (decide (b<0)),n2,d2]) b):zw w (.agg #[.bool (decide (a<0)),n1,d1,.bool (decide (b<0)),n2,d2]) a b:=⟨n1,d1,n2,d2,rfl,h1,h2⟩
theorem zBG (h:IsNum w v q):∃ p1 l1 c1 p2 l2 c2,v = .agg #[.bool (decide (q<0)),.slice p1 l1 c1,.slice p2 l2 c2]:=by
 obtain ⟨n,d,rfl,⟨p,ds,c,rfl,_⟩,⟨p',ds',c',rfl,_⟩⟩:=h;exact ⟨_,_,_,_,_,_,rfl⟩
theorem zJU {x:Rat} (hx:IsNum w v x):Ret prog 222 #[v] w (fun r w'=>zw w' r x x):=by
 refine J0 6 func222 rfl (rj fun K => ?_);refine K1 (zk fun b1 w1 hb hE hB1 hs => ?_);have hgb1:w.heap.size≤b1:=by rw [hb];exact E0.size
 have hC:=zNF hB1 (hx.ext hE);replace E0:=E0.trans hE;clear hE hs hb hB1;refine K1 (zK zero47' fun b2 w2 hb hE hB2 hs => ?_);have hgb2:w.heap.size≤b2:=by rw [hb];exact E0.size
 replace E0:=E0.trans hE;replace hC:=hC.ext hE;clear hE hs hb;refine rm [1,2] K ?_;refine rj fun K=>K1 (zL rfl hC fun v3 N3=>K1 (zL rfl hC fun v4 N4 => ?_));obtain ⟨p1,l1,c1,p2,l2,c2,rfl⟩:=zBG N3;obtain ⟨p3,l3,c3,p4,l4,c4,rfl⟩:=zBG N4;refine K1 (zj (cs := #[.bool (decide (x<0)),.slice p1 l1 c1,.slice p2 l2 c2,.bool (decide (x<0)),.slice p3 l3 c3,.slice p4 l4 c4]) (by kernel_rfl) (K1 (zZ size47' rfl hB2 rfl (Nat.le_of_ble_eq_true rfl) (by decide) rfl fun w9 hU hN => ?_)));replace E0:=E0.upd hU hgb2;have N5:=zFh (N3.upd hU hB2 (by decide)) (N4.upd hU hB2 (by decide));clear hU hB2 N3 N4 hC;refine rm [2] K ?_;exact zE (zQ ⟨rfl,_,zx rfl rfl rfl aggr47' hN rfl,E0,N5⟩)
def sortS (a b:Rat):Rat×Rat:=if 0<rcmpI a b then (b,a) else (a,b)
theorem zDv {a b:Rat} (hs:zw w v a b) (hr:rroom a b=true):Ret prog 325 #[v] w (fun r w'=>zw w' r (sortS a b).1 (sortS a b).2):=by
 obtain ⟨n1,d1,n2,d2,rfl,hx,hy⟩:=hs;refine J0 15 func325 rfl (rj fun K => ?_);refine K1 (zk fun b1 w1 hb hE hB1 hs => ?_);have hgb1:w.heap.size≤b1:=by rw [hb];exact E0.size
 replace E0:=E0.trans hE;replace hx:=hx.ext hE;replace hy:=hy.ext hE;clear hE hs hb;refine K1 (zK zero47' fun b2 w2 hb hE hB2 hs => ?_);have hgb2:w.heap.size≤b2:=by rw [hb];exact E0.size
 replace E0:=E0.trans hE;replace hx:=hx.ext hE;replace hy:=hy.ext hE;replace hB1:=hB1.ext hE;clear hE hs hb;refine rm [1,2] K ?_;refine zA (rj fun K=>K1 (zB zCA rfl (K1 (zAK rfl hB1 (Nat.le_of_ble_eq_true rfl) hx fun v4 N4=>K1 (zB zCW rfl (K1 (zAK rfl hB1 (Nat.le_of_ble_eq_true rfl) hy fun v6 N6=>K1 (zC hb73 (CallK.of_ret (zCn N4 N6 hr) fun vi w2 hE hr => ?_) rfl))))))));replace E0:=E0.trans hE;replace hx:=hx.ext hE;replace hy:=hy.ext hE;replace hB1:=hB1.ext hE;replace hB2:=hB2.ext hE;clear hE N4 N6;subst hr;refine K8 rfl (rm [1,2,8] K ?_);refine K0 rfl ?_ ?_<;>intro hc
 · have hlt:0<rcmpI a b:=of_decide_eq_true hc;clear hc;refine rj fun K=>K1 (zB zCW rfl (K1 (zAK rfl hB1 (Nat.le_of_ble_eq_true rfl) hy fun v10 N10=>K1 (zB zCA rfl (K1 (zAK rfl hB1 (Nat.le_of_ble_eq_true rfl) hx fun v12 N12 => ?_))))));obtain ⟨p1,l1,c1,p2,l2,c2,rfl⟩:=zBG N10;obtain ⟨p3,l3,c3,p4,l4,c4,rfl⟩:=zBG N12;refine K1 (zj (cs := #[.bool (decide (b<0)),.slice p1 l1 c1,.slice p2 l2 c2,.bool (decide (a<0)),.slice p3 l3 c3,.slice p4 l4 c4]) (by kernel_rfl) (K1 (zZ size47' rfl hB2 rfl (Nat.le_of_ble_eq_true rfl) (by decide) rfl fun w9 hU hN => ?_)));replace E0:=E0.upd hU hgb2;have N5:=zFh (N10.upd hU hB2 (by decide)) (N12.upd hU hB2 (by decide));clear hU hB2 N10 N12 hx hy hB1;refine rm [2] K ?_;refine zE (zY (zQ ?_));exact ⟨rfl,_,zx rfl rfl rfl aggr47' hN rfl,E0,by rw [sortS,if_pos hlt];exact N5⟩
 · have hlt:¬ 0<rcmpI a b:=of_decide_eq_false hc;clear hc;refine sk (rj fun K=>K1 (zW aggr47' rfl hB1 (Nat.le_of_ble_eq_true rfl) ?_));have hx0:=hx;have hy0:=hy;obtain ⟨p1,l1,c1,p2,l2,c2,e1⟩:=zBG hx0;obtain ⟨p3,l3,c3,p4,l4,c4,e2⟩:=zBG hy0;injection e1 with e1;injection e2 with e2
   injection e1 with e1;injection e2 with e2
   simp only [List.cons.injEq,and_true] at e1 e2;obtain ⟨-,rfl,rfl⟩:=e1;obtain ⟨-,rfl,rfl⟩:=e2;refine K1 (zZ size47' rfl hB2 rfl (Nat.le_of_ble_eq_true rfl) (by decide) rfl fun w9 hU hN => ?_);replace E0:=E0.upd hU hgb2;have N5:=zFh (hx.upd hU hB2 (by decide)) (hy.upd hU hB2 (by decide));clear hU hB2 hx hy hB1;refine rm [2] K ?_;refine zE (zQ ?_);exact ⟨rfl,_,zx rfl rfl rfl aggr47' hN rfl,E0,by rw [sortS,if_neg hlt];exact N5⟩
variable {y:Operand}
section
variable {K:Value→World→Prop} {d:Option Tmp}
theorem zBN {a b:Rat} (hx:IsNum w (σ x) a) (hy:IsNum w (σ y) b) (hk:∀ v,zw w v a b→K v w):Runs prog r ⟨d,.build 47 #[(0,x),(1,y)],ty,pos,af,g⟩ σ w K:=by
 obtain ⟨p1,l1,c1,p2,l2,c2,e1⟩:=zBG hx;obtain ⟨p3,l3,c3,p4,l4,c4,e2⟩:=zBG hy;refine zj (cs := #[.bool (decide (a<0)),.slice p1 l1 c1,.slice p2 l2 c2,.bool (decide (b<0)),.slice p3 l3 c3,.slice p4 l4 c4]) ?_ (hk _ ?_)
 · show Program.built _ _ [(0,σ x),(1,σ y)]=_;rw [e1,e2];kernel_rfl
 · rw [e1] at hx;rw [e2] at hy;exact zFh hx hy
theorem zAC {p:Rat} (hx:σ x = .pointer (some ⟨b,0,none⟩)) (hy:zw w (σ y) p q) (hB:Blk w b 47 cs) (hl:cs.length=6)
 (hk:∀ w' cs',Upd b w w'→Blk w' b 47 cs'→cs'.length=6→zw w' (.agg cs'.toArray) p q→K undef w'):Runs prog r ⟨d,.store 47 x y,ty,pos,af,g⟩ σ w K:=by
 obtain ⟨n1,d1,n2,d2,e,h1,h2⟩:=hy;obtain ⟨p1,l1,c1,p2,l2,c2,e1⟩:=zBG h1;obtain ⟨p3,l3,c3,p4,l4,c4,e2⟩:=zBG h2;injection e1 with e1;injection e2 with e2;injection e1 with e1;injection e2 with e2;simp only [List.cons.injEq,and_true] at e1 e2;obtain ⟨-,rfl,rfl⟩:=e1;obtain ⟨-,rfl,rfl⟩:=e2
 match cs,hl with
 | [_,_,_,_,_,_],_ =>
  refine zZ size47' hx hB (by rw [e];rfl) (Nat.le_of_ble_eq_true rfl) (by decide) (by rw [e];rfl) fun w' hU hN => ?_;rw [e] at hN;exact hk w' _ hU hN rfl (zFh (h1.upd hU hB (by decide)) (h2.upd hU hB (by decide)))
end
theorem zId {a b:Rat} (hs:zw w v a b) (hr:rroom (-b) (-a)=true):Ret prog 284 #[v] w (fun r w'=>zw w' r (sortS (-b) (-a)).1 (sortS (-b) (-a)).2):=by
 obtain ⟨n1,d1,n2,d2,rfl,hx,hy⟩:=hs;refine J0 11 func284 rfl (rj fun K => ?_);refine K1 (zk fun b1 w1 hb hE hB1 hs => ?_);replace E0:=E0.trans hE;replace hx:=hx.ext hE;replace hy:=hy.ext hE;clear hE hs hb;refine K1 (zK zero47' fun b2 w2 hb hE hB2 hs => ?_);have hgb2:w.heap.size≤b2:=by rw [hb];exact E0.size
 replace E0:=E0.trans hE;replace hx:=hx.ext hE;replace hy:=hy.ext hE;replace hB1:=hB1.ext hE;clear hE hs hb;refine rm [1,2] K ?_
 refine zA (zAN 8 [([(1,none)],none),([(3,some 0)],none),([(4,some 0)],none),([(1,none)],none),([(6,some 0)],none),([(7,some 0)],none),([(5,some 3),(8,some 0)],none),([(9,some 0)],none)] mixed (by kernel_rfl) (by kernel_rfl) (by kernel_rfl) (by kernel_rfl) (by kernel_rfl) fun K hK=>dvp (fun σ wx hE hk=>zB zCW hk.1 ⟨Ext.refl _,rfl⟩) (dcp (fun v w'=>IsNum w' v b) (fun _ _ _ _ hx h=>h.ext hx.toExt) (fun σ wx hE hk=>zAK hk.1 (hB1.ext hE) (Nat.le_of_ble_eq_true rfl) (hy.ext hE) fun v h=>⟨Ext.refl _,h⟩) (dcp (fun v w'=>IsNum w' v (-b)) (fun _ _ _ _ hx h=>h.ext hx.toExt) (fun σ wx hE hk=>zC hb132 (CallK.of_ret (zIb hk.1) fun v w2 hX hr=>⟨hX,hr⟩) rfl) (dvp (fun σ wx hE hk=>zB zCA hk.1 ⟨Ext.refl _,rfl⟩) (dcp (fun v w'=>IsNum w' v a) (fun _ _ _ _ hx h=>h.ext hx.toExt) (fun σ wx hE hk=>zAK hk.1 (hB1.ext hE) (Nat.le_of_ble_eq_true rfl) (hx.ext hE) fun v h=>⟨Ext.refl _,h⟩) (dcp (fun v w'=>IsNum w' v (-a)) (fun _ _ _ _ hx h=>h.ext hx.toExt) (fun σ wx hE hk=>zC hb132 (CallK.of_ret (zIb hk.1) fun v w2 hX hr=>⟨hX,hr⟩) rfl) (dcp (fun v w'=>zw w' v (-b) (-a)) (fun _ _ _ _ hx h=>h.ext hx.toExt) (fun σ wx hE hk=>zBN hk.1 hk.2.1 fun v h=>⟨Ext.refl _,h⟩) (dcp (fun v w'=>zw w' v (sortS (-b) (-a)).1 (sortS (-b) (-a)).2) (fun _ _ _ _ hx h=>h.ext hx.toExt) (fun σ wx hE hk=>zC hb325 (CallK.of_ret (zDv hk.1 hr) fun v w2 hX hr=>⟨hX,hr⟩) rfl) (zAR (hK _ fun wq hE => ?_))))))))))
 rintro _ rfl v4 N4 v5 N5 _ rfl v7 N7 v8 N8 v9 N9 v10 N10;refine zU ?_;replace E0:=E0.trans hE;replace hx:=hx.ext hE;replace hy:=hy.ext hE;replace hB1:=hB1.ext hE;replace hB2:=hB2.ext hE;clear hE;refine K1 (zAC rfl N10 hB2 rfl fun w9 cs9 hU hN hl9 hS => ?_);replace E0:=E0.upd hU hgb2;clear hU hB2 N4 N5 N7 N8 N9 N10 hx hy hB1;refine zAi (zN (K5 [2] ?_));exact zE (zQ ⟨rfl,_,zx rfl rfl rfl aggr47' hN hl9,E0,hS⟩)
variable {T:TypeId} {c:Nat} {q':Rat} {u:Value}
def zAj (b:Nat) (p q:Rat) (w:World):Prop:=∃ cs,Blk w b 47 cs∧cs.length=6∧zw w (.agg cs.toArray) p q
theorem zAj.ext {p:Rat} (h:zAj b p q w) (hx:Ext w w'):zAj b p q w':=by
 obtain ⟨cs,h1,h2,h3⟩:=h;exact ⟨cs,h1.ext hx,h2,h3.ext hx⟩
theorem zw.updT {p:Rat} (h:zw w v p q) (hu:Upd c w w') (hc:Blk w c T cs) (hT:T≠164):zw w' v p q:=by
 obtain ⟨n1,d1,n2,d2,e,h1,h2⟩:=h;exact ⟨n1,d1,n2,d2,e,h1.upd hu hc hT,h2.upd hu hc hT⟩
theorem zAj.upd {p p':Rat} (h:zAj b p q w) (hu:Upd c w w') (hc:zAj c p' q' w) (hne:b≠c):zAj b p q w':=by
 obtain ⟨cs,h1,h2,h3⟩:=h;obtain ⟨cs',g1,_⟩:=hc;exact ⟨cs,h1.upd hu hne,h2,h3.updT hu g1 (by decide)⟩
theorem zES {p:Rat} (hB:Blk w b 47 v.cells.toList) (hx:zw w v p q):zAj b p q w:=by
 have hx0:=hx;obtain ⟨n1,d1,n2,d2,rfl,h1,h2⟩:=hx;obtain ⟨p1,l1,c1,p2,l2,c2,e1⟩:=zBG h1;obtain ⟨p3,l3,c3,p4,l4,c4,e2⟩:=zBG h2;exact ⟨_,hB,rfl,hx0⟩
section
variable {K:Value→World→Prop} {d:Option Tmp} {p:Rat}
theorem zAL (hx:σ x = .pointer (some ⟨b,0,none⟩)) (h:zAj b p q w) (hk:∀ v,zw w v p q→K v w):Runs prog r ⟨d,.load 47 x,ty,pos,af,g⟩ σ w K:=by
 obtain ⟨cs,hB,hl,hS⟩:=h;exact zW aggr47' hx hB (by omega) (by rw [List.drop_zero,List.take_of_length_le (by omega)];exact hk _ hS)
theorem zAo (hx:σ x = .pointer (some ⟨b,0+0,none⟩)) (h:zAj b p q w) (hk:∀ v,IsNum w v p→K v w):Runs prog r ⟨d,.load 37 x,ty,pos,af,g⟩ σ w K:=by
 obtain ⟨cs,hB,hl,n1,d1,n2,d2,e,h1,h2⟩:=h;injection e with e;have e:=congrArg Array.toList e;subst e;exact zAK hx hB (Nat.le_of_ble_eq_true rfl) h1 hk
theorem zBE (hx:σ x = .pointer (some ⟨b,0+3,none⟩)) (h:zAj b p q w) (hk:∀ v,IsNum w v q→K v w):Runs prog r ⟨d,.load 37 x,ty,pos,af,g⟩ σ w K:=by
 obtain ⟨cs,hB,hl,n1,d1,n2,d2,e,h1,h2⟩:=h;injection e with e;have e:=congrArg Array.toList e;subst e;exact zAK hx hB (Nat.le_of_ble_eq_true rfl) h2 hk
theorem zAm {p':Rat} (hx:σ x = .pointer (some ⟨b,0,none⟩)) (hy:zw w (σ y) p' q') (h:zAj b p q w)
 (hk:∀ w',Upd b w w'→zAj b p' q' w'→K undef w'):Runs prog r ⟨d,.store 47 x y,ty,pos,af,g⟩ σ w K:=by
 obtain ⟨cs,hB,hl,_⟩:=h;exact zAC hx hy hB hl fun w' cs' hU hN hl' hS=>hk w' hU ⟨cs',hN,hl',hS⟩
end
def addS (a b c d:Rat):Rat×Rat:=((sortS a b).1+(sortS c d).1,(sortS a b).2+(sortS c d).2)
theorem zIc {a b c d:Rat} (hx:zw w u a b) (hy:zw w v c d) (hr1:rroom a b=true) (hr2:rroom c d=true) (hr3:rroom (sortS a b).1 (sortS c d).1=true) (hr4:rroom (sortS a b).2 (sortS c d).2=true):Ret prog 282 #[u,v] w (fun r w'=>zw w' r (addS a b c d).1 (addS a b c d).2):=by
 refine J0 20 func282 rfl (rj fun K => ?_);refine K1 (zk fun b1 w1 hb hE hB1 hs => ?_);have hgb1:w.heap.size≤b1:=by rw [hb];exact E0.size
 have hS1:=zES hB1 (hx.ext hE);replace E0:=E0.trans hE;replace hy:=hy.ext hE;clear hE hs hb hx;refine K1 (zk fun b2 w2 hb hE hB2 hs => ?_);have hgb2:w.heap.size≤b2:=by rw [hb];exact E0.size
 have ne12:b1≠b2:=by have:=hB1.lt;omega
 have hS2:=zES hB2 (hy.ext hE);replace E0:=E0.trans hE;replace hS1:=hS1.ext hE;clear hE hs hb hy hB1 hB2;refine K1 (zK zero47' fun b3 w3 hb hE hB3 hs => ?_);have hgb3:w.heap.size≤b3:=by rw [hb];exact E0.size
 have ne13:b1≠b3:=by obtain ⟨_,h,_⟩:=hS1;have:=h.lt;omega
 have ne23:b2≠b3:=by obtain ⟨_,h,_⟩:=hS2;have:=h.lt;omega
 replace E0:=E0.trans hE;replace hS1:=hS1.ext hE;replace hS2:=hS2.ext hE;clear hE hs hb;refine rm [2,3,4] K ?_;refine zA (zAN 4 [([(2,none)],none),([(5,some 0)],none),([(3,none)],none),([(7,some 0)],none)] mixed (by kernel_rfl) (by kernel_rfl) (by kernel_rfl) (by kernel_rfl) (by kernel_rfl) fun K hK=>dcp (fun v w'=>zw w' v a b) (fun _ _ _ _ hx h=>h.ext hx.toExt) (fun σ wx hE hk=>zAL hk.1 (hS1.ext hE) fun v h=>⟨Ext.refl _,h⟩) (dcp (fun v w'=>zw w' v (sortS a b).1 (sortS a b).2) (fun _ _ _ _ hx h=>h.ext hx.toExt) (fun σ wx hE hk=>zC hb325 (CallK.of_ret (zDv hk.1 hr1) fun v w2 hX hr=>⟨hX,hr⟩) rfl) (dcp (fun v w'=>zw w' v c d) (fun _ _ _ _ hx h=>h.ext hx.toExt) (fun σ wx hE hk=>zAL hk.1 (hS2.ext hE) fun v h=>⟨Ext.refl _,h⟩) (dcp (fun v w'=>zw w' v (sortS c d).1 (sortS c d).2) (fun _ _ _ _ hx h=>h.ext hx.toExt) (fun σ wx hE hk=>zC hb325 (CallK.of_ret (zDv hk.1 hr2) fun v w2 hX hr=>⟨hX,hr⟩) rfl) (zAR (hK _ fun wq hE => ?_))))));rintro v5 N5 v6 N6 v7 N7 v8 N8;refine zU ?_;replace E0:=E0.trans hE;replace hS1:=hS1.ext hE;replace hS2:=hS2.ext hE;replace hB3:=hB3.ext hE;clear hE;refine K1 (zAm rfl N6 hS1 fun w8 hU hS1' => ?_);replace E0:=E0.upd hU hgb1;replace hS2:=hS2.upd hU hS1 ne12.symm;replace hB3:=hB3.upd hU ne13.symm;replace N8:=N8.updT hU hS1.choose_spec.1 (by decide)
 clear hU hS1 N6;have hS1:=hS1';clear hS1';refine K1 (zAm rfl N8 hS2 fun w8 hU hS2' => ?_);replace E0:=E0.upd hU hgb2;replace hS1:=hS1.upd hU hS2 ne12;replace hB3:=hB3.upd hU ne23.symm;clear hU hS2 N8 N5 N7;have hS2:=hS2';clear hS2';refine zAi (zN (K5 [2,3,4] ?_))
 refine zA (zAN 11 [([(2,none)],none),([(9,some 0)],none),([(3,none)],none),([(11,some 0)],none),([(10,some 2),(12,some 0)],none),([(2,none)],none),([(14,some 0)],none),([(3,none)],none),([(16,some 0)],none),([(15,some 2),(17,some 0)],none),([(13,some 5),(18,some 0)],none)] mixed (by kernel_rfl) (by kernel_rfl) (by kernel_rfl) (by kernel_rfl) (by kernel_rfl) fun K hK=>dvp (fun σ wx hE hk=>zB zCA hk.1 ⟨Ext.refl _,rfl⟩) (dcp (fun v w'=>IsNum w' v (sortS a b).1) (fun _ _ _ _ hx h=>h.ext hx.toExt) (fun σ wx hE hk=>zAo hk.1 (hS1.ext hE) fun v h=>⟨Ext.refl _,h⟩) (dvp (fun σ wx hE hk=>zB zCA hk.1 ⟨Ext.refl _,rfl⟩) (dcp (fun v w'=>IsNum w' v (sortS c d).1) (fun _ _ _ _ hx h=>h.ext hx.toExt) (fun σ wx hE hk=>zAo hk.1 (hS2.ext hE) fun v h=>⟨Ext.refl _,h⟩) (dcp (fun v w'=>IsNum w' v ((sortS a b).1+(sortS c d).1)) (fun _ _ _ _ hx h=>h.ext hx.toExt) (fun σ wx hE hk=>zC hb146 (CallK.of_ret (zFL hk.1 hk.2.1 hr3) fun v w2 hX hr=>⟨hX,hr⟩) rfl) (dvp (fun σ wx hE hk=>zB zCW hk.1 ⟨Ext.refl _,rfl⟩) (dcp (fun v w'=>IsNum w' v (sortS a b).2) (fun _ _ _ _ hx h=>h.ext hx.toExt) (fun σ wx hE hk=>zBE hk.1 (hS1.ext hE) fun v h=>⟨Ext.refl _,h⟩) (dvp (fun σ wx hE hk=>zB zCW hk.1 ⟨Ext.refl _,rfl⟩) (dcp (fun v w'=>IsNum w' v (sortS c d).2) (fun _ _ _ _ hx h=>h.ext hx.toExt) (fun σ wx hE hk=>zBE hk.1 (hS2.ext hE) fun v h=>⟨Ext.refl _,h⟩) (dcp (fun v w'=>IsNum w' v ((sortS a b).2+(sortS c d).2)) (fun _ _ _ _ hx h=>h.ext hx.toExt) (fun σ wx hE hk=>zC hb146 (CallK.of_ret (zFL hk.1 hk.2.1 hr4) fun v w2 hX hr=>⟨hX,hr⟩) rfl) (dcp (fun v w'=>zw w' v ((sortS a b).1+(sortS c d).1) ((sortS a b).2+(sortS c d).2)) (fun _ _ _ _ hx h=>h.ext hx.toExt) (fun σ wx hE hk=>zBN hk.1 hk.2.1 fun v h=>⟨Ext.refl _,h⟩) (zAR (hK _ fun wq hE => ?_)))))))))))))
 rintro _ rfl v10 N10 _ rfl v12 N12 v13 N13 _ rfl v15 N15 _ rfl v17 N17 v18 N18 v19 N19;refine zU ?_;replace E0:=E0.trans hE;replace hS1:=hS1.ext hE;replace hS2:=hS2.ext hE;replace hB3:=hB3.ext hE;clear hE;refine K1 (zAC rfl N19 hB3 rfl fun w9 cs9 hU hN hl9 hS => ?_);replace E0:=E0.upd hU hgb3;clear hU hB3 hS1 hS2 N19;refine zAi (zN (K5 [4] ?_));exact zE (zQ ⟨rfl,_,zx rfl rfl rfl aggr47' hN hl9,E0,hS⟩)
def subS (a b c d:Rat):Rat×Rat:=addS a b (sortS (-d) (-c)).1 (sortS (-d) (-c)).2
theorem SpanSub_ok {a b c d:Rat} (hx:zw w u a b) (hy:zw w v c d) (hr0:rroom (-d) (-c)=true) (hr1:rroom a b=true) (hr2:rroom (sortS (-d) (-c)).1 (sortS (-d) (-c)).2=true) (hr3:rroom (sortS a b).1 (sortS (sortS (-d) (-c)).1 (sortS (-d) (-c)).2).1=true) (hr4:rroom (sortS a b).2 (sortS (sortS (-d) (-c)).1 (sortS (-d) (-c)).2).2=true):Ret prog 220 #[u,v] w (fun r w'=>zw w' r (subS a b c d).1 (subS a b c d).2):=by
 refine J0 9 func220 rfl (rj fun K => ?_);refine K1 (zk fun b1 w1 hb hE hB1 hs => ?_);have hS1:=zES hB1 (hx.ext hE);replace E0:=E0.trans hE;replace hy:=hy.ext hE;clear hE hs hb hx hB1;refine K1 (zk fun b2 w2 hb hE hB2 hs => ?_);have hS2:=zES hB2 (hy.ext hE);replace E0:=E0.trans hE;replace hS1:=hS1.ext hE;clear hE hs hb hy hB2;refine K1 (zK zero47' fun b3 w3 hb hE hB3 hs => ?_);have hgb3:w.heap.size≤b3:=by rw [hb];exact E0.size
 replace E0:=E0.trans hE;replace hS1:=hS1.ext hE;replace hS2:=hS2.ext hE;clear hE hs hb;refine rm [2,3,4] K ?_;refine zA (zAN 4 [([(2,none)],none),([(3,none)],none),([(6,some 0)],none),([(5,some 2),(7,some 0)],none)] mixed (by kernel_rfl) (by kernel_rfl) (by kernel_rfl) (by kernel_rfl) (by kernel_rfl) fun K hK=>dcp (fun v w'=>zw w' v a b) (fun _ _ _ _ hx h=>h.ext hx.toExt) (fun σ wx hE hk=>zAL hk.1 (hS1.ext hE) fun v h=>⟨Ext.refl _,h⟩) (dcp (fun v w'=>zw w' v c d) (fun _ _ _ _ hx h=>h.ext hx.toExt) (fun σ wx hE hk=>zAL hk.1 (hS2.ext hE) fun v h=>⟨Ext.refl _,h⟩) (dcp (fun v w'=>zw w' v (sortS (-d) (-c)).1 (sortS (-d) (-c)).2) (fun _ _ _ _ hx h=>h.ext hx.toExt) (fun σ wx hE hk=>zC hb284 (CallK.of_ret (zId hk.1 hr0) fun v w2 hX hr=>⟨hX,hr⟩) rfl) (dcp (fun v w'=>zw w' v (subS a b c d).1 (subS a b c d).2) (fun _ _ _ _ hx h=>h.ext hx.toExt) (fun σ wx hE hk=>zC hb282 (CallK.of_ret (zIc hk.1 hk.2.1 hr1 hr2 hr3 hr4) fun v w2 hX hr=>⟨hX,hr⟩) rfl) (zAR (hK _ fun wq hE => ?_))))));rintro v5 N5 v6 N6 v7 N7 v8 N8;refine zU ?_;replace E0:=E0.trans hE;replace hS1:=hS1.ext hE;replace hS2:=hS2.ext hE;replace hB3:=hB3.ext hE;clear hE;refine K1 (zAC rfl N8 hB3 rfl fun w9 cs9 hU hN hl9 hS => ?_);replace E0:=E0.upd hU hgb3;clear hU hB3 hS1 hS2 N8;refine zAi (zN (K5 [4] ?_))
 exact zE (zQ ⟨rfl,_,zx rfl rfl rfl aggr47' hN hl9,E0,hS⟩)
def joinS (a b c d:Rat):Rat×Rat:=(rminR (sortS a b).1 (sortS c d).1,rmaxR (sortS a b).2 (sortS c d).2)
theorem SpanJoin_ok {a b c d:Rat} (hx:zw w u a b) (hy:zw w v c d) (hr1:rroom a b=true) (hr2:rroom c d=true) (hr3:rroom (sortS c d).1 (sortS a b).1=true) (hr4:rroom (sortS c d).2 (sortS a b).2=true):Ret prog 285 #[u,v] w (fun r w'=>zw w' r (joinS a b c d).1 (joinS a b c d).2):=by
 refine J0 20 func285 rfl (rj fun K => ?_);refine K1 (zk fun b1 w1 hb hE hB1 hs => ?_);have hgb1:w.heap.size≤b1:=by rw [hb];exact E0.size
 have hS1:=zES hB1 (hx.ext hE);replace E0:=E0.trans hE;replace hy:=hy.ext hE;clear hE hs hb hx;refine K1 (zk fun b2 w2 hb hE hB2 hs => ?_);have hgb2:w.heap.size≤b2:=by rw [hb];exact E0.size
 have ne12:b1≠b2:=by have:=hB1.lt;omega
 have hS2:=zES hB2 (hy.ext hE);replace E0:=E0.trans hE;replace hS1:=hS1.ext hE;clear hE hs hb hy hB1 hB2;refine K1 (zK zero47' fun b3 w3 hb hE hB3 hs => ?_);have hgb3:w.heap.size≤b3:=by rw [hb];exact E0.size
 have ne13:b1≠b3:=by obtain ⟨_,h,_⟩:=hS1;have:=h.lt;omega
 have ne23:b2≠b3:=by obtain ⟨_,h,_⟩:=hS2;have:=h.lt;omega
 replace E0:=E0.trans hE;replace hS1:=hS1.ext hE;replace hS2:=hS2.ext hE;clear hE hs hb;refine rm [2,3,4] K ?_;refine zA (zAN 4 [([(2,none)],none),([(5,some 0)],none),([(3,none)],none),([(7,some 0)],none)] mixed (by kernel_rfl) (by kernel_rfl) (by kernel_rfl) (by kernel_rfl) (by kernel_rfl) fun K hK=>dcp (fun v w'=>zw w' v a b) (fun _ _ _ _ hx h=>h.ext hx.toExt) (fun σ wx hE hk=>zAL hk.1 (hS1.ext hE) fun v h=>⟨Ext.refl _,h⟩) (dcp (fun v w'=>zw w' v (sortS a b).1 (sortS a b).2) (fun _ _ _ _ hx h=>h.ext hx.toExt) (fun σ wx hE hk=>zC hb325 (CallK.of_ret (zDv hk.1 hr1) fun v w2 hX hr=>⟨hX,hr⟩) rfl) (dcp (fun v w'=>zw w' v c d) (fun _ _ _ _ hx h=>h.ext hx.toExt) (fun σ wx hE hk=>zAL hk.1 (hS2.ext hE) fun v h=>⟨Ext.refl _,h⟩) (dcp (fun v w'=>zw w' v (sortS c d).1 (sortS c d).2) (fun _ _ _ _ hx h=>h.ext hx.toExt) (fun σ wx hE hk=>zC hb325 (CallK.of_ret (zDv hk.1 hr2) fun v w2 hX hr=>⟨hX,hr⟩) rfl) (zAR (hK _ fun wq hE => ?_))))));rintro v5 N5 v6 N6 v7 N7 v8 N8;refine zU ?_;replace E0:=E0.trans hE;replace hS1:=hS1.ext hE;replace hS2:=hS2.ext hE;replace hB3:=hB3.ext hE;clear hE;refine K1 (zAm rfl N6 hS1 fun w8 hU hS1' => ?_);replace E0:=E0.upd hU hgb1;replace hS2:=hS2.upd hU hS1 ne12.symm;replace hB3:=hB3.upd hU ne13.symm;replace N8:=N8.updT hU hS1.choose_spec.1 (by decide)
 clear hU hS1 N6;have hS1:=hS1';clear hS1';refine K1 (zAm rfl N8 hS2 fun w8 hU hS2' => ?_);replace E0:=E0.upd hU hgb2;replace hS1:=hS1.upd hU hS2 ne12;replace hB3:=hB3.upd hU ne23.symm;clear hU hS2 N8 N5 N7;have hS2:=hS2';clear hS2';refine zAi (zN (K5 [2,3,4] ?_))
 refine zA (zAN 11 [([(2,none)],none),([(9,some 0)],none),([(3,none)],none),([(11,some 0)],none),([(10,some 2),(12,some 0)],none),([(2,none)],none),([(14,some 0)],none),([(3,none)],none),([(16,some 0)],none),([(15,some 2),(17,some 0)],none),([(13,some 5),(18,some 0)],none)] mixed (by kernel_rfl) (by kernel_rfl) (by kernel_rfl) (by kernel_rfl) (by kernel_rfl) fun K hK=>dvp (fun σ wx hE hk=>zB zCA hk.1 ⟨Ext.refl _,rfl⟩) (dcp (fun v w'=>IsNum w' v (sortS a b).1) (fun _ _ _ _ hx h=>h.ext hx.toExt) (fun σ wx hE hk=>zAo hk.1 (hS1.ext hE) fun v h=>⟨Ext.refl _,h⟩) (dvp (fun σ wx hE hk=>zB zCA hk.1 ⟨Ext.refl _,rfl⟩) (dcp (fun v w'=>IsNum w' v (sortS c d).1) (fun _ _ _ _ hx h=>h.ext hx.toExt) (fun σ wx hE hk=>zAo hk.1 (hS2.ext hE) fun v h=>⟨Ext.refl _,h⟩) (dcp (fun v w'=>IsNum w' v (rminR (sortS a b).1 (sortS c d).1)) (fun _ _ _ _ hx h=>h.ext hx.toExt) (fun σ wx hE hk=>zC hb81 (CallK.of_ret (Min_ok hk.1 hk.2.1 hr3) fun v w2 hX hr=>⟨hX,hr⟩) rfl) (dvp (fun σ wx hE hk=>zB zCW hk.1 ⟨Ext.refl _,rfl⟩) (dcp (fun v w'=>IsNum w' v (sortS a b).2) (fun _ _ _ _ hx h=>h.ext hx.toExt) (fun σ wx hE hk=>zBE hk.1 (hS1.ext hE) fun v h=>⟨Ext.refl _,h⟩) (dvp (fun σ wx hE hk=>zB zCW hk.1 ⟨Ext.refl _,rfl⟩) (dcp (fun v w'=>IsNum w' v (sortS c d).2) (fun _ _ _ _ hx h=>h.ext hx.toExt) (fun σ wx hE hk=>zBE hk.1 (hS2.ext hE) fun v h=>⟨Ext.refl _,h⟩) (dcp (fun v w'=>IsNum w' v (rmaxR (sortS a b).2 (sortS c d).2)) (fun _ _ _ _ hx h=>h.ext hx.toExt) (fun σ wx hE hk=>zC hb82 (CallK.of_ret (Max_ok hk.1 hk.2.1 hr4) fun v w2 hX hr=>⟨hX,hr⟩) rfl) (dcp (fun v w'=>zw w' v (rminR (sortS a b).1 (sortS c d).1) (rmaxR (sortS a b).2 (sortS c d).2)) (fun _ _ _ _ hx h=>h.ext hx.toExt) (fun σ wx hE hk=>zBN hk.1 hk.2.1 fun v h=>⟨Ext.refl _,h⟩) (zAR (hK _ fun wq hE => ?_)))))))))))))
 rintro _ rfl v10 N10 _ rfl v12 N12 v13 N13 _ rfl v15 N15 _ rfl v17 N17 v18 N18 v19 N19;refine zU ?_;replace E0:=E0.trans hE;replace hS1:=hS1.ext hE;replace hS2:=hS2.ext hE;replace hB3:=hB3.ext hE;clear hE;refine K1 (zAC rfl N19 hB3 rfl fun w9 cs9 hU hN hl9 hS => ?_);replace E0:=E0.upd hU hgb3;clear hU hB3 hS1 hS2 N19;refine zAi (zN (K5 [4] ?_));exact zE (zQ ⟨rfl,_,zx rfl rfl rfl aggr47' hN hl9,E0,hS⟩)
theorem zAj.updB {p:Rat} (h:zAj b p q w) (hu:Upd c w w') (hc:Blk w c 47 cs) (hne:b≠c):zAj b p q w':=by
 obtain ⟨cs',h1,h2,h3⟩:=h;exact ⟨cs',h1.upd hu hne,h2,h3.updT hu hc (by decide)⟩
theorem zAj.lt {p:Rat} (h:zAj b p q w):b<w.heap.size:=by
 obtain ⟨cs',h1,_⟩:=h;exact h1.lt
def mulS (a b c d:Rat):Rat×Rat:=joinS (a*c) (a*d) (b*c) (b*d)
theorem SpanMul_ok {a b c d:Rat} (hx:zw w u a b) (hy:zw w v c d) (r1:rroom a c=true) (r2:rroom a d=true) (r3:rroom b c=true) (r4:rroom b d=true) (r5:rroom (a*c) (a*d)=true) (r6:rroom (b*c) (b*d)=true) (r7:rroom (sortS (b*c) (b*d)).1 (sortS (a*c) (a*d)).1=true) (r8:rroom (sortS (b*c) (b*d)).2 (sortS (a*c) (a*d)).2=true):Ret prog 221 #[u,v] w (fun r w'=>zw w' r (mulS a b c d).1 (mulS a b c d).2):=by
 have E0:Ext w w:=Ext.refl w;refine J0 32 func221 rfl (rj fun K => ?_);refine K1 (zk fun b1 w1 hb hE hB1 hs => ?_);have hS1:=zES hB1 (hx.ext hE);replace E0:=E0.trans hE;replace hy:=hy.ext hE;clear hE hs hb hx hB1;refine K1 (zk fun b2 w2 hb hE hB2 hs => ?_);have hS2:=zES hB2 (hy.ext hE);replace E0:=E0.trans hE;replace hS1:=hS1.ext hE;clear hE hs hb hy hB2;refine K1 (zK zero47' fun b4 w3 hb hE hB4 hs => ?_);have hgb4:w.heap.size≤b4:=by rw [hb];exact E0.size
 replace E0:=E0.trans hE;replace hS1:=hS1.ext hE;replace hS2:=hS2.ext hE;clear hE hs hb;obtain ⟨SZ,hSZ⟩:∃ s,s=w3.heap.size:=⟨_,rfl⟩;have l1:=hS1.lt;have l2:=hS2.lt;have l4:=hB4.lt;have lw:=E0.size;rw [← hSZ] at l1 l2 l4 lw;refine rm [2,3,4] K ?_
 refine zA (zAN 12 [([(2,none)],none),([(7,some 0)],none),([(3,none)],none),([(9,some 0)],none),([(8,some 2),(10,some 0)],none),([(2,none)],none),([(12,some 0)],none),([(3,none)],none),([(14,some 0)],none),([(13,some 2),(15,some 0)],none),([(11,some 5),(16,some 0)],none),([],none)] mixed (by kernel_rfl) (by kernel_rfl) (by kernel_rfl) (by kernel_rfl) (by kernel_rfl) fun K hK=>dvp (fun σ wx hE hk=>zB zCA hk.1 ⟨Ext.refl _,rfl⟩) (dcp (fun v w'=>IsNum w' v a) (fun _ _ _ _ hx h=>h.ext hx.toExt) (fun σ wx hE hk=>zAo hk.1 (hS1.ext hE) fun v h=>⟨Ext.refl _,h⟩) (dvp (fun σ wx hE hk=>zB zCA hk.1 ⟨Ext.refl _,rfl⟩) (dcp (fun v w'=>IsNum w' v c) (fun _ _ _ _ hx h=>h.ext hx.toExt) (fun σ wx hE hk=>zAo hk.1 (hS2.ext hE) fun v h=>⟨Ext.refl _,h⟩) (dcp (fun v w'=>IsNum w' v (a*c)) (fun _ _ _ _ hx h=>h.ext hx.toExt) (fun σ wx hE hk=>zC hb101 (CallK.of_ret (zCz hk.1 hk.2.1 r1) fun v w2 hX hr=>⟨hX,hr⟩) rfl) (dvp (fun σ wx hE hk=>zB zCA hk.1 ⟨Ext.refl _,rfl⟩) (dcp (fun v w'=>IsNum w' v a) (fun _ _ _ _ hx h=>h.ext hx.toExt) (fun σ wx hE hk=>zAo hk.1 (hS1.ext hE) fun v h=>⟨Ext.refl _,h⟩) (dvp (fun σ wx hE hk=>zB zCW hk.1 ⟨Ext.refl _,rfl⟩) (dcp (fun v w'=>IsNum w' v d) (fun _ _ _ _ hx h=>h.ext hx.toExt) (fun σ wx hE hk=>zBE hk.1 (hS2.ext hE) fun v h=>⟨Ext.refl _,h⟩) (dcp (fun v w'=>IsNum w' v (a*d)) (fun _ _ _ _ hx h=>h.ext hx.toExt) (fun σ wx hE hk=>zC hb101 (CallK.of_ret (zCz hk.1 hk.2.1 r2) fun v w2 hX hr=>⟨hX,hr⟩) rfl) (dcp (fun v w'=>zw w' v (a*c) (a*d)) (fun _ _ _ _ hx h=>h.ext hx.toExt) (fun σ wx hE hk=>zBN hk.1 hk.2.1 fun v h=>⟨Ext.refl _,h⟩) ?_)))))))))))
 refine dcp (fun v w'=>∃ b,v = .pointer (some ⟨b,0,none⟩)∧Blk w' b 47 [.bool false,.slice none 0 0,.slice none 0 0,.bool false,.slice none 0 0,.slice none 0 0]∧SZ≤b) (fun _ _ _ _ hx h=>(let ⟨b,e,hB,hg⟩:=h;⟨b,e,hB.ext hx.toExt,hg⟩)) (fun σ wx hE hk=>zK zero47' fun b w2 hb hY hB hs=>⟨hY,b,rfl,hB,(by rw [hb,hSZ];exact hE.size)⟩) ?_;refine zAR (hK _ fun wq hE => ?_);rintro _ rfl v8 N8 _ rfl v10 N10 v11 N11 _ rfl v13 N13 _ rfl v15 N15 v16 N16 v17 N17 v5 N5;refine zU ?_;replace E0:=E0.trans hE;replace hS1:=hS1.ext hE;replace hS2:=hS2.ext hE;replace hB4:=hB4.ext hE;clear hE;obtain ⟨b5,rfl,hB5,hg5⟩:=N5;refine K1 (zAC rfl N17 hB5 rfl fun w9 cs9 hU hN hl9 hS => ?_);replace hS1:=hS1.updB hU hB5 (by omega);replace hS2:=hS2.updB hU hB5 (by omega);replace hB4:=hB4.upd hU (by omega);replace E0:=E0.upd hU (by omega);have hS5:zAj b5 (a*c) (a*d) w9:=⟨cs9,hN,hl9,hS⟩;obtain ⟨SZ2,hSZ2⟩:∃ s,s=w9.heap.size:=⟨_,rfl⟩;have m1:=hS1.lt;have m2:=hS2.lt;have m4:=hB4.lt;have m5:=hS5.lt;have mw:=E0.size;rw [← hSZ2] at m1 m2 m4 m5 mw;clear hU hB5 N17 N16 N15 N13 N11 N10 N8 hN hl9 hS;refine zAi (zN (K5 [2,3,4,5] ?_))
 refine zA (zAN 12 [([(2,none)],none),([(18,some 0)],none),([(3,none)],none),([(20,some 0)],none),([(19,some 2),(21,some 0)],none),([(2,none)],none),([(23,some 0)],none),([(3,none)],none),([(25,some 0)],none),([(24,some 2),(26,some 0)],none),([(22,some 5),(27,some 0)],none),([],none)] mixed (by kernel_rfl) (by kernel_rfl) (by kernel_rfl) (by kernel_rfl) (by kernel_rfl) fun K hK=>dvp (fun σ wx hE hk=>zB zCW hk.1 ⟨Ext.refl _,rfl⟩) (dcp (fun v w'=>IsNum w' v b) (fun _ _ _ _ hx h=>h.ext hx.toExt) (fun σ wx hE hk=>zBE hk.1 (hS1.ext hE) fun v h=>⟨Ext.refl _,h⟩) (dvp (fun σ wx hE hk=>zB zCA hk.1 ⟨Ext.refl _,rfl⟩) (dcp (fun v w'=>IsNum w' v c) (fun _ _ _ _ hx h=>h.ext hx.toExt) (fun σ wx hE hk=>zAo hk.1 (hS2.ext hE) fun v h=>⟨Ext.refl _,h⟩) (dcp (fun v w'=>IsNum w' v (b*c)) (fun _ _ _ _ hx h=>h.ext hx.toExt) (fun σ wx hE hk=>zC hb101 (CallK.of_ret (zCz hk.1 hk.2.1 r3) fun v w2 hX hr=>⟨hX,hr⟩) rfl) (dvp (fun σ wx hE hk=>zB zCW hk.1 ⟨Ext.refl _,rfl⟩) (dcp (fun v w'=>IsNum w' v b) (fun _ _ _ _ hx h=>h.ext hx.toExt) (fun σ wx hE hk=>zBE hk.1 (hS1.ext hE) fun v h=>⟨Ext.refl _,h⟩) (dvp (fun σ wx hE hk=>zB zCW hk.1 ⟨Ext.refl _,rfl⟩) (dcp (fun v w'=>IsNum w' v d) (fun _ _ _ _ hx h=>h.ext hx.toExt) (fun σ wx hE hk=>zBE hk.1 (hS2.ext hE) fun v h=>⟨Ext.refl _,h⟩) (dcp (fun v w'=>IsNum w' v (b*d)) (fun _ _ _ _ hx h=>h.ext hx.toExt) (fun σ wx hE hk=>zC hb101 (CallK.of_ret (zCz hk.1 hk.2.1 r4) fun v w2 hX hr=>⟨hX,hr⟩) rfl) (dcp (fun v w'=>zw w' v (b*c) (b*d)) (fun _ _ _ _ hx h=>h.ext hx.toExt) (fun σ wx hE hk=>zBN hk.1 hk.2.1 fun v h=>⟨Ext.refl _,h⟩) ?_)))))))))))
 refine dcp (fun v w'=>∃ b,v = .pointer (some ⟨b,0,none⟩)∧Blk w' b 47 [.bool false,.slice none 0 0,.slice none 0 0,.bool false,.slice none 0 0,.slice none 0 0]∧SZ2≤b) (fun _ _ _ _ hx h=>(let ⟨b,e,hB,hg⟩:=h;⟨b,e,hB.ext hx.toExt,hg⟩)) (fun σ wx hE hk=>zK zero47' fun b w2 hb hY hB hs=>⟨hY,b,rfl,hB,(by rw [hb,hSZ2];exact hE.size)⟩) ?_;refine zAR (hK _ fun wq hE => ?_);rintro _ rfl v19 N19 _ rfl v21 N21 v22 N22 _ rfl v24 N24 _ rfl v26 N26 v27 N27 v28 N28 v6 N6;refine zU ?_;replace E0:=E0.trans hE;replace hS1:=hS1.ext hE;replace hS2:=hS2.ext hE;replace hB4:=hB4.ext hE;replace hS5:=hS5.ext hE;clear hE;obtain ⟨b6,rfl,hB6,hg6⟩:=N6;refine K1 (zAC rfl N28 hB6 rfl fun w9 cs9 hU hN hl9 hS => ?_);replace hS5:=hS5.updB hU hB6 (by omega);replace hB4:=hB4.upd hU (by omega);replace E0:=E0.upd hU (by omega);have hS6:zAj b6 (b*c) (b*d) w9:=⟨cs9,hN,hl9,hS⟩;clear hU hB6 N28 N27 N26 N24 N22 N21 N19 hN hl9 hS hS1 hS2;refine zAi (zN (K5 [4,5,6] ?_));refine rj fun K=>K1 (zAL rfl hS5 fun v29 N29=>K1 (zAL rfl hS6 fun v30 N30=>K1 (j1 E0 hB4.ext hb285 (SpanJoin_ok N29 N30 r5 r6 r7 r8) fun v31 w2 E0 hB4 N31=>K1 (zAC rfl N31 hB4 rfl fun w9 cs9 hU hN hl9 hS => ?_))));replace E0:=E0.upd hU hgb4;clear hU hB4 N31;refine rm [4] K ?_;exact zE (zQ ⟨rfl,_,zx rfl rfl rfl aggr47' hN hl9,E0,hS⟩)
theorem zHV {p q s:List Rat} (hp:zM w u p) (hq:zM w v q) (h:padd p q=some s):Ret prog 149 #[u,v] w (fun r w'=>IsOwn w.heap.size w' r s):=by
 obtain ⟨pp,pc,rfl,hpc,hpP,hpl⟩:=hp;obtain ⟨qp,qc,rfl,hqc,hqP,hql⟩:=hq;have E0:Ext w w:=Ext.refl w;refine J0 36 func149 rfl (rj fun K=>ag (rm [0,1] K ?_));refine zCJ (fun ρ w'=>∃ (ap bp:Option Addr) (P Q:List Rat) (ac bc:Nat) (R:List Rat),Keep ρ [(0,.slice ap P.length ac),(1,.slice bp Q.length bc)]∧Ext w w'∧PRd w' ap P∧PRd w' bp Q∧P.length≤ac∧P.length≤4096∧Q.length≤P.length∧addAt Q 0 P=some R∧trim R=s) ?_ ?_
 · refine rJ fun K=>K1 (zJ zAA rfl (mv (K1 (zJ zAA rfl (K8 rfl (rm [0,1,12] K ?_))))));refine K0 rfl ?_ ?_<;>intro hc
   · have hl:p.length<q.length:=t_lt hc;clear hc;rw [padd,if_pos hl] at h;obtain ⟨R,hR,hRs⟩:=map_some h;exact rI fun K=>mv (ag (ag (rl K (zV ⟨rfl,qp,pp,q,p,qc,pc,R,(kp rfl),E0,hqP.ext E0,hpP.ext E0,hqc,hql,by omega,hR,hRs⟩))))
   · have hl:¬ p.length<q.length:=by have:=f_lt hc;omega
     clear hc;rw [padd,if_neg hl] at h;obtain ⟨R,hR,hRs⟩:=map_some h;exact zz (zV ⟨rfl,pp,qp,p,q,pc,qc,R,(kp rfl),E0,hpP.ext E0,hqP.ext E0,hpc,hpl,by omega,hR,hRs⟩)
 · clear E0 hpP hqP h;rintro ρ2 w ⟨ap,bp,P,Q,ac,bc,R,hk,hEm,hPP,hQP,hac,hPl,hQl,hR,hRs⟩;have E0:Ext w w:=Ext.refl w;refine wpe_k _ hk ?_;clear hk ρ2;refine rJ fun K=>K1 (j0 E0 hb68 (zFj (l:=P) ⟨ap,ac,rfl,hac,hPP,hPl⟩) fun v3_1 w1 E0 hr => ?_);obtain ⟨op,oc,rfl,hoc,hOP,_,hown⟩:=hr;refine ag (rm [0,1,5] K ?_);refine zA (rJ fun K=>K1 (zJ zAA rfl (mv (rm [0,1,5,17,18,19] K ?_))));refine zG (zo (X:=Nat) (fun i ρ w'=>Keep ρ [(5,.slice op P.length oc),(17,.slice bp Q.length bc),(18,.int .i64 (Q.length:Nat)),(19,.int .i64 (i:Nat))]∧i≤Q.length∧Ext w w'∧∃ O,O.length=P.length∧PRd w' op O∧addAt (Q.drop i) i O=some R) (fun i=>Q.length-i) 0 ⟨(kp rfl),Nat.zero_le _,E0,P,rfl,hOP,hR⟩ ?_);clear E0 hOP hR;rintro i ρ1 w1 ⟨hk,hil,E0,O,hOl,hOr,hA⟩;refine wpe_k _ hk ?_;clear hk ρ1;refine rj fun K=>K8 rfl (rm [5,17,18,19,20] K ?_);refine zA ?_;refine K0 rfl ?_ ?_<;>intro hc
   · have hlt:i<Q.length:=t_lt hc;clear hc;have hq1:=hQP.ext E0;rw [zDh hlt] at hA;obtain ⟨s1,hs1,hA⟩:=bind_some hA;obtain ⟨hr1,rfl⟩:=zDo hs1;obtain ⟨ob,rfl,hob⟩:=hown (fun e=>by rw [e] at hQl;simp only [List.length_nil] at hQl;omega);have hOB:=hOr.blk (fun e=>by rw [e] at hOl;simp only [List.length_nil] at hOl;omega);clear hOr;refine sk (zA (zG (rJ fun K=>K1 (zAU (l:=Q) hq1 rfl rfl hlt (K1 (zAW hq1 hlt rfl fun v23 N23 => ?_))))));refine K1 (zK zAP fun bc2 w7 hb hE hBc hs => ?_);have hgc:w.heap.size≤bc2:=by rw [hb];exact E0.size
     have hne:bc2≠ob:=by have:=hOB.lt;omega
     replace E0:=E0.trans hE;replace N23:=N23.ext hE;replace hOB:=hOB.ext hE;clear hE hb hs;refine ag (K1 (zI rfl N23 (Cell3.of hBc rfl) fun _ w9 hU hNA => ?_));replace E0:=E0.upd hU hgc;replace hOB:=hOB.upd hU hBc (Ne.symm hne);clear hU hBc N23;refine rm [5,6,7,17,18,19] K ?_;have hnw:NoW [ob] _:=noWP hOB;refine zDN [⟨9,ob,fun w=>PBlk w ob (O),fun w=>PBlk w ob (O.set i (O.getD i 0+Q.getD i 0))⟩] [([(5,none)],none),([(6,none)],none),([(5,none)],none),([(6,none)],none),([(26,some 1),(27,some 0)],none),([(28,some 0)],none),([(7,none)],none),([(29,some 1),(30,some 0)],none),([(24,some 7),(25,some 6)],none),([(32,some 0),(31,some 1)],none)] mixed (by kernel_rfl) (by kernel_rfl) (by kernel_rfl) (by simp) (by kernel_rfl) (by kernel_rfl) (all1 (zHN hOB)) fun K hK=>dbv rfl (fun σ wx hE hp hk=>zF ⟨Ext.refl _,hk.1⟩) (dbv rfl (fun σ wx hE hp hk=>zF ⟨Ext.refl _,hk.1⟩) (dbv rfl (fun σ wx hE hp hk=>zF ⟨Ext.refl _,hk.1⟩) (dbv rfl (fun σ wx hE hp hk=>zF ⟨Ext.refl _,hk.1⟩) (dbv rfl (fun σ wx hE hp hk=>zBH hk.1 hk.2.1 (by omega) ⟨Ext.refl _,rfl⟩) ?_))));refine dbn (fun v w'=>IsNum w' v (O.getD i 0)) rfl (fun _ _ _ h1 hx h=>h.extS hx (hnw.ext h1)) (fun σ wx hE hp hk=>zCs hk.1 rfl (hp _ (List.mem_singleton.2 rfl) (by show _<(9:Nat);decide)) (by omega) fun v h=>⟨Ext.refl _,h⟩) ?_
     refine dbn (fun v w'=>IsNum w' v (Q.getD i 0)) rfl (fun _ _ _ h1 hx h=>h.extS hx (hnw.ext h1)) (fun σ wx hE hp hk=>zL hk.1 (hNA.extS hE (nin1 hne) hnw) fun v h=>⟨Ext.refl _,h⟩) (dbn (fun v w'=>IsNum w' v (O.getD i 0+Q.getD i 0)) rfl (fun _ _ _ h1 hx h=>h.extS hx (hnw.ext h1)) (fun σ wx hE hp hk=>zC hb146 (CallK.of_ret (zFL hk.1 hk.2.1 hr1) fun v w2 hX hr=>⟨hX,hr⟩) rfl) (dbv rfl (fun σ wx hE hp hk=>zBH hk.1 hk.2.1 (by omega) ⟨Ext.refl _,rfl⟩) (dbs _ rfl (fun σ wx hE hpre hk=>zBD hk.1 rfl hk.2.1 hpre (by omega) fun v w2 hU hN=>⟨hU,hN⟩) (zKK (hK _ fun wq hS hP => ?_)))));rintro _ rfl _ rfl _ rfl _ rfl _ rfl v29 N29 v30 N30 v31 N31 _ rfl _ _;refine zU ?_;obtain ⟨hN4,-⟩:=hP;replace E0:=E0.updS hS hob;clear hOB hS;have hOB:=hN4;clear hN4;refine zT (zN (K5 [5,17,18,19] ?_));exact K6 fun K=>K8 rfl (mv (rl K (zV (⟨rfl,i+1,⟨⟨rfl,rfl,rfl,rfl,rfl,rfl,rfl,congrArg (Value.int .i64) (zAD (by omega)),trivial⟩,by omega,E0,_,by simp [hOl],hOB.rd,hA⟩,by omega⟩))))
   · have hge:=f_lt hc;obtain rfl:i=Q.length:=by omega
     clear hc;rw [List.drop_length] at hA;obtain rfl:O=R:=Option.some.inj hA;refine zi (zAE (zv (zP (zN (rj fun K=>mv ?_)))));have hsz:=E0.size;refine K1 (j0 E0 hb34 (zBZ (l:=O) ⟨op,oc,by rw [hOl];rfl,by omega,hOr,by omega⟩) fun v9 w9 E0 hr => ?_);rw [hRs] at hr;refine ag (rm [4,5,17,18,19] K ?_);refine zE (zQ ?_);exact ⟨rfl,_,zm rfl rfl,hEm.trans E0,hr.sz (by have:=hEm.size;omega)⟩
theorem info37':(prog.info? 37).map (fun i=>(i.zero,i.size))=some (some (.agg #[.bool false,.slice none 0 0,.slice none 0 0]),3):=by kernel_rfl
theorem zDz {p s:List Rat} {x:Rat} (hp:zM w u p) (hx:IsNum w v x) (h:zFO p x=some s):Ret prog 56 #[u,v] w (fun r w'=>IsOwn w.heap.size w' r s):=by
 obtain ⟨pp,pc,rfl,hpc,hpP,hpl⟩:=hp;obtain ⟨L,hL,hLs⟩:=map_some h;have hx0:=hx;obtain ⟨xn,xd,rfl,hxn,hxd⟩:=hx0;have E0:Ext w w:=Ext.refl w;refine J0 23 func56 rfl (rj fun K => ?_);refine K1 (zk fun b1 w1 hb hE hB1 hs => ?_);have hgb1:w.heap.size≤b1:=by rw [hb];exact E0.size
 replace E0:=E0.trans hE;replace hx:=hx.ext hE;clear hE hs hb;refine ag (rm [0,3] K ?_);refine rj fun K=>ag (rm [0,3,5] K ?_);refine zA (rJ fun K=>K1 (zJ zAA rfl (mv (rm [3,5,8,9,10] K ?_))));refine zG ?_;have hNX:NumAt b1 x _:=⟨_,hB1,rfl,hx⟩;refine zo (X:=Nat) (fun i ρ w'=>∃ v5 A,Keep ρ [(3,.pointer (some ⟨b1,0,none⟩)),(5,v5),(8,.slice pp p.length pc),(9,.int .i64 (p.length:Nat)),(10,.int .i64 (i:Nat))]∧i≤p.length∧Ext w w'∧AccP (b1+1) w' v5 A∧A.length=i∧(∃ B,mapO (fun c=>rmul c x) (p.drop i)=some B∧A++B=L)∧NumAt b1 x w') (fun i=>p.length-i) 0 ⟨_,[],(kp rfl),Nat.zero_le _,E0,AccP.nil,rfl,⟨L,hL,rfl⟩,hNX⟩ ?_;clear E0 hNX hB1 hL hx;rintro i ρ1 w1 ⟨v5,A,hk,hil,E0,hA,hAl,⟨B,hB,hAB⟩,hNX⟩;refine wpe_k _ hk ?_;clear hk ρ1;refine rj fun K=>K8 rfl (rm [3,5,8,9,10,11] K ?_);refine zA ?_;refine K0 rfl ?_ ?_<;>intro hc
 · have hlt:i<p.length:=t_lt hc;clear hc;have hq1:=hpP.ext E0;rw [zDh hlt] at hB;obtain ⟨m,hm,hB⟩:=bind_some hB;obtain ⟨hr1,rfl⟩:=zBn hm;obtain ⟨B2,hB2,hB⟩:=bind_some hB;cases hB;refine sk (zA (zG (rj fun K=>K1 (zAU (l:=p) hq1 rfl rfl hlt (K1 (zAW hq1 hlt rfl fun v23 N23 => ?_))))));refine K1 (zK zAP fun bc2 w7 hb hE hBc hs => ?_);have hgc:w.heap.size≤bc2:=by rw [hb];exact E0.size
   have hne:b1≠bc2:=by have:=hNX.lt;omega
   have hna:=hA.new (c:=bc2) (by omega);replace E0:=E0.trans hE;replace N23:=N23.ext hE;replace hNX:=hNX.ext hE;replace hA:=hA.ext hE;clear hE hb hs;refine K1 (zI rfl N23 (Cell3.of hBc rfl) fun _ w9 hU hNA => ?_);replace E0:=E0.upd hU hgc;replace hNX:=hNX.upd hU hBc hne;replace hA:=hA.upd hU hBc hna;clear hU hBc N23;refine rm [3,5,7,8,9,10] K ?_;refine rI fun K=>K1 (zL rfl hNA fun v15 N15=>K1 (zL rfl hNX fun v16 N16=>K1 (zC hb101 (CallK.of_ret (zCz N15 N16 hr1) fun v17 w8 hE N17 => ?_) rfl)));replace E0:=E0.trans hE;replace hNX:=hNX.ext hE;replace hA:=hA.ext hE;clear hE N15 N16;obtain ⟨n17,d17,rfl,hn17,hd17⟩:=N17;have N17:IsNum _ (.agg #[.bool (decide (p.getD i 0*x<0)),n17,d17]) (p.getD i 0*x):=⟨_,_,rfl,hn17,hd17⟩;clear hn17 hd17;refine K1 (zR (cs:=[.bool (decide (p.getD i 0*x<0)),n17,d17]) zAV info37' (by decide) (by decide) (by kernel_rfl) fun bb w10 hb hE hBb hs => ?_);replace E0:=E0.trans hE;replace hNX:=hNX.ext hE;replace hA:=hA.ext hE;replace N17:=N17.ext hE;clear hE hb hs;refine K1 (zEo hA rfl hBb N17 (by omega) (by have:=hNX.lt;omega) fun v19 w11 hX hA2 => ?_);replace E0:=hX.ext (by omega) E0;replace hNX:=hX.num (by omega) hNX;clear hA;have hA:=hA2;clear hA2;refine ag (rl K (zT (zN (K5 [3,5,8,9,10] ?_))));refine K6 fun K=>K8 rfl (mv (rl K (zV ?_)))
   exact ⟨rfl,i+1,⟨v19,A++[p.getD i 0*x],⟨rfl,rfl,rfl,rfl,rfl,rfl,rfl,rfl,rfl,congrArg (Value.int .i64) (zAD (by omega)),trivial⟩,by omega,E0,hA,by simp [hAl],⟨B2,hB2,by rw [List.append_assoc];exact hAB⟩,hNX⟩,by omega⟩
 · have hge:=f_lt hc;obtain rfl:i=p.length:=by omega
   clear hc;rw [List.drop_length] at hB;cases hB;rw [List.append_nil] at hAB;subst hAB;refine zi (zAE (zv (zP (zN (rj fun K=>mv ?_)))));have hsz:=E0.size;refine K1 (j0 E0 hb34 (zBZ (hA.own (by omega)).poly) fun v9 w9 E0 hr => ?_);rw [hLs] at hr;refine ag (rm [3,4,8,9,10] K ?_);exact zE (en rfl E0 (hr.sz hsz))
variable {l:List Rat}
theorem cells3_len (v:Value) (n:Nat) (h:v.cells.toList.length=3):((List.replicate n v.cells.toList).flatten).length=3*n:=by
 simp [List.length_flatten,h];omega
theorem flat3 (a b c:Value):∀ (n i:Nat),i<n→(((List.replicate n [a,b,c]).flatten).drop (3*i)).take 3=[a,b,c]
 | 0,i,h=>by omega
 | n+1,0,_=>by simp [List.replicate_succ]
 | n+1,i+1,h=>by
  rw [List.replicate_succ,List.flatten_cons,show 3*(i+1)=3*i+1+1+1 from by omega];simp only [List.cons_append,List.nil_append,List.drop_succ_cons];exact flat3 a b c n i (by omega)
theorem PBlk.zeros (h:Blk w b 37 ((List.replicate n (Value.agg #[.bool false,.slice none 0 0,.slice none 0 0]).cells.toList).flatten)):PBlk w b (List.replicate n 0):=by
 refine ⟨_,h,?_,fun i hi => ?_⟩
 · rw [cells3_len _ _ rfl,List.length_replicate];exact Nat.le_refl _
 · rw [List.length_replicate] at hi;rw [show (Value.agg #[.bool false,.slice none 0 0,.slice none 0 0]).cells.toList=[Value.bool false,.slice none 0 0,.slice none 0 0] from rfl,flat3 _ _ _ n i hi,show (List.replicate n (0:Rat)).getD i 0=0 from by simp [List.getElem?_replicate,hi]];exact IsNum.zero
theorem zBp (l:List Rat):(trim l).length≤l.length:=by
 unfold trim;rw [List.length_reverse];have:=(List.dropWhile_suffix (fun x:Rat=>decide (x=0)) (l:=l.reverse)).length_le;simpa using this
theorem zHW {p q s:List Rat} (hp:zM w u p) (hq:zM w v q) (h:psub p q=some s):Ret prog 70 #[u,v] w (fun r w'=>IsOwn w.heap.size w' r s):=by
 obtain ⟨m,h1,h2⟩:=bind_some h;have E0:Ext w w:=Ext.refl w;refine J0 10 func70 rfl (rj fun K=>ag (rm [0,1] K ?_));refine rJ fun K=>mv (K1 (j2 E0 hp.ext hq.ext hb38 (zBw (by decide) (by decide)) fun v1_2 w1 E0 hp hq N7=>K1 (j1 E0 hp.ext hb56 (zDz hq N7 h1) fun v8 w8 E0 hp hS=>K1 (zC hb149 (CallK.of_ret (zHV hp hS.poly h2) fun v9 w9 hE hr => ?_) rfl))));have hsz:=E0.size;replace E0:=E0.trans hE;clear hE;refine ag (rm [4] K ?_);exact zE (en rfl E0 (hr.sz hsz))
theorem zKs (hp:zM w v l) (h0:l≠[]):Ret prog 259 #[v] w (fun r w'=>IsNum w' r (top l)):=by
 obtain ⟨p,c,rfl,hc,hP,hl⟩:=hp;have hl0:0<l.length:=List.length_pos_iff.2 h0;refine J0 9 func259 rfl (rj fun K => ?_);refine K1 (zK zAP fun b1 w1 hb hE hB1 hs => ?_);have hgb1:w.heap.size≤b1:=by rw [hb];exact E0.size
 replace E0:=E0.trans hE;replace hP:=hP.ext hE;clear hE hs hb;refine rm [0,2] K ?_;refine rJ fun K=>mv (K1 (zJ zAA rfl (K1 (zAS (b:=1) (l.length-1) rfl rfl (by omega) (by omega) (K1 (zAU (l:=l) (ix:=l.length-1) hP rfl rfl (by omega) (K1 (zAW hP (i:=l.length-1) (by omega) rfl fun v8 N8=>K1 (zI rfl N8 (Cell3.of hB1 rfl) fun _ w9 hU hN => ?_)))))))));replace E0:=E0.upd hU hgb1;obtain ⟨cs,hB4,hl4,hN4⟩:=hN;refine rm [2] K ?_;exact zE (zQ ⟨rfl,_,zx rfl rfl rfl zAB hB4 hl4,E0,hN4⟩)
theorem zJl {x y:Rat} (hx:IsNum w u x) (hy:IsNum w v y) (hr:rroom x y=true):Ret prog 311 #[u,v] w (fun r w'=>IsNum w' r (x/y)):=by
 have hx0:=hx;have hy0:=hy;obtain ⟨xn,xd,rfl,hxn,hxd⟩:=hx0;obtain ⟨yn,yd,rfl,hyn,hyd⟩:=hy0;refine J0 14 func311 rfl (rj fun K => ?_);refine K1 (zk fun b1 w1 hb hE hB1 hs => ?_);have hgb1:w.heap.size≤b1:=by rw [hb];exact E0.size
 replace E0:=E0.trans hE;replace hx:=hx.ext hE;replace hy:=hy.ext hE;clear hE hs hb;refine K1 (zk fun b2 w2 hb hE hB2 hs => ?_);have hgb2:w.heap.size≤b2:=by rw [hb];exact E0.size
 have ne_b1_b2:b1≠b2:=by have:=hB1.lt;omega
 replace E0:=E0.trans hE;replace hx:=hx.ext hE;replace hy:=hy.ext hE;replace hB1:=hB1.ext hE;clear hE hs hb;refine K1 (zK zAP fun b3 w3 hb hE hB3 hs => ?_);have hgb3:w.heap.size≤b3:=by rw [hb];exact E0.size
 have ne_b1_b3:b1≠b3:=by have:=hB1.lt;omega
 have ne_b2_b3:b2≠b3:=by have:=hB2.lt;omega
 replace E0:=E0.trans hE;replace hx:=hx.ext hE;replace hy:=hy.ext hE;replace hB1:=hB1.ext hE;replace hB2:=hB2.ext hE;clear hE hs hb;refine rm [2,3,4] K ?_;refine rj fun K=>K1 (zW zAB rfl hB1 (Nat.le_of_ble_eq_true rfl) (K1 (zW zAB rfl hB2 (Nat.le_of_ble_eq_true rfl) (K1 (j5 E0 hx.ext hy.ext hB1.ext hB2.ext hB3.ext hb37 (zNf hx hy hr) fun v1_2 w4 E0 hx hy hB1 hB2 hB3 hr => ?_)))));obtain ⟨q,rfl,hq⟩:=hr;refine mv (xt rfl (xt rfl ?_));refine K1 (zK zAP fun b5 w5 hb hE hB5 hs => ?_);have hgb5:w.heap.size≤b5:=by rw [hb];exact E0.size
 have ne_b1_b5:b1≠b5:=by have:=hB1.lt;omega
 have ne_b2_b5:b2≠b5:=by have:=hB2.lt;omega
 have ne_b3_b5:b3≠b5:=by have:=hB3.lt;omega
 replace E0:=E0.trans hE;replace hx:=hx.ext hE;replace hy:=hy.ext hE;replace hB1:=hB1.ext hE;replace hB2:=hB2.ext hE;replace hB3:=hB3.ext hE;replace hq:=hq.ext hE;clear hE hs hb;refine K1 (zI rfl hq (Cell3.of hB5 rfl) fun _ w9 hU hN5 => ?_);replace E0:=E0.upd hU hgb5;replace hB3:=hB3.upd hU ne_b3_b5;refine ag (rm [4,5] K ?_);refine rj fun K=>K1 (zL rfl hN5 fun v13 hq2=>K1 (zI rfl hq2 (Cell3.of hB3 rfl) fun _ w9 hU hN => ?_));replace E0:=E0.upd hU hgb3;obtain ⟨cs,hB4,hl4,hN4⟩:=hN;refine rm [4] K ?_;exact zE (zQ ⟨rfl,_,zx rfl rfl rfl zAB hB4 hl4,E0,hN4⟩)
theorem zHI {p m:List Rat} (hp:zM w v p) (h:monic p=some m):Ret prog 253 #[v] w (fun r w'=>IsOwn w.heap.size w' r m):=by
 have E0:Ext w w:=Ext.refl w;refine J0 14 func253 rfl (rj fun K=>ag (rm [0] K ?_));refine rJ fun K=>K1 (zC hb34 (CallK.of_ret (zBZ hp) fun v4 w4 hE hT => ?_) rfl);have hsz:=E0.size;replace E0:=E0.trans hE;clear hE;obtain ⟨tp,tc,rfl,htc,hTP,htl,_⟩:=hT;refine ag (rm [0] K ?_);refine zA (rJ fun K=>K1 (zJ zAA rfl (K8 rfl (rm [0,7] K ?_))));refine K0 rfl ?_ ?_<;>intro hc
 · have h0:trim p=[]:=List.eq_nil_of_length_eq_zero (by have:=eq_of_beq hc;omega);clear hc;rw [monic,if_pos h0] at h;cases h;refine rj fun K=>ag (rm [2] K ?_);exact zE (zY (en rfl E0 IsOwn.nil))
 · have h0:trim p≠[]:=fun e=>by rw [e] at hc;cases hc
   clear hc;rw [monic,if_neg h0] at h;obtain ⟨c,hd,hs⟩:=bind_some h;obtain ⟨hr1,rfl⟩:=zCC hd;have hT:zM _ (.slice tp (trim p).length tc) (trim p):=⟨tp,tc,rfl,htc,hTP,htl⟩;refine sk (rJ fun K=>K1 (j1 E0 hT.ext hb38 (zBw (n:=1) (by decide) (by decide)) fun v9 w9 E0 hT N9=>mv (K1 (j2 E0 hT.ext N9.ext hb259 (zKs hT h0) fun v11 w11 E0 hT N9 N11=>K1 (j1 E0 hT.ext hb311 (zJl N9 N11 hr1) fun v12 w12 E0 hT N12=>K1 (zC hb56 (CallK.of_ret (zDz hT N12 hs) fun v13 w13 hE hr => ?_) rfl))))));have hsz2:=E0.size;replace E0:=E0.trans hE;clear hE;refine ag (rm [2] K ?_);exact zE (en rfl E0 (hr.sz hsz2))
theorem zDx {p q s:List Rat} (hp:zM w u p) (hq:zM w v q) (h:pmul p q=some s):Ret prog 71 #[u,v] w (fun r w'=>IsOwn w.heap.size w' r s):=by
 obtain ⟨pp,pc,rfl,hpc,hpP,hpl⟩:=hp;obtain ⟨qp,qc,rfl,hqc,hqP,hql⟩:=hq;have hbig:p.length+q.length≤4096:=by
  rcases Nat.lt_or_ge 4096 (p.length+q.length) with hb | hb
  · rw [pmul,if_pos hb] at h;cases h
  · exact hb
 rw [pmul,if_neg (by omega)] at h;obtain ⟨R,hR,hRs⟩:=map_some h;have E0:Ext w w:=Ext.refl w;refine J0 52 func71 rfl (rj fun K=>ag (rm [0,1] K ?_));refine rJ fun K=>K1 (zJ zAA rfl (mv (K1 (zJ zAA rfl (K1 (zy (p.length+q.length) rfl rfl rfl (by omega) ?_))))));refine K1 (zAg zAV zDT rfl rfl rfl (by omega) (by omega) (by omega) fun ob w1 hb1 hE hB hs => ?_);have hob:w.heap.size≤ob:=Nat.le_of_eq hb1.symm;replace E0:=E0.trans hE;clear hE hs hb1;rw [show ((p.length+q.length:Nat):Int).toNat=p.length+q.length from by omega] at hB ⊢;have hOB:=PBlk.zeros hB;clear hB;refine ag (rm [0,1,5] K ?_);refine zA (rJ fun K=>K1 (zJ zAA rfl (mv (rm [1,5,16,17,18] K ?_))));refine zG (zo (X:=Nat) (fun i ρ w'=>Keep ρ [(1,.slice qp q.length qc),(5,.slice (some ⟨ob,0,none⟩) (p.length+q.length) (p.length+q.length)),(16,.slice pp p.length pc),(17,.int .i64 (p.length:Nat)),(18,.int .i64 (i:Nat))]∧i≤p.length∧Ext w w'∧∃ O,O.length=(p.length+q.length)∧PBlk w' ob O∧mulL q (p.drop i) i O=some R) (fun i=>p.length-i) 0 ⟨(kp rfl),Nat.zero_le _,E0,_,by simp,hOB,hR⟩ ?_);clear E0 hOB hR;rintro i ρ1 w1 ⟨hk,hil,E0,O,hOl,hOB,hA⟩;refine wpe_k _ hk ?_;clear hk ρ1;refine rj fun K=>K8 rfl (rm [1,5,16,17,18,19] K ?_);refine zA ?_;refine K0 rfl ?_ ?_<;>intro hc
 · have hlt:i<p.length:=t_lt hc;clear hc;have hp1:=hpP.ext E0;rw [zDh hlt] at hA;refine sk (zA (zG (rJ fun K=>K1 (zAU (l:=p) hp1 rfl rfl hlt (K1 (zAW hp1 hlt rfl fun v23 N23 => ?_))))));refine K1 (zK zAP fun bc2 w7 hb hE hBc hs => ?_);have hgc:w.heap.size≤bc2:=by rw [hb];exact E0.size
   have hne:bc2≠ob:=by have:=hOB.lt;omega
   replace E0:=E0.trans hE;replace N23:=N23.ext hE;replace hOB:=hOB.ext hE;clear hE hb hs;refine ag (K1 (zI rfl N23 (Cell3.of hBc rfl) fun _ w9 hU hNA => ?_));replace E0:=E0.upd hU hgc;replace hOB:=hOB.upd hU hBc (Ne.symm hne);clear hU hBc N23;refine rm [1,5,6,7,16,17,18] K ?_;refine zA (rj fun K=>K1 (zL rfl hNA fun v15 N15=>K1 (zC hb19 (CallK.of_ret (zAY N15) fun v24 w8 hE hr => ?_) rfl)));subst hr;replace E0:=E0.trans hE;replace hNA:=hNA.ext hE;replace hOB:=hOB.ext hE;clear hE N15;refine K8 rfl (rm [1,5,6,7,16,17,18,25] K ?_);refine K0 rfl ?_ ?_<;>intro hc
   · have hz:p.getD i 0=0:=zDp.1 (eq_of_beq hc);clear hc;rw [mulL,if_pos hz] at hA;obtain ⟨O',hO'⟩:∃ O',O'=O:=⟨O,rfl⟩;subst hO';have hOl':=hOl;have hOB':=hOB;have hA':=hA;exact zi (zAE (zP (zN (K6 fun K=>K8 rfl (mv (rl K (zV (⟨rfl,i+1,⟨⟨rfl,rfl,rfl,rfl,rfl,rfl,rfl,rfl,rfl,congrArg (Value.int .i64) (zAD (by omega)),trivial⟩,by omega,E0,O',hOl',hOB',hA'⟩,by omega⟩))))))))
   · have hz:p.getD i 0≠0:=fun e=>beq_eq_false_iff_ne.1 hc (zDp.2 e);clear hc;rw [mulL,if_neg hz] at hA;obtain ⟨O2,hO2,hA'⟩:=bind_some hA;refine sk (rJ fun K=>K1 (zJ zAA rfl (mv (rm [1,5,6,7,16,17,18,26,27,28] K ?_))));refine zG (zo (X:=Nat) (fun j ρ w'=>Keep ρ [(1,.slice qp q.length qc),(5,.slice (some ⟨ob,0,none⟩) (p.length+q.length) (p.length+q.length)),(16,.slice pp p.length pc),(17,.int .i64 (p.length:Nat)),(18,.int .i64 (i:Nat)),(6,.int .i64 (i:Nat)),(7,.pointer (some ⟨bc2,0,none⟩)),(26,.slice qp q.length qc),(27,.int .i64 (q.length:Nat)),(28,.int .i64 (j:Nat))]∧j≤q.length∧Ext w w'∧NumAt bc2 (p.getD i 0) w'∧∃ O',O'.length=(p.length+q.length)∧PBlk w' ob O'∧zLn (p.getD i 0) (q.drop j) (i+j) O'=some O2) (fun j=>q.length-j) 0 ⟨(kp rfl),Nat.zero_le _,E0,hNA,O,hOl,hOB,hO2⟩ ?_);clear E0 hOB hO2 hNA hOl hA;rintro j ρ3 w3 ⟨hk,hjl,E0,hNA,O',hOl',hOB',hA2⟩;refine wpe_k _ hk ?_;clear hk ρ3;refine rj fun K=>K8 rfl (rm [1,5,6,7,16,17,18,26,27,28,29] K ?_);refine zA ?_;refine K0 rfl ?_ ?_<;>intro hc
     · have hjt:j<q.length:=t_lt hc;clear hc;have hq1:=hqP.ext E0;rw [zDh hjt] at hA2;unfold zLn at hA2;obtain ⟨m,hm,hA2⟩:=bind_some hA2;obtain ⟨s1,hs1,hA2⟩:=bind_some hA2;obtain ⟨hr1,rfl⟩:=zBn hm;obtain ⟨hr2,rfl⟩:=zDo hs1;have hOB:=hOB';clear hOB';refine sk (zA (zG (rJ fun K=>K1 (zAU (l:=q) hq1 rfl rfl hjt (K1 (zAW hq1 hjt rfl fun v33 N33 => ?_))))));refine K1 (zK zAP fun bc3 w7 hb hE hBc hs => ?_);have hgc3:w.heap.size≤bc3:=by rw [hb];exact E0.size
       have hne3:bc3≠ob:=by have:=hOB.lt;omega
       have hne4:bc2≠bc3:=by have:=hNA.lt;omega
       replace E0:=E0.trans hE;replace N33:=N33.ext hE;replace hOB:=hOB.ext hE;replace hNA:=hNA.ext hE;clear hE hb hs;refine ag (K1 (zI rfl N33 (Cell3.of hBc rfl) fun _ w9 hU hNB => ?_));replace E0:=E0.upd hU hgc3;replace hOB:=hOB.upd hU hBc (Ne.symm hne3);replace hNA:=hNA.upd hU hBc hne4;clear hU hBc N33;refine rm [1,5,6,7,8,9,16,17,18,26,27,28] K ?_;have hnw:NoW [ob] _:=noWP hOB
       refine zDN [⟨15,ob,fun w=>PBlk w ob (O'),fun w=>PBlk w ob (O'.set (i+j) (O'.getD (i+j) 0+p.getD i 0*q.getD j 0))⟩] [([(5,none)],none),([(6,none)],none),([(8,none)],none),([(34,some 1),(35,some 0)],none),([(5,none)],none),([(6,none)],none),([(8,none)],none),([(38,some 1),(39,some 0)],none),([(37,some 3),(40,some 0)],none),([(41,some 0)],none),([(7,none)],none),([(9,none)],none),([(43,some 1),(44,some 0)],none),([(42,some 3),(45,some 0)],none),([(33,some 13),(36,some 10)],none),([(47,some 0),(46,some 1)],none)] mixed (by kernel_rfl) (by kernel_rfl) (by kernel_rfl) (by simp) (by kernel_rfl) (by kernel_rfl) (all1 (zHN hOB)) fun K hK=>dbv rfl (fun σ wx hE hp hk=>zF ⟨Ext.refl _,hk.1⟩) (dbv rfl (fun σ wx hE hp hk=>zF ⟨Ext.refl _,hk.1⟩) (dbv rfl (fun σ wx hE hp hk=>zF ⟨Ext.refl _,hk.1⟩) (dbv rfl (fun σ wx hE hp hk=>zy (i+j) hk.1 hk.2.1 rfl (by omega) ⟨Ext.refl _,rfl⟩) (dbv rfl (fun σ wx hE hp hk=>zF ⟨Ext.refl _,hk.1⟩) (dbv rfl (fun σ wx hE hp hk=>zF ⟨Ext.refl _,hk.1⟩) (dbv rfl (fun σ wx hE hp hk=>zF ⟨Ext.refl _,hk.1⟩) (dbv rfl (fun σ wx hE hp hk=>zy (i+j) hk.1 hk.2.1 rfl (by omega) ⟨Ext.refl _,rfl⟩) (dbv rfl (fun σ wx hE hp hk=>zBH hk.1 hk.2.1 (by omega) ⟨Ext.refl _,rfl⟩) ?_))))))))
       refine dbn (fun v w'=>IsNum w' v (O'.getD (i+j) 0)) rfl (fun _ _ _ h1 hx h=>h.extS hx (hnw.ext h1)) (fun σ wx hE hp hk=>zCs hk.1 rfl (hp _ (List.mem_singleton.2 rfl) (by show _<(15:Nat);decide)) (by omega) fun v h=>⟨Ext.refl _,h⟩) ?_;refine dbn (fun v w'=>IsNum w' v (p.getD i 0)) rfl (fun _ _ _ h1 hx h=>h.extS hx (hnw.ext h1)) (fun σ wx hE hp hk=>zL hk.1 (hNA.extS hE (nin1 hne) hnw) fun v h=>⟨Ext.refl _,h⟩) (dbn (fun v w'=>IsNum w' v (q.getD j 0)) rfl (fun _ _ _ h1 hx h=>h.extS hx (hnw.ext h1)) (fun σ wx hE hp hk=>zL hk.1 (hNB.extS hE (nin1 hne3) hnw) fun v h=>⟨Ext.refl _,h⟩) (dbn (fun v w'=>IsNum w' v (p.getD i 0*q.getD j 0)) rfl (fun _ _ _ h1 hx h=>h.extS hx (hnw.ext h1)) (fun σ wx hE hp hk=>zC hb101 (CallK.of_ret (zCz hk.1 hk.2.1 hr1) fun v w2 hX hr=>⟨hX,hr⟩) rfl) (dbn (fun v w'=>IsNum w' v (O'.getD (i+j) 0+p.getD i 0*q.getD j 0)) rfl (fun _ _ _ h1 hx h=>h.extS hx (hnw.ext h1)) (fun σ wx hE hp hk=>zC hb146 (CallK.of_ret (zFL hk.1 hk.2.1 hr2) fun v w2 hX hr=>⟨hX,hr⟩) rfl) (dbv rfl (fun σ wx hE hp hk=>zBH hk.1 hk.2.1 (by omega) ⟨Ext.refl _,rfl⟩) (dbs _ rfl (fun σ wx hE hpre hk=>zBD hk.1 rfl hk.2.1 hpre (by omega) fun v w2 hU hN=>⟨hU,hN⟩) (zKK (hK _ fun wq hS hP => ?_)))))));rintro _ rfl _ rfl _ rfl _ rfl _ rfl _ rfl _ rfl _ rfl _ rfl v42 N42 v43 N43 v44 N44 v45 N45 v46 N46 _ rfl _ _;refine zU ?_;obtain ⟨hN4,-⟩:=hP
       replace E0:=E0.updS hS hob;replace hNA:=hNA.extS hS (nin1 hne) hnw;clear hOB hS;have hOB:=hN4;clear hN4;refine zT (zN (K5 [1,5,6,7,16,17,18,26,27,28] ?_));refine K6 fun K=>K8 rfl (mv (rl K (zV ?_)));exact ⟨rfl,j+1,⟨⟨rfl,rfl,rfl,rfl,rfl,rfl,rfl,rfl,rfl,rfl,rfl,rfl,rfl,rfl,rfl,rfl,rfl,rfl,rfl,congrArg (Value.int .i64) (zAD (by omega)),trivial⟩,by omega,E0,hNA,_,by simp [hOl'],hOB,by rw [← Nat.add_assoc];exact hA2⟩,by omega⟩
     · have hge:=f_lt hc;obtain rfl:j=q.length:=by omega
       clear hc;rw [List.drop_length] at hA2;obtain rfl:O'=O2:=Option.some.inj hA2;exact zi (zAE (zv (zP (zT (zN (K6 fun K=>K8 rfl (mv (rl K (zV (⟨rfl,i+1,⟨⟨rfl,rfl,rfl,rfl,rfl,rfl,rfl,rfl,rfl,congrArg (Value.int .i64) (zAD (by omega)),trivial⟩,by omega,E0,O',hOl',hOB',hA'⟩,by omega⟩))))))))))
 · have hge:=f_lt hc;obtain rfl:i=p.length:=by omega
   clear hc;rw [List.drop_length] at hA;obtain rfl:O=R:=Option.some.inj hA;refine zi (zAE (zv (zP (zN (rj fun K=>mv ?_)))));have hsz:=E0.size;refine K1 (j0 E0 hb34 (zBZ (l:=O) ⟨some ⟨ob,0,none⟩,p.length+q.length,by rw [hOl];rfl,by omega,hOB.rd,by omega⟩) fun v9 w9 E0 hr => ?_);rw [hRs] at hr;refine ag (rm [1,4,5,16,17,18] K ?_);exact zE (en rfl E0 (hr.sz hsz))
theorem PBlk.extS {S:List Nat} (h:PBlk w b l) (hx:ExtS S w w') (hb:b ∉ S) (hS:NoW S w):PBlk w' b l:=by
 obtain ⟨cs,h1,h2,h3⟩:=h;exact ⟨cs,h1.extS hx hb,h2,fun i hi=>(h3 i hi).extS hx hS⟩
theorem zGY {p q:List Rat} {qq rr:List Rat} (hp:zM w u p) (hq:zM w v q) (h:pdiv p q=some (qq,rr)):Ret prog 254 #[u,v] w (fun r w'=>∃ a b,r = .tuple #[a,b]∧IsOwn w.heap.size w' a qq∧IsOwn w.heap.size w' b rr):=by
 have hq0:trim q≠[]:=fun e=>by rw [pdiv,if_pos e] at h;cases h
 rw [pdiv,if_neg hq0] at h;have E0:Ext w w:=Ext.refl w;refine J0 69 func254 rfl (rj fun K=>ag (ag (rm [0,1,4,5] K ?_)));refine rJ fun K=>K1 (zC hb34 (CallK.of_ret (zBZ hp) fun v11 w2 hE hT1 => ?_) rfl);have hsz1:=E0.size;replace E0:=E0.trans hE;replace hq:=hq.ext hE;clear hE;refine mv ?_;have hsz2:=E0.size;have hlt1:=hT1.poly;refine K1 (zC hb34 (CallK.of_ret (zBZ hq) fun v13 w3 hE hT2 => ?_) rfl);obtain ⟨rp,rc,rfl,hrc,hrP,hrl,hrb⟩:=hT1;obtain ⟨qp,qc,rfl,hqc,hqP,hql,hqb⟩:=hT2;obtain ⟨qb,rfl,hqb2⟩:=hqb hq0;have hqr:trim p≠[]→∃ rb,rp=some ⟨rb,0,none⟩∧w.heap.size≤rb∧rb≠qb:=fun h0=>by
  obtain ⟨rb,e1,e2⟩:=hrb h0;obtain ⟨a,a1,a2⟩:=hrP.lt h0;rw [e1] at a1;cases a1;exact ⟨rb,e1,Nat.le_trans hsz1 e2,by simp only at a2;omega⟩
 replace E0:=E0.trans hE;replace hrP:=hrP.ext hE;clear hE hlt1 hrb hq;refine ag (ag (rm [1,4,5] K ?_));refine rJ fun K=>K1 (zJ zAA rfl (mv (K1 (zJ zAA rfl (K1 (zH (v := .int .i64 (((trim p).length:Int)-((trim q).length:Int))) rfl rfl (congrArg (fun z=>some (Value.int .i64 z)) (zAG (by omega) (by omega))) (K1 (zH (v := .int .i64 (((trim p).length:Int)-((trim q).length:Int)+1)) rfl rfl (congrArg (fun z=>some (Value.int .i64 z)) (zAG (by omega) (by omega))) (K1 (zCj rfl rfl ?_))))))))));rw [show (if ((trim p).length:Int)-((trim q).length:Int)+1<(0:Int) then (0:Int) else ((trim p).length:Int)-((trim q).length:Int)+1)=((((trim p).length+1-(trim q).length):Nat):Int) from by split<;>omega];refine K1 (zAg zAV zDT rfl rfl rfl (by omega) (by omega) (by omega) fun zb w5 hb1 hE hB hs => ?_);have hzb:w.heap.size≤zb:=by rw [hb1];exact E0.size
 have hqz:qb≠zb:=by obtain ⟨a,a1,a2⟩:=hqP.lt hq0;cases a1;simp only at a2;omega
 have hrz:trim p≠[]→∃ rb,rp=some ⟨rb,0,none⟩∧w.heap.size≤rb∧rb≠qb∧rb≠zb:=fun h0=>by
  obtain ⟨rb,e1,e2,e3⟩:=hqr h0;obtain ⟨a,a1,a2⟩:=hrP.lt h0;rw [e1] at a1;cases a1;exact ⟨rb,e1,e2,e3,by simp only at a2;omega⟩
 replace E0:=E0.trans hE;replace hqP:=hqP.ext hE;replace hrP:=hrP.ext hE;clear hE hs hb1 hqr;rw [show ((((trim p).length+1-(trim q).length):Nat):Int).toNat=((trim p).length+1-(trim q).length) from by omega] at hB ⊢;have hZB:=PBlk.zeros hB;clear hB;refine ag (rm [1,4,5] K ?_);refine zA (zG (zo (X:=Nat) (fun f ρ w'=>∃ rp rc rest quo,Keep ρ [(1,.slice (some ⟨qb,0,none⟩) (trim q).length qc),(4,.slice (some ⟨zb,0,none⟩) ((trim p).length+1-(trim q).length) ((trim p).length+1-(trim q).length)),(5,.slice rp rest.length rc)]∧Ext w w'∧PRd w' (some ⟨qb,0,none⟩) (trim q)∧quo.length=((trim p).length+1-(trim q).length)∧PBlk w' zb quo∧PRd w' rp rest∧rest.length≤rc∧rest.length≤(trim p).length∧(rest≠[]→∃ rb,rp=some ⟨rb,0,none⟩∧w.heap.size≤rb∧rb≠qb∧rb≠zb)∧divL (trim q) f rest quo=some (qq,rr)) (fun f=>f) ((trim p).length+1) ⟨rp,rc,trim p,_,(kp rfl),E0,hqP,by simp,hZB,hrP,hrc,Nat.le_refl _,hrz,h⟩ ?_));clear E0 hqP hZB hrP hrc hrz h rp rc;rintro f ρ1 w1 ⟨rp,rc,rest,quo,hk,E0,hqP,hzl,hZB,hrP,hrc,hrl1,hrz,hA⟩;refine wpe_k _ hk ?_;clear hk ρ1;refine zA (zA ?_);rcases f with _ | f
 · cases hA
 unfold divL at hA;refine rI fun K=>K1 (zJ zAA rfl (mv (K1 (zJ zAA rfl (K8 rfl (rs [1,4,5,26] K ?_))))));refine K0 rfl ?_ ?_<;>intro hc
 · have hge:¬ rest.length<(trim q).length:=by have:=of_decide_eq_true hc;omega
   clear hc;rw [if_neg hge] at hA;obtain ⟨c,hc1,hA⟩:=bind_some hA;obtain ⟨hr1,hc2⟩:=zCC hc1;obtain ⟨R,hR,hA⟩:=bind_some hA;have hq1:0<(trim q).length:=List.length_pos_iff.2 hq0;have hr0:rest≠[]:=fun e=>by rw [e] at hge;simp only [List.length_nil] at hge;omega
   obtain ⟨rb,rfl,hrb1,hrb2,hrb3⟩:=hrz hr0;have hRB:=hrP.blk hr0;clear hrP hrz;refine sk (zG (rJ fun K=>K1 (j3 E0 hqP.ext hZB.ext hRB.ext hb259 (zKs (l:=rest) ⟨_,rc,rfl,hrc,hRB.rd,by omega⟩ hr0) fun v28 w6 E0 hqP hZB hRB N28=>mv (K1 (j4 E0 hqP.ext hZB.ext hRB.ext N28.ext hb259 (zKs (l:=trim q) ⟨_,qc,rfl,hqc,hqP,hql⟩ hq0) fun v30 w6 E0 hqP hZB hRB N28 N30=>K1 (zC hb311 (CallK.of_ret (zJl N28 N30 hr1) fun v31 w6 hE N31 => ?_) rfl))))));rw [← hc2] at N31;replace E0:=E0.trans hE;replace hqP:=hqP.ext hE;replace hZB:=hZB.ext hE;replace hRB:=hRB.ext hE;clear hE N28 N30;refine mv (K1 (zJ zAA rfl (mv (K1 (zJ zAA rfl (K1 (zAS (rest.length-(trim q).length) rfl rfl (by omega) (by omega) ?_)))))));refine K1 (zK zAP fun cb w7 hb hE hBc hs => ?_);have hgc:w.heap.size≤cb:=by rw [hb];exact E0.size
   have hcr:cb≠rb:=by have:=hRB.lt;omega
   have hcz:cb≠zb:=by have:=hZB.lt;omega
   have hcq:qb≠cb:=by obtain ⟨a,a1,a2⟩:=hqP.lt hq0;cases a1;simp only at a2;omega
   replace E0:=E0.trans hE;replace hqP:=hqP.ext hE;replace hZB:=hZB.ext hE;replace hRB:=hRB.ext hE;replace N31:=N31.ext hE;clear hE hb hs;refine K1 (zI rfl N31 (Cell3.of hBc rfl) fun _ w9 hU hNA => ?_);replace E0:=E0.upd hU hgc;replace hqP:=hqP.upd hU hBc (fun a ha _=>by cases ha;exact hcq);replace hZB:=hZB.upd hU hBc (Ne.symm hcz);replace hRB:=hRB.upd hU hBc (Ne.symm hcr);clear hU hBc N31;refine ag (rm [1,4,5,6,7] K ?_);refine rJ fun K=>mv (K1 (zL rfl hNA fun v39 N39=>K1 (zBH rfl rfl (by omega) (K1 (zBD (l:=quo) (k:=(rest.length-(trim q).length)) rfl rfl N39 hZB (by omega) fun _ w9 hU hZ2 => ?_)))));replace E0:=E0.upd hU hzb;obtain ⟨zcs,hzB,-⟩:=hZB;replace hqP:=hqP.upd hU hzB (fun a ha _=>by cases ha;exact hqz);replace hRB:=hRB.upd hU hzB hrb3;replace hNA:=hNA.upd hU hzB hcz;clear hU hzB zcs N39;have hZB:=hZ2;clear hZ2;refine rm [1,4,5,6,7] K ?_;refine zA (rJ fun K=>K1 (zJ zAA rfl (mv (rm [1,4,5,6,7,41,42,43] K ?_))))
   refine zG (zo (X:=Nat) (fun j ρ w'=>Keep ρ [(1,.slice (some ⟨qb,0,none⟩) (trim q).length qc),(4,.slice (some ⟨zb,0,none⟩) ((trim p).length+1-(trim q).length) ((trim p).length+1-(trim q).length)),(5,.slice (some ⟨rb,0,none⟩) rest.length rc),(6,.pointer (some ⟨cb,0,none⟩)),(7,.int .i64 ((rest.length-(trim q).length:Nat):Nat)),(41,.slice (some ⟨qb,0,none⟩) (trim q).length qc),(42,.int .i64 ((trim q).length:Nat)),(43,.int .i64 (j:Nat))]∧j≤(trim q).length∧Ext w w'∧PRd w' (some ⟨qb,0,none⟩) (trim q)∧PBlk w' zb (quo.set (rest.length-(trim q).length) c)∧NumAt cb c w'∧∃ O,O.length=rest.length∧PBlk w' rb O∧zMN c ((trim q).drop j) ((rest.length-(trim q).length)+j) O=some R) (fun j=>(trim q).length-j) 0 ⟨(kp rfl),Nat.zero_le _,E0,hqP,hZB,hNA,rest,rfl,hRB,hR⟩ ?_);clear E0 hqP hZB hNA hRB hR;rintro j ρ3 w3 ⟨hk,hjl,E0,hqP,hZB,hNA,O,hOl,hOB,hA2⟩;refine wpe_k _ hk ?_;clear hk ρ3;refine rj fun K=>K8 rfl (rm [1,4,5,6,7,41,42,43,44] K ?_);refine zA ?_;refine K0 rfl ?_ ?_<;>intro hc
   · have hjt:j<(trim q).length:=t_lt hc;clear hc;rw [zDh hjt] at hA2;unfold zMN at hA2;obtain ⟨m,hm,hA2⟩:=bind_some hA2;obtain ⟨s1,hs1,hA2⟩:=bind_some hA2;obtain ⟨hr2,rfl⟩:=zBn hm;obtain ⟨hr3,rfl⟩:=zKg hs1;refine sk (zA (zG (rJ fun K=>K1 (zAU (l:=trim q) hqP rfl rfl hjt (K1 (zAW hqP hjt rfl fun v33 N33 => ?_))))));refine K1 (zK zAP fun bc3 w7 hb hE hBc hs => ?_);have hgc3:w.heap.size≤bc3:=by rw [hb];exact E0.size
     have hd1:bc3≠rb:=by have:=hOB.lt;omega
     have hd2:cb≠bc3:=by have:=hNA.lt;omega
     have hd3:zb≠bc3:=by have:=hZB.lt;omega
     have hd4:qb≠bc3:=by obtain ⟨a,a1,a2⟩:=hqP.lt hq0;cases a1;simp only at a2;omega
     replace E0:=E0.trans hE;replace N33:=N33.ext hE;replace hOB:=hOB.ext hE;replace hNA:=hNA.ext hE;replace hZB:=hZB.ext hE;replace hqP:=hqP.ext hE;clear hE hb hs;refine ag (K1 (zI rfl N33 (Cell3.of hBc rfl) fun _ w9 hU hNB => ?_));replace E0:=E0.upd hU hgc3;replace hOB:=hOB.upd hU hBc (Ne.symm hd1);replace hNA:=hNA.upd hU hBc hd2;replace hZB:=hZB.upd hU hBc hd3;replace hqP:=hqP.upd hU hBc (fun a ha _=>by cases ha;exact hd4);clear hU hBc N33;refine rm [1,4,5,6,7,8,9,41,42,43] K ?_;have hnw:NoW [rb] _:=noWP hOB
     refine zDN [⟨15,rb,fun w=>PBlk w rb (O),fun w=>PBlk w rb (O.set ((rest.length-(trim q).length)+j) (O.getD ((rest.length-(trim q).length)+j) 0-c*(trim q).getD j 0))⟩] [([(5,none)],none),([(7,none)],none),([(8,none)],none),([(49,some 1),(50,some 0)],none),([(5,none)],none),([(7,none)],none),([(8,none)],none),([(53,some 1),(54,some 0)],none),([(52,some 3),(55,some 0)],none),([(56,some 0)],none),([(6,none)],none),([(9,none)],none),([(58,some 1),(59,some 0)],none),([(57,some 3),(60,some 0)],none),([(48,some 13),(51,some 10)],none),([(62,some 0),(61,some 1)],none)] mixed (by kernel_rfl) (by kernel_rfl) (by kernel_rfl) (by simp) (by kernel_rfl) (by kernel_rfl) (all1 (zHN hOB)) fun K hK=>dbv rfl (fun σ wx hE hp hk=>zF ⟨Ext.refl _,hk.1⟩) (dbv rfl (fun σ wx hE hp hk=>zF ⟨Ext.refl _,hk.1⟩) (dbv rfl (fun σ wx hE hp hk=>zF ⟨Ext.refl _,hk.1⟩) (dbv rfl (fun σ wx hE hp hk=>zy ((rest.length-(trim q).length)+j) hk.1 hk.2.1 rfl (by omega) ⟨Ext.refl _,rfl⟩) (dbv rfl (fun σ wx hE hp hk=>zF ⟨Ext.refl _,hk.1⟩) (dbv rfl (fun σ wx hE hp hk=>zF ⟨Ext.refl _,hk.1⟩) (dbv rfl (fun σ wx hE hp hk=>zF ⟨Ext.refl _,hk.1⟩) (dbv rfl (fun σ wx hE hp hk=>zy ((rest.length-(trim q).length)+j) hk.1 hk.2.1 rfl (by omega) ⟨Ext.refl _,rfl⟩) (dbv rfl (fun σ wx hE hp hk=>zBH hk.1 hk.2.1 (by omega) ⟨Ext.refl _,rfl⟩) ?_))))))))
     refine dbn (fun v w'=>IsNum w' v (O.getD ((rest.length-(trim q).length)+j) 0)) rfl (fun _ _ _ h1 hx h=>h.extS hx (hnw.ext h1)) (fun σ wx hE hp hk=>zCs hk.1 rfl (hp _ (List.mem_singleton.2 rfl) (by show _<(15:Nat);decide)) (by omega) fun v h=>⟨Ext.refl _,h⟩) ?_;refine dbn (fun v w'=>IsNum w' v c) rfl (fun _ _ _ h1 hx h=>h.extS hx (hnw.ext h1)) (fun σ wx hE hp hk=>zL hk.1 (hNA.extS hE (nin1 hcr) hnw) fun v h=>⟨Ext.refl _,h⟩) (dbn (fun v w'=>IsNum w' v ((trim q).getD j 0)) rfl (fun _ _ _ h1 hx h=>h.extS hx (hnw.ext h1)) (fun σ wx hE hp hk=>zL hk.1 (hNB.extS hE (nin1 hd1) hnw) fun v h=>⟨Ext.refl _,h⟩) (dbn (fun v w'=>IsNum w' v (c*(trim q).getD j 0)) rfl (fun _ _ _ h1 hx h=>h.extS hx (hnw.ext h1)) (fun σ wx hE hp hk=>zC hb101 (CallK.of_ret (zCz hk.1 hk.2.1 hr2) fun v w2 hX hr=>⟨hX,hr⟩) rfl) (dbn (fun v w'=>IsNum w' v (O.getD ((rest.length-(trim q).length)+j) 0-c*(trim q).getD j 0)) rfl (fun _ _ _ h1 hx h=>h.extS hx (hnw.ext h1)) (fun σ wx hE hp hk=>zC hb237 (CallK.of_ret (zNh hk.1 hk.2.1 hr3) fun v w2 hX hr=>⟨hX,hr⟩) rfl) (dbv rfl (fun σ wx hE hp hk=>zBH hk.1 hk.2.1 (by omega) ⟨Ext.refl _,rfl⟩) (dbs _ rfl (fun σ wx hE hpre hk=>zBD hk.1 rfl hk.2.1 hpre (by omega) fun v w2 hU hN=>⟨hU,hN⟩) (zKK (hK _ fun wq hS hP => ?_)))))));rintro _ rfl _ rfl _ rfl _ rfl _ rfl _ rfl _ rfl _ rfl _ rfl v57 N57 v58 N58 v59 N59 v60 N60 v61 N61 _ rfl _ _
     refine zU ?_;obtain ⟨hN4,-⟩:=hP;replace E0:=E0.updS hS hrb1;replace hNA:=hNA.extS hS (nin1 hcr) hnw;replace hqP:=hqP.extS hS (fun a ha _=>by cases ha;exact nin1 (Ne.symm hrb2)) hnw;replace hZB:=hZB.extS hS (nin1 (Ne.symm hrb3)) hnw;clear hOB hS;have hOB:=hN4;clear hN4;refine zT (zN (K5 [1,4,5,6,7,41,42,43] ?_));refine K6 fun K=>K8 rfl (mv (rl K (zV ?_)));exact ⟨rfl,j+1,⟨⟨rfl,rfl,rfl,rfl,rfl,rfl,rfl,rfl,rfl,rfl,rfl,rfl,rfl,rfl,rfl,congrArg (Value.int .i64) (zAD (by omega)),trivial⟩,by omega,E0,hqP,hZB,hNA,_,by simp [hOl],hOB,by rw [← Nat.add_assoc];exact hA2⟩,by omega⟩
   · have hgj:=f_lt hc;obtain rfl:j=(trim q).length:=by omega
     clear hc;rw [List.drop_length] at hA2;obtain rfl:O=R:=Option.some.inj hA2;refine zi (zAE (zv (zP (zN (K6 fun K=>mv ?_)))));have hsz:=E0.size;have hbb:qb<_∧zb<_:=⟨by obtain ⟨a,a1,a2⟩:=hqP.lt hq0;cases a1;exact a2,hZB.lt⟩;refine K1 (zC hb34 (CallK.of_ret (zBZ (l:=O) ⟨some ⟨rb,0,none⟩,rc,by rw [hOl];rfl,by omega,hOB.rd,by omega⟩) fun v9 w9 hE hr => ?_) rfl);obtain ⟨np,nc,rfl,hnc,hnP,hnl,hnb0⟩:=hr;have hnb:trim O≠[]→∃ b,np=some ⟨b,0,none⟩∧w.heap.size≤b∧b≠qb∧b≠zb:=fun h0=>by
      obtain ⟨b,e1,e2⟩:=hnb0 h0;exact ⟨b,e1,by omega,by omega,by omega⟩
     replace E0:=E0.trans hE;replace hqP:=hqP.ext hE;replace hZB:=hZB.ext hE;clear hE hnb0;exact ag (rl K (zT (zV (⟨rfl,f,⟨np,nc,trim O,quo.set (rest.length-(trim q).length) c,(kp rfl),E0,hqP,by simp [hzl],hZB,hnP,hnc,Nat.le_trans (zBp O) (by omega),hnb,hA⟩,by omega⟩))))
 · have hlt:rest.length<(trim q).length:=by have:=of_decide_eq_false hc;omega
   clear hc;rw [if_pos hlt] at hA;cases hA;refine zi (zAE (zv (zP (zN (rj fun K=>mv ?_)))));have hsz:=E0.size;refine K1 (j1 E0 hrP.ext hb34 (zBZ (l:=quo) ⟨some ⟨zb,0,none⟩,_,by rw [hzl];rfl,by omega,hZB.rd,by omega⟩) fun v9 w9 E0 hrP hr => ?_);refine mv (ag (ag (rm [1,4,5] K ?_)));refine zE (zQ ?_);exact ⟨rfl,_,zn rfl rfl rfl,E0,_,_,rfl,hr.sz hsz,rp,rc,rfl,hrc,hrP,by omega,fun h0=>let ⟨b,e1,e2,_⟩:=hrz h0;⟨b,e1,e2⟩⟩
theorem zED {p q s:List Rat} (hp:zM w u p) (hq:zM w v q) (h:zHB p q=some s):Ret prog 170 #[u,v] w (fun r w'=>IsOwn w.heap.size w' r s):=by
 obtain ⟨⟨s',t⟩,h1,he⟩:=map_some h;simp only at he;subst he;refine J0 14 func170 rfl (rj fun K=>ag (rm [0,1] K ?_));refine rJ fun K=>mv (K1 (zC hb254 (CallK.of_ret (zGY hp hq h1) fun v10 w10 hE hr => ?_) rfl));obtain ⟨a,b,rfl,hr1,-⟩:=hr;replace E0:=E0.trans hE;clear hE;refine mv (xt rfl (xt rfl (ag (ag (rm [5] K ?_)))));refine rJ fun K=>ag (rm [4] K ?_);exact zE (en rfl E0 hr1)
theorem zEi {p q s:List Rat} (hp:zM w u p) (hq:zM w v q) (h:zIi p q=some s):Ret prog 168 #[u,v] w (fun r w'=>IsOwn w.heap.size w' r s):=by
 obtain ⟨p1,h1,h⟩:=bind_some h;obtain ⟨q1,h2,h3⟩:=bind_some h;have E0:Ext w w:=Ext.refl w;refine J0 24 func168 rfl (rj fun K=>ag (rm [0,1] K ?_));refine rJ fun K=>K1 (zC hb253 (CallK.of_ret (zHI hp h1) fun v8 w2 hE hP1 => ?_) rfl);have hsz:=E0.size;replace E0:=E0.trans hE;replace hq:=hq.ext hE;clear hE;refine mv (K1 (zC hb253 (CallK.of_ret (zHI hq h2) fun v10 w3 hE hP2 => ?_) rfl));replace hP2:=hP2.sz E0.size;replace E0:=E0.trans hE;replace hP1:=hP1.ext hE;clear hE;refine ag (ag (rm [0,1] K ?_));refine zA (zG (zo (X:=Nat) (fun f ρ w'=>∃ v0 v1 P Q,Keep ρ [(0,v0),(1,v1)]∧Ext w w'∧IsOwn w.heap.size w' v0 P∧IsOwn w.heap.size w' v1 Q∧zJc f P Q=some s) (fun f=>f) (q1.length+1) ⟨_,_,p1,q1,(kp rfl),E0,hP1.sz hsz,hP2,h3⟩ ?_));clear E0 hP1 hP2 h3;rintro f ρ1 w1 ⟨v0,v1,P,Q,hk,E0,hP,hQ,hA⟩;have hQ0:=hQ;obtain ⟨qp,qc,rfl,-,-,-,-⟩:=hQ0;refine wpe_k _ hk ?_;clear hk ρ1;refine zA (zA ?_);rcases f with _ | f
 · cases hA
 unfold zJc at hA;refine rI fun K=>K1 (zJ zAA rfl (K8 rfl (rs [0,1,13] K ?_)));refine K0 rfl ?_ ?_<;>intro hc
 · have h0:Q≠[]:=fun e=>by rw [e] at hc;cases hc
   clear hc;rw [if_neg h0] at hA;obtain ⟨⟨dq,dr⟩,hd,hA⟩:=bind_some hA;obtain ⟨m,hm,hA⟩:=bind_some hA;refine sk (zG (rJ fun K=>mv (K1 (zC hb254 (CallK.of_ret (zGY hP.poly hQ.poly hd) fun v17 w10 hE hr => ?_) rfl))));obtain ⟨a,b,rfl,-,hr1⟩:=hr;replace E0:=E0.trans hE;replace hQ:=hQ.ext hE;clear hE;refine mv (xt rfl (xt rfl (ag (ag (rm [1,6] K ?_)))));refine rI fun K=>mv (K1 (zC hb253 (CallK.of_ret (zHI hr1.poly hm) fun v22 w11 hE hM => ?_) rfl));have hsz3:=E0.size;replace E0:=E0.trans hE;replace hQ:=hQ.ext hE;clear hE;exact ag (ag (rl K (zT (zV (⟨rfl,f,⟨_,_,Q,m,(kp rfl),E0,hQ,hM.sz hsz3,hA⟩,by omega⟩)))))
 · have h0:Q=[]:=List.eq_nil_of_length_eq_zero (by have:=of_decide_eq_false hc;omega);clear hc;rw [if_pos h0] at hA;cases hA;refine zi (zAE (zv (zP (zN (rJ fun K=>ag (rm [1,4] K ?_))))));exact zE (en rfl E0 hP)
variable {K':Value→World→Prop} {args:Array Value} {bx i:Nat} {p:Option Addr}
theorem zBQ:Plain prog 25:=by unfold Plain;exact ⟨by kernel_rfl,by kernel_rfl⟩
theorem numStOkB (hB:NumAt b q w0) :
 (⟨i,b,NumAt b q,NumAt b q'⟩:StoreSpec).blk<w0.heap.size∧(⟨i,b,NumAt b q,NumAt b q'⟩:StoreSpec).pre w0∧∀ w w',ExtS [b] w0 w→ExtS [b] w w'→w'.heap[(⟨i,b,NumAt b q,NumAt b q'⟩:StoreSpec).blk]? = w.heap[(⟨i,b,NumAt b q,NumAt b q'⟩:StoreSpec).blk]? →
  ((⟨i,b,NumAt b q,NumAt b q'⟩:StoreSpec).pre w→(⟨i,b,NumAt b q,NumAt b q'⟩:StoreSpec).pre w')∧((⟨i,b,NumAt b q,NumAt b q'⟩:StoreSpec).post w→(⟨i,b,NumAt b q,NumAt b q'⟩:StoreSpec).post w'):=by
 have key:∀ (w w':World) (z:Rat),ExtS [b] w w'→w'.heap[b]? = w.heap[b]?→NumAt b z w→NumAt b z w':=fun w w' z hx he h=>by
  obtain ⟨cs,h1,h2,h3⟩:=h;exact ⟨cs,by show w'.heap[b]? = _;rw [he];exact h1,h2,h3.extS hx (noW1 h1 (by decide))⟩
 exact ⟨hB.lt,hB,fun w w' _ hx he=>⟨key w w' q hx he,key w w' q' hx he⟩⟩
theorem NumAt.cell (h:NumAt b q w):Cell3 b w:=by obtain ⟨cs,h1,h2,_⟩:=h;exact ⟨cs,h1,h2⟩
theorem NumAt.now (h:NumAt b q w):NoW [b] w:=by obtain ⟨cs,h1,h2,_⟩:=h;exact noW1 h1 (by decide)
def encB (p:List Rat) (i:Nat) (args:Array Value) (w:World):Prop:=∃ v,args = #[.int .i64 ((p.length-1-i:Nat):Int),v]∧IsNum w v (p.getD (p.length-1-i) 0)
theorem CallK.conv {l:Nat} {K:Value→World→Prop} (h:zGp P l args w K) (hk:∀ v w',K v w'→K' v w'):zGp P l args w K':=by
 obtain ⟨fn,tmps,assign,body,h1,h2⟩:=h;exact ⟨fn,tmps,assign,body,h1,h2.mono fun e w' ⟨v,he,hv⟩=>⟨v,he,hk v w' hv⟩⟩
theorem zGq {Kp:World→World→Prop} {pc:Nat} {pp:Option Addr} {p:List Rat} (hl:p.length≤4096) (l:Nat) (J:Nat→World→Prop) (hJr:∀ i w1,J i w1→Blk w1 bx 25 [.slice pp p.length pc]∧PRd w1 pp p) (hy:∀ i,i<p.length→∀ args w1,J i w1→encB p i args w1→zGp prog l args w1 (fun u w2=>u = .bool true∧J (i+1) w2∧Kp w1 w2)) (w:World) (h0:J 0 w):CallK prog 213 #[.func (.yield l) #[] #[],.pointer (some ⟨bx,0,none⟩)] w (fun _ w2=>J p.length w2):=by
 refine zBj 19 func213 rfl rfl (Nat.le_of_ble_eq_true rfl) (zA ?_);obtain ⟨hBx,hPx⟩:=hJr _ _ h0;refine K6 fun K=>K1 (zD zBQ rfl hBx rfl (K1 (zJ zAA rfl (K1 (zH (v := .int .i64 (((p.length:Nat):Int)-1)) rfl rfl (congrArg (fun z=>some (Value.int .i64 z)) (zAG (by omega) (by omega))) (ag (rs [0,1,3] K ?_)))))));refine zG ?_;clear hBx hPx;refine zo (X:=Nat) (fun k ρ w'=>Keep ρ [(0,.func (.yield l) #[] #[]),(1,.pointer (some ⟨bx,0,none⟩)),(3,.int .i64 (((k:Nat):Int)-1))]∧k≤p.length∧J (p.length-k) w') (fun k=>k) p.length ⟨(kp rfl),Nat.le_refl _,by rw [Nat.sub_self];exact h0⟩ ?_;clear h0;rintro k ρ1 w1 ⟨hk,hkl,hJ⟩;refine wpe_k _ hk ?_;clear hk ρ1;refine zA (zA ?_);rcases k with _ | j
 · skip
   refine rI fun K=>K8 rfl (rs [0,1,3,8] K ?_);exact wcf (congrArg Value.bool (decide_eq_false (by omega))) (zi (zAE (zv (zP (zGw ⟨rfl,_,zBd rfl,by simpa using hJ⟩)))))
 · obtain ⟨hBx,hPx⟩:=hJr _ _ hJ;have hw1:((j+1:Nat):Int)-1=(j:Int):=by omega
   have hw2:IntKind.i64.wrap (((j+1:Nat):Int)-1-1)=(j:Int)-1:=by rw [zAG (by omega) (by omega)];omega
   refine rI fun K=>K8 rfl (rs [0,1,3,8] K ?_);refine wct (congrArg Value.bool (decide_eq_true (by omega))) (sk (zA (zG (rJ fun K=>mv (K1 (zD zBQ rfl hBx rfl (mv (K1 (zAU (l:=p) (ix:=j) hPx rfl (congrArg (Value.int .i64) hw1) (by omega) (K1 (zAW hPx (i:=j) (by omega) rfl fun v16 N16=>K1 (zGm rfl ?_))))))))))));refine CallK.conv (hy (p.length-(j+1)) (by omega) #[.int .i64 (((j+1:Nat):Int)-1),v16] _ hJ ⟨v16,by rw [hw1,show p.length-1-(p.length-(j+1))=j from by omega],by rw [show p.length-1-(p.length-(j+1))=j from by omega];exact N16⟩) ?_;rintro _ w3 ⟨rfl,hJ2,-⟩;rw [show p.length-(j+1)+1=p.length-j from by omega] at hJ2;clear hJ hBx hPx N16;refine K1 (zAF rfl (rm [0,1,3,18] K ?_));exact wcf rfl (zz (zT (zN (rI fun K=>K8 rfl (ag (rl K (zV (⟨rfl,j,⟨⟨rfl,rfl,rfl,rfl,rfl,congrArg (Value.int .i64) hw2,trivial⟩,by omega,hJ2⟩,by omega⟩))))))))
theorem zHU:Ret prog 119 #[.slice p n c] w (fun r w'=>∃ bx,r = .func (.func 213) #[] #[.pointer (some ⟨bx,0,none⟩)]∧Blk w' bx 25 [.slice p n c]∧w.heap.size≤bx):=by
 refine J0 4 func119 rfl (rj fun K => ?_);refine K1 (zk fun b1 w1 hb hE hB1 hs => ?_);have hgb1:w.heap.size≤b1:=by rw [hb];exact E0.size
 replace E0:=E0.trans hE;clear hE hs hb;refine ag (rm [1] K ?_);refine rj fun K=>K1 (zBL (ag (rm [2] K ?_)));exact zE (en rfl E0 ⟨b1,rfl,hB1,hgb1⟩)
theorem zBy {p:List Rat} {x y:Rat} (hp:zM w u p) (hx:IsNum w v x) (h:peval p x=some y):Ret prog 176 #[u,v] w (fun r w'=>IsNum w' r y):=by
 obtain ⟨pp,pc,rfl,hpc,hpP,hpl⟩:=hp;unfold peval at h;have hx0:=hx;obtain ⟨xn,xd,rfl,hxn,hxd⟩:=hx0;have E0:Ext w w:=Ext.refl w;refine zFb 18 func176 rfl rfl (Nat.le_of_ble_eq_true rfl) (rj fun K => ?_);refine K1 (zk fun b1 w1 hb hE hB1 hs => ?_);have hgb1:w.heap.size≤b1:=by rw [hb];exact E0.size
 replace E0:=E0.trans hE;replace hx:=hx.ext hE;clear hE hs hb;refine K1 (zK zAP fun b2 w2 hb hE hB2 hs => ?_);have hgb2:w.heap.size≤b2:=by rw [hb];exact E0.size
 have ne_b1_b2:b1≠b2:=by have:=hB1.lt;omega
 replace E0:=E0.trans hE;replace hx:=hx.ext hE;replace hB1:=hB1.ext hE;clear hE hs hb;refine rm [0,3,4] K ?_;refine rj fun K => ?_;refine K1 (zK zAP fun b3 w3 hb hE hB3 hs => ?_);have hgb3:w.heap.size≤b3:=by rw [hb];exact E0.size
 have ne_b1_b3:b1≠b3:=by have:=hB1.lt;omega
 have ne_b2_b3:b2≠b3:=by have:=hB2.lt;omega
 replace E0:=E0.trans hE;replace hx:=hx.ext hE;replace hB1:=hB1.ext hE;replace hB2:=hB2.ext hE;clear hE hs hb;refine rm [0,3,4,5] K ?_;refine zA (rJ fun K=>K1 (zC hb119 (CallK.of_ret zHU fun v9 w9 hE hr => ?_) rfl));obtain ⟨bx,rfl,hBx,hgx⟩:=hr;have hx3:bx≠b3:=by have:=hB3.lt;omega
 replace E0:=E0.trans hE;replace hB1:=hB1.ext hE;replace hB2:=hB2.ext hE;replace hB3:=hB3.ext hE;replace hx:=hx.ext hE;clear hE;refine rm [3,4,5,9] K ?_;refine zG ?_;have hNX:NumAt b1 x _:=⟨_,hB1,rfl,hx⟩;have hN3:NumAt b3 0 _:=⟨_,hB3,rfl,IsNum.zero⟩;have hl1:w.heap.size≤_:=E0.size
 refine zIZ rfl rfl hb213 (by decide) (fun i w'=>Ext w w'∧NumAt b1 x w'∧Blk w' b2 37 [Value.bool false,Value.slice none 0 0,Value.slice none 0 0]∧Blk w' bx 25 [.slice pp p.length pc]∧∃ acc,NumAt b3 acc w'∧evalL x (p.take (p.length-i)).reverse acc=some y) (fun _ _=>True) p.length (encB p)
  (fun i args w1 h=>by obtain ⟨v,e,_⟩:=h;rw [e];rfl)
  (fun w1 hE=>⟨E0.trans hE,hNX.ext hE,hB2.ext hE,hBx.ext hE,0,hN3.ext hE,by rw [Nat.sub_zero,List.take_length];exact h⟩)
  (fun i w1 w2 hI hE=>by obtain ⟨g1,g2,g3,g4,acc,g5,g6⟩:=hI;exact ⟨g1.trans hE,g2.ext hE,g3.ext hE,g4.ext hE,acc,g5.ext hE,g6⟩)
  (fun i l w1 w2 hl hI hO=>by obtain ⟨g1,g2,g3,g4,acc,g5,g6⟩:=hI;exact ⟨g1.oth hO (by omega),g2.le hO.le,g3.oth hO,g4.oth hO,acc,g5.le hO.le,g6⟩)
  (fun l J hJe hJi hy w1 _ h0=>zGq hpl l J (fun i w2 hJ=>by obtain ⟨g1,g2,g3,g4,_⟩:=hJi i w2 hJ;exact ⟨g4,hpP.ext g1⟩) hy w1 h0)
  ?_ ?_
 clear E0 hB1 hB2 hB3 hBx hx hNX hN3 h
 · rintro l i args w1 hl hi ⟨E0,hNX,hB2,hBx,acc,hN3,hA⟩ ⟨c,rfl,N11⟩;obtain ⟨m,hm⟩:∃ m,p.length-i=m+1:=⟨p.length-i-1,by omega⟩;rw [show p.length-1-i=m from by omega] at N11 ⊢;rw [hm,zEV (by omega),List.reverse_append] at hA;unfold evalL at hA;obtain ⟨t1,ht1,hA⟩:=bind_some hA;obtain ⟨t2,ht2,hA⟩:=bind_some hA;obtain ⟨hr1,rfl⟩:=zBn ht1;obtain ⟨hr2,rfl⟩:=zDo ht2;refine wpe_k [(3,.pointer (some ⟨b1,0,none⟩)),(5,.pointer (some ⟨b3,0,none⟩)),(11,c)] (kp rfl) ?_;have hw1:=E0.size;refine K6 fun K => ?_;refine K1 (zK zAP fun bc2 w7 hb hE hBc hs => ?_);have hgc:w.heap.size≤bc2:=by rw [hb];exact hw1
   have hd3:bc2≠b3:=by have:=hN3.lt;omega
   have hd1:b1≠bc2:=by have:=hNX.lt;omega
   have hd2:b2≠bc2:=by have:=hB2.lt;omega
   have hd4:bx≠bc2:=by have:=hBx.lt;omega
   have hNC:=NC.ext hE;replace E0:=E0.trans hE;replace N11:=N11.ext hE;replace hNX:=hNX.ext hE;replace hB2:=hB2.ext hE;replace hBx:=hBx.ext hE;replace hN3:=hN3.ext hE;clear hE hb hs;refine K1 (zI rfl N11 (Cell3.of hBc rfl) fun _ w9 hU hNA => ?_);replace hNC:=hNC.trans (NC.upd hU hBc);replace E0:=E0.upd hU hgc;replace hNX:=hNX.upd hU hBc hd1;replace hB2:=hB2.upd hU hd2;replace hBx:=hBx.upd hU hd4;replace hN3:=hN3.upd hU hBc (Ne.symm hd3);clear hU hBc N11;refine rl K ⟨rfl,rfl,hNC,fun w5 hO => ?_⟩;replace E0:=E0.oth hO (by omega);replace hNX:=hNX.le hO.le;replace hB2:=hB2.oth hO;replace hBx:=hBx.oth hO;replace hN3:=hN3.le hO.le;replace hNA:=hNA.le hO.le;clear hO hNC;refine zG ?_;have hnw:NoW [b3] _:=hN3.now;have hN3c:=hN3;obtain ⟨cs3,hb3',-,-⟩:=hN3c;refine zDN [⟨5,b3,NumAt b3 acc,NumAt b3 (acc*x+p.getD m 0)⟩] [([(5,none)],none),([(3,none)],none),([(12,some 1),(13,some 0)],none),([(7,none)],none),([(14,some 1),(15,some 0)],none),([(5,none),(16,some 0)],none)] mixed (by kernel_rfl) (by kernel_rfl) (by kernel_rfl) (by simp) (by kernel_rfl) (by kernel_rfl) (all1 (numStOkB hN3)) fun K hK => ?_;refine dbn (fun v w'=>IsNum w' v acc) rfl (fun _ _ _ h1 hx h=>h.extS hx (hnw.ext h1)) (fun σ wx hE hp hk=>zL hk.1 (hp _ (List.mem_singleton.2 rfl) (by show _<(5:Nat);decide)) fun v h=>⟨Ext.refl _,h⟩) ?_
   refine dbn (fun v w'=>IsNum w' v x) rfl (fun _ _ _ h1 hx h=>h.extS hx (hnw.ext h1)) (fun σ wx hE hp hk=>zL hk.1 (hNX.extS hE (nin1 ne_b1_b3) hnw) fun v h=>⟨Ext.refl _,h⟩) (dbn (fun v w'=>IsNum w' v (acc*x)) rfl (fun _ _ _ h1 hx h=>h.extS hx (hnw.ext h1)) (fun σ wx hE hp hk=>zC hb101 (CallK.of_ret (zCz hk.1 hk.2.1 hr1) fun v w2 hX hr=>⟨hX,hr⟩) rfl) (dbn (fun v w'=>IsNum w' v (p.getD m 0)) rfl (fun _ _ _ h1 hx h=>h.extS hx (hnw.ext h1)) (fun σ wx hE hp hk=>zL hk.1 (hNA.extS hE (nin1 hd3) hnw) fun v h=>⟨Ext.refl _,h⟩) (dbn (fun v w'=>IsNum w' v (acc*x+p.getD m 0)) rfl (fun _ _ _ h1 hx h=>h.extS hx (hnw.ext h1)) (fun σ wx hE hp hk=>zC hb146 (CallK.of_ret (zFL hk.1 hk.2.1 hr2) fun v w2 hX hr=>⟨hX,hr⟩) rfl) (dbs _ rfl (fun σ wx hE hpre hk=>zAx hk.1 hk.2.1 hpre.cell) (zKK (hK _ fun wq hS hP => ?_))))));rintro v12 N12 v13 N13 v14 N14 v15 N15 v16 N16 _ _;refine zU ?_;obtain ⟨hN4,-⟩:=hP;replace E0:=E0.updS hS hgb3;replace hNX:=hNX.extS hS (nin1 ne_b1_b3) hnw;replace hB2:=hB2.extS hS (nin1 ne_b2_b3);replace hBx:=hBx.extS hS (nin1 hx3);refine zT ?_;refine ⟨rfl,NC.extS hS hb3',fun w8 hO=>⟨⟨E0.oth hO (by omega),hNX.le hO.le,hB2.oth hO,hBx.oth hO,_,hN4.le hO.le,by rw [show p.length-(i+1)=m from by omega];exact hA⟩,trivial⟩⟩
 · rintro D w2 hD ⟨E0,hNX,hB2,hBx,acc,hN3,hA⟩ hDf;rw [Nat.sub_self] at hA;obtain rfl:acc=y:=Option.some.inj hA;refine zT (zN (rj fun K=>K1 (zL rfl hN3 fun v17 N17=>K1 (zI rfl N17 (Cell3.of hB2 rfl) fun _ w9 hU hN => ?_))));replace hDf:=NC.upd hU hB2 _ _ hDf rfl;replace E0:=E0.upd hU hgb2;obtain ⟨cs,hB4,hl4,hN4⟩:=hN;refine rm [4] K ?_;exact zE (zQ (⟨D,_,rfl,hDf,fun w2 hO=>⟨zx rfl rfl rfl zAB (hB4.oth hO) hl4,E0.oth hO (by omega),hN4.le hO.le⟩⟩))
variable {it:Nat} {w1 w2:World}
def KpM (w1 w2:World):Prop:=(∀ (k:Nat) (o:Obj),w1.heap[k]? = some o→o.isCells=false→(∀ lo,o≠.loop lo)→w2.heap[k]? = some o)∧∀ b T cs,T≠303→T≠398→Blk w1 b T cs→Blk w2 b T cs
theorem KpM.num (h:KpM w1 w2) (hx:IsNum w1 v q):IsNum w2 v q:=by
 have hrd:∀ {p ds},Rd w1 p ds→Rd w2 p ds:=fun h1 i hi=>by
  obtain ⟨b,o,cs,e1,e2,e3⟩:=h1 i hi;exact ⟨b,o,cs,e1,h.2 _ _ _ (by decide) (by decide) e2,e3⟩
 obtain ⟨n,d,hv,⟨p,ds,cap,a1,a2,a3,a4,a5⟩,⟨p',ds',cap',b1,b2,b3,b4,b5⟩⟩:=hx;exact ⟨n,d,hv,⟨p,ds,cap,a1,a2,hrd a3,a4,a5⟩,⟨p',ds',cap',b1,b2,hrd b3,b4,b5⟩⟩
theorem KpM.iter (h:KpM w1 w2) {done:List (List Nat)} (hi:zCo w1 it b m done):zCo w2 it b m done:=by
 obtain ⟨es,c,ds,h1,h2,h3,h4,h5,h6,h7⟩:=hi;exact ⟨es,c,ds,h.1 _ _ h1 rfl (by simp),h2.mono fun _ _ k=>h.num k,h3,h4,h5,h.1 _ _ h6 rfl (by simp),h7⟩
def stepK (m:List (List Nat×Rat)) (x x':List (List Nat)) (args:Array Value) (_:World):Prop:=∃ k,args = #[pk k]∧k∈m.map (·.1)∧k ∉ x∧x'=x++[k]
def finK (m:List (List Nat×Rat)) (x:List (List Nat)):Prop:=∀ k,k∈m.map (·.1)→k∈x
theorem splice8:∀ {cs vs:List Value},cs.length=8→vs.length=8→zAy cs 0 vs=vs
 | [_,_,_,_,_,_,_,_],[_,_,_,_,_,_,_,_],_,_=>rfl
theorem plain299:Plain prog 299:=by unfold Plain;exact ⟨by kernel_rfl,by kernel_rfl⟩
theorem zCo.at {done:List (List Nat)} (h:zCo w it b m done):∃ c s,w.heap[it]? = some (.mapIter (some b) c s c):=by
 obtain ⟨es,c,ds,_,_,_,_,_,h6,_⟩:=h;exact ⟨c,_,h6⟩
theorem size303:(prog.info? 303).map (·.size)=some 8:=by kernel_rfl
theorem zKA:(prog.info? 303).bind (·.zero)=some (pk [0,0,0,0,0,0,0,0]):=by kernel_rfl
section
variable {K:Value→World→Prop} {d:Option Tmp}
theorem zFe {k k0:List Nat} (hx:σ x = .pointer (some ⟨b,0,none⟩)) (hy:σ y=pk k) (hk:Pw k) (hB:Blk w b 303 (pk k0).cells.toList) (hk0:Pw k0) (hK:∀ w',Upd b w w'→Blk w' b 303 (pk k).cells.toList→K undef w') :
 Runs prog r ⟨d,.store 303 x y,ty,pos,af,g⟩ σ w K:=by
 have hl:(pk k).cells.toList.length=8:=by rw [zCF,List.length_map,hk.1]
 have hl0:(pk k0).cells.toList.length=8:=by rw [zCF,List.length_map,hk0.1]
 refine zZ size303 hx hB (by rw [hy];simpa using hl) (by rw [hl0];exact Nat.le_refl _) (by decide) (by rw [hy,zCF];simp [zBl]) fun w' hU hN=>hK w' hU ?_;rw [hy] at hN;have hs:=splice8 hl0 hl;rwa [hs] at hN
end
theorem zKa:∀ (l m:List Nat),l.Nodup→(∀ x∈l,x∈m)→l.length≤m.length
 | [],_,_,_=>Nat.zero_le _
 | a :: l,m,hn,hs=>by
  rw [List.nodup_cons] at hn;have ha:=hs a List.mem_cons_self;have h1:=zKa l (m.erase a) hn.2 fun x hx=>(List.mem_erase_of_ne (fun e=>hn.1 (by subst e;exact hx))).2 (hs x (List.mem_cons_of_mem _ hx));rw [List.length_erase_of_mem ha] at h1;have:=List.length_pos_of_mem ha;rw [List.length_cons];omega
theorem iter_len {x:List (List Nat)} (h:zCo w it b m x):x.length≤m.length:=by
 obtain ⟨es,c,ds,h1,h2,h3,h4,h5,h6,h7,h8,h9⟩:=h;have e1:=congrArg List.length h8;rw [List.length_map,List.length_map] at e1;have e2:=h2.len;have e3:(ds.map (·.born)).length≤(es.map (·.born)).length:=zKa _ _ h9 fun y hy=>by
  obtain ⟨e,he,rfl⟩:=List.mem_map.1 hy;exact List.mem_map.2 ⟨e,h7 e he,rfl⟩
 rw [List.length_map,List.length_map] at e3;omega
theorem keys1_ok {base:Nat} (l:Nat) (J:List (List Nat)→World→Prop) (hJe:∀ i w1 w2,J i w1→Ext w1 w2→J i w2) (hJi:∀ i it w1 w2 a c s d,base≤it→J i w1→w1.heap[it]? = some (.mapIter a c s d)→OthX it w1 w2→J i w2) (hJr:∀ i w1,J i w1→base≤w1.heap.size) (hkp:∀ k,k∈m.map (·.1)→Pw k) (hy:∀ i j args w1,J i w1→stepK m i j args w1→zGp prog l args w1 (fun u w2=>u = .bool true∧J j w2∧KpM w1 w2)) (hBx:Blk w bx 299 [.map (some b)]) (hm:IsMap w b m) (h0:J [] w):CallK prog 380 #[.func (.yield l) #[] #[],.pointer (some ⟨bx,0,none⟩)] w (fun _ w2=>∃ x,finK m x∧J x w2):=by
 refine zBj 14 func380 rfl rfl (Nat.le_of_ble_eq_true rfl) (rj fun K=>K1 (zD plain299 rfl hBx rfl (K1 (runs_range rfl hm fun it w1 hit hE hI hs => ?_))));have hgit:base≤it:=by rw [hit];exact hJr _ _ h0
 replace h0:=hJe _ _ _ h0 hE;clear hE hs hit hm hBx;refine rm [0,1,5] K ?_;refine zG (zo (X:=List (List Nat)) (fun x ρ w'=>Keep ρ [(0,.func (.yield l) #[] #[]),(1,.pointer (some ⟨bx,0,none⟩)),(5,.pointer (some ⟨it,0,none⟩))]∧zCo w' it b m x∧x.length≤m.length∧J x w') (fun x=>m.length-x.length) [] ⟨(kp rfl),hI,Nat.zero_le _,h0⟩ ?_);clear h0 hI;rintro x ρ1 w1 ⟨hk,hI,hxl,hJ⟩;refine wpe_k _ hk ?_;clear hk ρ1;refine rj fun K=>K1 (runs_next rfl hI (fun hfin => ?_) fun k v w2 hkm hkn hO hI2 => ?_)
 · refine xt rfl (rm [0,1,5,7] K ?_);exact zA (wcf rfl (zi (zAE (zv (zP (zGw ⟨rfl,_,zBd rfl,x,hfin,hJ⟩))))))
 obtain ⟨_,_,hat⟩:=hI.at;replace hJ:=hJi _ _ _ _ _ _ _ _ hgit hJ hat hO;clear hat;have hxl2:=iter_len hI2;clear hI hO hxl;refine xt rfl (rm [0,1,5,7] K ?_);refine zA (wct rfl (sk (zG (rj fun K=>K1 (runs_entry rfl hI2 fun v2=>xt rfl ?_)))));refine K1 (zK zKA fun b1 w3 hb hE hB1 hs => ?_);refine K1 (zFe rfl rfl (hkp k hkm) hB1 ⟨rfl,by simp⟩ fun w9 hU hN => ?_);replace hE:=hE.upd hU (by rw [hb];exact Nat.le_refl _);replace hJ:=hJe _ _ _ hJ hE;replace hI2:=hI2.ext hE;clear hE hb hs hU hB1;refine rm [0,1,3,5] K ?_;refine rJ fun K=>K1 (zCO rfl hN (hkp k hkm) (K1 (zGm rfl (CallK.conv (hy x (x++[k]) _ _ hJ ⟨k,rfl,hkm,hkn,rfl⟩) fun u w4 hq => ?_))));obtain ⟨rfl,hJ2,hKp⟩:=hq;replace hI2:=hKp.iter hI2;clear hJ hKp hN;refine K1 (zAF rfl (rm [0,1,5,13] K ?_));refine wcf rfl (zz (zT (zV ?_)));exact ⟨rfl,x++[k],⟨(kp rfl),hI2,hxl2,hJ2⟩,by simp at hxl2 ⊢;omega⟩
end Go.Proofs.YtjiendlfobjanaaGreatDoor
namespace Go.Proofs.YtjiendlfobjanaaGreatDoor
open Go Go.RowKit Go.Proofs Tryz
variable {A:List Rat} {af:Array Edge} {b c i sz2:Nat} {g:Option (Nat×Bool)} {p:Option Addr} {pos:String} {q:Rat} {r:Option Nat} {ty:TypeId} {v:Value} {w w' w0:World} {x y:Operand} {σ:Operand→Value}
def AccB (b c:Nat) (w:World) (A:List Rat):Prop:=∃ cs,Blk w b 37 cs∧cs.length=3*c∧∀ i,i<A.length→IsNum w (.agg ((cs.drop (3*i)).take 3).toArray) (A.getD i 0)
theorem AccP.cases {sz:Nat} (h:AccP sz w v A) :
 (∃ b c,v = .slice (some ⟨b,0,none⟩) A.length c∧A.length+1≤c∧sz≤b∧AccB b c w A)∨(∃ p c,v = .slice p A.length c∧c<A.length+1):=by
 obtain ⟨p,c,h1,h2,h3⟩:=h;by_cases hc:A.length+1≤c
 · rcases h3 with ⟨e1,e2,e3⟩ | ⟨b,cs,e1,e2,e3,e4,e5⟩
   · omega
   · exact .inl ⟨b,c,by rw [h1,e1],hc,e2,cs,e3,e4,e5⟩
 · exact .inr ⟨p,c,h1,by omega⟩
theorem AccB.acc {sz:Nat} (h:AccB b c w A) (hs:sz≤b) (hc:A.length≤c):AccP sz w (.slice (some ⟨b,0,none⟩) A.length c) A:=by
 obtain ⟨cs,h1,h2,h3⟩:=h;exact ⟨_,c,rfl,hc,.inr ⟨b,cs,rfl,hs,h1,h2,h3⟩⟩
theorem accStOk {A':List Rat} (hB:AccB b c w0 A) :
 (⟨i,b,fun w=>AccB b c w A,fun w=>AccB b c w A'⟩:StoreSpec).blk<w0.heap.size∧(⟨i,b,fun w=>AccB b c w A,fun w=>AccB b c w A'⟩:StoreSpec).pre w0∧∀ w w',ExtS [b] w0 w→ExtS [b] w w'→w'.heap[(⟨i,b,fun w=>AccB b c w A,fun w=>AccB b c w A'⟩:StoreSpec).blk]? = w.heap[(⟨i,b,fun w=>AccB b c w A,fun w=>AccB b c w A'⟩:StoreSpec).blk]? →
  ((⟨i,b,fun w=>AccB b c w A,fun w=>AccB b c w A'⟩:StoreSpec).pre w→(⟨i,b,fun w=>AccB b c w A,fun w=>AccB b c w A'⟩:StoreSpec).pre w')∧((⟨i,b,fun w=>AccB b c w A,fun w=>AccB b c w A'⟩:StoreSpec).post w→(⟨i,b,fun w=>AccB b c w A,fun w=>AccB b c w A'⟩:StoreSpec).post w'):=by
 have key:∀ (w w':World) (L:List Rat),ExtS [b] w w'→w'.heap[b]? = w.heap[b]?→AccB b c w L→AccB b c w' L:=fun w w' L hx he h=>by
  obtain ⟨cs,h1,h2,h3⟩:=h;exact ⟨cs,by show w'.heap[b]? = _;rw [he];exact h1,h2,fun i hi=>(h3 i hi).extS hx (noW1 h1 (by decide))⟩
 have hlt:b<w0.heap.size:=by obtain ⟨cs,h1,_⟩:=hB;exact h1.lt
 exact ⟨hlt,hB,fun w w' _ hx he=>⟨key w w' A hx he,key w w' A' hx he⟩⟩
theorem AccB.now (h:AccB b c w A):NoW [b] w:=by obtain ⟨cs,h1,_⟩:=h;exact noW1 h1 (by decide)
def OneR (sz:Nat) (q:Rat) (v:Value) (w:World):Prop:=∃ b c1 c2 c3,v = .slice (some ⟨b,0,none⟩) 1 1∧sz≤b∧Blk w b 37 [c1,c2,c3]∧IsNum w (.agg #[c1,c2,c3]) q
theorem OneR.ext {sz:Nat} (h:OneR sz q v w) (hx:Ext w w'):OneR sz q v w':=by
 obtain ⟨b,c1,c2,c3,h1,h2,h3,h4⟩:=h;exact ⟨b,c1,c2,c3,h1,h2,h3.ext hx,h4.ext hx⟩
theorem OneR.extS {sz:Nat} (h:OneR sz q v w) (hx:ExtS [b] w w') (hb:b<sz) (hS:NoW [b] w):OneR sz q v w':=by
 obtain ⟨b',c1,c2,c3,h1,h2,h3,h4⟩:=h;exact ⟨b',c1,c2,c3,h1,h2,h3.extS hx (by simp;omega),h4.extS hx hS⟩
section laws
variable {d:Option Tmp}
theorem zMI {sz:Nat} (hy:IsNum w (σ y) q) (hs:sz≤w.heap.size):Runs prog r ⟨d,.buildSlice 25 1 #[(0,y)],ty,pos,af,g⟩ σ w (fun v w'=>Ext w w'∧OneR sz q v w'):=by
 have hy0:=hy;obtain ⟨n,dd,he,hn,hd⟩:=hy;rw [he] at hy0;refine zR (cs:=[.bool (decide (q<0)),n,dd]) zAV info37' (by decide) (by decide) ?_ fun b w' hb hE hB hs'=>⟨hE,b,_,_,_,rfl,by omega,hB,hy0.ext hE⟩;show Instr.fill _ _ [(0,σ y)]=_;rw [he]
 kernel_rfl
theorem runs_appE_in {sz:Nat} (hx:σ x = .slice (some ⟨b,0,none⟩) A.length c) (hc:A.length+1≤c) (hB:AccB b c w A) (hy:OneR sz q (σ y) w) :
 Runs prog r ⟨d,.call { callee := .builtin .append,args := #[x,y],argTypes := #[25,25] },ty,pos,af,g⟩ σ w (fun v w'=>ExtS [b] w w'∧AccB b c w' (A++[q])∧v = .slice (some ⟨b,0,none⟩) (A++[q]).length c):=by
 obtain ⟨cs,h1,h2,h3⟩:=hB;obtain ⟨b2,c1,c2,c3,e1,_,e2,hq⟩:=hy;have hok:[c1,c2,c3].all zBl=true:=by
  obtain ⟨n,dd,he,hn,hd⟩:=hq;obtain ⟨p1,ds1,k1,rfl,-⟩:=hn;obtain ⟨p2,ds2,k2,rfl,-⟩:=hd;cases he;rfl
 refine zBM (n:=3) zAV zAV zDT hx e1 h1 (Cells.blk e2) rfl hc (by omega) hok fun w' hU hN=>⟨hU.toS (by simp),?_,by simp⟩;rw [Nat.zero_add,show A.length*3=3*A.length from by omega] at hN;refine ⟨_,hN,by rw [zAh];exact h2,fun i hi => ?_⟩;by_cases hi':i<A.length
 · rw [zBY (by omega),if_neg (by omega),zFC hi'];exact (h3 i hi').upd hU h1 (by decide)
 · have:i=A.length:=by simp at hi;omega
   subst this;rw [zBY (by omega),if_pos rfl,zFD];exact hq.upd hU h1 (by decide)
theorem runs_appE_grow {sz0 sz:Nat} (hx:σ x = .slice p A.length c) (hA:AccP sz0 w (.slice p A.length c) A) (hc:c<A.length+1) (hy:OneR sz2 q (σ y) w) (hl:A.length<4096) (hs:sz≤w.heap.size) :
 Runs prog r ⟨d,.call { callee := .builtin .append,args := #[x,y],argTypes := #[25,25] },ty,pos,af,g⟩ σ w (fun v w'=>Ext w w'∧AccP sz w' v (A++[q])):=by
 obtain ⟨b2,c1,c2,c3,e1,_,e2,hq⟩:=hy;obtain ⟨p',c',h1,h2,h3⟩:=hA;cases h1;have hnew:=zAa (A.length+1) c;have hold:∃ old,Cells w p 37 old∧old.length=A.length*3∧∀ i,i<A.length→IsNum w (.agg ((old.drop (3*i)).take 3).toArray) (A.getD i 0):=by
  rcases h3 with ⟨e1,e2,e3⟩ | ⟨b,cs,e1,e2,e3,e4,e5⟩
  · subst e1;exact ⟨[],.inl rfl,rfl,fun i hi=>by simp at hi⟩
  · refine ⟨cs.take (A.length*3),.inr ⟨b,0,cs,e1,e3,by simp⟩,by simp;omega,fun i hi => ?_⟩;have:=e5 i hi;rwa [show ((cs.take (A.length*3)).drop (3*i)).take 3=(cs.drop (3*i)).take 3 from by
     rw [List.drop_take,List.take_take,Nat.min_eq_left (by omega)]]
 obtain ⟨old,o1,o2,o3⟩:=hold;refine zAJ zAV zAV zDT rfl (by decide) hx e1 o1 o2 (Cells.blk e2) rfl (by omega) (by omega) fun w' rest c' g1 hE hB g2 _=>⟨hE,?_⟩;have hrl:rest.length=(c'-(A.length+1))*3:=by rw [g2];simp [Builtin.zeroCells,Value.cells]
 refine ⟨_,c',by simp,by simpa using g1,.inr ⟨w.heap.size,_,rfl,hs,hB,by simp [o2,hrl];omega,fun i hi => ?_⟩⟩;by_cases hi':i<A.length
 · rw [zFC hi',List.append_assoc,zDX (by omega)];exact (o3 i hi').ext hE
 · have:i=A.length:=by simp at hi;omega
   subst this;rw [zFD,List.append_assoc,List.drop_append_of_le_length (by omega),List.drop_of_length_le (by omega)];simpa using hq.ext hE
end laws
end Go.Proofs.YtjiendlfobjanaaGreatDoor
namespace Go.Proofs.YtjiendlfobjanaaGreatDoor
open Go Go.RowKit Go.Proofs Tryz
set_option maxRecDepth 10000
set_option maxHeartbeats 2000000
attribute [local irreducible] Runs WPE CallK Ret
variable {v:Value} {w:World}
theorem zFk {p s:List Rat} (hp:zM w v p) (h:zIt p=some s):Ret prog 256 #[v] w (fun r w'=>IsOwn w.heap.size w' r s):=by
 obtain ⟨pp,pc,rfl,hpc,hpP,hpl⟩:=hp;obtain ⟨L,hL,hLs⟩:=map_some h;have E0:Ext w w:=Ext.refl w;refine J0 25 func256 rfl (rj fun K=>ag (rm [0] K ?_));refine rj fun K=>ag (rm [0,3] K ?_);refine zA (rJ fun K=>K1 (zJ zAA rfl (mv (rm [3,6,7,8] K ?_))));refine zG (zo (X:=Nat) (fun i ρ w'=>∃ v3 A,Keep ρ [(3,v3),(6,.slice pp p.length pc),(7,.int .i64 (p.length:Nat)),(8,.int .i64 (i:Nat))]∧i≤p.length∧Ext w w'∧AccP w.heap.size w' v3 A∧A.length≤i∧∃ B,zGt (p.drop i) i=some B∧A++B=L) (fun i=>p.length-i) 0 ⟨_,[],(kp rfl),Nat.zero_le _,E0,AccP.nil,Nat.le_refl _,L,hL,rfl⟩ ?_);clear E0 hL;rintro i ρ1 w1 ⟨v3,A,hk,hil,E0,hA,hAl,⟨B,hB,hAB0⟩⟩;refine wpe_k _ hk ?_;clear hk ρ1;refine rj fun K=>K8 rfl (rm [3,6,7,8,9] K ?_);refine zA ?_;refine K0 rfl ?_ ?_<;>intro hc
 · have hlt:i<p.length:=t_lt hc;clear hc;have hq1:=hpP.ext E0;rw [zDh hlt] at hB;unfold zGt at hB;refine sk (zA (zG (rJ fun K=>K1 (zAU (l:=p) hq1 rfl rfl hlt (K1 (zAW hq1 hlt rfl fun v23 N23 => ?_))))));refine K1 (zK zAP fun bc2 w7 hb hE hBc hs => ?_);have hgc:w.heap.size≤bc2:=by rw [hb];exact E0.size
   have hna:=hA.new (c:=bc2) (by omega);replace E0:=E0.trans hE;replace N23:=N23.ext hE;replace hA:=hA.ext hE;clear hE hb hs;refine ag (K1 (zI rfl N23 (Cell3.of hBc rfl) fun _ w9 hU hNA => ?_));replace E0:=E0.upd hU hgc;replace hA:=hA.upd hU hBc hna;clear hU hBc N23;refine rm [3,4,5,6,7,8] K ?_;refine rJ fun K=>K8 rfl (rm [3,4,5,6,7,8,14] K ?_);refine K0 rfl ?_ ?_<;>intro hc
   · have hi0:i≠0:=by have:=of_decide_eq_true hc;omega
     clear hc;rw [if_neg hi0] at hB;obtain ⟨m,hm,hB⟩:=bind_some hB;obtain ⟨hr1,rfl⟩:=zBn hm;obtain ⟨B2,hB2,hB⟩:=bind_some hB;cases hB;rcases hA.cases with ⟨ab,ac,hv3,hac,hsb,hAB⟩ | ⟨ap,ac,hv3,hac⟩
     · skip
       have hnw:NoW [ab] _:=hAB.now;have hlt9:ab<w9.heap.size:=by obtain ⟨_,hab,_⟩:=hAB;exact hab.lt
       have hne6:bc2≠ab:=Ne.symm (hna ab ac hv3);subst hv3
       refine wpe_eff [⟨6,ab,fun w=>AccB ab ac w A,fun w=>AccB ab ac w (A++[p.getD i 0*(i:Rat)])⟩] [([(3,none)],none),([(5,none)],none),([(4,none)],none),([(17,some 0)],none),([(16,some 2),(18,some 0)],none),([(19,some 0)],none),([(15,some 5),(20,some 0)],none),([(21,some 0)],none)] mixed (by kernel_rfl) (by kernel_rfl) (by kernel_rfl) (by simp) (by kernel_rfl) (all1 (accStOk hAB)) fun K hK=>dev rfl (fun σ wx hE hk=>zF ⟨Ext.refl _,hk.1⟩) (den (fun v w'=>IsNum w' v (p.getD i 0)) rfl (fun _ _ _ h1 hx h=>h.extS hx (hnw.ext h1)) (fun σ wx hE hk=>zL hk.1 (hNA.extS hE (nin1 hne6) hnw) fun v h=>⟨Ext.refl _,h⟩) (dev rfl (fun σ wx hE hk=>zF ⟨Ext.refl _,hk.1⟩) (den (fun v w'=>IsNum w' v (i:Rat)) rfl (fun _ _ _ h1 hx h=>h.extS hx (hnw.ext h1)) (fun σ wx hE hk=>zC hb38 (CallK.eq1 hk.1 (CallK.of_ret (zBw (n:=((i:Nat):Int)) (by omega) (by omega)) fun v w2 hX hr=>⟨hX,hr⟩)) rfl) (den (fun v w'=>IsNum w' v (p.getD i 0*(i:Rat))) rfl (fun _ _ _ h1 hx h=>h.extS hx (hnw.ext h1)) (fun σ wx hE hk=>zC hb101 (CallK.of_ret (zCz hk.1 hk.2.1 hr1) fun v w2 hX hr=>⟨hX,hr⟩) rfl) (den (OneR w9.heap.size (p.getD i 0*(i:Rat))) rfl (fun _ _ _ h1 hx h=>h.extS hx hlt9 (hnw.ext h1)) (fun σ wx hE hk=>zMI hk.1 hE.size) (des _ (fun v _=>v = .slice (some ⟨ab,0,none⟩) (A++[p.getD i 0*(i:Rat)]).length ac) rfl (fun _ _ _ _ _ h=>h) (fun σ wx hE hpre hk=>runs_appE_in hk.1 hac hpre hk.2.1) (dev rfl (fun σ wx hE hk=>zp ⟨Ext.refl _,hk.1⟩) (de_nil (hK _ fun wq hS hP => ?_)))))))))
       rintro _ rfl v16 N16 _ rfl v18 N18 v19 N19 v20 N20 _ rfl _ rfl;refine zU ?_;obtain ⟨hB2',-⟩:=hP;replace E0:=E0.updS hS hsb;have hA':=hB2'.acc hsb (show (A++[p.getD i 0*(i:Rat)]).length≤ac by simp;omega);have hAl':(A++[p.getD i 0*(i:Rat)]).length≤i+1:=by simp;omega
       have hB':∃ B,zGt (p.drop (i+1)) (i+1)=some B∧(A++[p.getD i 0*(i:Rat)])++B=L:=⟨B2,hB2,by rw [List.append_assoc];exact hAB0⟩;refine zT (zN (K5 [3,6,7,8] ?_));exact K6 fun K=>K8 rfl (mv (rl K (zV (⟨rfl,i+1,⟨_,_,⟨rfl,rfl,rfl,rfl,rfl,rfl,rfl,congrArg (Value.int .i64) (zAD (by omega)),trivial⟩,by omega,E0,hA',hAl',hB'⟩,by omega⟩))))
     · skip
       have hsz9:=E0.size;subst hv3
       refine zAc [([(3,none)],none),([(5,none)],none),([(4,none)],none),([(17,some 0)],none),([(16,some 2),(18,some 0)],none),([(19,some 0)],none),([(15,some 5),(20,some 0)],none),([(21,some 0)],none)] mixed (by kernel_rfl) (by kernel_rfl) (by kernel_rfl) fun K hK=>dvp (fun σ wx hE hk=>zF ⟨Ext.refl _,hk.1⟩) (dcp (fun v w'=>IsNum w' v (p.getD i 0)) (fun _ _ _ _ hx h=>h.ext hx.toExt) (fun σ wx hE hk=>zL hk.1 (hNA.ext hE) fun v h=>⟨Ext.refl _,h⟩) (dvp (fun σ wx hE hk=>zF ⟨Ext.refl _,hk.1⟩) (dcp (fun v w'=>IsNum w' v (i:Rat)) (fun _ _ _ _ hx h=>h.ext hx.toExt) (fun σ wx hE hk=>zC hb38 (CallK.eq1 hk.1 (CallK.of_ret (zBw (n:=((i:Nat):Int)) (by omega) (by omega)) fun v w2 hX hr=>⟨hX,hr⟩)) rfl) (dcp (fun v w'=>IsNum w' v (p.getD i 0*(i:Rat))) (fun _ _ _ _ hx h=>h.ext hx.toExt) (fun σ wx hE hk=>zC hb101 (CallK.of_ret (zCz hk.1 hk.2.1 hr1) fun v w2 hX hr=>⟨hX,hr⟩) rfl) (dcp (OneR w9.heap.size (p.getD i 0*(i:Rat))) (fun _ _ _ _ hx h=>h.ext hx.toExt) (fun σ wx hE hk=>zMI hk.1 hE.size) (dcp (fun v w'=>AccP w.heap.size w' v (A++[p.getD i 0*(i:Rat)])) (fun _ _ _ _ hx h=>h.ext hx.toExt) (fun σ wx hE hk=>runs_appE_grow hk.1 (hA.ext hE) hac hk.2.1 (by omega) (E0.trans hE).size) (dcp (fun v w'=>AccP w.heap.size w' v (A++[p.getD i 0*(i:Rat)])) (fun _ _ _ _ hx h=>h.ext hx.toExt) (fun σ wx hE hk=>zp ⟨Ext.refl _,hk.1⟩) (zAR (hK _ fun wq hE => ?_)))))))))
       rintro _ rfl v16 N16 _ rfl v18 N18 v19 N19 v20 N20 v21 N21 v3 N3;refine zU ?_;replace E0:=E0.trans hE;clear hE;refine zT (zN (K5 [3,6,7,8] ?_));have hA':=N3;have hAl':(A++[p.getD i 0*(i:Rat)]).length≤i+1:=by simp;omega
       have hB':∃ B,zGt (p.drop (i+1)) (i+1)=some B∧(A++[p.getD i 0*(i:Rat)])++B=L:=⟨B2,hB2,by rw [List.append_assoc];exact hAB0⟩;exact K6 fun K=>K8 rfl (mv (rl K (zV (⟨rfl,i+1,⟨_,_,⟨rfl,rfl,rfl,rfl,rfl,rfl,rfl,congrArg (Value.int .i64) (zAD (by omega)),trivial⟩,by omega,E0,hA',hAl',hB'⟩,by omega⟩))))
   · have hi0:i=0:=by have:=of_decide_eq_false hc;omega
     clear hc;rw [if_pos hi0] at hB;have hA':=hA;have hAl':A.length≤i+1:=by omega
     have hB':∃ B,zGt (p.drop (i+1)) (i+1)=some B∧A++B=L:=⟨B,by rw [hi0] at hB ⊢;exact hB,hAB0⟩;exact zz (zT (zN (K6 fun K=>K8 rfl (mv (rl K (zV (⟨rfl,i+1,⟨_,_,⟨rfl,rfl,rfl,rfl,rfl,rfl,rfl,congrArg (Value.int .i64) (zAD (by omega)),trivial⟩,by omega,E0,hA',hAl',hB'⟩,by omega⟩)))))))
 · have hge:=f_lt hc;obtain rfl:i=p.length:=by omega
   clear hc;rw [List.drop_length] at hB;cases hB;rw [List.append_nil] at hAB0;subst hAB0;refine zi (zAE (zv (zP (zN (rj fun K=>mv ?_)))));have hsz:=E0.size;refine K1 (j0 E0 hb34 (zBZ (hA.own (by omega)).poly) fun v9 w9 E0 hr => ?_);rw [hLs] at hr;refine ag (rm [2,6,7,8] K ?_);exact zE (en rfl E0 (hr.sz hsz))
variable {bx cap i:Nat} {l:List Rat} {p:Option Addr} {u:Value}
theorem rsign_bound (x:Rat) : -1≤rsign x∧rsign x≤1:=by
 unfold rsign;rcases Int.lt_trichotomy x.num 0 with a | a | a
 · rw [Int.sign_eq_neg_one_of_neg a];decide
 · rw [a];decide
 · rw [Int.sign_eq_one_of_pos a];decide
theorem PRd.one (h:PRd w p l) (hi:i<l.length) (hc:l.length≤cap):zM w (.slice (if cap=i then p else p.map (fun a=>a.add (i*3))) 1 (cap-i)) [l.getD i 0]:=by
 rcases h with h | ⟨b,o,cs,h1,h2,h3,h4⟩
 · subst h;simp at hi
 · refine ⟨_,_,rfl,by simp;omega,.inr ⟨b,o+3*i,cs,?_,h2,by simp;omega,fun j hj => ?_⟩,by simp⟩
   · rw [if_neg (by omega),h1];simp [zAk,Nat.mul_comm]
   · have:j=0:=by simp at hj;omega
     subst this;have:=h4 i hi;simpa using this
theorem simple_ok {p s:List Rat} (hp:zM w v p) (h:zNt p=some s):Ret prog 312 #[v] w (fun r w'=>IsOwn w.heap.size w' r s):=by
 obtain ⟨d,h1,h⟩:=bind_some h;obtain ⟨g,h2,h3⟩:=bind_some h;have E0:Ext w w:=Ext.refl w;refine J0 9 func312 rfl (rj fun K=>ag (rm [0] K ?_));refine rJ fun K=>mv (mv (K1 (j1 E0 hp.ext hb256 (zFk hp h1) fun v6 w2 E0 hp N6=>K1 (j1 E0 hp.ext hb168 (zEi hp N6.poly h2) fun v7 w2 E0 hp N7 => ?_))));have hsz:=E0.size;refine K1 (j0 E0 hb170 (zED hp N7.poly h3) fun v8 w2 E0 N8=>ag (rm [2] K ?_));exact zE (en rfl E0 (N8.sz hsz))
theorem ends1_ok {p:List Rat} {bm:Nat} {m:Bool} (hp:zM w v p) (h0:p≠[]) (hB:Blk w bm 4 [.bool m]):Ret prog 258 #[v,.pointer (some ⟨bm,0,none⟩)] w (fun u _=>u = .int .i64 (endS m p)):=by
 have hp0:=hp;obtain ⟨pp,pc,rfl,hpc,hpP,hpl⟩:=hp0;refine J0 18 func258 rfl (rj fun K=>ag (rm [0,1] K ?_));refine rJ fun K=>K1 (j1 E0 hB.ext hb259 (zKs hp h0) fun v6 w2 E0 hB N6=>K1 (zC hb19 (CallK.of_ret (zAY N6) fun v7 w3 hE hr => ?_) rfl));subst hr;replace E0:=E0.trans hE;replace hB:=hB.ext hE;clear hE N6;refine ag (rm [0,1,4] K ?_);refine zA (zA ?_);rcases m with _ | _
 · skip
   refine K6 fun K=>K1 (zD zBm rfl hB rfl (mv (K3 (K3 (K3 (K3 (pc0 rfl (rs [4,14] K ?_))))))));refine wcf rfl (sk (rJ fun K=>ag (rm [3] K ?_)));refine zE (zQ ?_);exact ⟨rfl,_,zm rfl rfl,E0,by rw [endS,if_neg (by simp)];rfl⟩
 · skip
   refine K6 fun K=>K1 (zD zBm rfl hB rfl (mv (K7 (K2 (zJ zAA rfl (K2 (zAz (b:=2) (p.length%2) rfl rfl (by decide) rfl (K2 (zH rfl rfl rfl (pc0 rfl (rs [4,14] K ?_)))))))))));refine K0 rfl ?_ ?_<;>intro hc
   · have hm:p.length%2=0:=by have:=eq_of_beq hc;omega
     clear hc;refine rI fun K=>K1 (zJn rfl ?_);rw [show IntKind.i64.wrap (0-rsign (top p)) = - rsign (top p) from by have:=rsign_bound (top p);rw [zAG (by omega) (by omega)];omega];refine ag (rs [4] K ?_);refine rJ fun K=>ag (rm [3] K ?_);refine zE (zQ ?_);exact ⟨rfl,_,zm rfl rfl,E0,by rw [endS];simp [hm,look1]⟩
   · have hm:¬ p.length%2=0:=by have:=beq_eq_false_iff_ne.1 hc;omega
     clear hc;refine sk (rJ fun K=>ag (rm [3] K ?_));refine zE (zQ ?_);exact ⟨rfl,_,zm rfl rfl,E0,by rw [endS];simp [hm,look1]⟩
theorem zGZ {m:Bool}:Ret prog 173 #[.bool m] w (fun r w'=>∃ bm,r = .func (.func 258) #[] #[.pointer (some ⟨bm,0,none⟩)]∧Blk w' bm 4 [.bool m]):=by
 refine J0 4 func173 rfl (rj fun K => ?_);refine K1 (zk fun b1 w1 hb hE hB1 hs => ?_);have hgb1:w.heap.size≤b1:=by rw [hb];exact E0.size
 replace E0:=E0.trans hE;clear hE hs hb;refine ag (rm [1] K ?_);refine rj fun K=>K1 (zBL (ag (rm [2] K ?_)));exact zE (en rfl E0 ⟨b1,rfl,hB1⟩)
theorem at1_ok {p:List Rat} {x y:Rat} (hp:zM w v p) (hN:NumAt bx x w) (h:peval p x=some y):Ret prog 350 #[v,.pointer (some ⟨bx,0,none⟩)] w (fun u _=>u = .int .i64 (rsign y)):=by
 refine J0 8 func350 rfl (rj fun K=>ag (rm [0,1] K ?_));refine rJ fun K=>K1 (zL rfl hN fun v5 N5=>K1 (j0 E0 hb176 (zBy hp N5 h) fun v6 w2 E0 N6=>K1 (zC hb19 (CallK.of_ret (zAY N6) fun v7 w3 hE hr => ?_) rfl)));subst hr;replace E0:=E0.trans hE;clear hE N6;refine ag (rm [3] K ?_);exact zE (en rfl E0 rfl)
theorem at_ok {x:Rat} (hx:IsNum w v x):Ret prog 315 #[v] w (fun r w'=>∃ bx,r = .func (.func 350) #[] #[.pointer (some ⟨bx,0,none⟩)]∧NumAt bx x w'):=by
 have hx0:=hx;obtain ⟨xn,xd,rfl,hxn,hxd⟩:=hx0;refine J0 4 func315 rfl (rj fun K => ?_);refine K1 (zk fun b1 w1 hb hE hB1 hs => ?_);have hgb1:w.heap.size≤b1:=by rw [hb];exact E0.size
 replace E0:=E0.trans hE;replace hx:=hx.ext hE;clear hE hs hb;refine ag (rm [1] K ?_);refine rj fun K=>K1 (zBL (ag (rm [2] K ?_)));exact zE (zQ (⟨rfl,_,zm rfl rfl,E0,b1,rfl,⟨_,hB1,rfl,hx⟩⟩))
theorem zJt {p m:List Rat} (hp:zM w v p) (h:zGD p=some m):Ret prog 313 #[v] w (fun r w'=>IsOwn w.heap.size w' r m):=by
 have E0:Ext w w:=Ext.refl w;refine J0 16 func313 rfl (rj fun K=>ag (rm [0] K ?_));refine zA (rJ fun K=>K1 (zC hb34 (CallK.of_ret (zBZ hp) fun v4 w4 hE hT => ?_) rfl));have hsz:=E0.size;replace E0:=E0.trans hE;clear hE;have hT0:=hT;obtain ⟨tp,tc,rfl,htc,hTP,htl,_⟩:=hT0;refine ag (rm [0] K ?_);refine rJ fun K=>K1 (zJ zAA rfl (K8 rfl (rm [0,7] K ?_)));refine K0 rfl ?_ ?_<;>intro hc
 · have h0:trim p≠[]:=fun e=>by rw [e] at hc;cases hc
   clear hc;rw [zGD,if_neg h0] at h;obtain ⟨c,hd,hs⟩:=bind_some h;obtain ⟨hr1,rfl⟩:=zCC hd;have hT:=hT.poly;refine rI fun K=>K1 (j1 E0 hT.ext hb38 (zBw (n:=1) (by decide) (by decide)) fun v9 w9 E0 hT N9=>mv (K1 (j2 E0 hT.ext N9.ext hb259 (zKs hT h0) fun v11 w11 E0 hT N9 N11=>K1 (j2 E0 hT.ext N9.ext hb236 (zNe N11) fun v12 w11 E0 hT N9 N12=>K1 (j1 E0 hT.ext hb311 (zJl N9 N12 hr1) fun v13 w12 E0 hT N13=>K1 (zC hb56 (CallK.of_ret (zDz hT N13 hs) fun v14 w13 hE hr => ?_) rfl))))));have hsz2:=E0.size;replace E0:=E0.trans hE;clear hE hT;have hT:=hr.sz hsz2;refine ag (rs [0] K ?_);refine rJ fun K=>ag (rm [2] K ?_);exact zE (en rfl E0 hT)
 · have h0:trim p=[]:=List.eq_nil_of_length_eq_zero (by have:=of_decide_eq_false hc;omega);clear hc;rw [zGD,if_pos h0] at h;obtain rfl:m=trim p:=by rw [h0];exact (Option.some.inj h).symm
   have hT:=hT.sz hsz;refine sk (rJ fun K=>ag (rm [2] K ?_));exact zE (en rfl E0 hT)
theorem line_ok:Ret prog 167 #[] w (fun r w'=>IsOwn w.heap.size w' r [0,1]):=by
 refine J0 4 func167 rfl (rj fun K=>ag (rm [] K ?_));refine rj fun K=>K1 (j0 E0 hb38 (zBw (n:=0) (by decide) (by decide)) fun v1 w2 E0 N1=>K1 (j1 E0 N1.ext hb38 (zBw (n:=1) (by decide) (by decide)) fun v2 w2 E0 N1 N2 => ?_));obtain ⟨n1,d1,rfl,hn1,hd1⟩:=N1;obtain ⟨n2,d2,rfl,hn2,hd2⟩:=N2;refine K1 (zR (cs:=[.bool (decide (((0:Int):Rat)<0)),n1,d1,.bool (decide (((1:Int):Rat)<0)),n2,d2]) zAV info37' (by decide) (by decide) (by kernel_rfl) fun bb w10 hb hE hBb hs => ?_);have hgb:w.heap.size≤bb:=by rw [hb];exact E0.size
 replace E0:=E0.trans hE;have M1:IsNum _ (.agg #[.bool (decide (((0:Int):Rat)<0)),n1,d1]) ((0:Int):Rat):=⟨_,_,rfl,hn1.ext hE,hd1.ext hE⟩;have M2:IsNum _ (.agg #[.bool (decide (((1:Int):Rat)<0)),n2,d2]) ((1:Int):Rat):=⟨_,_,rfl,hn2.ext hE,hd2.ext hE⟩;clear hE hb hs;refine ag (rm [0] K ?_);refine zE (zQ (⟨rfl,_,zm rfl rfl,E0,_,2,rfl,Nat.le_refl _,.inr ⟨bb,0,_,rfl,hBb,by simp,fun i hi => ?_⟩,by simp,fun _=>⟨bb,rfl,hgb⟩⟩))
 match i,hi with
 | 0,_=>exact M1
 | 1,_=>exact M2
theorem along_ok {vx vy:Value} {p x y R I:List Rat} (hp:zM w u p) (hx:zM w vx x) (hy:zM w vy y) (h:along p x y=some (R,I)):Ret prog 166 #[u,vx,vy] w (fun r w'=>∃ a b,r = .tuple #[a,b]∧zM w' a R∧zM w' b I):=by
 obtain ⟨pp,pc,rfl,hpc,hpP,hpl⟩:=hp;unfold along at h;have E0:Ext w w:=Ext.refl w;refine J0 38 func166 rfl (rj fun K=>ag (ag (rm [0,1,2,6,7] K ?_)));refine zA (rJ fun K=>K1 (zJ zAA rfl (K1 (zH (v := .int .i64 (((p.length:Nat):Int)-1)) rfl rfl (congrArg (fun z=>some (Value.int .i64 z)) (zAG (by omega) (by omega))) (ag (rm [0,1,2,6,7,8] K ?_))))));refine zG ?_;refine zo (X:=Nat) (fun k ρ w'=>∃ v6 v7 re im,Keep ρ [(0,.slice pp p.length pc),(1,vx),(2,vy),(6,v6),(7,v7),(8,.int .i64 (((k:Nat):Int)-1))]∧k≤p.length∧Ext w w'∧zM w' v6 re∧zM w' v7 im∧zKE x y (p.take k).reverse re im=some (R,I)) (fun k=>k) p.length ⟨_,_,[],[],(kp rfl),Nat.le_refl _,E0,zM.nil,zM.nil,by rw [List.take_length];exact h⟩ ?_;clear E0 h;rintro k ρ1 w1 ⟨v6,v7,re,im,hk,hkl,E0,h6,h7,hA⟩;have hx1:=hx.ext E0;have hy1:=hy.ext E0;refine wpe_k _ hk ?_;clear hk ρ1;refine zA (zA ?_);rcases k with _ | j
 · simp only [List.take_zero,List.reverse_nil,zKE] at hA;cases hA;refine rI fun K=>K8 rfl (rs [0,1,2,6,7,8,13] K ?_);refine wcf (congrArg Value.bool (decide_eq_false (by omega))) (zi (zAE (zv (zP (zN (rJ fun K=>mv (ag (ag (rm [0,6,7,8] K ?_)))))))));exact zE (zQ ⟨rfl,_,zn rfl rfl rfl,E0,_,_,rfl,h6,h7⟩)
 · have hw1:((j+1:Nat):Int)-1=(j:Int):=by omega
   have hw2:IntKind.i64.wrap ((j:Int)-1)=(j:Int)-1:=zAG (by omega) (by omega);rw [hw1];have hpP1:=hpP.ext E0;rw [zEV (by omega),List.reverse_append] at hA;unfold zKE at hA;obtain ⟨a,ha,hA⟩:=bind_some hA;obtain ⟨b,hb,hA⟩:=bind_some hA;obtain ⟨s,hs,hA⟩:=bind_some hA;obtain ⟨re2,hre2,hA⟩:=bind_some hA;obtain ⟨e,he,hA⟩:=bind_some hA;obtain ⟨g,hg,hA⟩:=bind_some hA;obtain ⟨im2,him2,hA⟩:=bind_some hA;refine rI fun K=>K8 rfl (rs [0,1,2,6,7,8,13] K ?_)
   refine wct (congrArg Value.bool (decide_eq_true (by omega))) (sk (zA (zG (zAc [([(6,none)],none),([(1,none)],none),([(16,some 1),(17,some 0)],none),([(7,none)],none),([(2,none)],none),([(19,some 1),(20,some 0)],none),([(18,some 3),(21,some 0)],none),([(0,none)],none),([(8,none)],none),([(8,none)],none),([(25,some 0)],none),([(23,some 3),(24,some 2),(26,some 0)],none),([(22,some 5),(27,some 0)],none),([(6,none)],none),([(2,none)],none),([(29,some 1),(30,some 0)],none),([(7,none)],none),([(1,none)],none),([(32,some 1),(33,some 0)],none),([(31,some 3),(34,some 0)],none),([(28,some 7)],none),([(35,some 1)],none)] mixed (by kernel_rfl) (by kernel_rfl) (by kernel_rfl) fun K hK=>dvp (fun σ wx hE hk=>zF ⟨Ext.refl _,hk.1⟩) (dvp (fun σ wx hE hk=>zF ⟨Ext.refl _,hk.1⟩) (dcp (fun v w'=>zM w' v (a)) (fun _ _ _ _ hx h=>h.ext hx.toExt) (fun σ wx hE hk=>zC hb71 (CallK.of_ret (zDx (zM.of_eq hk.1 (h6.ext hE)) (zM.of_eq hk.2.1 (hx1.ext hE)) ha) fun v w2 hX hr=>⟨hX,hr.poly⟩) rfl) (dvp (fun σ wx hE hk=>zF ⟨Ext.refl _,hk.1⟩) (dvp (fun σ wx hE hk=>zF ⟨Ext.refl _,hk.1⟩) (dcp (fun v w'=>zM w' v (b)) (fun _ _ _ _ hx h=>h.ext hx.toExt) (fun σ wx hE hk=>zC hb71 (CallK.of_ret (zDx (zM.of_eq hk.1 (h7.ext hE)) (zM.of_eq hk.2.1 (hy1.ext hE)) hb) fun v w2 hX hr=>⟨hX,hr.poly⟩) rfl) (dcp (fun v w'=>zM w' v (s)) (fun _ _ _ _ hx h=>h.ext hx.toExt) (fun σ wx hE hk=>zC hb70 (CallK.of_ret (zHW hk.1 hk.2.1 hs) fun v w2 hX hr=>⟨hX,hr.poly⟩) rfl) (dvp (fun σ wx hE hk=>zF ⟨Ext.refl _,hk.1⟩) (dvp (fun σ wx hE hk=>zF ⟨Ext.refl _,hk.1⟩) ?_))))))))))))
   refine dvp (fun σ wx hE hk=>zF ⟨Ext.refl _,hk.1⟩) (dvp (fun σ wx hE hk=>zy (b:=1) (j+1) hk.1 rfl rfl (by omega) ⟨Ext.refl _,rfl⟩) ?_);refine dcp (fun v w'=>zM w' v ([p.getD j 0])) (fun _ _ _ _ hx h=>h.ext hx.toExt) (fun σ wx hE hk=>runs_sliceLoHi zAA hk.1 hk.2.1 hk.2.2.1 (by omega) (by omega) (by omega) (by
    rw [show ((j+1:Nat):Int).toNat-((j:Nat):Int).toNat=1 from by omega,show ((j:Nat):Int).toNat=j from by omega];exact ⟨Ext.refl _,(hpP1.ext hE).one (by omega) (by omega)⟩)) ?_
   refine dcp (fun v w'=>zM w' v (re2)) (fun _ _ _ _ hx h=>h.ext hx.toExt) (fun σ wx hE hk=>zC hb149 (CallK.of_ret (zHV hk.1 hk.2.1 hre2) fun v w2 hX hr=>⟨hX,hr.poly⟩) rfl) (dvp (fun σ wx hE hk=>zF ⟨Ext.refl _,hk.1⟩) (dvp (fun σ wx hE hk=>zF ⟨Ext.refl _,hk.1⟩) (dcp (fun v w'=>zM w' v (e)) (fun _ _ _ _ hx h=>h.ext hx.toExt) (fun σ wx hE hk=>zC hb71 (CallK.of_ret (zDx (zM.of_eq hk.1 (h6.ext hE)) (zM.of_eq hk.2.1 (hy1.ext hE)) he) fun v w2 hX hr=>⟨hX,hr.poly⟩) rfl) (dvp (fun σ wx hE hk=>zF ⟨Ext.refl _,hk.1⟩) (dvp (fun σ wx hE hk=>zF ⟨Ext.refl _,hk.1⟩) (dcp (fun v w'=>zM w' v (g)) (fun _ _ _ _ hx h=>h.ext hx.toExt) (fun σ wx hE hk=>zC hb71 (CallK.of_ret (zDx (zM.of_eq hk.1 (h7.ext hE)) (zM.of_eq hk.2.1 (hx1.ext hE)) hg) fun v w2 hX hr=>⟨hX,hr.poly⟩) rfl) (dcp (fun v w'=>zM w' v (im2)) (fun _ _ _ _ hx h=>h.ext hx.toExt) (fun σ wx hE hk=>zC hb149 (CallK.of_ret (zHV hk.1 hk.2.1 him2) fun v w2 hX hr=>⟨hX,hr.poly⟩) rfl) (dcp (fun v w'=>zM w' v (re2)) (fun _ _ _ _ hx h=>h.ext hx.toExt) (fun σ wx hE hk=>zp ⟨Ext.refl _,hk.1⟩) (dcp (fun v w'=>zM w' v (im2)) (fun _ _ _ _ hx h=>h.ext hx.toExt) (fun σ wx hE hk=>zp ⟨Ext.refl _,hk.1⟩) (zAR (hK _ fun wq hE => ?_)))))))))))
   rintro _ rfl _ rfl v18 N18 _ rfl _ rfl v21 N21 v22 N22 _ rfl _ rfl _ rfl _ rfl v27 N27 v28 N28 _ rfl _ rfl v31 N31 _ rfl _ rfl v34 N34 v35 N35 v6 N6 v7 N7;refine zU ?_;replace E0:=E0.trans hE;clear hE;refine zT (zN (K5 [0,1,2,6,7,8] ?_));exact rI fun K=>K8 rfl (ag (rl K (zV (⟨rfl,j,⟨_,_,re2,im2,⟨rfl,rfl,rfl,rfl,rfl,rfl,rfl,rfl,rfl,rfl,rfl,congrArg (Value.int .i64) hw2,trivial⟩,by omega,E0,N6,N7,hA⟩,by omega⟩))))
end Go.Proofs.YtjiendlfobjanaaGreatDoor
