/-
  A part of the proof: Spec, RatNum, Spec2, MakeC, Coef, Divs, Hurwitz, Hurwitz2, Height, Height2, Height3, Rever, Ev, Sturm, Has, W1, W2, W3, W4, W5, Shelf, W6, Uint, DivNat, Sint, W7, W8.
-/
import Derived.Test.YtjiendlfobjanaaGreatDoorH01
import Derived.Ground.Names2Prog
import Derived.Laws.Externs
import Derived.Lib.ItoaNum
import Derived.Shelf.Bits.Mul64
import Derived.Shelf.LaysM
import Derived.Shelf.Slices.Cells
import Derived.Shelf.Slices.ReverseS
import Derived.Shelf.Slices.SearchI
import Derived.Shelf.Small.Bits
import Derived.Shelf.Small.Strs
import Derived.Shelf.Small.Utf8
import Derived.Shelf.Small.Wraps
import Derived.Shelf.Spec.BitsCarry
import Derived.Shelf.Strconv.Itoa0
import Derived.Shelf.Strconv.Itoa1
import Derived.Shelf.Strconv.Itoa2
import Derived.Shelf.Strings.AsciiSet
import Derived.Shelf.Strings.Builder1
import Derived.Shelf.Strings.Builder2
import Derived.Shelf.Strings.Builder2Cap
import Derived.Shelf.Strings.BuilderCap
import Derived.Shelf.Strings.BuilderF
import Derived.Shelf.Strings.BuilderK
import Derived.Shelf.Strings.Cut
import Derived.Shelf.Strings.OnBuilder
import Derived.Shelf.Strings.Prefix
import Derived.Shelf.Strings.Repeat
import Derived.Shelf.Strings.Runes
import Derived.Shelf.Strings.Search1
import Derived.Shelf.Strings.Search2
import Derived.Shelf.Strings.Shaped
import Derived.Shelf.Strings.Trim
import Derived.Shelf.Unicode.Decode
import Derived.Shelf.Unicode.DecodeAny
import Derived.Shelf.Unicode.DecodeLast
import Derived.Shelf.Unicode.DecodeSlow
import Derived.Test.YtjiendlfobjanaaGreatDoorProg
namespace Go.Proofs.YtjiendlfobjanaaGreatDoor
def sz (x:Rat):Nat:=x.num.natAbs.log2+x.den.log2
def rroom (x y:Rat):Bool:=decide (sz x+sz y<1099511627776)
def radd (x y:Rat):Option Rat:=if rroom x y then some (x+y) else none
def rsub (x y:Rat):Option Rat:=if rroom x y then some (x-y) else none
def rmul (x y:Rat):Option Rat:=if rroom x y then some (x*y) else none
def rdiv (x y:Rat):Option Rat:=if rroom x y then some (x/y) else none
def rsign (x:Rat):Int:=x.num.sign
def rcmp (x y:Rat):Option Int:=if rroom x y then some (if x<y then -1 else if x=y then 0 else 1) else none
def rabs (x:Rat):Rat:=if x<0 then -x else x
abbrev Poly:=List Rat
def trim (p:Poly):Poly:=(p.reverse.dropWhile fun x=>decide (x=0)).reverse
def top (p:Poly):Rat:=p.getD (p.length-1) 0
def addAt:Poly→Nat→Poly→Option Poly
 | [],_,O=>some O
 | c :: q,i,O=>(radd (O.getD i 0) c).bind fun s=>addAt q (i+1) (O.set i s)
def padd (p q:Poly):Option Poly:=(if p.length<q.length then addAt p 0 q else addAt q 0 p).map trim
def mapO {α β:Type} (f:α→Option β):List α→Option (List β)
 | []=>some []
 | x :: l=>(f x).bind fun y=>(mapO f l).bind fun r=>some (y :: r)
def zCA (p:Poly) (x:Rat):Option Poly:=(mapO (fun c=>rmul c x) p).map trim
def psub (p q:Poly):Option Poly:=(zCA q (-1)).bind fun m=>padd p m
def zFP (a:Rat):Poly→Nat→Poly→Option Poly
 | [],_,O=>some O
 | b :: q,k,O=>(rmul a b).bind fun m=>(radd (O.getD k 0) m).bind fun s=>zFP a q (k+1) (O.set k s)
def mulL (q:Poly):Poly→Nat→Poly→Option Poly
 | [],_,O=>some O
 | a :: p,i,O=>if a=0 then mulL q p (i+1) O else (zFP a q i O).bind fun O'=>mulL q p (i+1) O'
def pmul (p q:Poly):Option Poly:=if 4096<p.length+q.length then none else (mulL q p 0 (List.replicate (p.length+q.length) 0)).map trim
def zEE:Poly→Nat→Option Poly
 | [],_=>some []
 | c :: p,i=>if i=0 then zEE p 1 else (rmul c (i:Rat)).bind fun m=>(zEE p (i+1)).bind fun r=>some (m :: r)
def zDv (p:Poly):Option Poly:=(zEE p 0).map trim
def evalL (x:Rat):Poly→Rat→Option Rat
 | [],acc=>some acc
 | c :: p,acc=>(rmul acc x).bind fun m=>(radd m c).bind fun s=>evalL x p s
def peval (p:Poly) (x:Rat):Option Rat:=evalL x p.reverse 0
def zGa (c:Rat):Poly→Nat→Poly→Option Poly
 | [],_,O=>some O
 | d :: q,k,O=>(rmul c d).bind fun m=>(rsub (O.getD k 0) m).bind fun s=>zGa c q (k+1) (O.set k s)
def divL (q:Poly):Nat→Poly→Poly→Option (Poly×Poly)
 | 0,_,_=>none
 | f+1,rest,quo=>if rest.length<q.length then some (trim quo,rest) else
  (rdiv (top rest) (top q)).bind fun c=>(zGa c q (rest.length-q.length) rest).bind fun r=>divL q f (trim r) (quo.set (rest.length-q.length) c)
def pdiv (p q:Poly):Option (Poly×Poly) :=
 if trim q=[] then none else divL (trim q) ((trim p).length+1) (trim p) (List.replicate ((trim p).length+1-(trim q).length) 0)
def zDG (p q:Poly):Option Poly:=(pdiv p q).map Prod.fst
def monic (p:Poly):Option Poly:=if trim p=[] then some [] else (rdiv 1 (top (trim p))).bind fun c=>zCA (trim p) c
def zBX:Nat→Poly→Poly→Option Poly
 | 0,_,_=>none
 | f+1,p,q=>if q=[] then some p else (pdiv p q).bind fun r=>(monic r.2).bind fun m=>zBX f q m
def zBz (p q:Poly):Option Poly:=(monic p).bind fun p=>(monic q).bind fun q=>zBX (q.length+1) p q
def zDe (p:Poly):Option Poly:=if trim p=[] then some [] else (rdiv 1 (rabs (top (trim p)))).bind fun c=>zCA (trim p) c
def zBe:Nat→Poly→Poly→Option (List Poly)
 | 0,_,_=>none
 | f+1,p,q=>if p=[] then some [] else if q=[] then some [p] else
  (pdiv p q).bind fun r=>(zCA r.2 (-1)).bind fun s=>(zDe s).bind fun s=>(zBe f q s).bind fun l=>some (p :: l)
def chain (p q:Poly):Option (List Poly):=(zDe p).bind fun p=>(zDe q).bind fun q=>zBe (q.length+2) p q
def flipL:List Int→Int→Int→Int
 | [],_,n=>n
 | s :: l,last,n=>if s=0 then flipL l last n else flipL l s (if (last=1∧s = -1)∨(last = -1∧s=1) then n+1 else n)
def endS (minus:Bool) (p:Poly):Int:=if minus=true∧p.length%2=0 then-rsign (top p) else rsign (top p)
def atS (x:Rat) (p:Poly):Option Int:=(peval p x).map rsign
def zAX (minus:Bool) (c:List Poly):Int:=flipL (c.map (endS minus)) 0 0
def zHZ (x:Rat) (c:List Poly):Option Int:=(mapO (atS x) c).map fun l=>flipL l 0 0
def zLg (p:Poly):Option Poly:=(zDv p).bind fun d=>(zBz p d).bind fun g=>zDG p g
def own (p:Poly):Option (List Poly):=(zLg p).bind fun s=>(zDv s).bind fun d=>chain s d
def zFs:Nat→Poly→Int→Option Int
 | 0,_,_=>none
 | f+1,p,n=>if (trim p).length≤1 then some n else
  (own p).bind fun c=>(zDv p).bind fun d=>(zBz p d).bind fun g=>zFs f g (n+(zAX true c-zAX false c))
def times (p:Poly):Option Int:=zFs (p.length+1) p 0
def zHf (x y:Poly):Poly→Poly→Poly→Option (Poly×Poly)
 | [],re,im=>some (re,im)
 | c :: p,re,im=>(pmul re x).bind fun a=>(pmul im y).bind fun b=>(psub a b).bind fun s=>(padd s [c]).bind fun re' =>
  (pmul re y).bind fun e=>(pmul im x).bind fun g=>(padd e g).bind fun im'=>zHf x y p re' im'
def along (p x y:Poly):Option (Poly×Poly):=zHf x y p.reverse [] []
def half2 (n:Int):Int:=n.tdiv 2
def zGM (p:Poly):Option (Int×Int) :=
 (along (trim p) [] [0,1]).bind fun ri=>(zBz ri.1 ri.2).bind fun g=>(times g).bind fun axis =>
  (zDG ri.1 g).bind fun re=>(zDG ri.2 g).bind fun im =>
   let n:Int:=max (re.length:Int) im.length-1
   let s:Bool:=decide (im.length<re.length)
   (chain (if s then re else im) (if s then im else re)).bind fun c =>
    let turn:Int:=(if s then -1 else 1)*(zAX true c-zAX false c)
    some (half2 (((trim g).length:Int)-1-axis)+half2 (n-turn),axis)
def asked (p:Poly):Int:=if 41<(trim p).length then 3 else if trim p=[] then 8 else 0
def routh (p:Poly):Option (Int×Int×Int):=if asked p≠0 then some (0,0,asked p) else (zGM p).map fun r=>(r.1,r.2,0)
variable {a b:Nat}
def sgn (s:Bool) (a:Nat):Int:=if s then -(a:Int) else (a:Int)
theorem zGv (s:Bool) (a:Nat):(sgn s a).natAbs=a:=by cases s<;>simp [sgn]
def qOf (s:Bool) (a b:Nat):Rat:=mkRat (sgn s a) b
theorem zKg (s:Bool) (b:Nat):qOf s 0 b=0:=by cases s<;>simp [qOf,sgn]
theorem zIi {s:Bool} (hb:b≠0):(qOf s a b).num.natAbs=a/Nat.gcd a b:=by
 rw [qOf,Rat.num_mkRat,if_neg hb,zGv,Nat.gcd_comm b a];have hd:((Nat.gcd a b:Nat):Int)∣(a:Int):=Int.natCast_dvd_natCast.2 (Nat.gcd_dvd_left a b);cases s
 · simp only [sgn,Bool.false_eq_true,if_false];rw [← Int.natCast_ediv,Int.natAbs_natCast]
 · simp only [sgn,if_true];rw [Int.neg_ediv_of_dvd hd,Int.natAbs_neg,← Int.natCast_ediv,Int.natAbs_natCast]
theorem zKr {s:Bool} (hb:b≠0):(qOf s a b).den=b/Nat.gcd a b:=by
 rw [qOf,Rat.den_mkRat,if_neg hb,zGv,Nat.gcd_comm b a]
theorem zDK (x:Rat):x<0↔x.num<0:=by
 have h := @Rat.num_nonneg x;rw [← Rat.not_le,← h];omega
theorem zMd {s:Bool} (ha:a≠0) (hb:b≠0):decide (qOf s a b<0)=s:=by
 have hg:0<Nat.gcd a b:=Nat.gcd_pos_of_pos_left _ (by omega);have hpos:0<a/Nat.gcd a b:=Nat.div_pos (Nat.le_of_dvd (by omega) (Nat.gcd_dvd_left a b)) hg;have hd:((Nat.gcd a b:Nat):Int)∣(a:Int):=Int.natCast_dvd_natCast.2 (Nat.gcd_dvd_left a b);have key:(qOf s a b).num=sgn s (a/Nat.gcd a b):=by
  rw [qOf,Rat.num_mkRat,if_neg hb,zGv,Nat.gcd_comm b a];cases s
  · simp only [sgn,Bool.false_eq_true,if_false];rw [← Int.natCast_ediv]
  · simp only [sgn,if_true];rw [Int.neg_ediv_of_dvd hd,← Int.natCast_ediv]
 have h2:(qOf s a b<0)↔s=true:=by
  rw [zDK,key];cases s
  · simp only [sgn,Bool.false_eq_true,if_false,iff_false];omega
  · simp only [sgn,if_true,iff_true];omega
 cases s
 · exact decide_eq_false (fun h=>by simpa using h2.1 h)
 · exact decide_eq_true (h2.2 rfl)
theorem zGG (x:Rat):x.num=sgn (decide (x<0)) x.num.natAbs:=by
 by_cases h:x<0
 · have h1:=(zDK x).1 h;rw [decide_eq_true h];simp only [sgn,if_true];omega
 · have h1:¬ x.num<0:=fun e=>h ((zDK x).2 e);rw [decide_eq_false h];simp only [sgn,Bool.false_eq_true,if_false];omega
theorem zPL (s t:Bool) (a b:Nat):sgn s a*sgn t b=sgn (s != t) (a*b):=by
 cases s<;>cases t<;>simp [sgn,Int.neg_mul,Int.mul_neg]
theorem q_mul (x y:Rat):x*y=qOf (decide (x<0) != decide (y<0)) (x.num.natAbs*y.num.natAbs) (x.den*y.den):=by
 rw [Rat.mul_def',qOf,← zPL,← zGG,← zGG]
theorem q_add_same (x y:Rat) (h:decide (x<0)=decide (y<0)):x+y=qOf (decide (x<0)) (x.num.natAbs*y.den+y.num.natAbs*x.den) (x.den*y.den):=by
 rw [Rat.add_def',qOf];congr 1;have h1:=zGG x;have h2:=zGG y;rw [← h] at h2
 conv=>lhs;rw [h1,h2]
 cases decide (x<0)<;>simp only [sgn,Bool.false_eq_true,if_false,if_true,Int.natCast_add,Int.natCast_mul,Int.neg_mul,Int.neg_add]
theorem zNo (s:Bool) (a d:Nat):sgn s a*(d:Int)=sgn s (a*d):=by
 cases s<;>simp [sgn,Int.neg_mul]
theorem sgn_add_lt {s t:Bool} {A C:Nat} (h:s≠t) (hl:A≤C):sgn s A+sgn t C=sgn t (C-A):=by
 cases s<;>cases t
 · exact absurd rfl h
 · simp only [sgn,Bool.false_eq_true,if_false,if_true];omega
 · simp only [sgn,Bool.false_eq_true,if_false,if_true];omega
 · exact absurd rfl h
theorem zJn (x y:Rat) (h:decide (x<0)≠decide (y<0)) (hl:x.num.natAbs*y.den≤y.num.natAbs*x.den):x+y=qOf (decide (y<0)) (y.num.natAbs*x.den-x.num.natAbs*y.den) (x.den*y.den):=by
 rw [Rat.add_def',qOf,← sgn_add_lt h hl,← zNo,← zNo,← zGG,← zGG]
theorem q_add_more (x y:Rat) (h:decide (x<0)≠decide (y<0)) (hl:y.num.natAbs*x.den≤x.num.natAbs*y.den):x+y=qOf (decide (x<0)) (x.num.natAbs*y.den-y.num.natAbs*x.den) (x.den*y.den):=by
 rw [Rat.add_comm,zJn y x (Ne.symm h) hl,Nat.mul_comm y.den]
theorem q_div (x y:Rat) (hy:y≠0):x/y=qOf (decide (x<0) != decide (y<0)) (x.num.natAbs*y.den) (x.den*y.num.natAbs):=by
 have h0:y.num≠0:=fun e=>hy (Rat.num_eq_zero.1 e);rw [Rat.div_def,Rat.inv_def]
 conv=>lhs;rw [← Rat.num_divInt_den x]
 rw [Rat.divInt_mul_divInt,qOf,← zPL,← zGG];have key:∀ m:Nat,((x.den*m:Nat):Int)=(x.den:Int)*(m:Int):=fun m=>Int.natCast_mul _ _;by_cases hn:y<0
 · have e:y.num = -(y.num.natAbs:Int):=by have:=(zDK y).1 hn;omega
   rw [decide_eq_true hn,← Rat.divInt_ofNat,key];simp only [sgn,if_true]
   conv=>lhs;rw [e]
   rw [Int.mul_neg,Rat.divInt_neg',Int.mul_neg]
 · have e:y.num=(y.num.natAbs:Int):=by have:¬ y.num<0:=fun h=>hn ((zDK y).2 h);omega
   rw [decide_eq_false hn,← Rat.divInt_ofNat,key];simp only [sgn,Bool.false_eq_true,if_false]
   conv=>lhs;rw [e]
def zHO (ratio:Nat→Option Rat):Nat→Poly→Option Poly
 | 0,O=>some O
 | k+1,O=>(ratio k).bind fun c=>(rmul (O.getD (k+1) 0) c).bind fun x=>zHO ratio k (O.set k x)
def zPf (n:Nat) (ratio:Nat→Option Rat):Option Poly:=zHO ratio n ((List.replicate (n+1) 0).set n 1)
def fracA (p:Poly):Poly:=p.mapIdx fun k c=>if (p.length-1-k)%2=0 then c else 0
def fracB (p:Poly):Poly:=trim (p.mapIdx fun k c=>if (p.length-1-k)%2=0 then 0 else c)
def fracL:Nat→Poly→Poly→Option (Option Poly)
 | 0,_,_=>some (some [])
 | n+1,a,b=>if b.length+1≠a.length then some none else
  (rdiv (top a) (top b)).bind fun q=>(pmul b [0,q]).bind fun m=>(psub a m).bind fun c=>(fracL n b c).map (Option.map (q :: ·))
def zEb (p:Poly):Option (Poly×Int) :=
 if asked p≠0 then some ([],asked p) else (fracL ((trim p).length-1) (fracA (trim p)) (fracB (trim p))).map fun r=>match r with | some l=>(l,0) | none=>([],6)
def zOx (p:Poly):Option (Poly×Int) :=
 (routh p).bind fun r=>if r.2.2≠0 then some ([],r.2.2) else if 0<r.1+r.2.1 then some ([],180) else zEb p
def zNd (p:Poly):Option Poly :=
 let q:=p.mapIdx fun k c=>if 2≤k%4 then -c else c
 let a:=q.mapIdx fun k c=>if k%2=0 then c else 0
 let b:=q.mapIdx fun k c=>if k%2=0 then 0 else c
 (pmul a a).bind fun x=>(pmul b b).bind fun y=>padd x y
def zNB:Nat→Poly→Poly→Option (List Poly)
 | 0,_,_=>none
 | f+1,b,c=>if (trim b).length≤1 then some [] else
  (zDv b).bind fun d=>(psub c d).bind fun rest=>(zBz b rest).bind fun part=>(zDG b part).bind fun b'=>(zDG rest part).bind fun c'=>(zNB f b' c').map (part :: ·)
def parts (p:Poly):Option (List Poly) :=
 (monic p).bind fun p=>(zDv p).bind fun d=>(zBz p d).bind fun g=>(zDG p g).bind fun b=>(zDG d g).bind fun c=>zNB (p.length+1) b c
def count (p:Poly) (lo hi:Rat):Option (Int×Int):=if asked p≠0 then some (0,asked p) else (rcmp lo hi).bind fun z=>if 0<z then some (0,7) else
 (own p).bind fun c=>(zHZ lo c).bind fun a=>(zHZ hi c).bind fun b=>some (a-b,0)
def zGi (lo hi:Rat):List Poly→Nat→Option Bool
 | [],_=>some true
 | f :: l,i=>if i%2=1∨(trim f).length≤1∨lo=hi then zGi lo hi l (i+1) else
  (count f lo hi).bind fun n=>if 1<n.1 then some false else if n.1=1 then (peval f hi).bind fun v=>if v=0 then zGi lo hi l (i+1) else some false else zGi lo hi l (i+1)
def zMQ (p:Poly) (lo:Rat):Nat→Rat→Option Bool
 | 0,_=>none
 | f+1,x=>(radd lo x).bind fun s=>(rmul s (1/2)).bind fun m=>(peval p m).bind fun v=>if v=0 then zMQ p lo f m else some (decide (0<v))
def zHd (p:Poly) (lo hi:Rat):Option Bool :=
 (peval p lo).bind fun a=>if a<0 then some false else (peval p hi).bind fun b=>if b<0 then some false else
  if asked p≠0 then some true else (parts p).bind fun l=>(rcmp lo hi).bind fun z=>(zGi lo hi l 0).bind fun n=>if n=false then some false else
   if z<0 then zMQ p lo (p.length+1) hi else some true
def rules (num den:Poly) (least most:Rat):Option (Poly×Poly) :=
 (zNd num).bind fun n=>(zNd den).bind fun d=>(zCA d most).bind fun x=>(psub x n).bind fun up=>(zCA d least).bind fun y=>(psub n y).bind fun low=>some (up,low)
structure Band where
 lo:Rat
 hi:Rat
 least:Rat
 most:Rat
def fails (num den:Poly) (b:Band):Option Bool :=
 (rules num den b.least b.most).bind fun r=>(zHd r.1 b.lo b.hi).bind fun a=>if a=false then some true else (zHd r.2 b.lo b.hi).map not
def zHK (num den:Poly):List Band→Nat→Option Int
 | [],_=>some (-1)
 | b :: l,i=>(fails num den b).bind fun f=>if f then some i else zHK num den l (i+1)
def witJ (up low:Poly) (lo w:Rat) (n:Nat):Nat→Nat→Option (Option Rat)
 | 0,_=>some none
 | f+1,j=>(rdiv j n).bind fun q=>(rmul w q).bind fun m=>(radd lo m).bind fun x=>(peval up x).bind fun a=>if a<0 then some (some x) else (peval low x).bind fun b=>if b<0 then some (some x) else witJ up low lo w n f (j+1)
def witN (up low:Poly) (lo w:Rat):Nat→Nat→Option Rat
 | 0,_=>none
 | f+1,n=>(witJ up low lo w n (n+1) 0).bind fun r=>match r with | some x=>some x | none=>witN up low lo w f (2*n)
variable {E bytes n:Nat} {P:Program} {af:Array Edge} {g:Option (Nat×Bool)} {k':IntKind} {pos:String} {r:Option Nat} {ty:TypeId} {w:World} {σ:Operand→Value}
section laws
open Go Go.RowKit Go.Proofs Tryz
variable {K:Value→World→Prop} {d:Option Tmp}
theorem runs_makeSliceC {T:Nat} {z:Value} {x y:Operand} {k:IntKind} {len cap:Int} (hT:P.underlying T=some (.slice E)) (hi:(P.info? E).map (fun i=>(i.zero,i.size,i.bytes))=some (some z,n,bytes)) (hz:z.cells.size=n)
 (hx:σ x = .int k len) (hy:σ y = .int k' cap) (h0:0≤len) (hlc:len≤cap) (h1:cap<9223372036854775808) (h2:bytes*cap≤281474976710656)
 (hk:∀ b w',b=w.heap.size→Ext w w'→Blk w' b E ((List.replicate cap.toNat z.cells.toList).flatten)→w'.heap.size=b+1→K (.slice (some ⟨b,0,none⟩) len.toNat cap.toNat) w'):Runs P r ⟨d,.makeSlice T x y,ty,pos,af,g⟩ σ w K:=by
 cases hie:P.info? E with
 | none=>simp [hie] at hi
 | some ie =>
  simp [hie] at hi;obtain ⟨e1,e2,e3⟩:=hi;have hw:IntKind.i64.wrap len=len:=by
   have:len%18446744073709551616=len:=by omega
   simp [IntKind.wrap,IntKind.bits,IntKind.signed,this];omega
  have hwc:IntKind.i64.wrap cap=cap:=by
   have:cap%18446744073709551616=cap:=by omega
   simp [IntKind.wrap,IntKind.bits,IntKind.signed,this];omega
  have hcells:(if cap.toNat*n=0 then (#[]:Array Value) else z.cells)=(if cap.toNat*n=0 then #[] else z.cells):=rfl;have hflat:((Array.range (cap.toNat*n)).map fun i=>((if cap.toNat*n=0 then (#[]:Array Value) else z.cells)[i%(if cap.toNat*n=0 then (#[]:Array Value) else z.cells).size]!))=⟨(List.replicate cap.toNat z.cells.toList).flatten⟩:=by
   by_cases hn:cap.toNat*n=0
   · simp only [hn,if_true];rcases Nat.mul_eq_zero.1 hn with h | h
     · simp [h]
     · have:z.cells.toList=[]:=by
        have:z.cells.toList.length=0:=by simp [hz,h]
        exact List.eq_nil_of_length_eq_zero this
       simp [this]
   · rw [if_neg hn];apply Array.ext';simp only [Array.toList_map,Array.toList_range];have key:∀ (m:Nat) (l:List Value),0<l.length→(List.range (m*l.length)).map (fun i=>l[i%l.length]!)=(List.replicate m l).flatten:=by
      intro m l hl
      induction m with
      | zero=>simp
      | succ m ih =>
       rw [List.replicate_succ',List.flatten_append,← ih,Nat.succ_mul,List.range_add,List.map_append,List.map_map];congr 1;simp only [List.flatten_cons,List.flatten_nil,List.append_nil];apply List.ext_getElem?;intro j;simp only [List.getElem?_map];by_cases hj:j<l.length
       · simp [hj,Nat.mod_eq_of_lt hj]
       · simp [hj]
     have h0n:0<n:=by
      rcases Nat.eq_zero_or_pos n with h | h
      · simp [h] at hn
      · exact h
     have:=key cap.toNat z.cells.toList (by simpa [hz] using h0n);simp only [Array.length_toList,hz] at this;rw [← this,hz];apply List.map_congr_left;intro i _;simp [getElem!_def]
  refine zBQ (fun _ e=>by cases e) (v := .slice (some ⟨w.heap.size,0,none⟩) len.toNat cap.toNat) (w':={ w with heap:=w.heap.push (.cells ⟨(List.replicate cap.toNat z.cells.toList).flatten⟩ E) }) ?_ ?_
  · have hl0:¬ len<0:=by omega
    have hc0:¬ cap<0:=by omega
    have hlc0:¬ cap<len:=by omega
    have hb:¬ ((ie.bytes:Int)*cap>281474976710656):=by rw [e3];omega
    simp only [execOp,Instr.makeSlice,hx,hy];simp [run_underlying hT,asInt,asIntOf,typeInfo,hie,hw,hwc,hl0,hc0,hlc0,sizeOf,e2];have hb':¬ 281474976710656<(ie.bytes:Int)*cap:=by rw [e3];omega
    rw [if_neg hb',← hflat];by_cases hn:cap.toNat*n=0
    · rw [if_pos hn];simp [hn,newRow]
    · rw [if_neg hn];simp [hn,zeroValue,typeInfo,hie,e1,newRow]
  · refine hk _ _ rfl (Ext.push _) ?_ (by simp);simp [Blk]
end laws
variable {i k:Nat} {p q:Poly} {x y z:Rat} {α β:Type}
theorem cbind {o:Option α} {f:α→Option β} {b:β} (h:o.bind f=some b):∃ a,o=some a∧f a=some b:=by
 cases o with
 | none=>cases h
 | some a=>exact ⟨a,rfl,h⟩
theorem cmap {o:Option α} {f:α→β} {b:β} (h:o.map f=some b):∃ a,o=some a∧f a=b:=by
 cases o with
 | none=>cases h
 | some a=>exact ⟨a,rfl,Option.some.inj h⟩
theorem zOb (h:radd x y=some z):z=x+y:=by
 unfold radd at h;split at h
 · exact (Option.some.inj h).symm
 · cases h
theorem rsub_eq (h:rsub x y=some z):z=x-y:=by
 unfold rsub at h;split at h
 · exact (Option.some.inj h).symm
 · cases h
theorem zJv (h:rmul x y=some z):z=x*y:=by
 unfold rmul at h;split at h
 · exact (Option.some.inj h).symm
 · cases h
theorem zGL (h:rdiv x y=some z):z=x/y:=by
 unfold rdiv at h;split at h
 · exact (Option.some.inj h).symm
 · cases h
def co (p:Poly) (k:Nat):Rat:=p.getD k 0
theorem zAh (k:Nat):co [] k=0:=rfl
theorem zAd (a:Rat) (p:Poly):co (a :: p) 0=a:=rfl
theorem zAQ (a:Rat) (p:Poly) (k:Nat):co (a :: p) (k+1)=co p k:=rfl
theorem co_ge {l:Poly} (h:l.length≤k):co l k=0:=by
 unfold co;rw [List.getD_eq_getElem?_getD,List.getElem?_eq_none h];rfl
theorem zDN {l:Poly} (h:i<l.length):co (l.set i x) k=if k=i then x else co l k:=by
 unfold co;rw [List.getD_eq_getElem?_getD,List.getD_eq_getElem?_getD,List.getElem?_set];by_cases e:i=k
 · subst e;simp [h]
 · rw [if_neg e,if_neg (Ne.symm e)]
theorem zGA {l:Poly} (h:k<l.length):co l k=l[k]:=by
 unfold co;rw [List.getD_eq_getElem?_getD,List.getElem?_eq_getElem h];rfl
theorem co_ext (hl:p.length=q.length) (h:∀ k,co p k=co q k):p=q :=
 List.ext_getElem hl fun i h1 h2=>by have:=h i;rwa [zGA h1,zGA h2] at this
theorem zBL (n k:Nat):co (List.replicate n 0) k=0:=by
 by_cases h:k<n
 · rw [zGA (by simpa using h)];simp
 · exact co_ge (by simp;omega)
theorem zFQ {α:Type} (p:α→Bool):∀ l:List α,∃ n,n≤l.length∧l.dropWhile p=l.drop n∧(∀ i,(h:i<l.length)→i<n→p l[i]=true)∧(∀ h:n<l.length,p l[n]=false)
 | []=>⟨0,Nat.le_refl _,rfl,fun i h=>absurd h (by simp),fun h=>absurd h (by simp)⟩
 | a :: l=>by
  by_cases ha:p a=true
  · obtain ⟨n,h0,h1,h2,h3⟩:=zFQ p l;refine ⟨n+1,by simpa using h0,by simp [List.dropWhile,ha,h1],fun i h hi => ?_,fun h => ?_⟩
    · cases i with
      | zero=>exact ha
      | succ i=>exact h2 i (by simpa using h) (by omega)
    · exact h3 (by simpa using h)
  · exact ⟨0,Nat.zero_le _,by simp [List.dropWhile,ha],fun i h hi=>absurd hi (by omega),fun _=>by simpa using ha⟩
def Trimd (p:Poly):Prop:=∀ n,p.length=n+1→co p n≠0
theorem zIO (p:Poly):∃ m,m≤p.length∧trim p=p.take m∧(∀ k,m≤k→co p k=0)∧(∀ n,m=n+1→co p n≠0):=by
 obtain ⟨n,h0,h1,h2,h3⟩:=zFQ (fun x:Rat=>decide (x=0)) p.reverse;rw [List.length_reverse] at h0;refine ⟨p.length-n,by omega,?_,fun k hk => ?_,fun m hm => ?_⟩
 · unfold trim;rw [h1,List.drop_reverse,List.reverse_reverse]
 · by_cases hl:k<p.length
   · have:=h2 (p.length-1-k) (by simp;omega) (by omega);rw [List.getElem_reverse] at this;rw [zGA hl];have e:p.length-1-(p.length-1-k)=k:=by omega
     simpa [e] using this
   · exact co_ge (by omega)
 · have hn:n<p.length:=by omega
   have:=h3 (by simpa using hn);rw [List.getElem_reverse] at this;have e:p.length-1-n=m:=by omega
   rw [zGA (by omega)];simpa [e] using this
theorem zFu (p:Poly):(trim p).length≤p.length:=by
 obtain ⟨m,h0,h1,_⟩:=zIO p;rw [h1];simp;omega
theorem zAr (p:Poly) (k:Nat):co (trim p) k=co p k:=by
 obtain ⟨m,h0,h1,h2,_⟩:=zIO p;rw [h1];by_cases h:k<m
 · rw [zGA (by simp;omega),zGA (by omega)];simp
 · rw [co_ge (by simp;omega),h2 k (by omega)]
theorem zAI (p:Poly):Trimd (trim p):=fun n hn=>by
 obtain ⟨m,h0,h1,_,h3⟩:=zIO p;rw [h1] at hn;simp at hn;rw [zAr];exact h3 n (by omega)
theorem zBF (h:Trimd p) (hk:∀ i,k≤i→co p i=0):p.length≤k:=by
 rcases Nat.lt_or_ge k p.length with hl | hl
 · exact absurd (hk (p.length-1) (by omega)) (h (p.length-1) (by omega))
 · exact hl
theorem zOj (h:co p k≠0):k<p.length:=by
 rcases Nat.lt_or_ge k p.length with hl | hl
 · exact hl
 · exact absurd (co_ge hl) h
theorem zGl (hp:Trimd p) (hq:Trimd q) (h:∀ k,co p k=co q k):p=q:=by
 have h1:p.length≤q.length:=zBF hp fun i hi=>by rw [h i,co_ge hi]
 have h2:q.length≤p.length:=zBF hq fun i hi=>by rw [← h i,co_ge hi]
 exact co_ext (by omega) h
theorem zu (h:Trimd p):trim p=p:=zGl (zAI p) h (zAr p)
theorem zEJ:Trimd []:=fun n h=>by cases h
theorem zBg (h:Trimd p) (h0:co p n≠0) (hk:∀ i,n<i→co p i=0):p.length=n+1:=by
 have:=zOj h0;have:=zBF h (k:=n+1) fun i hi=>hk i (by omega);omega
theorem zHW (h:Trimd p) (hk:∀ i,co p i=0):p=[]:=List.length_eq_zero_iff.1 (by have:=zBF h (k:=0) fun i _=>hk i;omega)
theorem zBf (p:Poly):top p=co p (p.length-1):=rfl
theorem zDw (h:Trimd p) (h0:p≠[]):top p≠0:=by
 have:0<p.length:=List.length_pos_iff.2 h0;exact h (p.length-1) (by omega)
theorem zKG:∀ {q:Poly} {i:Nat} {O R:Poly},addAt q i O=some R→i+q.length≤O.length→R.length=O.length∧∀ k,co R k=co O k+if i≤k then co q (k-i) else 0
 | [],i,O,R,h,_=>by cases h;exact ⟨rfl,fun k=>by simp [zAh,Rat.add_zero]⟩
 | c :: q,i,O,R,h,hl=>by
  obtain ⟨s,hs,h⟩:=cbind h;have hs:=zOb hs;simp at hl;obtain ⟨h1,h2⟩:=zKG h (by simp;omega);refine ⟨by simpa using h1,fun k => ?_⟩;rw [h2 k,zDN (by omega)];change s=co O i+c at hs;by_cases e:k=i
  · subst e;rw [if_pos rfl,if_neg (by omega),if_pos (Nat.le_refl _),Nat.sub_self,zAd];grind
  · rw [if_neg e];by_cases hk:i+1≤k
    · rw [if_pos hk,if_pos (by omega),show k-i=(k-(i+1))+1 by omega,zAQ]
    · rw [if_neg hk,if_neg (by omega)]
theorem zDz {r:Poly} (h:padd p q=some r):Trimd r∧∀ k,co r k=co p k+co q k:=by
 obtain ⟨s,hs,rfl⟩:=cmap h;refine ⟨zAI _,fun k => ?_⟩;rw [zAr];split at hs
 · rw [(zKG hs (by omega)).2 k];simp;grind
 · rw [(zKG hs (by omega)).2 k];simp
theorem zOq {x:Rat}:∀ {p r:Poly},mapO (fun c=>rmul c x) p=some r→r.length=p.length∧∀ k,co r k=co p k*x
 | [],r,h=>by cases h;exact ⟨rfl,fun k=>by simp [zAh,Rat.zero_mul]⟩
 | c :: p,r,h=>by
  obtain ⟨y,hy,h⟩:=cbind h;obtain ⟨t,ht,h⟩:=cbind h;cases h;obtain ⟨h1,h2⟩:=zOq ht;refine ⟨by simp [h1],fun k => ?_⟩;cases k with
  | zero=>exact zJv hy
  | succ k=>exact h2 k
theorem zAe {r:Poly} (h:zCA p x=some r):Trimd r∧∀ k,co r k=co p k*x:=by
 obtain ⟨s,hs,rfl⟩:=cmap h;exact ⟨zAI _,fun k=>by rw [zAr,(zOq hs).2]⟩
theorem zDx {r:Poly} (h:psub p q=some r):Trimd r∧∀ k,co r k=co p k-co q k:=by
 obtain ⟨m,hm,h⟩:=cbind h;obtain ⟨h1,h2⟩:=zDz h;exact ⟨h1,fun k=>by rw [h2,(zAe hm).2];grind⟩
theorem zMI {c:Rat}:∀ {q:Poly} {i:Nat} {O R:Poly},zGa c q i O=some R→i+q.length≤O.length→R.length=O.length∧∀ k,co R k=co O k-if i≤k then c*co q (k-i) else 0
 | [],i,O,R,h,_=>by cases h;exact ⟨rfl,fun k=>by simp [zAh,Rat.mul_zero];grind⟩
 | d :: q,i,O,R,h,hl=>by
  obtain ⟨m,hm,h⟩:=cbind h;obtain ⟨s,hs,h⟩:=cbind h;have hm:=zJv hm;have hs:=rsub_eq hs;simp at hl;obtain ⟨h1,h2⟩:=zMI h (by simp;omega);refine ⟨by simpa using h1,fun k => ?_⟩;rw [h2 k,zDN (by omega)];change s=co O i-m at hs;by_cases e:k=i
  · subst e;rw [if_pos rfl,if_neg (by omega),if_pos (Nat.le_refl _),Nat.sub_self,zAd];grind
  · rw [if_neg e];by_cases hk:i+1≤k
    · rw [if_pos hk,if_pos (by omega),show k-i=(k-(i+1))+1 by omega,zAQ]
    · rw [if_neg hk,if_neg (by omega)]
theorem zLh {a:Rat}:∀ {q:Poly} {i:Nat} {O R:Poly},zFP a q i O=some R→i+q.length≤O.length→R.length=O.length∧∀ k,co R k=co O k+if i≤k then a*co q (k-i) else 0
 | [],i,O,R,h,_=>by cases h;exact ⟨rfl,fun k=>by simp [zAh,Rat.mul_zero];grind⟩
 | d :: q,i,O,R,h,hl=>by
  obtain ⟨m,hm,h⟩:=cbind h;obtain ⟨s,hs,h⟩:=cbind h;have hm:=zJv hm;have hs:=zOb hs;simp at hl;obtain ⟨h1,h2⟩:=zLh h (by simp;omega);refine ⟨by simpa using h1,fun k => ?_⟩;rw [h2 k,zDN (by omega)];change s=co O i+m at hs;by_cases e:k=i
  · subst e;rw [if_pos rfl,if_neg (by omega),if_pos (Nat.le_refl _),Nat.sub_self,zAd];grind
  · rw [if_neg e];by_cases hk:i+1≤k
    · rw [if_pos hk,if_pos (by omega),show k-i=(k-(i+1))+1 by omega,zAQ]
    · rw [if_neg hk,if_neg (by omega)]
def conv:Poly→Poly→Nat→Rat
 | [],_,_=>0
 | a :: _,q,0=>a*co q 0
 | a :: p,q,k+1=>a*co q (k+1)+conv p q k
theorem zEi (q:Poly) (k:Nat):conv [] q k=0:=by cases k<;>rfl
theorem zFV (a:Rat) (p q:Poly):conv (a :: p) q 0=a*co q 0:=rfl
theorem zES (a:Rat) (p q:Poly) (k:Nat):conv (a :: p) q (k+1)=a*co q (k+1)+conv p q k:=rfl
theorem zOh {q:Poly}:∀ {p:Poly} {i:Nat} {O R:Poly},mulL q p i O=some R→i+p.length+q.length≤O.length→R.length=O.length∧∀ k,co R k=co O k+if i≤k then conv p q (k-i) else 0
 | [],i,O,R,h,_=>by cases h;exact ⟨rfl,fun k=>by simp [conv,Rat.add_zero]⟩
 | a :: p,i,O,R,h,hl=>by
  simp at hl;have key:∀ O',O'.length=O.length→(∀ k,co O' k=co O k+if i≤k then a*co q (k-i) else 0)→mulL q p (i+1) O'=some R→R.length=O.length∧∀ k,co R k=co O k+if i≤k then conv (a :: p) q (k-i) else 0:=fun O' h1 h2 h3=>by
   obtain ⟨h4,h5⟩:=zOh h3 (by omega);refine ⟨by omega,fun k => ?_⟩;rw [h5 k,h2 k];by_cases e:k=i
   · subst e;rw [if_pos (Nat.le_refl _),if_neg (by omega),if_pos (Nat.le_refl _),Nat.sub_self,zFV];grind
   · by_cases hk:i+1≤k
     · rw [if_pos hk,if_pos (by omega),if_pos (by omega),show k-i=(k-(i+1))+1 by omega,zES];grind
     · rw [if_neg hk,if_neg (by omega),if_neg (by omega)];grind
  unfold mulL at h;split at h
  · next e=>subst e;exact key O rfl (fun k=>by simp [Rat.zero_mul,Rat.add_zero]) h
  · obtain ⟨O',h1,h2⟩:=cbind h;obtain ⟨h3,h4⟩:=zLh h1 (by omega);exact key O' h3 h4 h2
theorem zBR {r:Poly} (h:pmul p q=some r):Trimd r∧∀ k,co r k=conv p q k:=by
 unfold pmul at h;split at h
 · cases h
 · obtain ⟨s,hs,rfl⟩:=cmap h;refine ⟨zAI _,fun k => ?_⟩;rw [zAr,(zOh hs (by simp)).2 k,zBL];simp [Rat.zero_add]
theorem zEy (q:Rat):∀ (b:Poly) (k:Nat),conv b [0,q] k=if k=0 then 0 else co b (k-1)*q
 | [],k=>by rw [zEi];simp [zAh,Rat.zero_mul]
 | x :: b,0=>by rw [zFV];simp [zAd,Rat.mul_zero]
 | x :: b,1=>by
  rw [zES,zEy q b 0];simp [zAd,zAQ,Rat.add_zero]
 | x :: b,k+2=>by
  rw [zES,zEy q b (k+1)];simp [zAQ,zAh,Rat.mul_zero,Rat.zero_add]
theorem zBT {r:Poly} (h:zDv p=some r):Trimd r∧∀ k,co r k=co p (k+1)*((k+1:Nat):Rat):=by
 have key:∀ {p:Poly} {i:Nat} {s:Poly},zEE p (i+1)=some s→∀ k,co s k=co p k*((k+(i+1):Nat):Rat):=by
  intro p
  induction p with
  | nil=>intro i s h k;cases h;simp [zAh,Rat.zero_mul]
  | cons c p ih =>
   intro i s h k;unfold zEE at h;rw [if_neg (by omega)] at h;obtain ⟨m,hm,h⟩:=cbind h;obtain ⟨t,ht,h⟩:=cbind h;cases h;cases k with
   | zero=>rw [zAd,zAd,Nat.zero_add];exact zJv hm
   | succ k=>rw [zAQ,zAQ,ih ht k];congr 2;omega
 obtain ⟨s,hs,rfl⟩:=cmap h;refine ⟨zAI _,fun k => ?_⟩;rw [zAr];cases p with
 | nil=>cases hs;simp [zAh,Rat.zero_mul]
 | cons c p=>unfold zEE at hs;rw [if_pos rfl] at hs;rw [zAQ,key hs k]
theorem zy (h:p≠[]):0<p.length:=List.length_pos_iff.2 h
theorem zAo (h:p.length=0):p=[]:=List.length_eq_zero_iff.1 h
theorem zIn (h:Trimd p) (h0:p≠[]):co p (p.length-1)≠0:=h _ (by have:=zy h0;omega)
theorem zFD (q:Poly):∀ (k:Nat) (p:Poly),(∀ k,co p k=0)→conv p q k=0
 | k,[],_=>zEi q k
 | 0,a :: p,h=>by rw [zFV,show a=0 from h 0,Rat.zero_mul]
 | k+1,a :: p,h=>by rw [zES,show a=0 from h 0,Rat.zero_mul,zFD q k p fun k=>h (k+1),Rat.add_zero]
theorem zMv (q:Poly):∀ (k:Nat) (p p':Poly),(∀ k,co p k=co p' k)→conv p q k=conv p' q k
 | k,[],p',h=>by rw [zFD q k p' fun k=>(h k).symm,zEi]
 | k,a :: p,[],h=>by rw [zFD q k (a :: p) h,zEi]
 | 0,a :: p,b :: p',h=>by rw [zFV,zFV,show a=b from h 0]
 | k+1,a :: p,b :: p',h=>by rw [zES,zES,show a=b from h 0,zMv q k p p' fun k=>h (k+1)]
theorem zNW (q:Poly) (c:Rat):∀ (p:Poly) (i k:Nat),i<p.length→conv (p.set i c) q k=conv p q k+if i≤k then (c-co p i)*co q (k-i) else 0
 | [],i,k,h=>absurd h (by simp)
 | a :: p,0,0,h=>by simp only [List.set_cons_zero];rw [zFV,zFV,if_pos (Nat.le_refl _),zAd];grind
 | a :: p,0,k+1,h=>by simp only [List.set_cons_zero];rw [zES,zES,if_pos (Nat.zero_le _),zAd,Nat.sub_zero];grind
 | a :: p,i+1,0,h=>by simp only [List.set_cons_succ];rw [zFV,zFV,if_neg (by omega)];grind
 | a :: p,i+1,k+1,h=>by
  simp only [List.set_cons_succ];rw [zES,zES,zNW q c p i k (by simpa using h),zAQ,Nat.add_sub_add_right];by_cases e:i≤k
  · rw [if_pos e,if_pos (by omega)];grind
  · rw [if_neg e,if_neg (by omega)];grind
theorem zJm (g:Rat):∀ (p:Poly) (k:Nat),conv p [g] k=co p k*g
 | [],k=>by rw [zEi,zAh,Rat.zero_mul]
 | a :: p,0=>rfl
 | a :: p,k+1=>by rw [zES,zJm g p k,zAQ,zAQ,zAh,Rat.mul_zero,Rat.zero_add]
theorem zGo {rest r:Poly} {c:Rat} (hq:Trimd q) (hq0:q≠[]) (hl:q.length≤rest.length) (hc:rdiv (top rest) (top q)=some c) (hr:zGa c q (rest.length-q.length) rest=some r) :
 (∀ k,co (trim r) k=co rest k-if rest.length-q.length≤k then c*co q (k-(rest.length-q.length)) else 0)∧(trim r).length<rest.length∧Trimd (trim r)∧c=top rest/top q:=by
 have hc:=zGL hc;have:=zy hq0;obtain ⟨h1,h2⟩:=zMI hr (by omega);have h3:∀ k,co (trim r) k=co rest k-if rest.length-q.length≤k then c*co q (k-(rest.length-q.length)) else 0:=fun k=>by rw [zAr,h2]
 refine ⟨h3,?_,zAI _,hc⟩;have:(trim r).length≤rest.length-1:=zBF (zAI r) fun i hi=>by
  rw [h3 i];by_cases e:i=rest.length-1
  · subst e;rw [if_pos (by omega),show rest.length-1-(rest.length-q.length)=q.length-1 by omega,hc,← zBf,← zBf];have:=zDw hq hq0;grind
  · rw [co_ge (l:=rest) (k:=i) (by omega),co_ge (l:=q) (by omega)];simp [Rat.mul_zero,Rat.sub_self]
 omega
theorem zNw {q:Poly} (hq:Trimd q) (hq0:q≠[]):∀ {f:Nat} {rest quo Q r:Poly},divL q f rest quo=some (Q,r)→Trimd rest→r.length<q.length∧Trimd r∧Trimd Q
 | 0,_,_,_,_,h,_=>by cases h
 | f+1,rest,quo,Q,r,h,ht=>by
  unfold divL at h;split at h
  · next hl=>cases h;exact ⟨hl,ht,zAI _⟩
  · obtain ⟨c,hc,h⟩:=cbind h;obtain ⟨s,hs,h⟩:=cbind h;exact zNw hq hq0 h (zAI _)
theorem zMa {q:Poly} (hq:Trimd q) (hq0:q≠[]):∀ {f:Nat} {rest quo Q r:Poly},divL q f rest quo=some (Q,r)→Trimd rest→(∀ j,j+q.length≤rest.length→co quo j=0)→(rest.length<quo.length+q.length) →
 (∀ k,conv Q q k+co r k=conv quo q k+co rest k)∧(∀ j,rest.length<j+q.length→co Q j=co quo j)
 | 0,_,_,_,_,h,_,_,_=>by cases h
 | f+1,rest,quo,Q,r,h,ht,h0,hlen=>by
  unfold divL at h;split at h
  · next hl=>cases h;exact ⟨fun k=>by rw [zMv q k _ quo (zAr quo)],fun j _=>zAr quo j⟩
  · next hl =>
    obtain ⟨c,hc,h⟩:=cbind h;obtain ⟨s,hs,h⟩:=cbind h;obtain ⟨h1,h2,h3,h4⟩:=zGo hq hq0 (by omega) hc hs;have hn:rest.length-q.length<quo.length:=by have:=zy hq0;omega
    obtain ⟨k1,k2⟩:=zMa hq hq0 h h3 (fun j hj=>by rw [zDN hn,if_neg (by omega)];exact h0 j (by omega)) (by simp;omega);refine ⟨fun k => ?_,fun j hj => ?_⟩
    · rw [k1 k,zNW q c quo _ k hn,h1 k,h0 (rest.length-q.length) (by omega)];by_cases e:rest.length-q.length≤k
      · rw [if_pos e,if_pos e];grind
      · rw [if_neg e,if_neg e];grind
    · rw [k2 j (by omega),zDN hn,if_neg (by omega)]
theorem zCa {R:Poly×Poly} (h:pdiv p q=some R):trim q≠[]∧R.2.length<(trim q).length∧Trimd R.2∧Trimd R.1:=by
 unfold pdiv at h;split at h
 · cases h
 · next h0=>exact ⟨h0,zNw (zAI q) h0 h (zAI p)⟩
theorem zOr {R:Poly×Poly} (h:pdiv p q=some R):∀ k,conv R.1 (trim q) k+co R.2 k=co p k:=by
 unfold pdiv at h;split at h
 · cases h
 · next h0 =>
   have:=zy h0;by_cases hl:(trim p).length<(trim q).length
   · unfold divL at h;rw [if_pos hl] at h;cases h;intro k;rw [zFD _ _ _ fun k=>by rw [zAr,zBL],zAr,Rat.zero_add]
   · obtain ⟨h1,_⟩:=zMa (zAI q) h0 h (zAI p) (fun j _=>zBL _ j) (by simp;omega);intro k;rw [h1 k,zFD _ _ _ fun k=>zBL _ k,zAr,Rat.zero_add]
theorem zIZ {R:Poly×Poly} (h:pdiv p q=some R) (hl:(trim p).length<(trim q).length):R=([],trim p):=by
 unfold pdiv at h;split at h
 · cases h
 · unfold divL at h;rw [if_pos hl] at h;cases h;rw [show (trim p).length+1-(trim q).length=0 by omega];rfl
theorem pdiv_quo {R:Poly×Poly} (h:pdiv p q=some R) (hl:(trim q).length≤(trim p).length):R.1.length=(trim p).length-(trim q).length+1:=by
 have ht:=(zCa h).2.2.2;unfold pdiv at h;split at h
 · cases h
 · next h0 =>
   have hq:=zy h0;unfold divL at h;rw [if_neg (by omega)] at h;obtain ⟨c,hc,h⟩:=cbind h;obtain ⟨s,hs,h⟩:=cbind h;obtain ⟨h1,h2,h3,h4⟩:=zGo (zAI q) h0 (by omega) hc hs;have hn:(trim p).length-(trim q).length<(List.replicate ((trim p).length+1-(trim q).length) (0:Rat)).length:=by simp;omega
   obtain ⟨_,k2⟩:=zMa (zAI q) h0 h h3 (fun j hj=>by rw [zDN hn,if_neg (by omega)];exact zBL _ j) (by rw [List.length_set,List.length_replicate];omega);have hp0:trim p≠[]:=fun e=>by
    have e2:(trim p).length=0:=by rw [e];rfl
    omega
   refine zBg ht ?_ fun i hi => ?_
   · rw [k2 _ (by omega),zDN hn,if_pos rfl,h4];have:=zDw (zAI p) hp0;have:=zDw (zAI q) h0;grind
   · rw [k2 _ (by omega),zDN hn,if_neg (by omega),zBL]
theorem zBy {r:Poly} (h:zDG p q=some r) (hp:Trimd p) (hq:Trimd q):Trimd r∧r.length=p.length+1-q.length:=by
 obtain ⟨R,hR,rfl⟩:=cmap h;have h0:=zCa hR;rw [zu hq] at h0;refine ⟨h0.2.2.2,?_⟩;by_cases hl:p.length<q.length
 · rw [zIZ hR (by rw [zu hp,zu hq];exact hl)];simp;omega
 · rw [pdiv_quo hR (by rw [zu hp,zu hq];omega),zu hp,zu hq];omega
theorem zHc {r:Poly} (h:zDG p q=some r) (hq:Trimd q) (h1:q.length=1):∀ k,co r k=co p k/co q 0:=by
 obtain ⟨R,hR,rfl⟩:=cmap h;have h2:=zCa hR;have h3:=zOr hR;rw [zu hq] at h2 h3;obtain ⟨g,rfl⟩:=List.length_eq_one_iff.1 h1;have hg:g≠0:=hq 0 rfl;intro k;have:=h3 k;rw [zJm,zAo (p:=R.2) (by simpa using h2.2.1),zAh] at this;rw [zAd];grind
theorem zKO {R:Poly×Poly} (h:pdiv p q=some R) (hp:Trimd p) (hq:Trimd q) (hn:q.length=n+1) (hl:p.length=n+2)
 (h0:co p n=(co p (n+1)/co q n)*if 1≤n then co q (n-1) else 0):∀ k,co R.2 k=co p k-(co p (n+1)/co q n)*if 1≤k then co q (k-1) else 0:=by
 have hq0:q≠[]:=fun e=>by subst e;cases hn
 unfold pdiv at h;rw [zu hq,zu hp,if_neg hq0] at h;unfold divL at h;rw [if_neg (by omega)] at h;obtain ⟨c,hc,h⟩:=cbind h;obtain ⟨s,hs,h⟩:=cbind h;obtain ⟨h1,h2,h3,h4⟩:=zGo hq hq0 (by omega) hc hs;rw [zBf,zBf,hl,hn] at h4;rw [hl,hn] at h1;have h4:c=co p (n+1)/co q n:=h4;have h1:∀ k,co (trim s) k=co p k-(co p (n+1)/co q n)*if 1≤k then co q (k-1) else 0:=fun k=>by
  have:=h1 k;rw [show n+2-(n+1)=1 by omega,h4] at this;rw [this];by_cases e:1≤k
  · rw [if_pos e,if_pos e]
  · rw [if_neg e,if_neg e,Rat.mul_zero]
 have h5:(trim s).length≤n:=zBF h3 fun i hi=>by
  by_cases e:i=n
  · subst e;rw [h1,h0];grind
  · rcases Nat.lt_or_ge (n+1) i with e2 | e2
    · rw [h1,co_ge (l:=p) (k:=i) (by omega),if_pos (by omega),co_ge (l:=q) (k:=i-1) (by omega)];grind
    · obtain rfl:i=n+1:=by omega
      have:=hq n hn;rw [h1,if_pos (by omega),Nat.add_sub_cancel];grind
 rw [hl] at h;unfold divL at h;rw [if_pos (by omega)] at h;cases h;exact h1
theorem rabs_pos (h:x≠0):0<rabs x:=by
 unfold rabs;by_cases e:x<0
 · rw [if_pos e];grind
 · rw [if_neg e];grind
theorem zAx {s:Poly} (h:zDe p=some s):Trimd s∧s.length=(trim p).length∧∃ t:Rat,0<t∧∀ k,co s k=co p k*t:=by
 unfold zDe at h;split at h
 · next e=>cases h;exact ⟨zEJ,by rw [e],1,by decide,fun k=>by rw [← zAr p,e,zAh];grind⟩
 · next e =>
   obtain ⟨c,hc,h⟩:=cbind h;obtain ⟨h1,h2⟩:=zAe h;have hc:=zGL hc;have hr:=rabs_pos (zDw (zAI p) e);have hc0:0<c:=by rw [hc,Rat.div_def,Rat.one_mul];exact Rat.inv_pos.2 hr
   have h3:∀ k,co s k=co p k*c:=fun k=>by rw [h2 k,zAr]
   refine ⟨h1,?_,c,hc0,h3⟩;obtain ⟨n,hn⟩:∃ n,(trim p).length=n+1:=⟨(trim p).length-1,by have:=zy e;omega⟩;rw [hn];refine zBg h1 ?_ fun i hi => ?_
   · rw [h2];have:=zAI p n hn;grind
   · rw [h2,co_ge (by omega)];grind
theorem zBl {s:Poly} (h:monic p=some s):Trimd s∧s.length=(trim p).length∧∃ t:Rat,t≠0∧∀ k,co s k=co p k*t:=by
 unfold monic at h;split at h
 · next e=>cases h;exact ⟨zEJ,by rw [e],1,by decide,fun k=>by rw [← zAr p,e,zAh];grind⟩
 · next e =>
   obtain ⟨c,hc,h⟩:=cbind h;obtain ⟨h1,h2⟩:=zAe h;have hc:=zGL hc;have hr:=zDw (zAI p) e;have hc0:c≠0:=by rw [hc];grind
   have h3:∀ k,co s k=co p k*c:=fun k=>by rw [h2 k,zAr]
   refine ⟨h1,?_,c,hc0,h3⟩;obtain ⟨n,hn⟩:∃ n,(trim p).length=n+1:=⟨(trim p).length-1,by have:=zy e;omega⟩;rw [hn];refine zBg h1 ?_ fun i hi => ?_
   · rw [h2];have:=zAI p n hn;grind
   · rw [h2,co_ge (by omega)];grind
theorem zDS {s:Poly} (h:zCA p x=some s) (hp:Trimd p) (hx:x≠0):s.length=p.length:=by
 obtain ⟨h1,h2⟩:=zAe h;by_cases e:p=[]
 · subst e;rw [zHW h1 fun i=>by rw [h2,zAh];grind]
 · obtain ⟨n,hn⟩:∃ n,p.length=n+1:=⟨p.length-1,by have:=zy e;omega⟩;rw [hn];refine zBg h1 ?_ fun i hi => ?_
   · rw [h2];have:=hp n hn;grind
   · rw [h2,co_ge (by omega)];grind
theorem zJI:∀ {f:Nat} {p q g:Poly},zBX f p q=some g→Trimd p→Trimd q→Trimd g∧(p≠[]∨q≠[]→g≠[])∧(q≠[]→g.length≤q.length)∧(q=[]→g=p)
 | 0,_,_,_,h,_,_=>by cases h
 | f+1,p,q,g,h,hp,hq=>by
  unfold zBX at h;split at h
  · next e=>cases h;exact ⟨hp,fun hh=>hh.elim id fun h=>absurd e h,fun h=>absurd e h,fun _=>rfl⟩
  · next e =>
    obtain ⟨R,hR,h⟩:=cbind h;obtain ⟨m,hm,h⟩:=cbind h;obtain ⟨m1,m2,_⟩:=zBl hm;have hr:=zCa hR;rw [zu hq] at hr;rw [zu hr.2.2.1] at m2;obtain ⟨g1,g2,g3,g4⟩:=zJI h hq m1;refine ⟨g1,fun _=>g2 (.inl e),fun _ => ?_,fun hh=>absurd hh e⟩;by_cases hm0:m=[]
    · rw [g4 hm0];exact Nat.le_refl _
    · have:=g3 hm0;omega
theorem zCp {g:Poly} (h:zBz p q=some g) (hp:Trimd p) (hq:Trimd q):Trimd g∧(p≠[]∨q≠[]→g≠[])∧(q≠[]→g.length≤q.length)∧(q=[]→g.length=p.length):=by
 obtain ⟨a,ha,h⟩:=cbind h;obtain ⟨b,hb,h⟩:=cbind h;obtain ⟨a1,a2,_⟩:=zBl ha;obtain ⟨b1,b2,_⟩:=zBl hb;rw [zu hp] at a2;rw [zu hq] at b2;have e:∀ {x y:Poly},x.length=y.length→x≠[]→y≠[]:=fun hl h0 he=>h0 (zAo (by rw [hl,he];rfl));obtain ⟨g1,g2,g3,g4⟩:=zJI h a1 b1;refine ⟨g1,fun hh=>g2 (hh.imp (e a2.symm) (e b2.symm)),fun hq0 => ?_,fun hq0 => ?_⟩
 · have:=g3 (e b2.symm hq0);omega
 · rw [g4 (zAo (by rw [b2,hq0];rfl)),a2]
theorem zBK (h:0<x):rsign x=1:=by
 have h2:=(Rat.lt_iff 0 x).1 h;exact Int.sign_eq_one_of_pos (by simpa using h2)
theorem zBJ (h:x<0):rsign x = -1:=by
 have h2:=(Rat.lt_iff x 0).1 h;exact Int.sign_eq_neg_one_of_neg (by simpa using h2)
theorem zBm (h:x≠0):(0<x∧rsign x=1)∨(x<0∧rsign x = -1):=by
 by_cases e:0<x
 · exact .inl ⟨e,zBK e⟩
 · have e2:x<0:=by grind
   exact .inr ⟨e2,zBJ e2⟩
theorem zFF:∀ (l:List Int) (last n:Int),flipL l last n=n+flipL l last 0
 | [],last,n=>by simp [flipL]
 | s :: l,last,n=>by
  unfold flipL;by_cases e:s=0
  · rw [if_pos e,if_pos e];exact zFF l last n
  · rw [if_neg e,if_neg e];by_cases e2:(last=1∧s = -1)∨(last = -1∧s=1)
    · rw [if_pos e2,if_pos e2,zFF l s (n+1),zFF l s (0+1)];omega
    · rw [if_neg e2,if_neg e2];exact zFF l s n
def flip2 (a b:Int):Int:=if (a=1∧b = -1)∨(a = -1∧b=1) then 1 else 0
theorem zHA (s:Int):flip2 0 s=0:=if_neg (by omega)
theorem zDp {s:Int} (h:s≠0) (l:List Int) (last n:Int):flipL (s :: l) last n=n+flip2 last s+flipL l s 0:=by
 rw [flipL,if_neg h,zFF];unfold flip2;split<;>omega
theorem zJk (m:Bool) (p:Poly):zAX m [p]=0:=by
 show flipL [endS m p] 0 0=0;by_cases e:endS m p=0
 · rw [flipL,if_pos e];rfl
 · rw [zDp e,zHA];rfl
theorem zIT (m:Bool) (l:List Poly) (hp:endS m p≠0) (hq:endS m q≠0):zAX m (p :: q :: l)=flip2 (endS m p) (endS m q)+zAX m (q :: l):=by
 show flipL (endS m p :: endS m q :: l.map (endS m)) 0 0=_+flipL (endS m q :: l.map (endS m)) 0 0;rw [zDp hp,zHA,zDp hq,zDp hq,zHA];omega
def dif (c:List Poly):Int:=zAX true c-zAX false c
theorem zKI (p:Poly):dif [p]=0:=by unfold dif;rw [zJk,zJk];rfl
theorem zHl (l:List Poly) (hp:Trimd p) (hq:Trimd q) (hp0:p≠[]) (hq0:q≠[]) :
 dif (p :: q :: l)=(if p.length%2=q.length%2 then 0 else if rsign (top p)=rsign (top q) then 1 else -1)+dif (q :: l):=by
 have e:∀ m {x:Poly},rsign (top x)=1∨rsign (top x) = -1→endS m x≠0:=fun m x h=>by unfold endS;split<;>omega
 have sp:rsign (top p)=1∨rsign (top p) = -1:=(zBm (zDw hp hp0)).imp (·.2) (·.2)
 have sq:rsign (top q)=1∨rsign (top q) = -1:=(zBm (zDw hq hq0)).imp (·.2) (·.2)
 unfold dif;rw [zIT true l (e _ sp) (e _ sq),zIT false l (e _ sp) (e _ sq)];have key:flip2 (endS true p) (endS true q)-flip2 (endS false p) (endS false q)=if p.length%2=q.length%2 then 0 else if rsign (top p)=rsign (top q) then 1 else -1:=by
  unfold endS;rcases sp with sp | sp<;>rcases sq with sq | sq<;>rw [sp,sq]<;>rcases Nat.mod_two_eq_zero_or_one p.length with lp | lp<;>rcases Nat.mod_two_eq_zero_or_one q.length with lq | lq<;>rw [lp,lq]<;>decide
 rw [← key];omega
theorem zDT:∀ {f:Nat} {P Q:Poly} {L:List Poly},zBe f P Q=some L→Trimd P→Trimd Q→Q.length<P.length→(∃ L',L=P :: L') ∧ -(Q.length:Int)≤dif L∧dif L≤Q.length
 | 0,_,_,_,h,_,_,_=>by cases h
 | f+1,P,Q,L,h,hP,hQ,hl=>by
  have hP0:P≠[]:=fun e=>by rw [e] at hl;simp at hl
  unfold zBe at h;rw [if_neg hP0] at h;split at h
  · next e=>cases h;subst e;exact ⟨⟨[],rfl⟩,by rw [zKI];simp,by rw [zKI];simp⟩
  · next hQ0 =>
    obtain ⟨R,hR,h⟩:=cbind h;obtain ⟨s,hs,h⟩:=cbind h;obtain ⟨s',hs',h⟩:=cbind h;obtain ⟨l,hl',h⟩:=cbind h;cases h;have hr:=zCa hR;rw [zu hQ] at hr;have h1:=zDS hs hr.2.2.1 (by decide);obtain ⟨h2,h3,_⟩:=zAx hs';rw [zu (zAe hs).1] at h3;obtain ⟨⟨L',rfl⟩,b1,b2⟩:=zDT hl' hQ h2 (by omega);refine ⟨⟨_,rfl⟩,?_⟩;rw [zHl L' hP hQ hP0 hQ0];split
    · omega
    · split<;>omega
theorem chainL_dif' {f:Nat} {P Q:Poly} {L:List Poly} (h:zBe f P Q=some L) (hP:Trimd P) (hQ:Trimd Q) (hl:Q.length≤P.length):P=[]∧dif L=0∨P≠[] ∧ -((P.length:Int)-1)≤dif L∧dif L≤(P.length:Int)-1:=by
 by_cases hP0:P=[]
 · refine .inl ⟨hP0,?_⟩;cases f with
   | zero=>cases h
   | succ f=>unfold zBe at h;rw [if_pos hP0] at h;cases h;rfl
 · refine .inr ⟨hP0,?_⟩;by_cases he:Q.length<P.length
   · obtain ⟨_,b1,b2⟩:=zDT h hP hQ he;omega
   · cases f with
     | zero=>cases h
     | succ f =>
      have:=zy hP0;have hQ0:Q≠[]:=fun e=>by rw [e] at he;exact he this
      unfold zBe at h;rw [if_neg hP0,if_neg hQ0] at h;obtain ⟨R,hR,h⟩:=cbind h;obtain ⟨s,hs,h⟩:=cbind h;obtain ⟨s',hs',h⟩:=cbind h;obtain ⟨l,hl',h⟩:=cbind h;cases h;have hr:=zCa hR;rw [zu hQ] at hr;have h1:=zDS hs hr.2.2.1 (by decide);obtain ⟨h2,h3,_⟩:=zAx hs';rw [zu (zAe hs).1] at h3;obtain ⟨⟨L',rfl⟩,b1,b2⟩:=zDT hl' hQ h2 (by omega);rw [zHl L' hP hQ hP0 hQ0,if_pos (by omega)];omega
variable {F:Option Poly} {j:Nat}
section
def alt (j:Nat):Rat:=if j%4<2 then 1 else -1
theorem alt_0:alt 0=1:=rfl
theorem alt_2 (j:Nat):alt (j+2) = - alt j:=by
 unfold alt;by_cases h:j%4<2
 · rw [if_pos h,if_neg (by omega)]
 · rw [if_neg h,if_pos (by omega)];decide
theorem zLb (j:Nat):alt j≠0:=by
 unfold alt;split<;>decide
theorem zPe (j:Nat):alt j*alt j=1:=by
 unfold alt;split<;>grind
theorem neg_of {q:Rat} (h:¬ 0<q) (h0:q≠0):q<0:=by grind
theorem alt_odd (h:j%2=0):alt (j+1)=alt j:=by
 unfold alt;by_cases h:j%4<2
 · rw [if_pos h,if_pos (by omega)]
 · rw [if_neg h,if_neg (by omega)]
theorem zNO (h:j%2=1):alt (j+1) = - alt j:=by
 unfold alt;by_cases h:j%4<2
 · rw [if_pos h,if_neg (by omega)]
 · rw [if_neg h,if_pos (by omega)];decide
structure HP (n:Nat) (c d:Rat) (a b P Q:Poly):Prop where
 pa:∀ k,co a k≠0→k≤n∧(n-k)%2=0
 ta:co a n≠0
 da:Trimd a
 db:Trimd b
 pb:∀ k,co b k≠0→k+1≤n∧(n-1-k)%2=0
 dP:Trimd P
 dQ:Trimd Q
 hc:c≠0
 hd:d≠0
 hP:∀ k,co P k=c*alt (n-k)*co a k
 hQ:∀ k,co Q k=d*alt (n-1-k)*co b k
variable {c d:Rat} {a b P Q:Poly}
theorem HP.la (h:HP n c d a b P Q):a.length=n+1:=zBg h.da h.ta fun i hi=>by
 by_cases e:co a i=0
 · exact e
 · have:=h.pa i e;omega
theorem HP.lP (h:HP n c d a b P Q):P.length=n+1:=by
 refine zBg h.dP ?_ fun i hi => ?_
 · rw [h.hP,Nat.sub_self,alt_0];have:=h.ta;have:=h.hc;grind
 · rw [h.hP,co_ge (l:=a) (by rw [h.la];omega),Rat.mul_zero]
theorem HP.lQ (h:HP n c d a b P Q):Q.length=b.length:=by
 have e:∀ k,co Q k=0↔co b k=0:=fun k=>by
  rw [h.hQ];have:=h.hd;have:=zLb (n-1-k);grind
 have h1:Q.length≤b.length:=zBF h.dQ fun i hi=>(e i).2 (co_ge hi);have h2:b.length≤Q.length:=zBF h.db fun i hi=>(e i).1 (co_ge hi);omega
theorem HP.lb (h:HP n c d a b P Q):b.length≤n:=zBF h.db fun i hi=>by
 by_cases e:co b i=0
 · exact e
 · have:=h.pb i e;omega
theorem HP.lb2 (h:HP n c d a b P Q) (h0:b≠[]):(n-b.length)%2=0:=by
 have:=h.pb _ (zIn h.db h0);have:=zy h0;omega
theorem HP.scale (h:HP n c d a b P Q) {P' Q':Poly} {s t:Rat} (hP:Trimd P') (hQ:Trimd Q') (hs:s≠0) (ht:t≠0) (h1:∀ k,co P' k=co P k*s) (h2:∀ k,co Q' k=co Q k*t):HP n (c*s) (d*t) a b P' Q' :=
 ⟨h.pa,h.ta,h.da,h.db,h.pb,hP,hQ,by have:=h.hc;grind,by have:=h.hd;grind,fun k=>by rw [h1,h.hP];grind,fun k=>by rw [h2,h.hQ];grind⟩
theorem HP.step (h:HP (n+1) c d a b P Q) (hb:co b n≠0) {r S:Poly} {t:Rat} (hr:Trimd r) (hrk:∀ k,co r k=co a k-if k=0 then 0 else co b (k-1)*(co a (n+1)/co b n))
 (hS:Trimd S) (ht:t≠0) (hSk:∀ k,co S k=(co P k-(co P (n+1)/co Q n)*if 1≤k then co Q (k-1) else 0)*t):HP n d (-(c*t)) b r Q S:=by
 have hc:=h.hc;have hd:=h.hd;have hrz:∀ k,co r k≠0→k+1≤n∧(n-1-k)%2=0:=fun k hk=>by
  rw [hrk] at hk;have h1:k≤n+1∧(n+1-k)%2=0:=by
   by_cases ea:co a k=0
   · by_cases e0:k=0
     · rw [if_pos e0,ea] at hk;exact absurd (by grind) hk
     · rw [if_neg e0,ea] at hk;have:co b (k-1)≠0:=fun e=>hk (by rw [e];grind);have:=h.pb _ this;omega
   · exact h.pa k ea
  by_cases e:k=n+1
  · subst e;rw [if_neg (by omega),Nat.add_sub_cancel] at hk;exact absurd (by grind) hk
  · omega
 refine ⟨fun k hk => ?_,hb,h.db,hr,hrz,h.dQ,hS,hd,by grind,fun k=>h.hQ k,fun k => ?_⟩
 · have:=h.pb k hk;omega
 · have e1:co P (n+1)/co Q n=(c/d)*(co a (n+1)/co b n):=by
    rw [h.hP,h.hQ,Nat.sub_self,Nat.add_sub_cancel,Nat.sub_self,alt_0];grind
   by_cases e:k+1≤n
   · have e2:alt (n+1-k) = - alt (n-1-k):=by rw [← alt_2];congr 1;omega
     rw [hSk,e1,h.hP,e2,hrk];by_cases e0:k=0
     · rw [if_neg (by omega),if_pos e0];grind
     · rw [if_pos (by omega),if_neg e0,h.hQ,show n+1-1-(k-1)=n+1-k by omega,e2];grind
   · have hz:co r k=0:=by
      by_cases ez:co r k=0
      · exact ez
      · have:=hrz k ez;omega
     rw [hz,Rat.mul_zero,hSk,e1];rw [hrk] at hz;rw [h.hP];by_cases e0:k=0
     · rw [if_neg (by omega)];rw [if_pos e0] at hz;grind
     · rw [if_pos (by omega)];rw [if_neg e0] at hz;rw [h.hQ,show n+1-1-(k-1)=n+1-k by omega];grind
theorem HP.gap (h:HP (n+1) c d a b P Q):co P n=(co P (n+1)/co Q n)*if 1≤n then co Q (n-1) else 0:=by
 have e1:co P n=0:=by
  rw [h.hP];by_cases e:co a n=0
  · rw [e,Rat.mul_zero]
  · have:=h.pa n e;omega
 have e2:(if 1≤n then co Q (n-1) else 0)=0:=by
  by_cases e:1≤n
  · rw [if_pos e,h.hQ];by_cases e:co b (n-1)=0
    · rw [e,Rat.mul_zero]
    · have:=h.pb _ e;omega
  · rw [if_neg e]
 rw [e1,e2,Rat.mul_zero]
def sg (x:Rat):Int:=if 0<x then 1 else -1
theorem zLe (hx:x≠0) (hy:y≠0):sg (x*y)=sg x*sg y:=by
 unfold sg;by_cases h1:0<x<;>by_cases h2:0<y
 · rw [if_pos (Rat.mul_pos h1 h2),if_pos h1,if_pos h2];rfl
 · have:y<0:=by grind
   have:x*y<0:=(Rat.mul_neg_iff_of_pos_left h1).2 this;rw [if_neg (by grind),if_pos h1,if_neg h2];rfl
 · have:x<0:=by grind
   have:x*y<0:=(Rat.mul_neg_iff_of_pos_right h2).2 this;rw [if_neg (by grind),if_neg h1,if_pos h2];rfl
 · have h3:0 < -x:=by grind
   have h4:0 < -y:=by grind
   have:=Rat.mul_pos h3 h4;rw [if_pos (by grind),if_neg h1,if_neg h2];rfl
theorem zGp (h:0<x):sg x=1:=if_pos h
theorem zLR (h:x<0):sg x = -1:=if_neg (by grind)
theorem zFh (x:Rat):sg x=1∨sg x = -1:=by unfold sg;split<;>simp
theorem zNX (hx:x≠0) (hy:y≠0):(if rsign x=rsign y then (1:Int) else -1)=sg (x*y):=by
 rw [zLe hx hy];rcases zBm hx with ⟨h1,e1⟩ | ⟨h1,e1⟩<;>rcases zBm hy with ⟨h2,e2⟩ | ⟨h2,e2⟩<;>rw [e1,e2]
 · rw [zGp h1,zGp h2];rfl
 · rw [zGp h1,zLR h2];rfl
 · rw [zLR h1,zGp h2];rfl
 · rw [zLR h1,zLR h2];rfl
def zFx (F:Option Poly):Prop:=∃ l,F=some l∧∀ q,q∈l→0<q
theorem zFg {q:Rat}:zFx (F.map (q :: ·))↔0<q∧zFx F:=by
 cases F with
 | none=>exact ⟨fun ⟨l,h,_⟩=>(by cases h),fun ⟨_,l,h,_⟩=>(by cases h)⟩
 | some l =>
  constructor
  · rintro ⟨l',h,h2⟩;cases h;exact ⟨h2 q (by simp),l,rfl,fun x hx=>h2 x (by simp [hx])⟩
  · rintro ⟨h1,l',h,h2⟩;cases h;exact ⟨_,rfl,fun x hx=>by
     rcases List.mem_cons.1 hx with e | e
     · exact e ▸ h1
     · exact h2 x e⟩
theorem zIv:∀ (n:Nat) {a b P' Q':Poly} {c' d':Rat} {f':Nat} {F:Option Poly} {G:Poly},HP n c' d' a b P' Q'→fracL n a b=some F→zBX f' P' Q'=some G→zFx F→G.length=1
 | n,a,b,P',Q',c',d',0,F,G,_,_,hG,_=>by cases hG
 | 0,a,b,P',Q',c',d',f'+1,F,G,h',hF,hG,hA=>by
  have hb:b=[]:=zAo (by have:=h'.lb;omega);have hQ':Q'=[]:=zAo (by rw [h'.lQ,hb];rfl);unfold zBX at hG;rw [if_pos hQ'] at hG;cases hG;exact h'.lP
 | n+1,a,b,P',Q',c',d',f'+1,F,G,h',hF,hG,hA=>by
  unfold fracL at hF;split at hF
  · cases hF;obtain ⟨l,e,_⟩:=hA;cases e
  · next hreg =>
    have hreg:b.length=n+1:=by rw [h'.la] at hreg;omega
    have hb0:b≠[]:=fun e=>by rw [e] at hreg;cases hreg
    have hQ0:Q'≠[]:=fun e=>by have:=h'.lQ;rw [e,hreg] at this;cases this
    have hbn:co b n≠0:=h'.db n hreg;obtain ⟨q,hq,hF⟩:=cbind hF;obtain ⟨m,hm,hF⟩:=cbind hF;obtain ⟨r,hr,hF⟩:=cbind hF;obtain ⟨F',hF',rfl⟩:=cmap hF;have hq:=zGL hq;rw [zBf,zBf,h'.la,hreg] at hq;have hq:q=co a (n+1)/co b n:=hq;obtain ⟨r1,r2⟩:=zDx hr;have hrk:∀ k,co r k=co a k-if k=0 then 0 else co b (k-1)*(co a (n+1)/co b n):=fun k=>by rw [r2,(zBR hm).2,zEy,hq]
    unfold zBX at hG;rw [if_neg hQ0] at hG;obtain ⟨R',hR',hG⟩:=cbind hG;obtain ⟨m',hm',hG⟩:=cbind hG;have hRk':=zKO hR' h'.dP h'.dQ (n:=n) (by rw [h'.lQ,hreg]) h'.lP h'.gap;obtain ⟨M1,M2,u,hu,M3⟩:=zBl hm';exact zIv n (h'.step hbn r1 hrk M1 hu fun k=>by rw [M3,hRk']) hF' hG (zFg.1 hA).2
theorem zHa:∀ (n:Nat) {a b P Q P' Q':Poly} {c d c' d':Rat} {f f':Nat} {L:List Poly} {F:Option Poly} {G:Poly},HP n c d a b P Q→HP n c' d' a b P' Q'→zBe f P Q=some L→fracL n a b=some F→zBX f' P' Q'=some G →
 (zFx F∧dif L=sg (c*d)*n∧G.length=1)∨(¬ zFx F∧(sg (c*d)*dif L≤(n:Int)-2∨1<G.length))
 | n,a,b,P,Q,P',Q',c,d,c',d',0,f',L,F,G,_,_,hL,_,_=>by cases hL
 | n,a,b,P,Q,P',Q',c,d,c',d',f+1,0,L,F,G,_,_,_,_,hG=>by cases hG
 | 0,a,b,P,Q,P',Q',c,d,c',d',f+1,f'+1,L,F,G,h,h',hL,hF,hG=>by
  have hb:b=[]:=zAo (by have:=h.lb;omega);have hQ:Q=[]:=zAo (by rw [h.lQ,hb];rfl);have hQ':Q'=[]:=zAo (by rw [h'.lQ,hb];rfl);have hP:P≠[]:=fun e=>by have:=h.lP;rw [e] at this;cases this
  unfold zBe at hL;rw [if_neg hP,if_pos hQ] at hL;cases hL;unfold zBX at hG;rw [if_pos hQ'] at hG;cases hG;cases hF;exact .inl ⟨⟨[],rfl,fun q hq=>by cases hq⟩,by rw [zKI];simp,h'.lP⟩
 | n+1,a,b,P,Q,P',Q',c,d,c',d',f+1,f'+1,L,F,G,h,h',hL,hF,hG=>by
  have hP:P≠[]:=fun e=>by have:=h.lP;rw [e] at this;cases this
  have hQb:Q=[]↔b=[]:=⟨fun e=>zAo (by rw [← h.lQ,e];rfl),fun e=>zAo (by rw [h.lQ,e];rfl)⟩;have hQb':Q'=[]↔b=[]:=⟨fun e=>zAo (by rw [← h'.lQ,e];rfl),fun e=>zAo (by rw [h'.lQ,e];rfl)⟩;by_cases hreg:b.length=n+1
  · -- a regular step
    have hb0:b≠[]:=fun e=>by rw [e] at hreg;cases hreg
    have hbn:co b n≠0:=h.db n hreg;unfold fracL at hF;rw [if_neg (by rw [h.la,hreg];omega)] at hF;obtain ⟨q,hq,hF⟩:=cbind hF;obtain ⟨m,hm,hF⟩:=cbind hF;obtain ⟨r,hr,hF⟩:=cbind hF;obtain ⟨F',hF',rfl⟩:=cmap hF;have hq:=zGL hq;rw [zBf,zBf,h.la,hreg] at hq;have hq:q=co a (n+1)/co b n:=hq;obtain ⟨r1,r2⟩:=zDx hr;have hrk:∀ k,co r k=co a k-if k=0 then 0 else co b (k-1)*(co a (n+1)/co b n):=fun k=>by rw [r2,(zBR hm).2,zEy,hq]
    -- the chain
    unfold zBe at hL;rw [if_neg hP,if_neg (fun e=>hb0 (hQb.1 e))] at hL;obtain ⟨R,hR,hL⟩:=cbind hL;obtain ⟨s,hs,hL⟩:=cbind hL;obtain ⟨S,hS,hL⟩:=cbind hL;obtain ⟨l,hl,hL⟩:=cbind hL;cases hL;have hRk:=zKO hR h.dP h.dQ (n:=n) (by rw [h.lQ,hreg]) h.lP h.gap;obtain ⟨S1,S2,t,ht,S3⟩:=zAx hS;have hstep:=h.step hbn r1 hrk S1 (t := -t) (by grind) fun k=>by rw [S3,(zAe hs).2,hRk];grind
    -- the zBz divisor
    unfold zBX at hG;rw [if_neg (fun e=>hb0 (hQb'.1 e))] at hG;obtain ⟨R',hR',hG⟩:=cbind hG;obtain ⟨m',hm',hG⟩:=cbind hG;have hRk':=zKO hR' h'.dP h'.dQ (n:=n) (by rw [h'.lQ,hreg]) h'.lP h'.gap;obtain ⟨M1,M2,u,hu,M3⟩:=zBl hm';have hstep':=h'.step hbn r1 hrk M1 hu fun k=>by rw [M3,hRk']
    have ih:=zHa n hstep hstep' hl hF' hG;have hle:=(zCa hR).2.1;obtain ⟨⟨L',rfl⟩,-,-⟩:=zDT hl h.dQ S1 (by
     rw [zu h.dQ] at hle;have e1:=zDS hs (zCa hR).2.2.1 (by decide);rw [zu (zAe hs).1] at S2;omega)
    have hc:=h.hc;have hd:=h.hd;have ha:=h.ta;have hcd:c*d≠0:=by grind
    have hq0:q≠0:=by rw [hq];grind
    have e1:sg (d * -(c * -t))=sg (c*d):=by
     rw [show d * -(c * -t)=(c*d)*t by grind,zLe hcd (by grind),zGp ht];omega
    have e2:dif (P :: Q :: L')=sg (c*d)*sg q+dif (Q :: L'):=by
     rw [zHl L' h.dP h.dQ hP (fun e=>hb0 (hQb.1 e)),if_neg (by rw [h.lP,h.lQ,hreg];omega),zNX (zDw h.dP hP) (zDw h.dQ fun e=>hb0 (hQb.1 e))];congr 1;rw [zBf,zBf,h.lP,h.lQ,hreg];show sg (co P (n+1)*co Q n)=_;rw [h.hP,h.hQ,Nat.sub_self,Nat.add_sub_cancel,Nat.sub_self,alt_0];rw [show c*1*co a (n+1)*(d*1*co b n)=(c*d)*(q*(co b n*co b n)) by rw [hq];grind];have hbb:0<co b n*co b n:=by
      rcases Rat.le_iff_lt_or_eq.1 (show 0≤co b n*co b n by
       by_cases e:0≤co b n
       · exact Rat.mul_nonneg e e
       · have:=Rat.mul_nonneg (show 0 ≤ -co b n by grind) (show 0 ≤ -co b n by grind);grind) with e | e
      · exact e
      · exact absurd e.symm (by grind)
     rw [zLe hcd (by grind),zLe hq0 (by grind),zGp hbb,Int.mul_one]
    rw [e1] at ih;rw [e2,zFg];by_cases hqp:0<q
    · rw [zGp hqp];rcases ih with ⟨i1,i2,i3⟩ | ⟨i1,i2⟩
      · exact .inl ⟨⟨hqp,i1⟩,by rw [i2];rcases zFh (c*d) with e | e<;>rw [e]<;>push_cast<;>omega,i3⟩
      · refine .inr ⟨fun hh=>i1 hh.2,i2.imp (fun hh => ?_) id⟩;rcases zFh (c*d) with e | e<;>rw [e] at hh ⊢ <;> push_cast<;>omega
    · rw [zLR (neg_of hqp hq0)];refine .inr ⟨fun hh=>hqp hh.1,?_⟩;rcases ih with ⟨i1,i2,i3⟩ | ⟨i1,i2⟩
      · left;rw [i2];rcases zFh (c*d) with e | e<;>rw [e]<;>push_cast<;>omega
      · refine i2.imp (fun hh => ?_) id;rcases zFh (c*d) with e | e<;>rw [e] at hh ⊢ <;> push_cast<;>omega
  · -- the form is wrong
    have hlb:=h.lb;unfold fracL at hF;rw [if_pos (by rw [h.la];omega)] at hF;cases hF;refine .inr ⟨fun ⟨l,e,_⟩=>(by cases e),?_⟩;obtain ⟨_,b1,b2⟩:=zDT hL h.dP h.dQ (by rw [h.lQ,h.lP];omega);rw [h.lQ] at b1 b2;by_cases hb:b=[]
    · by_cases hn:n=0
      · right;unfold zBX at hG;rw [if_pos (hQb'.2 hb)] at hG;cases hG;rw [h'.lP];omega
      · left;rw [hb] at b1 b2;simp at b1 b2;rcases zFh (c*d) with e | e<;>rw [e]<;>push_cast<;>omega
    · left;have:=h.lb2 hb;have:=zy hb;rcases zFh (c*d) with e | e<;>rw [e]<;>push_cast<;>omega
end
theorem zLX:∀ {l s re im:Poly} {R:Poly×Poly},zHf [] [0,1] l re im=some R→Trimd re→Trimd im→(∀ t,co re t=if t%2=0 then alt t*co s t else 0)→(∀ t,co im t=if t%2=1 then alt t*co s t else 0) →
 Trimd R.1∧Trimd R.2∧(∀ t,co R.1 t=if t%2=0 then alt t*co (l.reverse++s) t else 0)∧∀ t,co R.2 t=if t%2=1 then alt t*co (l.reverse++s) t else 0
 | [],s,re,im,R,h,t1,t2,h1,h2=>by cases h;exact ⟨t1,t2,h1,h2⟩
 | c :: l,s,re,im,R,h,t1,t2,h1,h2=>by
  obtain ⟨a,ha,h⟩:=cbind h;obtain ⟨b,hb,h⟩:=cbind h;obtain ⟨d,hd,h⟩:=cbind h;obtain ⟨re',hre,h⟩:=cbind h;obtain ⟨e,he,h⟩:=cbind h;obtain ⟨g,hg,h⟩:=cbind h;obtain ⟨im',him,h⟩:=cbind h;have hx:∀ (p:Poly) (k:Nat),conv p [] k=0:=fun p=>by
   induction p with
   | nil=>intro k;rfl
   | cons a p ih =>
    intro k;cases k with
    | zero=>unfold conv;rw [zAh,Rat.mul_zero]
    | succ k=>unfold conv;rw [zAh,Rat.mul_zero,ih,Rat.add_zero]
  obtain ⟨r1,r2⟩:=zDz hre;obtain ⟨i1,i2⟩:=zDz him;have:=zLX (s:=c :: s) h r1 i1 (fun t=>by
   rw [r2,(zDx hd).2,(zBR ha).2,(zBR hb).2,hx,zEy];cases t with
   | zero=>rw [if_pos rfl,if_pos rfl,zAd,zAd,alt_0];grind
   | succ t =>
    rw [if_neg (by omega),zAQ,zAQ,zAh,Nat.add_sub_cancel,h2];by_cases e:t%2=1
    · rw [if_pos e,if_pos (by omega),zNO e];grind
    · rw [if_neg e,if_neg (by omega)];grind) (fun t=>by
   rw [i2,(zBR he).2,(zBR hg).2,hx,zEy];cases t with
   | zero=>rw [if_pos rfl,if_neg (by omega)];grind
   | succ t =>
    rw [if_neg (by omega),zAQ,Nat.add_sub_cancel,h1];by_cases e:t%2=0
    · rw [if_pos e,if_pos (by omega),alt_odd e];grind
    · rw [if_neg e,if_neg (by omega)];grind)
  rw [show (c :: l).reverse++s=l.reverse++(c :: s) by simp];exact this
theorem zKR {R:Poly×Poly} (h:along p [] [0,1]=some R):Trimd R.1∧Trimd R.2∧(∀ t,co R.1 t=if t%2=0 then alt t*co p t else 0)∧∀ t,co R.2 t=if t%2=1 then alt t*co p t else 0:=by
 have:=zLX (s:=[]) h zEJ zEJ (fun t=>by rw [zAh,Rat.mul_zero];simp) (fun t=>by rw [zAh,Rat.mul_zero];simp);rwa [List.reverse_reverse,List.append_nil] at this
theorem zLj (f:Nat→Rat→Rat) (p:Poly) (k:Nat):co (p.mapIdx f) k=if k<p.length then f k (co p k) else 0:=by
 by_cases h:k<p.length
 · rw [if_pos h,zGA (by simpa using h),zGA h,List.getElem_mapIdx]
 · rw [if_neg h,co_ge (by simp;omega)]
theorem zEn (p:Poly) (k:Nat):co (fracA p) k=if (p.length-1-k)%2=0 then co p k else 0:=by
 unfold fracA;rw [zLj];by_cases h:k<p.length
 · rw [if_pos h]
 · rw [if_neg h,co_ge (l:=p) (by omega)];simp
theorem zFl (p:Poly) (k:Nat):co (fracB p) k=if (p.length-1-k)%2=0 then 0 else co p k:=by
 unfold fracB;rw [zAr,zLj];by_cases h:k<p.length
 · rw [if_pos h]
 · rw [if_neg h,co_ge (l:=p) (by omega)];simp
theorem zGe (h:k≤n) (e:(n-k)%2=0):alt k=(if n%2=0 then alt n else alt (n-1))*alt (n-k):=by
 by_cases e2:n%2=0
 · rw [if_pos e2];unfold alt;by_cases h1:k%4<2<;>by_cases h2:n%4<2<;>by_cases h3:(n-k)%4<2<;>first | (exfalso;omega) | (simp only [h1,h2,h3,if_true,if_false];grind)
 · rw [if_neg e2];unfold alt;by_cases h1:k%4<2<;>by_cases h2:(n-1)%4<2<;>by_cases h3:(n-k)%4<2<;>first | (exfalso;omega) | (simp only [h1,h2,h3,if_true,if_false];grind)
theorem zKh (hp:Trimd p) (hn:p.length=n+1) {re im:Poly} (h1:Trimd re) (h2:Trimd im) (hre:∀ t,co re t=if t%2=0 then alt t*co p t else 0) (him:∀ t,co im t=if t%2=1 then alt t*co p t else 0) :
 ∃ c d,HP n c d (fracA p) (fracB p) (if n%2=0 then re else im) (if n%2=0 then im else re)∧sg (c*d)=if n%2=0 then -1 else 1:=by
 have hpn:co p n≠0:=hp n hn;have ha:∀ k,co (fracA p) k=if (n-k)%2=0 then co p k else 0:=fun k=>by rw [zEn,hn,Nat.add_sub_cancel]
 have hb:∀ k,co (fracB p) k=if (n-k)%2=0 then 0 else co p k:=fun k=>by rw [zFl,hn,Nat.add_sub_cancel]
 have hk:∀ k,n<k→co p k=0:=fun k hk=>co_ge (by omega);have an:co (fracA p) n≠0:=by rw [ha,Nat.sub_self];exact hpn
 have pa:∀ k,co (fracA p) k≠0→k≤n∧(n-k)%2=0:=fun k h=>by
  rw [ha] at h;by_cases e:(n-k)%2=0
  · rw [if_pos e] at h;exact ⟨Nat.le_of_not_lt fun e2=>absurd (hk k e2) h,e⟩
  · rw [if_neg e] at h;exact absurd rfl h
 have pb:∀ k,co (fracB p) k≠0→k+1≤n∧(n-1-k)%2=0:=fun k h=>by
  rw [hb] at h;by_cases e:(n-k)%2=0
  · rw [if_pos e] at h;exact absurd rfl h
  · rw [if_neg e] at h;omega
 have da:Trimd (fracA p):=fun m hm=>by
  have:m=n:=by unfold fracA at hm;simp at hm;omega
  rw [this];exact an
 have db:Trimd (fracB p):=zAI _;by_cases e:n%2=0
 · rw [if_pos e,if_pos e,if_pos e];refine ⟨alt n,- alt n,⟨pa,an,da,db,pb,h1,h2,zLb n,by have:=zLb n;grind,fun k => ?_,fun k => ?_⟩,?_⟩
   · rw [hre,ha];by_cases e2:k≤n
     · by_cases e3:(n-k)%2=0
       · rw [if_pos e3,if_pos (by omega),zGe e2 e3,if_pos e]
       · rw [if_neg e3,if_neg (by omega),Rat.mul_zero]
     · rw [hk k (by omega)];simp [Rat.mul_zero]
   · rw [him,hb];by_cases e2:k≤n
     · by_cases e3:(n-k)%2=0
       · rw [if_pos e3,if_neg (by omega),Rat.mul_zero]
       · rw [if_neg e3,if_pos (by omega)];have:alt k = - alt n*alt (n-1-k):=by
          have e4:=zGe (n:=n) (k:=k+1) (by omega) (by omega);rw [if_pos e,zNO (by omega),show n-(k+1)=n-1-k by omega] at e4;grind
         rw [this]
     · rw [hk k (by omega)];simp [Rat.mul_zero]
   · have:alt n * -alt n = -1:=by have:=zPe n;grind
     rw [this];rfl
 · rw [if_neg e,if_neg e,if_neg e];refine ⟨alt (n-1),alt (n-1),⟨pa,an,da,db,pb,h2,h1,zLb _,zLb _,fun k => ?_,fun k => ?_⟩,?_⟩
   · rw [him,ha];by_cases e2:k≤n
     · by_cases e3:(n-k)%2=0
       · rw [if_pos e3,if_pos (by omega),zGe e2 e3,if_neg e]
       · rw [if_neg e3,if_neg (by omega),Rat.mul_zero]
     · rw [hk k (by omega)];simp [Rat.mul_zero]
   · rw [hre,hb];by_cases e2:k≤n
     · by_cases e3:(n-k)%2=0
       · rw [if_pos e3,if_neg (by omega),Rat.mul_zero]
       · rw [if_neg e3,if_pos (by omega)];have:alt k=alt (n-1)*alt (n-1-k):=by
          have e4:=zGe (n:=n-1) (k:=k) (by omega) (by omega);rwa [if_pos (by omega)] at e4
         rw [this]
     · rw [hk k (by omega)];simp [Rat.mul_zero]
   · rw [zPe];rfl
theorem zFK:∀ {f:Nat} {g:Poly} {m t:Int},zFs f g m=some t→Trimd g→g≠[]→(g.length=1→t=m)∧(1<g.length→m+3-(g.length:Int)≤t∧t≤m+g.length-1)
 | 0,_,_,_,h,_,_=>by cases h
 | f+1,g,m,t,h,hg,hg0=>by
  have hl:=zy hg0;unfold zFs at h;rw [zu hg] at h;split at h
  · next e=>cases h;exact ⟨fun _=>rfl,fun h=>absurd h (by omega)⟩
  · next e =>
    refine ⟨fun h=>absurd h (by omega),fun _ => ?_⟩;obtain ⟨c,hc,h⟩:=cbind h;obtain ⟨d,hd,h⟩:=cbind h;obtain ⟨k,hk,h⟩:=cbind h;obtain ⟨n,hn⟩:∃ n,g.length=n+2:=⟨g.length-2,by omega⟩;obtain ⟨d1,d2⟩:=zBT hd;have dl:∀ {x d:Poly} {n:Nat},Trimd x→x.length=n+2→zDv x=some d→d.length=n+1:=fun {x d n} hx hxn hd=>by
     obtain ⟨d1,d2⟩:=zBT hd;refine zBg d1 ?_ fun i hi => ?_
     · rw [d2];have h1:=hx (n+1) hxn;have h2:((n+1:Nat):Rat)≠0:=by
        have:0<((n+1:Nat):Rat):=Rat.natCast_pos.2 (by omega);grind
       grind
     · rw [d2,co_ge (by omega)];grind
    have hdl:=dl hg hn hd;have hd0:d≠[]:=fun e=>by rw [e] at hdl;cases hdl
    obtain ⟨k1,k2,k3,_⟩:=zCp hk hg d1;have hk0:=k2 (.inl hg0);have hkl:=zy hk0;have:=k3 hd0;obtain ⟨i1,i2⟩:=zFK h k1 hk0
    -- the chain
    obtain ⟨s,hs,hc⟩:=cbind hc;obtain ⟨s',hs',hc⟩:=cbind hc;unfold zLg at hs;rw [hd] at hs;obtain ⟨d',e1,hs⟩:=cbind hs;cases e1;obtain ⟨k',e1,hs⟩:=cbind hs;rw [hk] at e1;cases e1;obtain ⟨s1,s2⟩:=zBy hs hg k1;obtain ⟨j,hj⟩:∃ j,s.length=j+2:=⟨s.length-2,by omega⟩;have hsl:=dl s1 hj hs';obtain ⟨P,hP,hc⟩:=cbind hc;obtain ⟨Q,hQ,hc⟩:=cbind hc;obtain ⟨P1,P2,u,hu,P3⟩:=zAx hP;obtain ⟨Q1,Q2,v,hv,Q3⟩:=zAx hQ;rw [zu s1] at P2;rw [zu (zBT hs').1] at Q2;have hP0:P≠[]:=fun e=>by rw [e] at P2;simp at P2;omega
    have hQ0:Q≠[]:=fun e=>by rw [e] at Q2;simp at Q2;omega
    have hcc:zBe (Q.length+2) P Q=some c:=hc;unfold zBe at hcc;rw [if_neg hP0,if_neg hQ0] at hcc;obtain ⟨R,hR,hcc⟩:=cbind hcc;obtain ⟨r,hr,hcc⟩:=cbind hcc;obtain ⟨S,hS,hcc⟩:=cbind hcc;obtain ⟨l,hl',hcc⟩:=cbind hcc;cases hcc;have hrem:=zCa hR;rw [zu Q1] at hrem;have e1:=zDS hr hrem.2.2.1 (by decide);obtain ⟨S1,S2,_⟩:=zAx hS;rw [zu (zAe hr).1] at S2;obtain ⟨⟨L',rfl⟩,b1,b2⟩:=zDT hl' Q1 S1 (by omega);have hdif:dif (P :: Q :: L')=1+dif (Q :: L'):=by
     rw [zHl L' P1 Q1 hP0 hQ0,if_neg (by omega),zNX (zDw P1 hP0) (zDw Q1 hQ0),zBf,zBf,P2,Q2,hj,hsl];show sg (co P (j+1)*co Q j)+_=_;rw [P3,Q3,(zBT hs').2];have h1:=s1 (j+1) hj;have h2:0<((j+1:Nat):Rat):=Rat.natCast_pos.2 (by omega);have h3:0<co s (j+1)*co s (j+1):=by
      by_cases e:0<co s (j+1)
      · exact Rat.mul_pos e e
      · have:=Rat.mul_pos (show 0 < -co s (j+1) by grind) (show 0 < -co s (j+1) by grind);grind
     rw [show co s (j+1)*u*(co s (j+1)*((j+1:Nat):Rat)*v)=(co s (j+1)*co s (j+1))*(u*v*((j+1:Nat):Rat)) by grind,
      zGp (Rat.mul_pos h3 (Rat.mul_pos (Rat.mul_pos hu hv) h2))]
    have hdd:zAX true (P :: Q :: L')-zAX false (P :: Q :: L')=1+dif (Q :: L'):=hdif;rw [hdd] at i1 i2;by_cases e1:k.length=1
    · have:=i1 e1;omega
    · have:=i2 (by omega);omega
theorem half2_nonneg {x:Int} (h : -1≤x):0≤half2 x:=by
 unfold half2;rcases Int.lt_or_le x 0 with e | e
 · obtain rfl:x = -1:=by omega
   decide
 · rw [Int.tdiv_eq_ediv_of_nonneg e];omega
theorem zIA {x:Int} (h:0≤x):half2 x=x/2:=Int.tdiv_eq_ediv_of_nonneg h
theorem zFd (x g u:Rat):x/g*u=x*(1/g*u):=by grind
theorem zFc {g u:Rat} (hg:g≠0) (hu:0<u):1/g*u≠0:=by
 have:1/g≠0:=by grind
 grind
theorem mul_four (c d g u v:Rat):c*(1/g*u)*(d*(1/g*v))=(c*d)*((1/g)*(1/g)*(u*v)):=by grind
theorem sq_pos {g:Rat} (hg:g≠0):0<(1/g)*(1/g):=by
 have:1/g≠0:=by grind
 by_cases e:0<1/g
 · exact Rat.mul_pos e e
 · have:=Rat.mul_pos (show 0 < -(1/g) by grind) (show 0 < -(1/g) by grind);grind
theorem mul_ne2 {c d:Rat} (hc:c≠0) (hd:d≠0):c*d≠0:=by grind
theorem ne_of_pos (h:0<x):x≠0:=by grind
theorem hurwitz_iff {r:Int×Int} (hp:Trimd p) (hp0:p≠[]) (hF:fracL (p.length-1) (fracA p) (fracB p)=some F) (hr:zGM p=some r) :
 (zFx F→r=(0,0))∧(¬ zFx F→0<r.1+r.2):=by
 obtain ⟨n,hn⟩:∃ n,p.length=n+1:=⟨p.length-1,by have:=zy hp0;omega⟩;rw [hn,Nat.add_sub_cancel] at hF;unfold zGM at hr;rw [zu hp] at hr;obtain ⟨⟨re,im⟩,hri,hr⟩:=cbind hr;obtain ⟨g,hg,hr⟩:=cbind hr;obtain ⟨ax,hax,hr⟩:=cbind hr;obtain ⟨re',hre,hr⟩:=cbind hr;obtain ⟨im',him,hr⟩:=cbind hr;obtain ⟨L,hL,hr⟩:=cbind hr;cases hr;simp only at hg hre him hL ⊢;obtain ⟨t1,t2,a1,a2⟩:=zKR hri;simp only at t1 t2 a1 a2;obtain ⟨c,d,H,hs⟩:=zKh hp hn t1 t2 a1 a2
 -- the zBz divisor
 have hlen:=H.lP;have hlq:(if n%2=0 then im else re).length≤n:=by rw [H.lQ];exact H.lb
 obtain ⟨g1,g2,g3,g4⟩:=zCp hg t1 t2;have hg0:g≠[]:=g2 (by
  by_cases e:n%2=0
  · rw [if_pos e] at hlen;exact .inl fun h=>by rw [h] at hlen;cases hlen
  · rw [if_neg e] at hlen;exact .inr fun h=>by rw [h] at hlen;cases hlen)
 have hgl:=zy hg0;have hG:∃ f' P' Q' c' d',HP n c' d' (fracA p) (fracB p) P' Q'∧zBX f' P' Q'=some g:=by
  obtain ⟨x,hx,hg⟩:=cbind hg;obtain ⟨y,hy,hg⟩:=cbind hg;obtain ⟨x1,x2,u,hu,x3⟩:=zBl hx;obtain ⟨y1,y2,v,hv,y3⟩:=zBl hy;rw [zu t1] at x2;rw [zu t2] at y2;by_cases e:n%2=0
  · rw [if_pos e,if_pos e] at H;exact ⟨_,_,_,_,_,H.scale x1 y1 hu hv x3 y3,hg⟩
  · rw [if_neg e] at hlen hlq;rw [if_neg e,if_neg e] at H;have hy0:y≠[]:=fun h=>by rw [h] at y2;simp at y2;omega
    unfold zBX at hg;rw [if_neg hy0] at hg;obtain ⟨R,hR,hg⟩:=cbind hg;obtain ⟨m,hm,hg⟩:=cbind hg;rw [zIZ hR (by rw [zu x1,zu y1];omega)] at hm;simp only [zu x1] at hm;obtain ⟨m1,m2,w,hw,m3⟩:=zBl hm;refine ⟨_,_,_,_,_,H.scale y1 m1 hv (t:=u*w) (by grind) y3 fun k=>by rw [m3,x3];grind,hg⟩
 obtain ⟨f',P',Q',c',d',H',hcom⟩:=hG;obtain ⟨T1,T2⟩:=zFK (f:=g.length+1) hax g1 hg0;rw [zu g1]
 -- the chain
 obtain ⟨r1,r2⟩:=zBy hre t1 g1;obtain ⟨i1,i2⟩:=zBy him t2 g1;obtain ⟨x,hx,hL⟩:=cbind hL;obtain ⟨y,hy,hL⟩:=cbind hL;obtain ⟨x1,x2,u,hu,x3⟩:=zAx hx;obtain ⟨y1,y2,v,hv,y3⟩:=zAx hy;change zBe (y.length+2) x y=some L at hL;have htx:Trimd (if decide (im'.length<re'.length)=true then re' else im'):=by split<;>assumption
 have hty:Trimd (if decide (im'.length<re'.length)=true then im' else re'):=by split<;>assumption
 rw [zu htx] at x2;rw [zu hty] at y2;have hmax:max (re'.length:Int) im'.length=x.length∧y.length≤x.length:=by
  rw [x2,y2];by_cases e:im'.length<re'.length
  · simp only [e,decide_true,if_true];omega
  · simp only [e,decide_false,if_false,Bool.false_eq_true];omega
 rw [hmax.1];have hdL:=chainL_dif' hL x1 y1 hmax.2;have hturn : -1≤((x.length:Int)-1)-(if decide (im'.length<re'.length)=true then -1 else 1)*(zAX true L-zAX false L):=by
  have e:zAX true L-zAX false L=dif L:=rfl;rw [e];rcases hdL with ⟨h1,h2⟩ | ⟨h1,h2,h3⟩
  · rw [h2,h1];simp
  · split<;>omega
 by_cases hgo:g.length=1
 · -- no zBz divisor
   have hax0:=T1 hgo;subst hax0;have k1:=zHc hre g1 hgo;have k2:=zHc him g1 hgo;have hgc:co g 0≠0:=g1 0 hgo;have hsw:decide (im'.length<re'.length)=decide (n%2=0):=by
    apply decide_eq_decide.2;by_cases e:n%2=0
    · rw [if_pos e] at hlen hlq;exact ⟨fun _=>e,fun _=>by omega⟩
    · rw [if_neg e] at hlen hlq;exact ⟨fun h=>by omega,fun h=>absurd h e⟩
   rw [hsw] at hx hy hturn ⊢;have H2:∃ c2 d2,HP n c2 d2 (fracA p) (fracB p) x y∧sg (c2*d2)=if n%2=0 then -1 else 1:=by
    refine ⟨c*(1/co g 0*u),d*(1/co g 0*v),?_,?_⟩
    · rw [hsw] at x3 y3;by_cases e:n%2=0
      · simp only [e,decide_true,if_true] at H x3 y3;exact H.scale x1 y1 (zFc hgc hu) (zFc hgc hv) (fun k=>by rw [x3,k1,zFd]) (fun k=>by rw [y3,k2,zFd])
      · simp only [e,decide_false,if_false,Bool.false_eq_true] at H x3 y3;exact H.scale x1 y1 (zFc hgc hu) (zFc hgc hv) (fun k=>by rw [x3,k2,zFd]) (fun k=>by rw [y3,k1,zFd])
    · have hc:=H.hc;have hd:=H.hd;have hpos:=Rat.mul_pos (sq_pos hgc) (Rat.mul_pos hu hv);rw [mul_four,zLe (mul_ne2 hc hd) (ne_of_pos hpos),zGp hpos,hs];split<;>rfl
   obtain ⟨c2,d2,H2,hs2⟩:=H2;have main:=zHa n H2 H' hL hF hcom;have hxl:=H2.lP;rw [hs2] at main;have e:zAX true L-zAX false L=dif L:=rfl;rw [e] at hturn ⊢;have hself:∀ z:Int,(if decide (n%2=0)=true then (-1:Int) else 1)*z=(if n%2=0 then (-1:Int) else 1)*z:=fun z=>by
    by_cases e:n%2=0<;>simp [e]
   rw [hself] at hturn ⊢;have hz:half2 ((g.length:Int)-1-0)=0:=by rw [hgo];rfl
   rw [hz];rcases main with ⟨m1,m2,_⟩ | ⟨m1,m2⟩
   · refine ⟨fun _ => ?_,fun h=>absurd m1 h⟩;have:(if n%2=0 then (-1:Int) else 1)*dif L=n:=by
      rw [m2];split<;>omega
     rw [this,hxl];have:((n+1:Nat):Int)-1-n=0:=by omega
     rw [this];rfl
   · refine ⟨fun h=>absurd h m1,fun _ => ?_⟩;have m3:=m2.resolve_right (by omega);show 0<_+_+(0:Int);rw [zIA (by omega),hxl];omega
 · -- a zBz divisor
   obtain ⟨b1,b2⟩:=T2 (by omega);refine ⟨fun h => ?_,fun _ => ?_⟩
   · -- impossible: a positive continued zEb has no zBz divisor
     exact absurd (zIv n H' hF hcom h) hgo
   · show 0<_+_+ax;have h1:=half2_nonneg hturn;rw [zIA (x:=(g.length:Int)-1-ax) (by omega)];omega
variable {D:Int} {m:Nat}
theorem divInt_of {z:Int} (hD:D≠0) (h:x*D=z):x=Rat.divInt z D:=by
 have hd:(D:Rat)≠0:=fun e=>hD (by exact_mod_cast e);rw [Rat.divInt_eq_div];grind
theorem zHR (h:n<2^a):n.log2≤a:=by
 by_cases e:n=0
 · subst e;simp
 · exact Nat.le_of_lt ((Nat.log2_lt e).2 h)
theorem sz_of {z:Int} (hD:D≠0) (h:x*D=z) (hz:2*z.natAbs≤2^a) (hd:2*D.natAbs≤2^a):sz x≤2*a:=by
 have hx:=divInt_of hD h;have hpos:0<2^a:=Nat.two_pow_pos a;have h1:x.num.natAbs≤z.natAbs:=by
  rw [hx,Rat.num_divInt];refine Nat.le_trans (Int.natAbs_ediv_le_natAbs _ _) ?_;rw [Int.natAbs_mul];have:D.sign.natAbs≤1:=by rw [Int.natAbs_sign];split<;>omega
  exact Nat.le_trans (Nat.mul_le_mul_right _ this) (by omega)
 have h2:x.den≤D.natAbs:=by
  rw [hx,Rat.den_divInt,if_neg hD];exact Nat.div_le_self _ _
 unfold sz;have:=zHR (show x.num.natAbs<2^a by omega);have:=zHR (show x.den<2^a by omega);omega
def CHD (a:Nat) (D:Int) (P:Poly):Prop:=D≠0∧2*D.natAbs≤2^a∧∀ k,∃ z:Int,co P k*D=z∧2*z.natAbs≤2^a
def CH (a:Nat) (P:Poly):Prop:=∃ D,CHD a D P
theorem CHD.le {P:Poly} (h:CHD a D P) (hl:a≤b):CHD b D P :=
 have e:2^a≤2^b:=Nat.pow_le_pow_right (by omega) hl
 ⟨h.1,Nat.le_trans h.2.1 e,fun k=>let ⟨z,h1,h2⟩:=h.2.2 k;⟨z,h1,Nat.le_trans h2 e⟩⟩
theorem CH.le {P:Poly} (h:CH a P) (hl:a≤b):CH b P:=let ⟨D,h⟩:=h;⟨D,h.le hl⟩
theorem CHD.sz {P:Poly} (h:CHD a D P) (k:Nat):sz (co P k)≤2*a:=let ⟨_,h1,h2⟩:=h.2.2 k;sz_of h.1 h1 h2 h.2.1
theorem CH.sz {P:Poly} (h:CH a P) (k:Nat):sz (co P k)≤2*a:=let ⟨_,h⟩:=h;h.sz k
theorem CHD.of_co {P Q:Poly} (h:CHD a D P) (e:∀ k,co Q k=co P k):CHD a D Q:=⟨h.1,h.2.1,fun k=>by rw [e];exact h.2.2 k⟩
theorem CHD.nil (h1:D≠0) (h2:2*D.natAbs≤2^a) {P:Poly} (h:∀ k,co P k=0):CHD a D P:=⟨h1,h2,fun k=>⟨0,by rw [h,Rat.zero_mul];rfl,by simp⟩⟩
theorem zHt (h:sz x+sz y<1099511627776):rroom x y=true:=decide_eq_true h
theorem zBk {x y:Nat} (hx:2*x≤2^a) (hy:2*y≤2^b):4*(x*y)≤2^(a+b):=by
 rw [Nat.pow_add];have:=Nat.mul_le_mul hx hy;rw [show 2*x*(2*y)=4*(x*y) by rw [Nat.mul_mul_mul_comm]] at this;exact this
theorem zGw (h:D≠0):(D:Rat)≠0:=fun e=>h (by exact_mod_cast e)
theorem zDW (h:sz x+sz y<1099511627776):rdiv x y=some (x/y):=if_pos (zHt h)
theorem rmul_some' (h:sz x+sz y<1099511627776):rmul x y=some (x*y):=if_pos (zHt h)
theorem radd_some' (h:sz x+sz y<1099511627776):radd x y=some (x+y):=if_pos (zHt h)
theorem rsub_some' (h:sz x+sz y<1099511627776):rsub x y=some (x-y):=if_pos (zHt h)
theorem zLs {c:Rat} {u v x y:Nat} (h1:u+v<1099511627776) (h2:x+y<1099511627776) (hc:sz c≤v):∀ {q:Poly} {i:Nat} {O:Poly},(∀ k,sz (co q k)≤u)→(∀ k,sz (c*co q k)≤y)→(∀ k,i≤k→sz (co O k)≤x)→i+q.length≤O.length→∃ R,zGa c q i O=some R
 | [],i,O,_,_,_,_=>⟨O,rfl⟩
 | d :: q,i,O,a1,a2,a3,hl=>by
  simp at hl;have e1:=a1 0;have e2:=a2 0;have e3:=a3 i (Nat.le_refl _);rw [zAd] at e1 e2;obtain ⟨R,hR⟩:=zLs (O:=O.set i (co O i-c*d)) (i:=i+1) h1 h2 hc (fun k=>a1 (k+1)) (fun k=>a2 (k+1)) (fun k hk=>by rw [zDN (by omega),if_neg (by omega)];exact a3 k (by omega)) (by simp;omega);refine ⟨R,?_⟩;unfold zGa;rw [rmul_some' (by omega)];show (rsub (co O i) (c*d)).bind _=_;rw [rsub_some' (by omega)];exact hR
theorem zOn {x:Rat}:∀ {p:Poly},(∀ k,sz (co p k)+sz x<1099511627776)→∃ r,mapO (fun c=>rmul c x) p=some r
 | [],_=>⟨[],rfl⟩
 | c :: p,h=>by
  obtain ⟨r,hr⟩:=zOn (p:=p) fun k=>h (k+1);refine ⟨c*x :: r,?_⟩;have h0:=h 0;rw [zAd] at h0;unfold mapO;rw [rmul_some' h0,hr];rfl
theorem zFR (h:∀ k,sz (co p k)+sz x<1099511627776):∃ r,zCA p x=some r:=by
 obtain ⟨r,hr⟩:=zOn h;exact ⟨trim r,by unfold zCA;rw [hr];rfl⟩
theorem zNS {E:Int} {rest:Poly} (hr:CHD a D rest) (hq:CHD b E q) (h0:co q n≠0) :
 ∃ w:Int,co q n*E=w∧w≠0∧2*w.natAbs≤2^b∧4*(D*w).natAbs≤2^(a+b)∧D*w≠0 ∧
  (∃ z:Int,(co rest m/co q n)*((D*w:Int):Rat)=z∧4*z.natAbs≤2^(a+b))∧∀ j,∃ z:Int,(co rest m/co q n*co q j)*((D*w:Int):Rat)=z∧4*z.natAbs≤2^(a+b):=by
 obtain ⟨w,hw,hw2⟩:=hq.2.2 n;obtain ⟨z,hz,hz2⟩:=hr.2.2 m;have hE:=zGw hq.1;have hD:=zGw hr.1;have hw0:w≠0:=fun e=>by
  rw [e] at hw;have:co q n*(E:Rat)=0:=hw;exact absurd (by grind) h0
 have hwc:=zGw hw0;refine ⟨w,hw,hw0,hw2,?_,Int.mul_ne_zero hr.1 hw0,⟨z*E,?_,?_⟩,fun j => ?_⟩
 · rw [Int.natAbs_mul];exact zBk hr.2.1 hw2
 · rw [Rat.intCast_mul,Rat.intCast_mul,← hz,← hw];grind
 · rw [Int.natAbs_mul];exact zBk hz2 hq.2.1
 · obtain ⟨y,hy,hy2⟩:=hq.2.2 j;refine ⟨z*y,?_,?_⟩
   · rw [Rat.intCast_mul,Rat.intCast_mul,← hz,← hw,← hy];grind
   · rw [Int.natAbs_mul];exact zBk hz2 hy2
theorem zOy {q:Poly} {b:Nat} {E:Int} (hq:Trimd q) (hq0:q≠[]) (hE:CHD b E q):∀ {f:Nat} {rest quo:Poly} {a:Nat} {D:Int},CHD a D rest→CHD a D quo→Trimd rest→rest.length<f→rest.length<quo.length+q.length →
 4*(a+(rest.length+1-q.length)*b)<1099511627776→∃ Q r,divL q f rest quo=some (Q,r)∧∃ D',CHD (a+(rest.length+1-q.length)*b) D' Q∧CHD (a+(rest.length+1-q.length)*b) D' r
 | 0,_,_,_,_,_,_,_,h,_,_=>absurd h (by omega)
 | f+1,rest,quo,a,D,h1,h2,ht,hf,hl,hM=>by
  by_cases e:rest.length<q.length
  · refine ⟨trim quo,rest,?_,D,(h2.of_co (zAr quo)).le (by omega),h1.le (by omega)⟩;unfold divL;rw [if_pos e]
  · have hqn:=zy hq0;obtain ⟨w,hw,hw0,hw2,d1,d2,⟨z,z1,z2⟩,d3⟩:=zNS (m:=rest.length-1) (n:=q.length-1) h1 hE (zIn hq hq0);have hs:a+b≤a+(rest.length+1-q.length)*b:=by
     have:1*b≤(rest.length+1-q.length)*b:=Nat.mul_le_mul_right b (by omega);omega
    have hroom:∀ j,sz (co rest (rest.length-1)/co q (q.length-1)*co q j)≤2*(a+b):=fun j=>by
     obtain ⟨z,z1,z2⟩:=d3 j;exact sz_of d2 z1 (by omega) (by omega)
    have hc:sz (co rest (rest.length-1)/co q (q.length-1))≤2*(a+b):=sz_of d2 z1 (by omega) (by omega);obtain ⟨r0,hr0⟩:=zLs (c:=co rest (rest.length-1)/co q (q.length-1)) (q:=q) (i:=rest.length-q.length) (O:=rest) (u:=2*b) (v:=2*(a+b)) (x:=2*a) (y:=2*(a+b)) (by omega) (by omega) hc (fun k=>hE.sz k) hroom (fun k _=>h1.sz k) (by omega);have hdiv:rdiv (top rest) (top q)=some (co rest (rest.length-1)/co q (q.length-1)):=zDW (by
     have e1:=h1.sz (rest.length-1);have e2:=hE.sz (q.length-1);rw [zBf,zBf];omega)
    obtain ⟨k1,k2,k3,k4⟩:=zGo hq hq0 (by omega) hdiv hr0;have hn:rest.length-q.length<quo.length:=by omega
    have n1:CHD (a+b) (D*w) (trim r0):=⟨d2,by omega,fun k=>by
     rw [k1];obtain ⟨y,y1,y2⟩:=h1.2.2 k;by_cases e2:rest.length-q.length≤k
     · rw [if_pos e2];obtain ⟨x,x1,x2⟩:=d3 (k-(rest.length-q.length));refine ⟨y*w-x,?_,?_⟩
       · rw [Rat.intCast_sub,← x1,Rat.intCast_mul y w,← y1,Rat.intCast_mul];grind
       · have h4:=zBk y2 hw2;rw [← Int.natAbs_mul] at h4;omega
     · rw [if_neg e2];refine ⟨y*w,?_,?_⟩
       · rw [Rat.intCast_mul,Rat.intCast_mul,← y1];grind
       · have h4:=zBk y2 hw2;rw [← Int.natAbs_mul] at h4;omega⟩
    have n2:CHD (a+b) (D*w) (quo.set (rest.length-q.length) (co rest (rest.length-1)/co q (q.length-1))):=⟨d2,by omega,fun k=>by
     rw [zDN hn];by_cases e2:k=rest.length-q.length
     · rw [if_pos e2];exact ⟨z,z1,by omega⟩
     · rw [if_neg e2];obtain ⟨y,y1,y2⟩:=h2.2.2 k;refine ⟨y*w,?_,?_⟩
       · rw [Rat.intCast_mul,Rat.intCast_mul,← y1];grind
       · have h4:=zBk y2 hw2;rw [← Int.natAbs_mul] at h4;omega⟩
    have hs2:a+b+((trim r0).length+1-q.length)*b≤a+(rest.length+1-q.length)*b:=by
     have h5:((trim r0).length+1-q.length+1)*b≤(rest.length+1-q.length)*b:=Nat.mul_le_mul_right b (by omega);rw [Nat.add_mul,Nat.one_mul] at h5;omega
    obtain ⟨Q,r,g1,D',g2,g3⟩:=zOy (f:=f) hq hq0 hE n1 n2 k3 (by omega) (by simp;omega) (by omega);refine ⟨Q,r,?_,D',g2.le hs2,g3.le hs2⟩;unfold divL;rw [if_neg e,hdiv];show (zGa _ q _ rest).bind _=_;rw [hr0];exact g1
theorem zKC (hp:Trimd p) (hq:Trimd q) (hq0:q≠[]) (ha:CH a p) (hb:CH b q) (hM:4*(a+(p.length+1-q.length)*b)<1099511627776) :
 ∃ R,pdiv p q=some R∧CH (a+(p.length+1-q.length)*b) R.1∧CH (a+(p.length+1-q.length)*b) R.2:=by
 obtain ⟨D,ha⟩:=ha;obtain ⟨E,hb⟩:=hb;have hqn:=zy hq0;by_cases e:p.length<q.length
 · refine ⟨([],p),?_,⟨D,CHD.nil ha.1 (ha.le (Nat.le_add_right _ _)).2.1 fun k=>rfl⟩,⟨D,ha.le (Nat.le_add_right _ _)⟩⟩;unfold pdiv;rw [zu hp,zu hq,if_neg hq0];unfold divL;rw [if_pos e,show p.length+1-q.length=0 by omega];rfl
 · obtain ⟨Q,r,h1,D',h2,h3⟩:=zOy (f:=p.length+1) (quo:=List.replicate (p.length+1-q.length) 0) hq hq0 hb ha (CHD.nil ha.1 ha.2.1 fun k=>zBL _ k) hp (by omega) (by simp;omega) hM;refine ⟨(Q,r),?_,⟨D',h2⟩,⟨D',h3⟩⟩;unfold pdiv;rw [zu hp,zu hq,if_neg hq0];exact h1
theorem zMC (hp:Trimd p) (hq:Trimd q) (hq0:q≠[]) (ha:CH a p) (hb:CH b q) (hM:4*(a+(p.length+1-q.length)*b)<1099511627776) :
 ∃ R,zDG p q=some R∧CH (a+(p.length+1-q.length)*b) R:=by
 obtain ⟨R,h1,h2,_⟩:=zKC hp hq hq0 ha hb hM;exact ⟨R.1,by unfold zDG;rw [h1];rfl,h2⟩
theorem zPD:sz 1=0:=by decide
theorem zMz {c:Rat} (h:CH a p) (hp0:top p≠0) (hc:c=1/top p∨c = -(1/top p)) (hM:4*a<1099511627776):∃ r,zCA p c=some r∧CH a r:=by
 obtain ⟨D,h⟩:=h;rw [zBf] at hp0 hc;obtain ⟨z,z1,z2⟩:=h.2.2 (p.length-1);have hD:=zGw h.1;have hz0:z≠0:=fun e=>by
  rw [e] at z1;have:co p (p.length-1)*(D:Rat)=0:=z1;exact hp0 (by grind)
 have hzc:=zGw hz0;have hsz:sz c≤2*a:=by
  rcases hc with e | e
  · exact sz_of (z:=D) (D:=z) hz0 (by rw [e,← z1];grind) h.2.1 z2
  · exact sz_of (z := -D) (D:=z) hz0 (by rw [e,← z1,Rat.intCast_neg];grind) (by rw [Int.natAbs_neg];exact h.2.1) z2
 obtain ⟨r,hr⟩:=zFR (p:=p) (x:=c) fun k=>by have:=h.sz k;omega
 refine ⟨r,hr,z,hz0,z2,fun k => ?_⟩;rw [(zAe hr).2];obtain ⟨y,y1,y2⟩:=h.2.2 k;rcases hc with e | e
 · exact ⟨y,by rw [e,← y1,← z1];grind,y2⟩
 · exact ⟨-y,by rw [e,Rat.intCast_neg,← y1,← z1];grind,by rw [Int.natAbs_neg];exact y2⟩
theorem zFX (hp:Trimd p) (h:CH a p) (hM:4*a<1099511627776):∃ r,monic p=some r∧CH a r:=by
 unfold monic;rw [zu hp];by_cases e:p=[]
 · rw [if_pos e];subst e;exact ⟨[],rfl,h⟩
 · rw [if_neg e];have h0:=zDw hp e;obtain ⟨r,h1,h2⟩:=zMz h h0 (.inl rfl) hM;refine ⟨r,?_,h2⟩;rw [zDW (by have:=h.sz (p.length-1);rw [zPD,zBf];omega)];exact h1
theorem zId (hp:Trimd p) (h:CH a p) (hM:4*a<1099511627776):∃ r,zDe p=some r∧CH a r:=by
 unfold zDe;rw [zu hp];by_cases e:p=[]
 · rw [if_pos e];subst e;exact ⟨[],rfl,h⟩
 · rw [if_neg e];have h0:=zDw hp e;have hr:rabs (top p)=top p∨rabs (top p) = - top p:=by unfold rabs;split<;>simp
   have hs:sz (rabs (top p))=sz (top p):=by
    rcases hr with e | e<;>rw [e];unfold sz;rw [Rat.neg_num,Int.natAbs_neg,Rat.neg_den]
   obtain ⟨r,h1,h2⟩:=zMz (c:=1/rabs (top p)) h h0 (hr.imp (fun e=>by rw [e]) fun e=>by rw [e];grind) hM;refine ⟨r,?_,h2⟩;rw [zDW (by have:=h.sz (p.length-1);rw [zPD,hs,zBf];omega)];exact h1
theorem pscale_neg_ex (h:CH a p) (hM:4*a<1099511627776):∃ r,zCA p (-1)=some r∧CH a r:=by
 obtain ⟨D,h⟩:=h;obtain ⟨r,hr⟩:=zFR (p:=p) (x := -1) fun k=>by
  have:=h.sz k;have e:sz (-1)=0:=by decide
  omega
 refine ⟨r,hr,D,h.1,h.2.1,fun k => ?_⟩;obtain ⟨y,y1,y2⟩:=h.2.2 k;exact ⟨-y,by rw [(zAe hr).2,Rat.intCast_neg,← y1];grind,by rw [Int.natAbs_neg];exact y2⟩
def grow:Nat→Nat
 | 0=>1
 | 1=>1
 | n+2=>grow n+2*grow (n+1)
theorem zFY:∀ n,1≤grow n
 | 0=>Nat.le_refl _
 | 1=>Nat.le_refl _
 | n+2=>by have:=zFY n;unfold grow;omega
theorem zME:∀ n,grow n≤grow (n+1)
 | 0=>Nat.le_refl _
 | n+1=>by show _≤grow n+2*grow (n+1);omega
theorem zCC (h:m≤n):grow m≤grow n:=by
 obtain ⟨d,rfl⟩:=Nat.le.dest h
 induction d with
 | zero=>exact Nat.le_refl _
 | succ d ih=>exact Nat.le_trans (ih (by omega)) (zME _)
theorem zKn (i:Nat):∀ j,grow i*grow j≤grow (i+j)
 | 0=>by show grow i*1≤grow i;omega
 | 1=>by show grow i*1≤_;have:=zME i;omega
 | j+2=>by
  have h1:=zKn i j;have h2:=zKn i (j+1);show grow i*(grow j+2*grow (j+1))≤grow (i+j)+2*grow (i+j+1);rw [Nat.mul_add,Nat.mul_left_comm];rw [show i+(j+1)=i+j+1 by omega] at h2;omega
theorem zLO (i:Nat):∀ e,grow i+(e+2)*grow (i+1)≤grow (i+e+2)
 | 0=>by show _≤grow i+2*grow (i+1);omega
 | e+1=>by
  have h1:=zLO i e;have h2:=zCC (show i+1≤i+e+1 by omega);show _≤grow (i+e+1)+2*grow (i+e+2);have h3:(e+1+2)*grow (i+1)=(e+2)*grow (i+1)+grow (i+1):=by rw [show e+1+2=(e+2)+1 by omega,Nat.add_mul,Nat.one_mul]
  omega
variable {c e:Nat}
theorem zCZ (h:a≤b):a*c≤b*c:=Nat.mul_le_mul_right c h
theorem zLF {A:Nat} (ha:a≤grow i*A) (hb:b≤grow (i+1)*A):a+(e+2)*b≤grow (i+e+2)*A:=by
 have h1:=zLO i e;have h2:=zCZ (c:=A) h1;rw [Nat.add_mul,Nat.mul_assoc] at h2;have h3:=Nat.mul_le_mul_left (e+2) hb;omega
theorem zHB {T A:Nat} (hM:4*(grow T*A)<1099511627776):∀ {f:Nat} {P Q:Poly} {i:Nat},Q.length<f→Trimd P→Trimd Q→Q.length<P.length→P.length+i=T→CH (grow i*A) P→CH (grow (i+1)*A) Q →
 ∃ g,zBX f P Q=some g∧CH (grow (T-g.length)*A) g
 | 0,_,_,_,h,_,_,_,_,_,_=>absurd h (by omega)
 | f+1,P,Q,i,hf,hP,hQ,hl,hi,h1,h2=>by
  by_cases e:Q=[]
  · refine ⟨P,?_,by rw [show T-P.length=i by omega];exact h1⟩;unfold zBX;rw [if_pos e]
  · have hqn:=zy e;obtain ⟨j,hj⟩:∃ j,P.length=Q.length+1+j:=⟨P.length-Q.length-1,by omega⟩;have hs:=zLF (e:=j) (Nat.le_refl (grow i*A)) (Nat.le_refl (grow (i+1)*A));have hT:grow (i+j+2)*A≤grow T*A:=zCZ (zCC (by omega));have hpj:P.length+1-Q.length=j+2:=by omega
    obtain ⟨R,r1,r2,r3⟩:=zKC hP hQ e h1 h2 (by rw [hpj];omega);rw [hpj] at r3;have r3:=r3.le hs;have hrem:=zCa r1;rw [zu hQ] at hrem;obtain ⟨m,m1,m2⟩:=zFX hrem.2.2.1 r3 (by omega);obtain ⟨m3,m4,_⟩:=zBl m1;rw [zu hrem.2.2.1] at m4;obtain ⟨g,g1,g2⟩:=zHB hM (f:=f) (P:=Q) (Q:=m) (i:=i+j+1) (by omega) hQ m3 (by omega) (by omega) (h2.le (zCZ (zCC (by omega)))) m2;refine ⟨g,?_,g2⟩;unfold zBX;rw [if_neg e,r1];show (monic R.2).bind _=_;rw [m1];exact g1
theorem zLH {T A:Nat} (hM:4*(grow T*A)<1099511627776):∀ {f:Nat} {P Q:Poly} {i:Nat},Q.length+1<f→Trimd P→Trimd Q→Q.length<P.length→P.length+i=T→CH (grow i*A) P→CH (grow (i+1)*A) Q →
 ∃ L,zBe f P Q=some L
 | 0,_,_,_,h,_,_,_,_,_,_=>absurd h (by omega)
 | f+1,P,Q,i,hf,hP,hQ,hl,hi,h1,h2=>by
  have hP0:P≠[]:=fun e=>by rw [e] at hl;simp at hl
  unfold zBe;rw [if_neg hP0];by_cases e:Q=[]
  · exact ⟨[P],by rw [if_pos e]⟩
  · rw [if_neg e];have hqn:=zy e;obtain ⟨j,hj⟩:∃ j,P.length=Q.length+1+j:=⟨P.length-Q.length-1,by omega⟩;have hs:=zLF (e:=j) (Nat.le_refl (grow i*A)) (Nat.le_refl (grow (i+1)*A));have hT:grow (i+j+2)*A≤grow T*A:=zCZ (zCC (by omega));have hpj:P.length+1-Q.length=j+2:=by omega
    obtain ⟨R,r1,r2,r3⟩:=zKC hP hQ e h1 h2 (by rw [hpj];omega);rw [hpj] at r3;have r3:=r3.le hs;have hrem:=zCa r1;rw [zu hQ] at hrem;obtain ⟨s,s1,s2⟩:=pscale_neg_ex r3 (by omega);have s3:=zDS s1 hrem.2.2.1 (by decide);have s4:=(zAe s1).1;obtain ⟨m,m1,m2⟩:=zId s4 s2 (by omega);obtain ⟨m3,m4,_⟩:=zAx m1;rw [zu s4] at m4;obtain ⟨L,l1⟩:=zLH hM (f:=f) (P:=Q) (Q:=m) (i:=i+j+1) (by omega) hQ m3 (by omega) (by omega) (h2.le (zCZ (zCC (by omega)))) m2;refine ⟨P :: L,?_⟩;rw [r1];show (zCA R.2 (-1)).bind _=_;rw [s1];show (zDe s).bind _=_;rw [m1];show (zBe f Q m).bind _=_;rw [l1];rfl
theorem zMu {A:Nat} (hp:Trimd p) (hq:Trimd q) (hl:q.length<p.length) (h1:CH A p) (h2:CH A q) (hM:4*(grow p.length*A)<1099511627776):∃ L,chain p q=some L:=by
 have hA:A≤grow p.length*A:=by have:=zCZ (c:=A) (zFY p.length);omega
 obtain ⟨P,p1,p2⟩:=zId hp h1 (by omega);obtain ⟨Q,q1,q2⟩:=zId hq h2 (by omega);obtain ⟨p3,p4,_⟩:=zAx p1;obtain ⟨q3,q4,_⟩:=zAx q1;rw [zu hp] at p4;rw [zu hq] at q4;obtain ⟨L,l1⟩:=zLH (T:=p.length) (A:=A) hM (f:=Q.length+2) (i:=0) (by omega) p3 q3 (by omega) (by omega) (by rw [show grow 0=1 from rfl,Nat.one_mul];exact p2) (by rw [show grow (0+1)=1 from rfl,Nat.one_mul];exact q2);refine ⟨L,?_⟩;unfold chain;rw [p1];show (zDe q).bind _=_;rw [q1];exact l1
theorem zLx {A:Nat} (hp:Trimd p) (hq:Trimd q) (hl:q.length<p.length) (h1:CH A p) (h2:CH A q) (hM:4*(grow p.length*A)<1099511627776):∃ g,zBz p q=some g∧CH (grow (p.length-g.length)*A) g:=by
 have hA:A≤grow p.length*A:=by have:=zCZ (c:=A) (zFY p.length);omega
 obtain ⟨P,p1,p2⟩:=zFX hp h1 (by omega);obtain ⟨Q,q1,q2⟩:=zFX hq h2 (by omega);obtain ⟨p3,p4,_⟩:=zBl p1;obtain ⟨q3,q4,_⟩:=zBl q1;rw [zu hp] at p4;rw [zu hq] at q4;obtain ⟨g,l1,l2⟩:=zHB (T:=p.length) (A:=A) hM (f:=Q.length+1) (i:=0) (by omega) p3 q3 (by omega) (by omega) (by rw [show grow 0=1 from rfl,Nat.one_mul];exact p2) (by rw [show grow (0+1)=1 from rfl,Nat.one_mul];exact q2);refine ⟨g,?_,l2⟩;unfold zBz;rw [p1];show (monic q).bind _=_;rw [q1];exact l1
theorem common_ex' {A:Nat} (hp:Trimd p) (hq:Trimd q) (hl:p.length<q.length) (h1:CH A p) (h2:CH A q) (hM:4*(grow q.length*A)<1099511627776):∃ g,zBz p q=some g∧CH (grow (q.length-g.length)*A) g:=by
 have hA:A≤grow q.length*A:=by have:=zCZ (c:=A) (zFY q.length);omega
 obtain ⟨P,p1,p2⟩:=zFX hp h1 (by omega);obtain ⟨Q,q1,q2⟩:=zFX hq h2 (by omega);obtain ⟨p3,p4,_⟩:=zBl p1;obtain ⟨q3,q4,_⟩:=zBl q1;rw [zu hp] at p4;rw [zu hq] at q4;have hQ0:Q≠[]:=fun e=>by rw [e] at q4;simp at q4;omega
 obtain ⟨R,r1,_⟩:=zKC p3 q3 hQ0 p2 q2 (by rw [show P.length+1-Q.length=0 by omega];omega);have r2:=zIZ r1 (by rw [zu p3,zu q3];omega);obtain ⟨m,m1,m2⟩:=zFX p3 p2 (by omega);obtain ⟨m3,m4,_⟩:=zBl m1;rw [zu p3] at m4;obtain ⟨g,l1,l2⟩:=zHB (T:=q.length) (A:=A) hM (f:=Q.length) (P:=Q) (Q:=m) (i:=0) (by omega) q3 m3 (by omega) (by omega) (by rw [show grow 0=1 from rfl,Nat.one_mul];exact q2) (by rw [show grow (0+1)=1 from rfl,Nat.one_mul];exact m2);refine ⟨g,?_,l2⟩;unfold zBz;rw [p1];show (monic q).bind _=_;rw [q1];show zBX (Q.length+1) P Q=_;unfold zBX;rw [if_neg hQ0,r1];show (monic R.2).bind _=_;rw [r2];show (monic (trim P)).bind _=_;rw [zu p3,m1];exact l1
theorem zIh {a:Nat} (hM:2*a+64<1099511627776):∀ {p:Poly} {i:Nat},(∀ k,sz (co p k)≤2*a)→p.length+i<1000→∃ r,zEE p i=some r
 | [],i,_,_=>⟨[],rfl⟩
 | c :: p,i,h,hl=>by
  simp at hl;unfold zEE;by_cases e:i=0
  · rw [if_pos e];exact zIh hM (fun k=>h (k+1)) (by omega)
  · rw [if_neg e];obtain ⟨r,hr⟩:=zIh (p:=p) (i:=i+1) hM (fun k=>h (k+1)) (by omega);have h0:=h 0;rw [zAd] at h0;have hi:sz ((i:Nat):Rat)≤10:=by
     unfold sz;have h1:((i:Nat):Rat).num.natAbs=i:=by rw [Rat.num_natCast];rfl
     have h2:((i:Nat):Rat).den=1:=Rat.den_natCast i;rw [h1,h2];have:=zHR (show i<2^10 by omega);have:Nat.log2 1=0:=by decide
     omega
    rw [rmul_some' (by omega),hr];exact ⟨_,rfl⟩
theorem zMG (h:CH a p) (hl:p.length≤16) (hM:4*a+64<1099511627776):∃ r,zDv p=some r∧CH (a+4) r:=by
 obtain ⟨s,hs⟩:=zIh (p:=p) (i:=0) (a:=a) (by omega) (fun k=>h.sz k) (by omega);obtain ⟨D,h⟩:=h;have hr:zDv p=some (trim s):=by unfold zDv;rw [hs];rfl
 have h16:2^(a+4)=16*2^a:=by rw [Nat.pow_add];omega
 refine ⟨trim s,hr,D,h.1,by have:=h.2.1;omega,fun k => ?_⟩;rw [(zBT hr).2];by_cases e:k+1<16
 · obtain ⟨z,z1,z2⟩:=h.2.2 (k+1);refine ⟨z*((k+1:Nat):Int),?_,?_⟩
   · rw [Rat.intCast_mul,← z1,Rat.intCast_natCast];grind
   · rw [Int.natAbs_mul,Int.natAbs_natCast,h16];have:=Nat.mul_le_mul z2 (show k+1≤16 by omega);rw [Nat.mul_assoc] at this;omega
 · exact ⟨0,by rw [co_ge (by omega)];simp [Rat.zero_mul],by simp⟩
theorem zLt {A:Nat} (hA1:1≤A) (hM:4*(3363*(11*(1393*(A+40)+4)))<1099511627776):∀ {f:Nat} {g:Poly} {i:Nat} {m:Int},g.length<f→Trimd g→g≠[]→g.length+i≤10→CH (grow i*(A+4*i)) g→∃ t,zFs f g m=some t
 | 0,_,_,_,h,_,_,_,_=>absurd h (by omega)
 | f+1,g,i,m,hf,hg,hg0,hi,h=>by
  have hl:=zy hg0;unfold zFs;rw [zu hg];by_cases e:g.length≤1
  · exact ⟨m,by rw [if_pos e]⟩
  · rw [if_neg e];obtain ⟨n,hn⟩:∃ n,g.length=n+2:=⟨g.length-2,by omega⟩;have g9:grow 9=1393:=by decide
    have g10:grow 10=3363:=by decide
    have hM0:=hM
    -- sizes
    have hgi:grow i≤1393:=by rw [← g9];exact zCC (by omega)
    have hAi:A+4*i≤A+40:=by omega
    have b1:grow i*(A+4*i)≤1393*(A+40):=Nat.mul_le_mul hgi hAi;obtain ⟨d,d1,d2⟩:=zMG h (by omega) (by omega);obtain ⟨d3,d4⟩:=zBT d1;have dl:∀ {x d:Poly} {n:Nat},Trimd x→x.length=n+2→zDv x=some d→d.length=n+1:=fun {x d n} hx hxn hd=>by
     obtain ⟨d1,d2⟩:=zBT hd;refine zBg d1 ?_ fun i hi => ?_
     · rw [d2];have h1:=hx (n+1) hxn;have h2:((n+1:Nat):Rat)≠0:=by
        have:0<((n+1:Nat):Rat):=Rat.natCast_pos.2 (by omega);grind
       grind
     · rw [d2,co_ge (by omega)];grind
    have hdl:=dl hg hn d1;have hd0:d≠[]:=fun e=>by rw [e] at hdl;cases hdl
    -- a bound for the zBz divisor
    have hgr:∀ j,j+i≤10→grow j*(grow i*(A+4*i)+4)≤grow (i+j)*(A+4*i)+4*grow j:=fun j hj=>by
     rw [Nat.mul_add,← Nat.mul_assoc,Nat.mul_comm (grow j) (grow i),Nat.mul_comm (grow j) 4];have:=zCZ (c:=A+4*i) (zKn i j);omega
    have hcap:∀ j,j+i≤10→4*(grow j*(grow i*(A+4*i)+4))<1099511627776:=fun j hj=>by
     have h1:=hgr j hj;have h2:grow (i+j)≤3363:=by rw [← g10];exact zCC (by omega)
     have h3:grow j≤3363:=by rw [← g10];exact zCC (by omega)
     have h4:=Nat.mul_le_mul h2 hAi;omega
    obtain ⟨c,c1,c2⟩:=zLx hg d3 (by omega) (h.le (by omega)) d2 (hcap _ (by omega));obtain ⟨c3,c4,c5,_⟩:=zCp c1 hg d3;have c6:=c5 hd0;have hc0:=c4 (.inl hg0);have hcl:=zy hc0;obtain ⟨j,hj⟩:∃ j,g.length=c.length+j:=⟨g.length-c.length,by omega⟩;rw [show g.length-c.length=j by omega] at c2;have hb:=hgr j (by omega);have hb9:grow (i+j)≤1393:=by rw [← g9];exact zCC (by omega)
    have hj9:grow j≤1393:=by rw [← g9];exact zCC (by omega)
    have hc9:grow j*(grow i*(A+4*i)+4)≤1393*(A+40):=by
     have h1:grow j≤grow (i+j):=zCC (by omega);have h2:grow (i+j)*(A+4*i)+4*grow j≤grow (i+j)*(A+4*i+4):=by
      have:=Nat.mul_add (grow (i+j)) (A+4*i) 4;omega
     have h3:=Nat.mul_le_mul hb9 (show A+4*i+4≤A+40 by omega);omega
    -- the polynomial with the same roots, all zLg
    have hs:grow i*(A+4*i)+(g.length+1-c.length)*(grow j*(grow i*(A+4*i)+4))≤11*(1393*(A+40)):=by
     have h1:=Nat.mul_le_mul (show g.length+1-c.length≤10 by omega) hc9;omega
    obtain ⟨s,s1,s2⟩:=zMC hg c3 hc0 h c2 (by omega);obtain ⟨s3,s4⟩:=zBy s1 hg c3;obtain ⟨B,hB⟩:∃ B,B=11*(1393*(A+40)):=⟨_,rfl⟩;rw [← hB] at hs;have s2:=s2.le hs;have hA5:A≤5294:=by omega
    have hBM:B≤81732882:=by
     clear hM hM0 hs hc9 hb9 hj9 hb hcap hgr b1 hAi hgi;omega
    clear hM hB hs hc9 hb9 hj9 hcap hgr b1 hAi hgi;obtain ⟨s',s5,s6⟩:=zMG s2 (by omega) (by omega);have hsl:=dl s3 (n:=j-1) (by omega) s5;have hch:4*(grow s.length*(B+4))<1099511627776:=by
     have h1:grow s.length≤3363:=by rw [← g10];exact zCC (by omega)
     have h2:=zCZ (c:=B+4) h1;omega
    obtain ⟨L,l1⟩:=zMu s3 (zBT s5).1 (by omega) (s2.le (by omega)) s6 hch
    -- on
    obtain ⟨t,t1⟩:=zLt hA1 hM0 (f:=f) (g:=c) (i:=i+j) (m:=m+(zAX true L-zAX false L)) (by omega) c3 hc0 (by omega) (c2.le (by
     have h1:grow j≤grow (i+j):=zCC (by omega);have h2:4*grow j≤grow (i+j)*(4*j):=by
      have:=Nat.mul_le_mul h1 (show 4≤4*j by omega);omega
     have h3:grow (i+j)*(A+4*(i+j))=grow (i+j)*(A+4*i)+grow (i+j)*(4*j):=by rw [← Nat.mul_add];congr 1;omega
     omega))
    refine ⟨t,?_⟩;have ho:own g=some L:=by
     unfold own zLg;rw [d1];show (((zBz g d).bind fun g'=>zDG g g').bind fun s=>_)=_;rw [c1];show ((zDG g c).bind fun s=>_)=_;rw [s1];show ((zDv s).bind fun d=>_)=_;rw [s5];exact l1
    rw [ho,d1];show ((zBz g d).bind fun k=>_)=_;rw [c1];exact t1
theorem zCq:sz 0=0:=by decide
theorem zOz (x:Rat):sz (-x)=sz x:=by unfold sz;rw [Rat.neg_num,Int.natAbs_neg,Rat.neg_den]
theorem zJx {u v:Nat} (h:u+v<1099511627776):∀ {q:Poly} {i:Nat} {O:Poly},(∀ k,sz (co q k)≤u)→(∀ k,i≤k→sz (co O k)≤v)→i+q.length≤O.length→∃ R,addAt q i O=some R
 | [],i,O,_,_,_=>⟨O,rfl⟩
 | c :: q,i,O,h1,h2,hl=>by
  simp at hl;obtain ⟨R,hR⟩:=zJx (q:=q) (i:=i+1) (O:=O.set i (co O i+c)) h (fun k=>h1 (k+1)) (fun k hk=>by rw [zDN (by omega),if_neg (by omega)];exact h2 k (by omega)) (by simp;omega);refine ⟨R,?_⟩;have e1:=h1 0;have e2:=h2 i (Nat.le_refl _);rw [zAd] at e1;unfold addAt;show (radd (co O i) c).bind _=_;rw [radd_some' (by omega)];exact hR
theorem zKT {u v:Nat} (h:u+v<1099511627776) (h1:∀ k,sz (co p k)≤u) (h2:∀ k,sz (co q k)≤v):∃ r,padd p q=some r:=by
 unfold padd;split
 · obtain ⟨R,hR⟩:=zJx (i:=0) (by omega) h1 (fun k _=>h2 k) (by omega);exact ⟨trim R,by rw [hR];rfl⟩
 · obtain ⟨R,hR⟩:=zJx (i:=0) (by omega) h2 (fun k _=>h1 k) (by omega);exact ⟨trim R,by rw [hR];rfl⟩
theorem zOl {u v:Nat} (h:u+v<1099511627776) (h1:∀ k,sz (co p k)≤u) (h2:∀ k,sz (co q k)≤v):∃ r,psub p q=some r:=by
 obtain ⟨m,hm⟩:=zFR (p:=q) (x := -1) fun k=>by
  have:=h2 k;have e:sz (-1)=0:=by decide
  omega
 obtain ⟨r,hr⟩:=zKT (p:=p) (q:=m) h h1 fun k=>by
  rw [(zAe hm).2,show co q k * -1 = -co q k by grind,zOz];exact h2 k
 exact ⟨r,by unfold psub;rw [hm];exact hr⟩
theorem zIt (hl:p.length≤4096):∃ r,pmul p []=some r:=by
 have h:∀ (p:Poly) (i:Nat) (O:Poly),mulL [] p i O=some O:=fun p=>by
  induction p with
  | nil=>intro i O;rfl
  | cons a p ih =>
   intro i O;unfold mulL;split
   · exact ih _ _
   · exact ih _ _
 refine ⟨trim (List.replicate (p.length+0) 0),?_⟩;unfold pmul;rw [if_neg (by simp;omega),h];rfl
theorem zMU {x:Rat} {u v y:Nat} (h1:u+v<1099511627776) (h2:y+y<1099511627776) (hx:sz x≤v):∀ {p:Poly} {i:Nat} {O:Poly},(∀ k,sz (co p k)≤u)→(∀ k,sz (co p k*x)≤y)→(∀ k,i<k→co O k=0)→sz (co O i)≤y→i+p.length+2≤O.length→∃ R,mulL [0,x] p i O=some R
 | [],i,O,_,_,_,_,_=>⟨O,rfl⟩
 | a :: p,i,O,a1,a2,a3,a4,hl=>by
  simp at hl;have e1:=a1 0;have e2:=a2 0;rw [zAd] at e1 e2;unfold mulL;split
  · exact zMU h1 h2 hx (fun k=>a1 (k+1)) (fun k=>a2 (k+1)) (fun k hk=>a3 k (by omega)) (by rw [a3 _ (by omega),zCq];omega) (by omega)
  · have hr:zFP a [0,x] i O=some ((O.set i (co O i+a*0)).set (i+1) (co (O.set i (co O i+a*0)) (i+1)+a*x)):=by
     unfold zFP;rw [rmul_some' (by rw [zCq];omega)];show ((radd (co O i) (a*0)).bind _)=_;rw [radd_some' (by rw [Rat.mul_zero,zCq];omega)];show zFP a [x] (i+1) (O.set i (co O i+a*0))=_;unfold zFP;rw [rmul_some' (by omega)];show ((radd (co (O.set i (co O i+a*0)) (i+1)) (a*x)).bind _)=_;rw [radd_some' (by rw [zDN (by omega),if_neg (by omega),a3 _ (by omega),zCq];omega)];rfl
    rw [hr];refine zMU h1 h2 hx (fun k=>a1 (k+1)) (fun k=>a2 (k+1)) (fun k hk => ?_) ?_ (by simp;omega)
    · rw [zDN (by simp;omega),if_neg (by omega),zDN (by omega),if_neg (by omega)];exact a3 k (by omega)
    · rw [zDN (by simp;omega),if_pos rfl,zDN (by omega),if_neg (by omega),a3 _ (by omega),Rat.zero_add];exact e2
theorem zKZ {u v y:Nat} (h1:u+v<1099511627776) (h2:y+y<1099511627776) (hx:sz x≤v) (a1:∀ k,sz (co p k)≤u) (a2:∀ k,sz (co p k*x)≤y) (hl:p.length≤4094):∃ r,pmul p [0,x]=some r:=by
 obtain ⟨R,hR⟩:=zMU (p:=p) (i:=0) (O:=List.replicate (p.length+[0,x].length) 0) h1 h2 hx a1 a2 (fun k _=>zBL _ k) (by rw [zBL,zCq];omega) (by simp);refine ⟨trim R,?_⟩;unfold pmul;rw [if_neg (by simp;omega),hR];rfl
theorem zIy {r:Poly} (h:pmul p [0,x]=some r):r.length≤p.length+1:=zBF (zBR h).1 fun i hi=>by
 rw [(zBR h).2,zEy,if_neg (by omega),co_ge (by omega),Rat.zero_mul]
theorem zKw {r:Poly} (h:padd p q=some r):r.length≤max p.length q.length:=zBF (zDz h).1 fun i hi=>by
 rw [(zDz h).2,co_ge (by omega),co_ge (l:=q) (by omega),Rat.add_zero]
theorem zNs {r:Poly} (h:psub p q=some r):r.length≤max p.length q.length:=zBF (zDx h).1 fun i hi=>by
 rw [(zDx h).2,co_ge (by omega),co_ge (l:=q) (by omega),Rat.sub_self]
theorem zNG {r:Poly} (h:pmul p []=some r):r=[]:=zHW (zBR h).1 fun k=>by
 rw [(zBR h).2];have hx:∀ (p:Poly) (k:Nat),conv p [] k=0:=fun p=>by
  induction p with
  | nil=>intro k;rfl
  | cons a p ih =>
   intro k;cases k with
   | zero=>unfold conv;rw [zAh,Rat.mul_zero]
   | succ k=>unfold conv;rw [zAh,Rat.mul_zero,ih,Rat.add_zero]
 exact hx p k
theorem zLo {B:Nat} (hB:B+B<1099511627776):∀ {l re im:Poly} {j:Nat},(∀ c,c∈l→sz c≤B)→(∀ k,sz (co re k)≤B)→(∀ k,sz (co im k)≤B)→re.length≤j→im.length≤j→j+l.length≤4000→∃ R,zHf [] [0,1] l re im=some R
 | [],re,im,j,_,_,_,_,_,_=>⟨(re,im),rfl⟩
 | c :: l,re,im,j,h0,h1,h2,l1,l2,hl=>by
  simp at hl;have s1:sz 1≤0:=by rw [zPD];omega
  obtain ⟨a,ha⟩:=zIt (p:=re) (by omega);obtain ⟨b,hb⟩:=zKZ (p:=im) (x:=1) (u:=B) (v:=0) (y:=B) (by omega) (by omega) s1 h2 (fun k=>by rw [Rat.mul_one];exact h2 k) (by omega);obtain ⟨e,he⟩:=zKZ (p:=re) (x:=1) (u:=B) (v:=0) (y:=B) (by omega) (by omega) s1 h1 (fun k=>by rw [Rat.mul_one];exact h1 k) (by omega);obtain ⟨g,hg⟩:=zIt (p:=im) (by omega);have ea:=zNG ha;have eg:=zNG hg;subst ea;subst eg;have cb:∀ k,co b k=if k=0 then 0 else co im (k-1):=fun k=>by rw [(zBR hb).2,zEy,Rat.mul_one]
  have ce:∀ k,co e k=if k=0 then 0 else co re (k-1):=fun k=>by rw [(zBR he).2,zEy,Rat.mul_one]
  have sb:∀ k,sz (co b k)≤B:=fun k=>by
   rw [cb];split
   · rw [zCq];omega
   · exact h2 _
  have se:∀ k,sz (co e k)≤B:=fun k=>by
   rw [ce];split
   · rw [zCq];omega
   · exact h1 _
  obtain ⟨d,hd⟩:=zOl (p:=[]) (q:=b) (u:=0) (v:=B) (by omega) (fun k=>by rw [zAh,zCq];omega) sb;have cd:∀ k,co d k = - co b k:=fun k=>by rw [(zDx hd).2,zAh];grind
  have hc:=h0 c (by simp);obtain ⟨re',hre⟩:=zKT (p:=d) (q:=[c]) (u:=B) (v:=B) hB (fun k=>by rw [cd,zOz];exact sb k) (fun k=>by
   cases k with
   | zero=>exact hc
   | succ k=>rw [zAQ,zAh,zCq];omega)
  obtain ⟨im',him⟩:=zKT (p:=e) (q:=[]) (u:=B) (v:=0) (by omega) se (fun k=>by rw [zAh,zCq];omega);have m1:=zIy hb;have m2:=zIy he;have m3:=zNs hd;have m4:=zKw hre;have m5:=zKw him;simp at m3 m4 m5;obtain ⟨R,hR⟩:=zLo (l:=l) (re:=re') (im:=im') (j:=j+1) hB (fun c hc=>h0 c (by simp [hc])) (fun k=>by
   rw [(zDz hre).2,cd,cb];cases k with
   | zero=>rw [if_pos rfl,zAd,show -(0:Rat)+c=c by grind];exact hc
   | succ k=>rw [if_neg (by omega),zAQ,zAh,Rat.add_zero,zOz];exact h2 _) (fun k=>by rw [(zDz him).2,zAh,Rat.add_zero];exact se k) (by omega) (by omega) (by omega)
  refine ⟨R,?_⟩;unfold zHf;rw [ha];show ((pmul im [0,1]).bind _)=_;rw [hb];show ((psub [] b).bind _)=_;rw [hd];show ((padd d [c]).bind _)=_;rw [hre];show ((pmul re [0,1]).bind _)=_;rw [he];show ((pmul im []).bind _)=_;rw [hg];show ((padd e []).bind _)=_;rw [him];exact hR
theorem mem_co {c:Rat} (h:c∈p):∃ k,co p k=c:=by
 obtain ⟨k,hk,e⟩:=List.mem_iff_getElem.1 h;exact ⟨k,by rw [zGA hk];exact e⟩
theorem routh_ex {A:Nat} (hp:Trimd p) (hp0:p≠[]) (hl:p.length≤10) (hA1:1≤A) (hA:A≤5000) (h:CH A p):∃ r,zGM p=some r:=by
 obtain ⟨n,hn⟩:∃ n,p.length=n+1:=⟨p.length-1,by have:=zy hp0;omega⟩;obtain ⟨⟨re,im⟩,hri⟩:=zLo (B:=2*A) (l:=p.reverse) (re:=[]) (im:=[]) (j:=0) (by omega) (fun c hc=>by
  obtain ⟨k,e⟩:=mem_co (List.mem_reverse.1 hc);rw [← e];exact h.sz k) (fun k=>by rw [zAh,zCq];omega) (fun k=>by rw [zAh,zCq];omega) (by simp) (by simp) (by simp;omega)
 have hri:along p [] [0,1]=some (re,im):=hri;obtain ⟨t1,t2,a1,a2⟩:=zKR hri;simp only at t1 t2 a1 a2;obtain ⟨c,d,H,hs⟩:=zKh hp hn t1 t2 a1 a2;have hlen:=H.lP;have hlq:(if n%2=0 then im else re).length≤n:=by rw [H.lQ];exact H.lb
 have hch:∀ {x:Poly},(∀ t,co x t=co p t∨co x t = - co p t∨co x t=0)→CH A x:=fun {x} hx=>by
  obtain ⟨D,h⟩:=h;refine ⟨D,h.1,h.2.1,fun k => ?_⟩;obtain ⟨z,z1,z2⟩:=h.2.2 k;rcases hx k with e | e | e
  · exact ⟨z,by rw [e];exact z1,z2⟩
  · exact ⟨-z,by rw [e,Rat.intCast_neg,← z1];grind,by rw [Int.natAbs_neg];exact z2⟩
  · exact ⟨0,by rw [e,Rat.zero_mul];rfl,by simp⟩
 have halt:∀ t,alt t*co p t=co p t∨alt t*co p t = - co p t:=fun t=>by
  unfold alt;split
  · left;rw [Rat.one_mul]
  · right;grind
 have hre:=hch (x:=re) fun t=>by
  rw [a1];split
  · exact (halt t).imp id .inl
  · exact .inr (.inr rfl)
 have him:=hch (x:=im) fun t=>by
  rw [a2];split
  · exact (halt t).imp id .inl
  · exact .inr (.inr rfl)
 have g9:grow 9=1393:=by decide
 have g10:grow 10=3363:=by decide
 have gr10:∀ {i:Nat},i≤10→grow i≤3363:=fun h=>by rw [← g10];exact zCC h
 have gr9:∀ {i:Nat},i≤9→grow i≤1393:=fun h=>by rw [← g9];exact zCC h
 have hcap:4*(grow (n+1)*A)<1099511627776:=by
  have:=Nat.mul_le_mul (gr10 (show n+1≤10 by omega)) hA;omega
 -- the zBz divisor
 have hg:∃ g,zBz re im=some g∧CH (grow (n+1-g.length)*A) g:=by
  by_cases e:n%2=0
  · rw [if_pos e] at hlen hlq;obtain ⟨g,g1,g2⟩:=zLx t1 t2 (by omega) hre him (by rw [hlen];exact hcap);exact ⟨g,g1,by rw [hlen] at g2;exact g2⟩
  · rw [if_neg e] at hlen hlq;obtain ⟨g,g1,g2⟩:=common_ex' t1 t2 (by omega) hre him (by rw [hlen];exact hcap);exact ⟨g,g1,by rw [hlen] at g2;exact g2⟩
 obtain ⟨g,hg1,hg2⟩:=hg;obtain ⟨g1,g2,g3,g4⟩:=zCp hg1 t1 t2;have hg0:g≠[]:=g2 (by
  by_cases e:n%2=0
  · rw [if_pos e] at hlen;exact .inl fun h=>by rw [h] at hlen;cases hlen
  · rw [if_neg e] at hlen;exact .inr fun h=>by rw [h] at hlen;cases hlen)
 have hgl:=zy hg0;have hgn:g.length≤n+1:=by
  by_cases e:n%2=0
  · rw [if_pos e] at hlen;rw [if_pos e] at hlq;by_cases e2:im=[]
    · rw [g4 e2];omega
    · have:=g3 e2;omega
  · rw [if_neg e] at hlen;have:=g3 fun h=>by rw [h] at hlen;cases hlen
    omega
 have hgA:grow (n+1-g.length)*A≤1393*A:=zCZ (gr9 (by omega));obtain ⟨ax,hax⟩:=zLt (A:=A) hA1 (by omega) (f:=g.length+1) (g:=g) (i:=n+1-g.length) (m:=0) (by omega) g1 hg0 (by omega) (hg2.le (Nat.mul_le_mul_left _ (by omega)));have hax:times g=some ax:=hax;have hq:∀ {x:Poly},Trimd x→x.length≤n+1→CH A x→∃ y,zDG x g=some y∧CH (11*(1393*A)) y:=fun {x} hx hxl hxA=>by
  have hb:A+(x.length+1-g.length)*(grow (n+1-g.length)*A)≤11*(1393*A):=by
   have:=Nat.mul_le_mul (show x.length+1-g.length≤10 by omega) hgA;omega
  obtain ⟨y,y1,y2⟩:=zMC hx g1 hg0 hxA hg2 (by omega);exact ⟨y,y1,y2.le hb⟩
 have hrl:re.length≤n+1:=by
  by_cases e:n%2=0
  · rw [if_pos e] at hlen;omega
  · rw [if_neg e] at hlq;omega
 have hil:im.length≤n+1:=by
  by_cases e:n%2=0
  · rw [if_pos e] at hlq;omega
  · rw [if_neg e] at hlen;omega
 obtain ⟨re',r1,r2⟩:=hq t1 hrl hre;obtain ⟨im',i1,i2⟩:=hq t2 hil him;obtain ⟨r3,r4⟩:=zBy r1 t1 g1;obtain ⟨i3,i4⟩:=zBy i1 t2 g1;have hcc:∀ {x y:Poly},Trimd x→Trimd y→x.length≤10→y.length<x.length→CH (11*(1393*A)) x→CH (11*(1393*A)) y→∃ L,chain x y=some L:=fun {x y} hx hy hxl hyl h1 h2=>zMu hx hy hyl h1 h2 (by
  have:=zCZ (c:=11*(1393*A)) (gr10 hxl);omega)
 have hL:∃ L,chain (if decide (im'.length<re'.length)=true then re' else im') (if decide (im'.length<re'.length)=true then im' else re')=some L:=by
  by_cases e:n%2=0
  · rw [if_pos e] at hlen hlq;rw [if_pos (by simp;omega),if_pos (by simp;omega)];exact hcc r3 i3 (by omega) (by omega) r2 i2
  · rw [if_neg e] at hlen hlq;rw [if_neg (by simp;omega),if_neg (by simp;omega)];exact hcc i3 r3 (by omega) (by omega) i2 r2
 obtain ⟨L,hL⟩:=hL;refine ⟨(half2 (((trim g).length:Int)-1-ax)+half2 (max (re'.length:Int) im'.length-1-(if decide (im'.length<re'.length)=true then -1 else 1)*(zAX true L-zAX false L)),ax),?_⟩;unfold zGM;rw [zu hp,hri];show ((zBz re im).bind _)=_;rw [hg1];show ((times g).bind _)=_;rw [hax];show ((zDG re g).bind _)=_;rw [r1];show ((zDG im g).bind _)=_;rw [i1];show ((chain _ _).bind _)=_;rw [hL];rfl
theorem zKK {T A:Nat} (hM:8*(grow T*A)<1099511627776):∀ {n i:Nat} {a b:Poly},Trimd a→Trimd b→a.length=n+1→n≤100→n+i+1≤T→CH (grow i*A) a→CH (grow (i+1)*A) b→∃ F,fracL n a b=some F∧∀ l,F=some l→l.length=n∧∀ q,q∈l→sz q≤2*(grow T*A)
 | 0,_,_,_,_,_,_,_,_,_,_=>⟨some [],rfl,fun l h=>by cases h;exact ⟨rfl,fun q hq=>by simp at hq⟩⟩
 | n+1,i,a,b,ha,hb,hl,hn,hT,h1,h2=>by
  unfold fracL;by_cases e:b.length+1≠a.length
  · exact ⟨none,by rw [if_pos e],fun l h=>by cases h⟩
  · rw [if_neg e];have hb0:b≠[]:=fun h=>by rw [h,hl] at e;simp at e
    obtain ⟨D,h1⟩:=h1;obtain ⟨E,h2⟩:=h2;have hg:grow i*A+grow (i+1)*A≤grow (i+2)*A:=by
     rw [← Nat.add_mul];exact zCZ (by show _≤grow i+2*grow (i+1);omega)
    have hgT:grow (i+2)*A≤grow T*A:=zCZ (zCC (by omega));obtain ⟨w,hw,hw0,hw2,d1,d2,⟨z,z1,z2⟩,d3⟩:=zNS (m:=a.length-1) (n:=b.length-1) h1 h2 (zIn hb hb0);have hq:sz (co a (a.length-1)/co b (b.length-1))≤2*(grow (i+2)*A):=by
     have:=sz_of (a:=grow i*A+grow (i+1)*A) d2 z1 (by omega) (by omega);omega
    have hdiv:rdiv (top a) (top b)=some (co a (a.length-1)/co b (b.length-1)):=zDW (by
     have e1:=h1.sz (a.length-1);have e2:=h2.sz (b.length-1);rw [zBf,zBf];omega)
    have hbq:∀ k,sz (co b k*(co a (a.length-1)/co b (b.length-1)))≤2*(grow (i+2)*A):=fun k=>by
     obtain ⟨z,z1,z2⟩:=d3 k;rw [Rat.mul_comm];have:=sz_of (a:=grow i*A+grow (i+1)*A) d2 z1 (by omega) (by omega);omega
    obtain ⟨m,hm⟩:=zKZ (p:=b) (x:=co a (a.length-1)/co b (b.length-1)) (u:=2*(grow (i+1)*A)) (v:=2*(grow (i+2)*A)) (y:=2*(grow (i+2)*A)) (by omega) (by omega) hq (fun k=>h2.sz k) hbq (by omega);have cm:∀ k,co m k=if k=0 then 0 else co b (k-1)*(co a (a.length-1)/co b (b.length-1)):=fun k=>by rw [(zBR hm).2,zEy]
    obtain ⟨c,hc⟩:=zOl (p:=a) (q:=m) (u:=2*(grow i*A)) (v:=2*(grow (i+2)*A)) (by omega) (fun k=>h1.sz k) (fun k=>by
     rw [cm];split
     · rw [zCq];omega
     · exact hbq _)
    have hm2:=zIy hm;have hc2:=zNs hc;have h6:2^(grow i*A+grow (i+1)*A)≤2^(grow (i+2)*A):=Nat.pow_le_pow_right (by omega) hg;have hcD:CH (grow (i+2)*A) c:=⟨D*w,d2,by omega,fun k=>by
     obtain ⟨y,y1,y2⟩:=h1.2.2 k;have h4:=zBk y2 hw2;rw [← Int.natAbs_mul] at h4;have h5:2^(grow i*A+grow (i+1)*A)≤2^(grow (i+2)*A):=Nat.pow_le_pow_right (by omega) hg;rw [(zDx hc).2,cm];by_cases e0:k=0
     · rw [if_pos e0];refine ⟨y*w,?_,by omega⟩;rw [Rat.intCast_mul,Rat.intCast_mul,← y1];grind
     · rw [if_neg e0];obtain ⟨x,x1,x2⟩:=d3 (k-1);refine ⟨y*w-x,?_,by omega⟩;rw [Rat.intCast_sub,← x1,Rat.intCast_mul y w,← y1,Rat.intCast_mul];grind⟩
    have h5:2^(grow i*A+grow (i+1)*A)≤2^(grow (i+2)*A):=Nat.pow_le_pow_right (by omega) hg;obtain ⟨F,hF,hFl⟩:=zKK hM (n:=n) (i:=i+1) (a:=b) (b:=c) hb (zDx hc).1 (by omega) (by omega) (by omega) ⟨E,h2⟩ hcD;refine ⟨F.map (co a (a.length-1)/co b (b.length-1) :: ·),?_,fun l hl => ?_⟩
    rotate_left
    · cases F with
      | none=>cases hl
      | some l0 =>
       cases hl;obtain ⟨k1,k2⟩:=hFl l0 rfl;refine ⟨by rw [List.length_cons,k1],fun q hq' => ?_⟩;rcases List.mem_cons.1 hq' with rfl | hq'
       · exact Nat.le_trans hq (Nat.mul_le_mul_left 2 hgT)
       · exact k2 q hq'
    rw [hdiv];show ((pmul b [0,_]).bind _)=_;rw [hm];show ((psub a m).bind _)=_;rw [hc];show ((fracL n b c).map _)=_;rw [hF];rfl
variable {H:Nat→Nat→Rat}
def sm:Nat→(Nat→Rat)→Rat
 | 0,_=>0
 | n+1,f=>sm n f+f n
theorem zCx:∀ {n:Nat} {f g:Nat→Rat},(∀ i,i<n→f i=g i)→sm n f=sm n g
 | 0,_,_,_=>rfl
 | n+1,f,g,h=>by rw [sm,sm,zCx fun i hi=>h i (by omega),h n (by omega)]
theorem zOk:∀ (n:Nat) (f g:Nat→Rat),sm n (fun i=>f i+g i)=sm n f+sm n g
 | 0,_,_=>by simp only [sm];grind
 | n+1,f,g=>by simp only [sm];rw [zOk n f g];grind
theorem zIR (c:Rat):∀ (n:Nat) (f:Nat→Rat),sm n (fun i=>f i*c)=sm n f*c
 | 0,_=>by simp only [sm];grind
 | n+1,f=>by simp only [sm];rw [zIR c n f];grind
theorem zFO:∀ {n:Nat} {f:Nat→Rat},(∀ i,i<n→f i=0)→sm n f=0
 | 0,_,_=>rfl
 | n+1,f,h=>by rw [sm,zFO fun i hi=>h i (by omega),h n (by omega)];grind
def qf (n:Nat) (H:Nat→Nat→Rat) (v:Nat→Rat):Rat:=sm n fun i=>sm n fun j=>v i*v j*H i j
def PD (n:Nat) (H:Nat→Nat→Rat):Prop:=∀ v:Nat→Rat,(∃ i,i<n∧v i≠0)→0<qf n H v
structure HF (n:Nat) (N H:Nat→Nat→Rat):Prop where
 eqn:∀ i j,(if i=0 then 0 else H (i-1) j)+(if j=0 then 0 else H i (j-1))=N i j
 out:∀ i j,n≤i∨n≤j→H i j=0
theorem zOE {H':Nat→Nat→Rat} {v v':Nat→Rat} (h:∀ i j,i<n→j<n→H i j=H' i j) (hv:∀ i,i<n→v i=v' i):qf n H v=qf n H' v' :=
 zCx fun i hi=>zCx fun j hj=>by rw [h i j hi hj,hv i hi,hv j hj]
theorem zNU {q:Rat} {b v:Nat→Rat} (hH:∀ i j,n≤i∨n≤j→H i j=0) :
 qf (n+1) (fun i j=>q*b i*b j+H i j) v=q*(sm (n+1) (fun i=>b i*v i)*sm (n+1) (fun i=>b i*v i))+qf n H v:=by
 have e1:∀ i,sm (n+1) (fun j=>v i*v j*(q*b i*b j+H i j))=(b i*v i)*(q*sm (n+1) (fun i=>b i*v i))+sm n (fun j=>v i*v j*H i j):=fun i=>by
  have:sm (n+1) (fun j=>v i*v j*(q*b i*b j+H i j))=sm (n+1) (fun j=>(b j*v j)*(q*(b i*v i))+v i*v j*H i j):=zCx fun j _=>by grind
  rw [this,zOk,zIR];have:sm (n+1) (fun j=>v i*v j*H i j)=sm n (fun j=>v i*v j*H i j):=by rw [sm,hH i n (.inr (Nat.le_refl n))];grind
  rw [this];grind
 unfold qf;rw [zCx fun i _=>e1 i,zOk,zIR];have:sm (n+1) (fun i=>sm n (fun j=>v i*v j*H i j))=sm n (fun i=>sm n (fun j=>v i*v j*H i j)):=by
  rw [sm,zFO (f:=fun j=>v n*v j*H n j) fun j _=>by rw [hH n j (.inl (Nat.le_refl n))];grind];grind
 rw [this];grind
theorem zEL (x:Rat):0≤x*x:=by
 rcases Rat.le_total (a:=0) (b:=x) with h | h
 · exact Rat.mul_nonneg h h
 · have:=Rat.mul_nonneg (show 0 ≤ -x by grind) (show 0 ≤ -x by grind);grind
theorem sq_pos' (h:x≠0):0<x*x:=by
 have h1:=zEL x;have h2:x*x≠0:=fun e=>by rcases Rat.mul_eq_zero.1 e with e | e<;>exact h e
 grind
structure PR (n:Nat) (a b:Poly):Prop where
 pa:∀ k,co a k≠0→k≤n∧(n-k)%2=0
 ta:co a n≠0
 da:Trimd a
 db:Trimd b
 pb:∀ k,co b k≠0→k+1≤n∧(n-1-k)%2=0
theorem PR.la {a b:Poly} (h:PR n a b):a.length=n+1:=zBg h.da h.ta fun i hi=>by
 by_cases e:co a i=0
 · exact e
 · have:=h.pa i e;omega
theorem PR.bz {a b:Poly} (h:PR n a b) (hk:n≤k):co b k=0:=by
 by_cases e:co b k=0
 · exact e
 · have:=h.pb k e;omega
theorem PR.step {a b r:Poly} (h:PR (n+1) a b) (hb:co b n≠0) (hr:Trimd r) (hrk:∀ k,co r k=co a k-if k=0 then 0 else co b (k-1)*(co a (n+1)/co b n)):PR n b r:=by
 have hrz:∀ k,co r k≠0→k+1≤n∧(n-1-k)%2=0:=fun k hk=>by
  rw [hrk] at hk;have h1:k≤n+1∧(n+1-k)%2=0:=by
   by_cases ea:co a k=0
   · by_cases e0:k=0
     · rw [if_pos e0,ea] at hk;exact absurd (by grind) hk
     · rw [if_neg e0,ea] at hk;have:co b (k-1)≠0:=fun e=>hk (by rw [e];grind);have:=h.pb _ this;omega
   · exact h.pa k ea
  by_cases e:k=n+1
  · subst e;rw [if_neg (by omega),Nat.add_sub_cancel] at hk;exact absurd (by grind) hk
  · omega
 exact ⟨fun k hk=>by have:=h.pb k hk;omega,hb,h.db,hr,hrz⟩
def Nab (a b:Poly) (i j:Nat):Rat:=co a i*co b j+co b i*co a j
theorem zOZ {a b:Poly} (h:PR (n+1) a b) (hH:HF (n+1) (Nab a b) H) (j:Nat):H n j=co a (n+1)*co b j∧H j n=co a (n+1)*co b j:=by
 constructor
 · have e:=hH.eqn (n+1) j;rw [if_neg (by omega),Nat.add_sub_cancel] at e;have e2:(if j=0 then 0 else H (n+1) (j-1))=0:=by split;rfl;exact hH.out _ _ (.inl (Nat.le_refl _))
   rw [e2] at e;unfold Nab at e;rw [h.bz (Nat.le_refl _)] at e;grind
 · have e:=hH.eqn j (n+1);rw [if_neg (show ¬ n+1=0 by omega),Nat.add_sub_cancel] at e;have e2:(if j=0 then 0 else H (j-1) (n+1))=0:=by split;rfl;exact hH.out _ _ (.inr (Nat.le_refl _))
   rw [e2] at e;unfold Nab at e;rw [h.bz (Nat.le_refl _)] at e;grind
def unitV (n:Nat) (i:Nat):Rat:=if i=n then 1 else 0
theorem qf_unit (n:Nat) (H:Nat→Nat→Rat):qf (n+1) H (unitV n)=H n n:=by
 unfold qf;rw [sm,zFO fun i hi=>zFO fun j _=>by unfold unitV;rw [if_neg (by omega)];grind,sm,zFO fun j hj=>by unfold unitV;rw [if_neg (show ¬ j=n by omega)];grind];unfold unitV;rw [if_pos rfl];grind
theorem zPp {a b:Poly} (h:PR (n+1) a b) (hH:HF (n+1) (Nab a b) H) (hP:PD (n+1) H):0<co a (n+1)*co b n:=by
 have:=hP (unitV n) ⟨n,by omega,by unfold unitV;rw [if_pos rfl];decide⟩;rw [qf_unit,(zOZ h hH n).1] at this;exact this
theorem ratio_pos (hy:y≠0):0<x/y↔0<x*y:=by
 have h:=sq_pos' hy;have e:x*y=x/y*(y*y):=by grind
 constructor
 · intro k;rw [e];exact Rat.mul_pos k h
 · intro k;refine Classical.byContradiction fun hn => ?_;have h1:0 ≤ -(x/y):=by grind
   have:=Rat.mul_nonneg h1 (Rat.le_of_lt h);grind
theorem zOX:∀ (n:Nat) {a b:Poly} {F:Option Poly},PR n a b→fracL n a b=some F→(zFx F↔∃ H,HF n (Nab a b) H∧PD n H)
 | 0,a,b,F,h,hF=>by
  cases hF;refine ⟨fun _=>⟨fun _ _=>0,⟨fun i j => ?_,fun _ _ _=>rfl⟩,fun v ⟨i,hi,_⟩=>by omega⟩,fun _=>⟨[],rfl,fun q hq=>by cases hq⟩⟩;unfold Nab;rw [h.bz (Nat.zero_le _),h.bz (Nat.zero_le _)];split<;>split<;>grind
 | n+1,a,b,F,h,hF=>by
  unfold fracL at hF;split at hF
  · next hl =>
    cases hF;refine ⟨fun h0=>(by obtain ⟨l,e,_⟩:=h0;cases e),fun h0 => ?_⟩;obtain ⟨H,hH,hP⟩:=h0;exfalso;have ht:=zPp h hH hP;have hb:co b n≠0:=fun e=>by rw [e] at ht;grind
    refine hl ?_;rw [h.la,zBg h.db hb fun i hi=>h.bz (by omega)]
  · next hreg =>
    have hreg:b.length=n+1:=by rw [h.la] at hreg;omega
    have hbn:co b n≠0:=h.db n hreg;obtain ⟨q,hq,hF⟩:=cbind hF;obtain ⟨m,hm,hF⟩:=cbind hF;obtain ⟨r,hr,hF⟩:=cbind hF;obtain ⟨F',hF',rfl⟩:=cmap hF;have hq:=zGL hq;rw [zBf,zBf,h.la,hreg] at hq;have hq:q=co a (n+1)/co b n:=hq;obtain ⟨r1,r2⟩:=zDx hr;have hrk:∀ k,co r k=co a k-if k=0 then 0 else co b (k-1)*(co a (n+1)/co b n):=fun k=>by rw [r2,(zBR hm).2,zEy,hq]
    have hs:=h.step hbn r1 hrk;have hak:∀ k,co a k=co r k+if k=0 then 0 else co b (k-1)*q:=fun k=>by rw [hrk,hq];grind
    have hN:∀ i j,Nab a b i j=Nab b r i j+((if i=0 then 0 else q*co b (i-1)*co b j)+if j=0 then 0 else q*co b i*co b (j-1)):=fun i j=>by
     unfold Nab;rw [hak i,hak j];split<;>split<;>grind
    refine zFg.trans ?_;rw [zOX n hs hF'];constructor
    · rintro ⟨hq0,H,hH,hP⟩;refine ⟨fun i j=>q*co b i*co b j+H i j,⟨fun i j => ?_,fun i j hij => ?_⟩,fun v hv => ?_⟩
      · rw [hN,← hH.eqn];split<;>split<;>grind
      · rw [hH.out i j (by omega)];rcases hij with hij | hij<;>rw [h.bz hij]<;>grind
      · rw [zNU (b:=co b) hH.out];by_cases hv':∃ i,i<n∧v i≠0
        · have h1:=hP v hv';have h2:=Rat.mul_nonneg (Rat.le_of_lt hq0) (zEL (sm (n+1) (fun i=>co b i*v i)));grind
        · have hz:∀ i,i<n→v i=0:=fun i hi=>Classical.byContradiction fun e=>hv' ⟨i,hi,e⟩;obtain ⟨k,hk,hvk⟩:=hv;have hkn:k=n:=by
           by_cases e:k<n
           · exact absurd (hz k e) hvk
           · omega
          subst hkn;have e1:qf k H v=0:=zFO fun i hi=>zFO fun j _=>by rw [hz i hi];grind
          have e2:sm (k+1) (fun i=>co b i*v i)=co b k*v k:=by rw [sm,zFO fun i hi=>by rw [hz i hi];grind];grind
          rw [e1,e2];have hne:co b k*v k≠0:=fun e=>by rcases Rat.mul_eq_zero.1 e with e | e<;>contradiction
          have:=Rat.mul_pos hq0 (sq_pos' hne);grind
    · rintro ⟨H,hH,hP⟩;have ht:=zPp h hH hP;have hq0:0<q:=by rw [hq];exact (ratio_pos hbn).2 ht
      have hout:∀ i j,n≤i∨n≤j→H i j-q*co b i*co b j=0:=fun i j hij=>by
       have hqn:q*co b n=co a (n+1):=by rw [hq];grind
       by_cases e:n+1≤i∨n+1≤j
       · rw [hH.out i j e];rcases e with e | e<;>rw [h.bz e]<;>grind
       · by_cases ei:i=n
         · subst ei;rw [(zOZ h hH j).1,← hqn];grind
         · have ej:j=n:=by omega
           subst ej;rw [(zOZ h hH i).2,← hqn];grind
      refine ⟨hq0,fun i j=>H i j-q*co b i*co b j,⟨fun i j => ?_,hout⟩,fun v hv => ?_⟩
      · have e:=hH.eqn i j;rw [hN] at e
        revert e
        split<;>split<;>grind
      · have hv':∃ i,i<n+1∧(fun i=>if i=n then -(sm n (fun i=>co b i*v i))/co b n else v i) i≠0:=by
         obtain ⟨i,hi,hvi⟩:=hv;exact ⟨i,by omega,by simp only;rw [if_neg (by omega)];exact hvi⟩
        have hp:=hP _ hv'
        have e0:qf (n+1) H (fun i=>if i=n then -(sm n (fun i=>co b i*v i))/co b n else v i)=qf (n+1) (fun i j=>q*co b i*co b j+(H i j-q*co b i*co b j)) (fun i=>if i=n then -(sm n (fun i=>co b i*v i))/co b n else v i) :=
         zOE (fun i j _ _=>by grind) fun i _=>rfl
        rw [e0,zNU (b:=co b) hout] at hp;have e1:sm (n+1) (fun i=>co b i*(fun i=>if i=n then -(sm n (fun i=>co b i*v i))/co b n else v i) i)=0:=by
         rw [sm,zCx (g:=fun i=>co b i*v i) fun i hi=>by simp only;rw [if_neg (by omega)]];simp only [if_pos];grind
        rw [e1] at hp
        have e2:qf n (fun i j=>H i j-q*co b i*co b j) (fun i=>if i=n then -(sm n (fun i=>co b i*v i))/co b n else v i)=qf n (fun i j=>H i j-q*co b i*co b j) v :=
         zOE (fun i j _ _=>rfl) fun i hi=>by rw [if_neg (by omega)]
        rw [e2] at hp;grind
def Nof (p:Nat→Rat) (i j:Nat):Rat:=if (i+j)%2=1 then p i*p j else 0
theorem zHw (hp:Trimd p) (hn:p.length=n+1):PR n (fracA p) (fracB p):=by
 have hla:(fracA p).length=n+1:=by unfold fracA;simp [hn]
 have hta:co (fracA p) n≠0:=by rw [zEn,if_pos (by omega)];exact hp n hn
 refine ⟨fun k hk => ?_,hta,fun m hm => ?_,zAI _,fun k hk => ?_⟩
 · rw [zEn] at hk;split at hk
   · next e=>have:=zOj hk;omega
   · exact absurd rfl hk
 · have:m=n:=by omega
   subst this;exact hta
 · rw [zFl] at hk;split at hk
   · exact absurd rfl hk
   · next e=>have:=zOj hk;omega
theorem zOm (hn:p.length=n+1) (i j:Nat):Nab (fracA p) (fracB p) i j=Nof (co p) i j:=by
 unfold Nab Nof;rw [zEn,zEn,zFl,zFl,hn];by_cases hi:n<i
 · rw [co_ge (show p.length≤i by omega)];split<;>split<;>split<;>grind
 by_cases hj:n<j
 · rw [co_ge (l:=p) (k:=j) (show p.length≤j by omega)];split<;>split<;>split<;>grind
 by_cases e1:(n+1-1-i)%2=0<;>by_cases e2:(n+1-1-j)%2=0
 · rw [if_pos e1,if_pos e1,if_pos e2,if_pos e2,if_neg (by omega)];grind
 · rw [if_pos e1,if_pos e1,if_neg e2,if_neg e2,if_pos (by omega)];grind
 · rw [if_neg e1,if_neg e1,if_pos e2,if_pos e2,if_pos (by omega)];grind
 · rw [if_neg e1,if_neg e1,if_neg e2,if_neg e2,if_neg (by omega)];grind
theorem HF.congr {N N':Nat→Nat→Rat} (h:HF n N H) (e:∀ i j,N i j=N' i j):HF n N' H:=⟨fun i j=>by rw [h.eqn,e],h.out⟩
theorem zPC (hp:Trimd p) (hn:p.length=n+1) (hF:fracL n (fracA p) (fracB p)=some F):zFx F↔∃ H,HF n (Nof (co p)) H∧PD n H:=by
 rw [zOX n (zHw hp hn) hF];exact ⟨fun ⟨H,h1,h2⟩=>⟨H,h1.congr (zOm hn),h2⟩,fun ⟨H,h1,h2⟩=>⟨H,h1.congr fun i j=>(zOm hn i j).symm,h2⟩⟩
theorem zFp (u:Rat) (m:Nat):∀ n,u^(m+n)=u^m*u^n
 | 0=>by rw [Nat.add_zero,Rat.pow_zero,Rat.mul_one]
 | n+1=>by rw [← Nat.add_assoc,Rat.pow_succ,zFp u m n,Rat.pow_succ,Rat.mul_assoc]
theorem zJT {p p':Nat→Rat} {u:Rat} (hu:0<u) (e:∀ i,p' i=p i*u^i) (h:∃ H,HF n (Nof p) H∧PD n H):∃ H,HF n (Nof p') H∧PD n H:=by
 obtain ⟨H,hH,hP⟩:=h;have hne:u≠0:=by grind
 have hpw:∀ k:Nat,u^k≠0:=fun k=>by
  have:=Rat.pow_pos hu (n:=k);grind
 refine ⟨fun i j=>u^(i+j+1)*H i j,⟨fun i j => ?_,fun i j hij=>by rw [hH.out i j hij];grind⟩,fun v hv => ?_⟩
 · have r:=hH.eqn i j;have eN:Nof p' i j=u^(i+j)*Nof p i j:=by
    unfold Nof;rw [e,e,zFp];split<;>grind
   rw [eN,← r];have t1:(if i=0 then 0 else u^(i-1+j+1)*H (i-1) j)=u^(i+j)*(if i=0 then 0 else H (i-1) j):=by
    by_cases h0:i=0
    · rw [if_pos h0,if_pos h0];grind
    · rw [if_neg h0,if_neg h0,show i-1+j+1=i+j by omega]
   have t2:(if j=0 then 0 else u^(i+(j-1)+1)*H i (j-1))=u^(i+j)*(if j=0 then 0 else H i (j-1)):=by
    by_cases h0:j=0
    · rw [if_pos h0,if_pos h0];grind
    · rw [if_neg h0,if_neg h0,show i+(j-1)+1=i+j by omega]
   rw [t1,t2];grind
 · have e1:qf n (fun i j=>u^(i+j+1)*H i j) v=qf n H (fun i=>u^i*v i)*u:=by
    unfold qf;rw [← zIR];refine zCx fun i _ => ?_;rw [← zIR];refine zCx fun j _ => ?_;show v i*v j*(u^(i+j+1)*H i j)=u^i*v i*(u^j*v j)*H i j*u;rw [zFp,zFp,Rat.pow_one];grind
   rw [e1];obtain ⟨i,hi,hvi⟩:=hv;exact Rat.mul_pos (hP _ ⟨i,hi,fun e=>by rcases Rat.mul_eq_zero.1 e with e | e;exact hpw i e;exact hvi e⟩) hu
def ev:Poly→Rat→Rat
 | [],_=>0
 | a :: p,x=>a+x*ev p x
theorem zIz (x:Rat):∀ {p:Poly},(∀ k,co p k=0)→ev p x=0
 | [],_=>rfl
 | a :: p,h=>by rw [ev,zIz x (p:=p) fun k=>h (k+1),show a=0 from h 0];grind
theorem zLL (x:Rat):∀ {p q:Poly},(∀ k,co p k=co q k)→ev p x=ev q x
 | [],q,h=>by rw [zIz x (p:=q) fun k=>(h k).symm];rfl
 | a :: p,[],h=>zIz x h
 | a :: p,b :: q,h=>by rw [ev,ev,show a=b from h 0,zLL x (p:=p) (q:=q) fun k=>h (k+1)]
theorem ev_tail (p:Poly) (x:Rat):ev p x=co p 0+x*ev p.tail x:=by
 cases p with
 | nil=>show (0:Rat)=0+x*0;grind
 | cons a p=>rfl
theorem co_tail (p:Poly) (k:Nat):co p.tail k=co p (k+1):=by
 cases p<;>rfl
theorem ev_trim (p:Poly) (x:Rat):ev (trim p) x=ev p x:=zLL x (zAr p)
def addl:Poly→Poly→Poly
 | [],q=>q
 | a :: p,[]=>a :: p
 | a :: p,b :: q=>(a+b) :: addl p q
theorem zHS:∀ (p q:Poly) (k:Nat),co (addl p q) k=co p k+co q k
 | [],q,k=>by rw [addl,zAh,Rat.zero_add]
 | a :: p,[],k=>by rw [addl,zAh,Rat.add_zero]
 | a :: p,b :: q,0=>rfl
 | a :: p,b :: q,k+1=>by rw [addl,zAQ,zAQ,zAQ];exact zHS p q k
theorem zKH (x:Rat):∀ (p q:Poly),ev (addl p q) x=ev p x+ev q x
 | [],q=>by rw [addl,ev,Rat.zero_add]
 | a :: p,[]=>by rw [addl,ev,ev,Rat.add_zero]
 | a :: p,b :: q=>by rw [addl,ev,ev,ev,zKH x p q];grind
theorem zOs {r:Poly} (h:∀ k,co r k=co p k+co q k) (x:Rat):ev r x=ev p x+ev q x:=by
 rw [zLL x (q:=addl p q) fun k=>by rw [h,zHS],zKH]
theorem zIa (t x:Rat):∀ p:Poly,ev (p.map (· * t)) x=ev p x*t
 | []=>by show (0:Rat)=0*t;grind
 | a :: p=>by rw [List.map_cons,ev,ev,zIa t x p];grind
theorem zGT (t:Rat):∀ (p:Poly) (k:Nat),co (p.map (· * t)) k=co p k*t
 | [],k=>by rw [List.map_nil,zAh,Rat.zero_mul]
 | a :: p,0=>rfl
 | a :: p,k+1=>by rw [List.map_cons,zAQ,zAQ];exact zGT t p k
theorem zFn {r:Poly} {t:Rat} (h:∀ k,co r k=co p k*t) (x:Rat):ev r x=ev p x*t:=by
 rw [zLL x (q:=p.map (· * t)) fun k=>by rw [h,zGT],zIa]
theorem ev_sub {r:Poly} (h:∀ k,co r k=co p k-co q k) (x:Rat):ev r x=ev p x-ev q x:=by
 rw [zOs (p:=p) (q:=q.map (· * (-1))) (fun k=>by rw [h,zGT];grind),zIa];grind
def prod:Poly→Poly→Poly
 | [],_=>[]
 | a :: p,q=>addl (q.map (· * a)) (0 :: prod p q)
theorem zMj (q:Poly):∀ (p:Poly) (k:Nat),co (prod p q) k=conv p q k
 | [],k=>by rw [prod,zEi,zAh]
 | a :: p,0=>by rw [prod,zHS,zGT,zFV,zAd];grind
 | a :: p,k+1=>by rw [prod,zHS,zGT,zES,zAQ,zMj q p k];grind
theorem zMS (q:Poly) (x:Rat):∀ p:Poly,ev (prod p q) x=ev p x*ev q x
 | []=>by show (0:Rat)=0*_;grind
 | a :: p=>by rw [prod,zKH,zIa,ev,ev,zMS q x p];grind
theorem zMs {r:Poly} (h:∀ k,co r k=conv p q k) (x:Rat):ev r x=ev p x*ev q x:=by
 rw [zLL x (q:=prod p q) fun k=>by rw [h,zMj],zMS]
def sd (m:Rat):Poly→Poly
 | []=>[]
 | [_]=>[]
 | _ :: b :: p=>ev (b :: p) m :: sd m (b :: p)
theorem zPV (m:Rat):∀ p:Poly,(sd m p).length=p.length-1
 | []=>rfl
 | [_]=>rfl
 | _ :: b :: p=>by rw [sd,List.length_cons,zPV m (b :: p)];simp
theorem sd_ev (m x:Rat):∀ p:Poly,ev p x=ev p m+(x-m)*ev (sd m p) x
 | []=>by show (0:Rat)=0+(x-m)*0;grind
 | [a]=>by show a+x*0=a+m*0+(x-m)*0;grind
 | a :: b :: p=>by
  have h:=sd_ev m x (b :: p);show a+x*ev (b :: p) x=a+m*ev (b :: p) m+(x-m)*(ev (b :: p) m+x*ev (sd m (b :: p)) x);generalize ev (b :: p) x=X at *;grind
theorem zPT (m:Rat):∀ (p:Poly) (n:Nat),p.length=n+2→co (sd m p) n=co p (n+1)
 | [],n,h=>by simp at h
 | [a],n,h=>by simp at h
 | [a,b],n,h=>by
  obtain rfl:n=0:=by simpa using h
  show b+m*0=b;grind
 | a :: b :: c :: p,n,h=>by
  obtain ⟨n,rfl⟩:∃ k,n=k+1:=⟨n-1,by simp at h;omega⟩;rw [sd,zAQ,zPT m (b :: c :: p) n (by simpa using h)];rfl
theorem zPM:∀ (n:Nat) {p:Poly},p.length=n+1→co p n≠0→∀ {u v:Rat},u<v→∃ x,u<x∧x<v∧ev p x≠0
 | 0,p,hl,h0,u,v,huv=>by
  obtain ⟨a,rfl⟩:=List.length_eq_one_iff.1 hl;refine ⟨(u+v)/2,by grind,by grind,?_⟩;have:a≠0:=h0;show a+_*0≠0;grind
 | n+1,p,hl,h0,u,v,huv=>by
  by_cases e:ev p ((u+v)/2)=0
  · obtain ⟨x,h1,h2,h3⟩:=zPM n (p:=sd ((u+v)/2) p) (by rw [zPV,hl];rfl) (by rw [zPT _ _ _ hl];exact h0) (u:=(u+v)/2) (v:=v) (by grind);refine ⟨x,by grind,h2,?_⟩;rw [sd_ev ((u+v)/2) x p,e];have:x-(u+v)/2≠0:=by grind
    grind
  · exact ⟨_,by grind,by grind,e⟩
theorem zMH (hp:Trimd p) (h0:p≠[]) {u v:Rat} (huv:u<v):∃ x,u<x∧x<v∧ev p x≠0 :=
 have hl:p.length=(p.length-1)+1:=by have:=zy h0;omega
 zPM _ hl (hp _ hl) huv
theorem zNR (hp:Trimd p) (hq:Trimd q) {u v:Rat} (huv:u<v) (h:∀ x,u<x→x<v→ev p x=ev q x):p=q:=by
 refine zGl hp hq fun k => ?_;have hd:∀ k,co (trim (addl p (q.map (· * (-1))))) k=co p k-co q k:=fun k=>by rw [zAr,zHS,zGT];grind
 by_cases e:trim (addl p (q.map (· * (-1))))=[]
 · have:=hd k;rw [e,zAh] at this;grind
 · obtain ⟨x,h1,h2,h3⟩:=zMH (zAI _) e huv;rw [ev_sub hd] at h3;have:=h x h1 h2;grind
variable {G f1 h0 h1:Rat→Rat}
def Bd (A x:Rat):Prop := -A≤x∧x≤A
theorem Bd.mul {A B:Rat} (h:Bd A x) (k:Bd B y):Bd (A*B) (x*y):=by
 obtain ⟨h1,h2⟩:=h;obtain ⟨h3,h4⟩:=k;have a:=Rat.mul_nonneg (show 0≤A-x by grind) (show 0≤B+y by grind);have b:=Rat.mul_nonneg (show 0≤A+x by grind) (show 0≤B-y by grind);have c:=Rat.mul_nonneg (show 0≤A-x by grind) (show 0≤B-y by grind);have d:=Rat.mul_nonneg (show 0≤A+x by grind) (show 0≤B+y by grind);constructor<;>grind
theorem Bd.add {A B:Rat} (h:Bd A x) (k:Bd B y):Bd (A+B) (x+y):=⟨by have:=h.1;have:=k.1;grind,by have:=h.2;have:=k.2;grind⟩
theorem Bd.le {A B:Rat} (h:Bd A x) (k:A≤B):Bd B x:=⟨by have:=h.1;grind,by have:=h.2;grind⟩
def Sm (R:Rat) (f:Rat→Rat):Prop:=∃ M,0<M∧∀ x,Bd R x→Bd M (f x)∧∀ y,Bd R y→∃ d,Bd M d∧f y-f x=(y-x)*d
theorem zOW (a:Rat):Bd (rabs a) a:=by
 unfold rabs Bd;split<;>constructor<;>grind
theorem zKi (a:Rat):0≤rabs a:=by
 unfold rabs;split<;>grind
theorem Sm.const (R a:Rat):Sm R (fun _=>a):=⟨rabs a+1,by have:=zKi a;grind,fun x _=>⟨(zOW a).le (by grind),fun y _=>⟨0,⟨by have:=zKi a;grind,by have:=zKi a;grind⟩,by grind⟩⟩⟩
theorem Sm.var {R:Rat} (hR:0<R):Sm R (fun x=>x):=⟨R+1,by grind,fun x h=>⟨h.le (by grind),fun y _=>⟨1,⟨by grind,by grind⟩,by grind⟩⟩⟩
theorem Sm.add {R:Rat} {f g:Rat→Rat} (h:Sm R f) (k:Sm R g):Sm R (fun x=>f x+g x):=by
 obtain ⟨M,hM,h⟩:=h;obtain ⟨N,hN,k⟩:=k;refine ⟨M+N,by grind,fun x hx=>⟨(h x hx).1.add (k x hx).1,fun y hy => ?_⟩⟩;obtain ⟨d,d1,d2⟩:=(h x hx).2 y hy;obtain ⟨e,e1,e2⟩:=(k x hx).2 y hy;exact ⟨d+e,d1.add e1,by grind⟩
theorem Sm.mul {R:Rat} {f g:Rat→Rat} (h:Sm R f) (k:Sm R g):Sm R (fun x=>f x*g x):=by
 obtain ⟨M,hM,h⟩:=h;obtain ⟨N,hN,k⟩:=k;have hMN:=Rat.mul_pos hM hN;refine ⟨M*N+M*N,by grind,fun x hx=>⟨((h x hx).1.mul (k x hx).1).le (by grind),fun y hy => ?_⟩⟩;obtain ⟨d,d1,d2⟩:=(h x hx).2 y hy;obtain ⟨e,e1,e2⟩:=(k x hx).2 y hy;exact ⟨d*g y+f x*e,(d1.mul (k y hy).1).add ((h x hx).1.mul e1),by grind⟩
def SmA (f:Rat→Rat):Prop:=∀ R,0<R→Sm R f
theorem sm_ev:∀ p:Poly,SmA (ev p)
 | [],R,_=>Sm.const R 0
 | a :: p,R,hR=>(Sm.const R a).add ((Sm.var hR).mul (sm_ev p R hR))
theorem SmA.scale {f:Rat→Rat} (h:SmA f) (c:Rat):SmA (fun x=>c*f x):=fun R hR=>(Sm.const R c).mul (h R hR)
def derv:Poly→Rat→Rat
 | [],_=>0
 | _ :: p,x=>ev p x+x*derv p x
def Dv (R:Rat) (f g:Rat→Rat):Prop:=∃ E,0<E∧∀ x y,Bd R x→Bd R y→∃ e,Bd E e∧f y-f x=(y-x)*(g x+(y-x)*e)
theorem zOV {R:Rat} (hR:0<R):∀ p:Poly,Dv R (ev p) (derv p)
 | []=>⟨1,by decide,fun x y _ _=>⟨0,⟨by decide,by decide⟩,by show (0:Rat)-0=(y-x)*(0+(y-x)*0);grind⟩⟩
 | a :: p=>by
  obtain ⟨M,hM,h⟩:=sm_ev p R hR;obtain ⟨E,hE,k⟩:=zOV hR p;have:=Rat.mul_pos hR hE;refine ⟨M+R*E,by grind,fun x y hx hy => ?_⟩;obtain ⟨d,d1,d2⟩:=(h x hx).2 y hy;obtain ⟨e,e1,e2⟩:=k x y hx hy;refine ⟨d+x*e,d1.add (hx.mul e1),?_⟩;rw [ev,ev,derv];grind
theorem zPS (x:Rat):∀ (p r:Poly) (j:Nat),(∀ k,co r k=co p k*((k+j:Nat):Rat))→ev r x=(j:Rat)*ev p x+x*derv p x
 | [],r,j,h=>by
  rw [zIz x (p:=r) fun k=>by rw [h,zAh,Rat.zero_mul]];show 0=(j:Rat)*0+x*0;grind
 | a :: p,r,j,h=>by
  rw [ev_tail r x,h 0,zPS x p r.tail (j+1) fun k=>by rw [co_tail,h,zAQ];congr 2;omega];rw [zAd,derv,ev,Nat.zero_add,show ((j+1:Nat):Rat)=(j:Rat)+1 from by push_cast;rfl];grind
theorem ev_deriv {r:Poly} (h:∀ k,co r k=co p (k+1)*((k+1:Nat):Rat)) (x:Rat):ev r x=derv p x:=by
 cases p with
 | nil=>exact zIz x fun k=>by rw [h,zAh,Rat.zero_mul]
 | cons a p =>
  rw [zPS x p r 1 h,derv];show (1:Rat)*_+_=_;grind
inductive HC:List (Rat→Rat)→Prop
 | one:HC [fun _=>1]
 | two {f:Rat→Rat}:SmA f→HC [f,fun _=>1]
 | step {f g h q:Rat→Rat} {l:List (Rat→Rat)} {c:Rat}:HC (g :: h :: l)→SmA f→SmA q→0<c→(∀ x,f x=q x*g x-c*h x)→HC (f :: g :: h :: l)
theorem HC.sm {f:Rat→Rat} {l:List (Rat→Rat)} (h:HC (f :: l)):SmA f:=by
 cases h with
 | one=>exact fun R _=>Sm.const R 1
 | two h=>exact h
 | step _ h=>exact h
theorem HC.sm2 {f g:Rat→Rat} {l:List (Rat→Rat)} (h:HC (f :: g :: l)):SmA g:=by
 cases h with
 | two _=>exact fun R _=>Sm.const R 1
 | step h=>exact h.sm
def Wd:List Int→Int
 | []=>0
 | [_]=>0
 | a :: b :: l=>((a-b).natAbs:Int)+Wd (b :: l)
def sgs (L:List (Rat→Rat)) (x:Rat):List Int:=L.map fun f=>rsign (f x)
theorem zEB (f g:Rat→Rat) (l:List (Rat→Rat)) (x:Rat):Wd (sgs (f :: g :: l) x)=((rsign (f x)-rsign (g x)).natAbs:Int)+Wd (sgs (g :: l) x):=rfl
theorem zGn (x:Rat) : -1≤rsign x∧rsign x≤1:=by
 by_cases h:x=0
 · rw [h];decide
 · rcases zBm h with ⟨_,e⟩ | ⟨_,e⟩<;>rw [e]<;>decide
def Far (τ y:Rat):Prop:=τ≤y∨y ≤ -τ
theorem zMp {τ:Rat} (h:¬ Far τ y):Bd τ y:=by
 unfold Far at h;constructor<;>grind
theorem zED {a b:Rat} (ha:0<a) (hb:0<b):∃ m,0<m∧m≤a∧m≤b:=by
 by_cases h:a≤b
 · exact ⟨a,ha,by grind,h⟩
 · exact ⟨b,hb,by grind,by grind⟩
theorem zJc {c:Rat} (hc:0<c) (h:0≤c*x):0≤x:=by
 by_cases e:0≤x
 · exact e
 · have:=Rat.mul_pos hc (show 0 < -x by grind);grind
theorem div_pos {a b:Rat} (ha:0<a) (hb:0<b):0<a/b:=by
 rw [Rat.div_def];exact Rat.mul_pos ha (Rat.inv_pos.2 hb)
theorem zJi {R:Rat} {f:Rat→Rat} (h:Sm R f) {τ:Rat} (ht:0<τ):∃ η,0<η∧∀ a b,Bd R a→Bd R b→a≤b→b≤a+η→Far τ (f a)→(0<f a∧0<f b)∨(f a<0∧f b<0):=by
 obtain ⟨M,hM,h⟩:=h;have h2M:0<2*M:=by grind
 refine ⟨τ/(2*M),div_pos ht h2M,fun a b ha hb hab hbη hf => ?_⟩;obtain ⟨d,d1,d2⟩:=(h a ha).2 b hb;have hd:Bd (τ/(2*M)) (b-a):=⟨by have:=div_pos ht h2M;grind,by grind⟩;have hm:=hd.mul d1;rw [show τ/(2*M)*M=τ/2 by grind] at hm;obtain ⟨m1,m2⟩:=hm;rcases hf with hf | hf
 · left;constructor<;>grind
 · right;constructor<;>grind
def Pp (R:Rat) (L:List (Rat→Rat)):Prop:=∀ f l,L=f :: l→∀ τ,0<τ→∃ η,0<η∧∀ a b,Bd R a→Bd R b→a≤b→b≤a+η→Far τ (f a)→Wd (sgs L a)=Wd (sgs L b)
theorem zMi (h:(0<x∧0<y)∨(x<0∧y<0)):rsign x=rsign y:=by
 rcases h with ⟨h1,h2⟩ | ⟨h1,h2⟩
 · rw [zBK h1,zBK h2]
 · rw [zBJ h1,zBJ h2]
theorem zPc (R:Rat) (g:Rat→Rat):Pp R [g]:=fun f l e τ _=>⟨1,by decide,fun a b _ _ _ _ _=>rfl⟩
theorem hc_P {R:Rat} (hR:0<R) {L:List (Rat→Rat)} (hL:HC L):Pp R L∧Pp R L.tail:=by
 induction hL with
 | one=>exact ⟨zPc R _,fun f l e=>by cases e⟩
 | two hf =>
  refine ⟨fun f' l e τ ht => ?_,zPc R _⟩;cases e;obtain ⟨η,h1,h2⟩:=zJi (hf R hR) ht;refine ⟨η,h1,fun a b ha hb hab hbη hfa => ?_⟩;rw [zEB,zEB,zMi (h2 a b ha hb hab hbη hfa)];rfl
 | @step f g h q l c hg hf hq hc hfe ih =>
  refine ⟨fun f' l' e τ ht => ?_,ih.1⟩;cases e;obtain ⟨Mq,hMq,bq⟩:=hq R hR;have hσ:0<τ/(2*Mq):=div_pos ht (by grind);have hρ:0<τ/(2*c):=div_pos ht (by grind);obtain ⟨η1,k1,s1⟩:=zJi (hf R hR) ht;obtain ⟨η2,k2,s2⟩:=zJi (hg.sm R hR) hσ;obtain ⟨η3,k3,s3⟩:=zJi (hg.sm2 R hR) hρ;obtain ⟨η4,k4,p4⟩:=ih.1 g (h :: l) rfl _ hσ;obtain ⟨η5,k5,p5⟩:=ih.2 h l rfl _ hρ;obtain ⟨m1,n1,l1,l2⟩:=zED k1 k2;obtain ⟨m2,n2,l3,l4⟩:=zED k3 k4;obtain ⟨m3,n3,l5,l6⟩:=zED n1 n2;obtain ⟨m4,n4,l7,l8⟩:=zED n3 k5;refine ⟨m4,n4,fun a b ha hb hab hbη hfa => ?_⟩;have q1:=s1 a b ha hb hab (by grind) hfa;have f1:=zMi q1;by_cases hga:Far (τ/(2*Mq)) (g a)
  · rw [zEB,zEB f,f1,zMi (s2 a b ha hb hab (by grind) hga),p4 a b ha hb hab (by grind) hga]
  · have hm:=(bq a ha).1.mul (zMp hga);rw [show Mq*(τ/(2*Mq))=τ/2 by grind] at hm;obtain ⟨m5,m6⟩:=hm;have he:=hfe a;have hcρ:c*(τ/(2*c))=τ/2:=by grind
    have hh:(τ≤f a∧h a ≤ -(τ/(2*c)))∨(f a ≤ -τ∧τ/(2*c)≤h a):=by
     rcases hfa with hfa | hfa
     · left;refine ⟨hfa,?_⟩;have:=zJc hc (x := -(τ/(2*c))-h a) (by grind);grind
     · right;refine ⟨hfa,?_⟩;have:=zJc hc (x:=h a-τ/(2*c)) (by grind);grind
    have hF:Far (τ/(2*c)) (h a):=by
     rcases hh with ⟨_,e⟩ | ⟨_,e⟩
     · exact .inr e
     · exact .inl e
    have q3:=s3 a b ha hb hab (by grind) hF;have p:Wd (sgs (h :: l) a)=Wd (sgs (h :: l) b):=p5 a b ha hb hab (by grind) hF;rw [zEB,zEB,zEB,zEB,p];have r1:=zGn (g a);have r2:=zGn (g b);rcases hh with ⟨e1,e2⟩ | ⟨e1,e2⟩
    · have u1:0<f a∧0<f b:=by
       rcases q1 with q1 | q1
       · exact q1
       · exact absurd q1.1 (by grind)
      have u2:h a<0∧h b<0:=by
       rcases q3 with q3 | q3
       · exact absurd q3.1 (by grind)
       · exact q3
      rw [zBK u1.1,zBK u1.2,zBJ u2.1,zBJ u2.2];omega
    · have u1:f a<0∧f b<0:=by
       rcases q1 with q1 | q1
       · exact absurd q1.1 (by grind)
       · exact q1
      have u2:0<h a∧0<h b:=by
       rcases q3 with q3 | q3
       · exact q3
       · exact absurd q3.1 (by grind)
      rw [zBJ u1.1,zBJ u1.2,zBK u2.1,zBK u2.2];omega
theorem hc_bez {R:Rat} (hR:0<R) {L:List (Rat→Rat)} (hL:HC L):∀ f g l,L=f :: g :: l→∃ σ,0<σ∧∀ x,Bd R x→Far σ (f x)∨Far σ (g x):=by
 induction hL with
 | one=>intro f g l e;cases e
 | two hf=>intro f g l e;cases e;exact ⟨1,by decide,fun x _ => .inr (.inl (Rat.le_refl (a:=1)))⟩
 | @step f g h q l c hg hf hq hc hfe ih =>
  intro f' g' l' e;cases e;obtain ⟨σ,hσ,b⟩:=ih g h l rfl;obtain ⟨Mq,hMq,bq⟩:=hq R hR;have hcσ:=Rat.mul_pos hc hσ;obtain ⟨m,hm,m1,m2⟩:=zED hσ (div_pos hcσ (show 0<2*(Mq+1) by grind));refine ⟨m,hm,fun x hx => ?_⟩;by_cases h1:Far m (f x)
  · exact .inl h1
  by_cases h2:Far m (g x)
  · exact .inr h2
  exfalso;have b1:=zMp h1;have b2:=(bq x hx).1.mul (zMp h2);have b3:(Mq+1)*m≤c*σ/2:=by
   have h3:=Rat.mul_nonneg (show 0≤Mq+1 by grind) (show 0≤c*σ/(2*(Mq+1))-m by grind);have h4:(Mq+1)*(c*σ/(2*(Mq+1)))=c*σ/2:=by grind
   grind
  have he:=hfe x;obtain ⟨b4,b5⟩:=b1;obtain ⟨b6,b7⟩:=b2;rcases b x hx with h3 | h3
  · rcases h3 with h3 | h3
    · exact h2 (.inl (by grind))
    · exact h2 (.inr (by grind))
  · rcases h3 with h3 | h3
    · have:=Rat.mul_nonneg (show 0≤c by grind) (show 0≤h x-σ by grind);grind
    · have:=Rat.mul_nonneg (show 0≤c by grind) (show 0 ≤ -σ-h x by grind);grind
theorem arch (x:Rat):∃ n:Nat,x≤(n:Rat):=⟨x.ceil.toNat,by
 have h1:=Rat.le_ceil (x:=x);have h2:((x.ceil:Int):Rat)≤((x.ceil.toNat:Int):Rat):=Rat.intCast_le_intCast.2 (by omega);have h3:((x.ceil.toNat:Int):Rat)=(x.ceil.toNat:Rat):=rfl;grind⟩
theorem cross {R K ε:Rat} {h0 F:Rat→Rat} {a b:Rat} (ha:Bd R a) (hb:Bd R b) (hε:0<ε) (hK:0≤K)
 (hF:∀ x y,a≤x→x≤y→y≤b→0<h0 x→F x-K*((y-x)*(y-x))≤F y) (hb0:h0 b<0) :
 ∀ (n:Nat) x,a≤x→x≤b→0<h0 x→b-x≤(n:Rat)*ε→∃ x' y',x≤x'∧x'≤y'∧y'≤b∧y'-x'≤ε∧0<h0 x'∧h0 y'≤0∧F x-K*(ε*(x'-x))≤F x'
 | 0,x,h1,h2,h3,h4=>by
  have h4:b-x≤0*ε:=h4;have:x=b:=by grind
  subst this;exact absurd h3 (by grind)
 | n+1,x,h1,h2,h3,h4=>by
  by_cases e1:b≤x+ε
  · exact ⟨x,b,by grind,h2,by grind,by grind,h3,by grind,by grind⟩
  by_cases e2:h0 (x+ε)≤0
  · exact ⟨x,x+ε,by grind,by grind,by grind,by grind,h3,e2,by grind⟩
  rw [show ((n+1:Nat):Rat)=(n:Rat)+1 from by push_cast;rfl] at h4;obtain ⟨x',y',k1,k2,k3,k4,k5,k6,k7⟩:=cross ha hb hε hK hF hb0 n (x+ε) (by grind) (by grind) (by grind) (by grind);have:=hF x (x+ε) h1 (by grind) (by grind) h3;exact ⟨x',y',by grind,k2,k3,k4,k5,k6,by grind⟩
theorem zOe {R:Rat} (hR:0<R) {f0:Rat→Rat} {c:Rat} (hc:0<c) (s0:SmA h0) (s1:SmA h1) (sG:SmA G) (e0:∀ x,f0 x=h0 x*G x) (e1:∀ x,f1 x=h1 x*G x)
 (hd:Dv R f0 (fun x=>c*f1 x)) {σ:Rat} (hσ:0<σ) :
 ∃ η,0<η∧∀ a b,Bd R a→Bd R b→a≤b→b≤a+η→f0 a≠0→σ≤h1 a→0<h0 a→0≤h0 b:=by
 obtain ⟨η,hη,st⟩:=zJi (s1 R hR) hσ;obtain ⟨E,hE,hd⟩:=hd;obtain ⟨M,hM,b0⟩:=s0 R hR;obtain ⟨N,hN,bG⟩:=sG R hR;refine ⟨η,hη,fun a b ha hb hab hbη hfa h1a h0a => ?_⟩;by_cases hneg:0≤h0 b
 · exact hneg
 exfalso;have hneg:h0 b<0:=by grind
 have hMN:=Rat.mul_pos hM hN;have hK:0≤2*(M*N*E):=by have:=Rat.mul_pos hMN hE;grind
 have hv:0<f0 a*f0 a:=sq_pos' hfa;have hin:∀ x,a≤x→x≤b→Bd R x:=fun x h1 h2=>⟨by have:=ha.1;grind,by have:=hb.2;grind⟩;have hF:∀ x y,a≤x→x≤y→y≤b→0<h0 x→f0 x*f0 x-2*(M*N*E)*((y-x)*(y-x))≤f0 y*f0 y:=fun x y k1 k2 k3 k4=>by
  have hx:=hin x k1 (by grind);have hy:=hin y (by grind) k3;obtain ⟨e,be,he⟩:=hd x y hx hy;have p1:0<h1 x:=by
   rcases st a x ha hx k1 (by grind) (.inl h1a) with q | q
   · exact q.2
   · exact absurd q.1 (by grind)
  have bf:Bd (M*N) (f0 x):=by rw [e0];exact (b0 x hx).1.mul (bG x hx).1
  have be2:=bf.mul be;have p2:0≤c*f1 x*f0 x:=by
   rw [e0,e1];have q1:=Rat.mul_nonneg (Rat.mul_nonneg (show 0≤c by grind) (show 0≤h1 x by grind)) (show 0≤h0 x by grind);have q2:=Rat.mul_nonneg q1 (zEL (G x));grind
  have p3:=Rat.mul_nonneg (show 0≤y-x by grind) p2;have p4:=zEL ((y-x)*(c*f1 x+(y-x)*e));have p5:=Rat.mul_nonneg (zEL (y-x)) (show 0≤f0 x*e+M*N*E by have:=be2.1;grind);have he:f0 y=f0 x+(y-x)*(c*f1 x+(y-x)*e):=by grind
  rw [he];grind
 have hC:0<2*(M*N*E)*η+M*N*(M*N)+1:=by
  have:=Rat.mul_nonneg hK (show 0≤η by grind);have:=Rat.mul_pos hMN hMN;grind
 obtain ⟨ε,hε,ε1,ε2⟩:=zED (show (0:Rat)<1 by decide) (div_pos hv (show 0<2*(2*(M*N*E)*η+M*N*(M*N)+1) by grind));obtain ⟨n,hn⟩:=arch ((b-a)/ε);have hn:b-a≤(n:Rat)*ε:=by
  have:=Rat.mul_nonneg (show 0≤(n:Rat)-(b-a)/ε by grind) (show 0≤ε by grind);have:(b-a)/ε*ε=b-a:=by grind
  grind
 obtain ⟨x,y,k1,k2,k3,k4,k5,k6,k7⟩:=cross (F:=fun x=>f0 x*f0 x) ha hb hε hK hF hneg n a (by grind) hab h0a hn;have hx:=hin x k1 (by grind);have hy:=hin y (by grind) k3;obtain ⟨d,bd,hd⟩:=(b0 x hx).2 y hy;have hyx:Bd ε (y-x):=⟨by grind,k4⟩;have bh:Bd (ε*M) (h0 x):=by
  have:=(hyx.mul bd).1;constructor<;>grind
 have bf:Bd (ε*M*N) (f0 x):=by rw [e0];exact bh.mul (bG x hx).1
 have bF:=(bf.mul bf).2
 -- too small
 have t1:ε*M*N*(ε*M*N)≤ε*(M*N*(M*N)):=by
  have:=Rat.mul_nonneg (Rat.mul_nonneg (show 0≤ε by grind) (show 0≤1-ε by grind)) (show 0≤M*N*(M*N) by have:=Rat.mul_pos hMN hMN;grind);grind
 have t2:2*(M*N*E)*(ε*(x-a))≤ε*(2*(M*N*E)*η):=by
  have:=Rat.mul_nonneg (Rat.mul_nonneg hK (show 0≤ε by grind)) (show 0≤η-(x-a) by grind);grind
 have t3:(2*(M*N*E)*η+M*N*(M*N)+1)*ε≤f0 a*f0 a/2:=by
  have h3:=Rat.mul_nonneg (show 0≤2*(M*N*E)*η+M*N*(M*N)+1 by grind) (show 0≤f0 a*f0 a/(2*(2*(M*N*E)*η+M*N*(M*N)+1))-ε by grind);have h4:(2*(M*N*E)*η+M*N*(M*N)+1)*(f0 a*f0 a/(2*(2*(M*N*E)*η+M*N*(M*N)+1)))=f0 a*f0 a/2:=by
   generalize 2*(M*N*E)*η+M*N*(M*N)+1=C at hC ⊢;grind
  grind
 have k7:f0 a*f0 a-2*(M*N*E)*(ε*(x-a))≤f0 x*f0 x:=k7;grind
theorem SmA.neg {f:Rat→Rat} (h:SmA f):SmA (fun x => -f x):=fun R hR=>by
 have:=h.scale (-1) R hR;rwa [show (fun x => -f x)=fun x => -1*f x from funext fun x=>by grind]
theorem hc_mono {R:Rat} (hR:0<R) {f0:Rat→Rat} {l:List (Rat→Rat)} {c:Rat} (hL:HC (h0 :: h1 :: l)) (hc:0<c) (sG:SmA G) (e0:∀ x,f0 x=h0 x*G x) (e1:∀ x,f1 x=h1 x*G x)
 (hd:Dv R f0 (fun x=>c*f1 x)) :
 ∃ η,0<η∧∀ a b,Bd R a→Bd R b→a≤b→b≤a+η→f0 a≠0→f0 b≠0→Wd (sgs (h0 :: h1 :: l) b)≤Wd (sgs (h0 :: h1 :: l) a):=by
 obtain ⟨σ,hσ,bz⟩:=hc_bez hR hL _ _ _ rfl;obtain ⟨P1,P2⟩:=hc_P hR hL;obtain ⟨η1,k1,p1⟩:=P1 _ _ rfl σ hσ;obtain ⟨η2,k2,p2⟩:=P2 _ _ rfl σ hσ;obtain ⟨η3,k3,s3⟩:=zJi (hL.sm2 R hR) hσ;obtain ⟨η4,k4,n4⟩:=zOe hR hc hL.sm hL.sm2 sG e0 e1 hd hσ;obtain ⟨η5,k5,n5⟩:=zOe hR hc hL.sm.neg hL.sm2.neg sG.neg (fun x=>by rw [e0];grind) (fun x=>by rw [e1];grind) hd hσ;obtain ⟨m1,q1,l1,l2⟩:=zED k1 k2;obtain ⟨m2,q2,l3,l4⟩:=zED k3 k4;obtain ⟨m3,q3,l5,l6⟩:=zED q1 q2;obtain ⟨m4,q4,l7,l8⟩:=zED q3 k5;refine ⟨m4,q4,fun a b ha hb hab hbη hfa hfb => ?_⟩;rcases bz a ha with hF | hF
 · rw [p1 a b ha hb hab (by grind) hF];exact Int.le_refl _
 · have e:=p2 a b ha hb hab (by grind) hF;have e:Wd (sgs (h1 :: l) a)=Wd (sgs (h1 :: l) b):=e;rw [zEB,zEB,e];have na:h0 a≠0:=fun e=>hfa (by rw [e0,e,Rat.zero_mul]);have nb:h0 b≠0:=fun e=>hfb (by rw [e0,e,Rat.zero_mul]);have ra:=zGn (h0 a);have rb:=zGn (h0 b);rcases s3 a b ha hb hab (by grind) hF with ⟨u1,u2⟩ | ⟨u1,u2⟩
   · rw [zBK u1,zBK u2];by_cases h:0<h0 a
     · have:=n4 a b ha hb hab (by grind) hfa (by rcases hF with hF | hF<;>grind) h;rw [zBK (show 0<h0 b by grind)];omega
     · rw [zBJ (show h0 a<0 by grind)];omega
   · rw [zBJ u1,zBJ u2];by_cases h:h0 a<0
     · have:=n5 a b ha hb hab (by grind) hfa (by rcases hF with hF | hF<;>grind) (by grind);rw [zBJ (show h0 b<0 by grind)];omega
     · rw [zBK (show 0<h0 a by grind)];omega
theorem hc_all {R:Rat} (hR:0<R) {P:Poly} {l:List (Rat→Rat)} {c:Rat} (hP:Trimd P) (hP0:P≠[]) (hL:HC (h0 :: h1 :: l)) (hc:0<c) (sG:SmA G) (e0:∀ x,ev P x=h0 x*G x) (e1:∀ x,f1 x=h1 x*G x)
 (hd:Dv R (ev P) (fun x=>c*f1 x)) (hr:ev P R≠0) {a:Rat} (ha:Bd R a) (hl:ev P a≠0):Wd (sgs (h0 :: h1 :: l) R)≤Wd (sgs (h0 :: h1 :: l) a):=by
 obtain ⟨η,hη,hm⟩:=hc_mono hR hL hc sG e0 e1 hd;have bR:Bd R R:=⟨by grind,by grind⟩;have key:∀ (n:Nat) a,Bd R a→ev P a≠0→R-a≤(n:Rat)*(η/2)→Wd (sgs (h0 :: h1 :: l) R)≤Wd (sgs (h0 :: h1 :: l) a):=by
  intro n
  induction n with
  | zero =>
   intro a ha hla h;have h:R-a≤0*(η/2):=h;have:a=R:=by have:=ha.2;grind
   rw [this];exact Int.le_refl _
  | succ n ih =>
   intro a ha hla h;rw [show ((n+1:Nat):Rat)=(n:Rat)+1 from by push_cast;rfl] at h;by_cases e:R≤a+η
   · exact hm a R ha bR ha.2 e hla hr
   · obtain ⟨x,x1,x2,x3⟩:=zMH hP hP0 (u:=a+η/2) (v:=a+η) (by grind);have bx:Bd R x:=⟨by have:=ha.1;grind,by grind⟩;exact Int.le_trans (ih x bx x3 (by grind)) (hm a x ha bx (by grind) (by grind) hla x3)
 obtain ⟨n,hn⟩:=arch ((R-a)/(η/2));refine key n a ha hl ?_;have:=Rat.mul_nonneg (show 0≤(n:Rat)-(R-a)/(η/2) by grind) (show 0≤η/2 by grind);have:(R-a)/(η/2)*(η/2)=R-a:=by grind
 grind
theorem farP:∀ (n:Nat) (p:Poly),p.length=n+1→0<co p n→∃ R,0<R∧∃ m,0<m∧∀ x,R≤x→m≤ev p x
 | 0,p,hl,h0=>by
  obtain ⟨a,rfl⟩:=List.length_eq_one_iff.1 hl;have h0:0<a:=h0;exact ⟨1,by decide,a,h0,fun x _=>by show a≤a+x*0;grind⟩
 | n+1,[],hl,_=>by simp at hl
 | n+1,a :: p,hl,h0=>by
  obtain ⟨R,hR,m,hm,h⟩:=farP n p (by simpa using hl) h0;have ha:=zKi a;have hk:0<(rabs a+m)/m:=div_pos (by grind) hm;refine ⟨R+(rabs a+m)/m,by grind,m,hm,fun x hx => ?_⟩;have h1:=h x (by grind);have h2:=Rat.mul_nonneg (show 0≤x by grind) (show 0≤ev p x-m by grind);have h3:=Rat.mul_nonneg (show 0≤x-(rabs a+m)/m by grind) (show 0≤m by grind);have h4:(rabs a+m)/m*m=rabs a+m:=by grind
  have h5:=(zOW a).1;rw [ev];grind
theorem zNT (hp:Trimd p) (h0:p≠[]):∃ R,0<R∧∀ x,R≤x→rsign (ev p x)=rsign (top p):=by
 have hl:p.length=(p.length-1)+1:=by have:=zy h0;omega
 have ht:=hp _ hl;rw [zBf];by_cases e:0<co p (p.length-1)
 · obtain ⟨R,hR,m,hm,h⟩:=farP _ p hl e;exact ⟨R,hR,fun x hx=>by rw [zBK e,zBK (by have:=h x hx;grind)]⟩
 · have e:co p (p.length-1)<0:=by grind
   obtain ⟨R,hR,m,hm,h⟩:=farP _ (p.map (· * (-1))) (by rw [List.length_map];exact hl) (by rw [zGT];grind)
   exact ⟨R,hR,fun x hx=>by rw [zBJ e,zBJ (by have:=h x hx;rw [zIa] at this;grind)]⟩
def mir:Poly→Poly
 | []=>[]
 | a :: p=>a :: (mir p).map (· * (-1))
theorem zKs:∀ p:Poly,(mir p).length=p.length
 | []=>rfl
 | a :: p=>by rw [mir,List.length_cons,List.length_map,zKs p,List.length_cons]
theorem zPn (x:Rat):∀ p:Poly,ev (mir p) x=ev p (-x)
 | []=>rfl
 | a :: p=>by rw [mir,ev,zIa,zPn x p,ev];grind
theorem zOv:∀ (p:Poly) (k:Nat),co (mir p) k=if k%2=0 then co p k else-co p k
 | [],k=>by rw [mir,zAh];split<;>grind
 | a :: p,0=>rfl
 | a :: p,k+1=>by
  rw [mir,zAQ,zGT,zOv p k,zAQ];by_cases h:k%2=0
  · rw [if_pos h,if_neg (by omega)];grind
  · rw [if_neg h,if_pos (by omega)];grind
theorem rsign_neg' (x:Rat):rsign (-x) = - rsign x:=by
 unfold rsign;rw [Rat.neg_num];exact Int.sign_neg _
theorem far_end (hp:Trimd p) (h0:p≠[]):∃ R,0<R∧∀ x,R≤x→rsign (ev p x)=endS false p∧rsign (ev p (-x))=endS true p:=by
 have hl:p.length=(p.length-1)+1:=by have:=zy h0;omega
 obtain ⟨R,hR,h⟩:=zNT hp h0;have hm:Trimd (mir p):=fun n hn=>by
  rw [zKs] at hn;have:=hp n hn;rw [zOv];split<;>grind
 obtain ⟨S,hS,k⟩:=zNT hm fun e=>h0 (zAo (by rw [← zKs,e];rfl));refine ⟨R+S,by grind,fun x hx=>⟨?_,?_⟩⟩
 · rw [h x (by grind)];unfold endS;rw [if_neg (by simp)]
 · rw [← zPn,k x (by grind),zBf,zKs,zOv];unfold endS;by_cases e:(p.length-1)%2=0
   · rw [if_pos e,if_neg (by omega)];rfl
   · rw [if_neg e,if_pos ⟨rfl,by omega⟩,rsign_neg'];rfl
theorem zPF:∀ L:List Poly,(∀ p,p∈L→Trimd p∧p≠[])→∃ R,0<R∧∀ p,p∈L→∀ x,R≤x→rsign (ev p x)=endS false p∧rsign (ev p (-x))=endS true p
 | [],_=>⟨1,by decide,fun p h=>by cases h⟩
 | p :: L,h=>by
  obtain ⟨R,hR,h1⟩:=far_end (h p (by simp)).1 (h p (by simp)).2;obtain ⟨S,hS,h2⟩:=zPF L fun q hq=>h q (by simp [hq]);refine ⟨R+S,by grind,fun q hq x hx => ?_⟩;rcases List.mem_cons.1 hq with e | e
  · subst e;exact h1 x (by grind)
  · exact h2 q e x (by grind)
theorem zOS:∀ l:List Int,(∀ s,s∈l→s=1∨s = -1)→Wd l=2*flipL l 0 0
 | [],_=>rfl
 | [s],h=>by
  have:s≠0:=by rcases h s (by simp) with e | e<;>omega
  rw [zDp this,zHA];rfl
 | s :: t :: l,h=>by
  have hs:=h s (by simp);have ht:=h t (by simp);have ih:=zOS (t :: l) fun x hx=>h x (by simp [hx]);have hs0:s≠0:=by omega
  have ht0:t≠0:=by omega
  rw [Wd,ih,zDp hs0,zHA,zDp ht0 l s,zDp ht0 l 0,zHA];have:((s-t).natAbs:Int)=2*flip2 s t:=by
   rcases hs with e | e<;>rcases ht with e2 | e2<;>subst e<;>subst e2<;>decide
  omega
theorem zPa:∀ l:List Int,Wd (l.map fun s => -s)=Wd l
 | []=>rfl
 | [_]=>rfl
 | a :: b :: l=>by
  have:=zPa (b :: l);rw [List.map_cons] at this;rw [List.map_cons,List.map_cons,Wd,Wd,this];omega
theorem zGW {a g:Rat} (h:0<g):rsign (a*g)=rsign a:=by
 by_cases e:a=0
 · rw [e,Rat.zero_mul]
 · rcases zBm e with ⟨h1,h2⟩ | ⟨h1,h2⟩
   · rw [h2,zBK (Rat.mul_pos h1 h)]
   · rw [h2,zBJ ((Rat.mul_neg_iff_of_pos_right h).2 h1)]
theorem wd_fac {γ:Rat} (h:γ≠0) (L:List (Rat→Rat)) (x:Rat):Wd (L.map fun f=>rsign (f x*γ))=Wd (sgs L x):=by
 by_cases e:0<γ
 · unfold sgs;rw [show (fun f:Rat→Rat=>rsign (f x*γ))=fun f=>rsign (f x) from funext fun f=>zGW e]
 · have e:0 < -γ:=by grind
   rw [← zPa (sgs L x)];unfold sgs;rw [List.map_map,show (fun f:Rat→Rat=>rsign (f x*γ))=(fun s => -s)∘fun f=>rsign (f x) from funext fun f=>by
    show _ = - rsign (f x);rw [← rsign_neg',← zGW (a := -f x) e];congr 1;grind]
theorem zOB:∀ {f:Nat} {P Q:Poly} {L:List Poly},zBe f P Q=some L→Trimd P→Trimd Q→P≠[] →
 ∃ (g:Poly) (hs:List (Rat→Rat)),HC hs∧L.map ev=hs.map (fun h x=>h x*ev g x)∧(Q=[]→L=[P])∧(Q≠[]→∃ l,L=P :: Q :: l)∧∀ p,p∈L→Trimd p∧p≠[]
 | 0,_,_,_,h,_,_,_=>by cases h
 | f+1,P,Q,L,h,hP,hQ,hP0=>by
  unfold zBe at h;rw [if_neg hP0] at h;split at h
  · next e =>
    cases h;refine ⟨P,[fun _=>1],.one,?_,fun _=>rfl,fun h=>absurd e h,fun p hp => ?_⟩
    · show [ev P]=[fun x=>1*ev P x];congr 1;funext x;grind
    · obtain rfl:=List.mem_singleton.1 hp;exact ⟨hP,hP0⟩
  · next hQ0 =>
    obtain ⟨R,hR,h⟩:=cbind h;obtain ⟨s,hs,h⟩:=cbind h;obtain ⟨S,hS,h⟩:=cbind h;obtain ⟨l,hl,h⟩:=cbind h;cases h;obtain ⟨S1,S2,t,ht,S3⟩:=zAx hS;obtain ⟨g,hs',hH,hm,sh1,sh2,hmem⟩:=zOB hl hQ S1 hQ0;have hid:=zOr hR;rw [zu hQ] at hid;have hev:∀ x,ev P x=ev R.1 x*ev Q x+ev R.2 x:=fun x=>by
     rw [zOs (p:=prod R.1 Q) (q:=R.2) fun k=>by rw [zMj,hid],zMS]
    have hevS:∀ x,ev S x=ev R.2 x*(-1)*t:=fun x=>by rw [zFn S3,zFn (zAe hs).2]
    have hmem':∀ p,p∈P :: l→Trimd p∧p≠[]:=fun p hp=>by
     rcases List.mem_cons.1 hp with e | e
     · subst e;exact ⟨hP,hP0⟩
     · exact hmem p e
    by_cases hS0:S=[]
    · have hl1:=sh1 hS0;subst hl1
      match hs',hH,hm with
      | [],hH,hm=>exact absurd (congrArg List.length hm) (by simp)
      | [h1],hH,hm =>
       cases hH;have hQg:ev Q=fun x=>1*ev g x:=(List.cons.inj hm).1;refine ⟨g,[ev R.1,fun _=>1],.two (sm_ev _),?_,fun h=>absurd h hQ0,fun _=>⟨[],rfl⟩,hmem'⟩;show [ev P,ev Q]=[fun x=>ev R.1 x*ev g x,fun x=>1*ev g x];have hPe:ev P=fun x=>ev R.1 x*ev g x:=funext fun x=>by
        have h1:=hevS x;rw [hS0] at h1;have h1:(0:Rat)=ev R.2 x*(-1)*t:=h1;have h2:ev R.2 x=0:=by grind
        have h3:ev Q x=1*ev g x:=congrFun hQg x;rw [hev,h2,h3];grind
       rw [hPe,hQg]
      | _ :: _ :: _,hH,hm=>exact absurd (congrArg List.length hm) (by simp)
    · obtain ⟨l2,hl2⟩:=sh2 hS0;subst hl2
      match hs',hH,hm with
      | [],hH,hm=>exact absurd (congrArg List.length hm) (by simp)
      | [_],hH,hm=>exact absurd (congrArg List.length hm) (by simp)
      | hq :: hS' :: l3,hH,hm =>
       have hm:=List.cons.inj hm;have hQg:ev Q=fun x=>hq x*ev g x:=hm.1;have hm2:=List.cons.inj hm.2;have hSg:ev S=fun x=>hS' x*ev g x:=hm2.1;have hct:0<1/t:=div_pos (by decide) ht;refine ⟨g,(fun x=>ev R.1 x*hq x-(1/t)*hS' x) :: hq :: hS' :: l3,.step hH ?_ (sm_ev R.1) hct (fun x=>rfl),?_,fun h=>absurd h hQ0,fun _=>⟨_,rfl⟩,hmem'⟩
       · intro B hB;have h1:=((sm_ev R.1 B hB).mul (hH.sm B hB)).add ((hH.sm2.scale (1/t)).neg B hB);rwa [show (fun x=>ev R.1 x*hq x-(1/t)*hS' x)=fun x=>ev R.1 x*hq x + -(1/t*hS' x) from funext fun x=>by grind]
       · have hPe:ev P=fun x=>(ev R.1 x*hq x-(1/t)*hS' x)*ev g x:=funext fun x=>by
          have h1:=hevS x;have h3:ev Q x=hq x*ev g x:=congrFun hQg x;have h4:ev S x=hS' x*ev g x:=congrFun hSg x;have h5:ev R.2 x = -(1/t)*ev S x:=by grind
          rw [hev,h5,h3,h4];grind
         show ev P :: ev Q :: ev S :: l2.map ev=_ :: _ :: _ :: l3.map _;rw [hPe,hQg,hSg,hm2.2]
theorem chain_dif {s d:Poly} {L:List Poly} (hs:Trimd s) (h0:s≠[]) (hd:zDv s=some d) (h:chain s d=some L):0≤dif L:=by
 obtain ⟨P,hP,h⟩:=cbind h;obtain ⟨Q,hQ,h⟩:=cbind h;obtain ⟨P1,P2,u,hu,P3⟩:=zAx hP;obtain ⟨Q1,Q2,v,hv,Q3⟩:=zAx hQ;rw [zu hs] at P2;have hP0:P≠[]:=fun e=>h0 (zAo (by rw [← P2,e];rfl));have h:zBe (Q.length+2) P Q=some L:=h;obtain ⟨g,hs',hH,hm,sh1,sh2,hmem⟩:=zOB h P1 Q1 hP0;by_cases hQ0:Q=[]
 · rw [sh1 hQ0,zKI];exact Int.le_refl _
 obtain ⟨l,hl⟩:=sh2 hQ0;obtain ⟨R,hR,hfar⟩:=zPF L hmem;have eP:∀ x,ev P x=ev s x*u:=zFn P3;have eQ:∀ x,ev Q x=derv s x*v:=fun x=>by rw [zFn Q3,ev_deriv (zBT hd).2]
 have hc:0<u/v:=div_pos hu hv;have hDv:Dv R (ev P) (fun x=>u/v*ev Q x):=by
  obtain ⟨E,hE,k⟩:=zOV hR s;refine ⟨u*E,Rat.mul_pos hu hE,fun x y hx hy => ?_⟩;obtain ⟨e,e1,e2⟩:=k x y hx hy;refine ⟨u*e,?_,?_⟩
  · have h1:=Rat.mul_nonneg (show 0≤u by grind) (show 0≤E-e by have:=e1.2;grind);have h2:=Rat.mul_nonneg (show 0≤u by grind) (show 0≤E+e by have:=e1.1;grind);constructor<;>grind
  · show ev P y-ev P x=(y-x)*(u/v*ev Q x+(y-x)*(u*e));rw [eP,eP,eQ];have:u/v*(derv s x*v)=u*derv s x:=by grind
    rw [this];grind
 have hsign:∀ p,p∈L→∀ m,endS m p=1∨endS m p = -1:=fun p hp m=>by
  have h1:=(zBm (zDw (hmem p hp).1 (hmem p hp).2)).imp (·.2) (·.2)
  unfold endS;split<;>omega
 have hval:∀ (m:Bool) (x:Rat),(∀ p,p∈L→rsign (ev p x)=endS m p)→ev P x≠0∧Wd (sgs hs' x)=2*zAX m L:=fun m x hx=>by
  have hPx:ev P x≠0:=fun e=>by
   have h1:=hx P (by rw [hl];simp);rw [e] at h1;have h1:(0:Int)=endS m P:=h1;have:=hsign P (by rw [hl];simp) m;omega
  have hg:ev g x≠0:=fun e=>by
   rw [hl] at hm
   match hs',hm with
   | h1 :: _,hm =>
    have:ev P x=h1 x*ev g x:=congrFun (List.cons.inj hm).1 x;exact hPx (by rw [this,e,Rat.mul_zero])
  refine ⟨hPx,?_⟩;have e1:=wd_fac hg hs' x;have e2:hs'.map (fun f=>rsign (f x*ev g x))=L.map (endS m):=by
   have:=congrArg (List.map fun f:Rat→Rat=>rsign (f x)) hm;rw [List.map_map,List.map_map] at this;have e3:L.map ((fun f:Rat→Rat=>rsign (f x))∘ev)=L.map (endS m):=List.map_congr_left fun p hp=>hx p hp;rw [e3] at this;exact this.symm
  rw [← e1,e2,zOS _ fun s hs=>by
   obtain ⟨p,hp,rfl⟩:=List.mem_map.1 hs;exact hsign p hp m]
  rfl
 obtain ⟨r1,r2⟩:=hval false R fun p hp=>(hfar p hp R (by grind)).1;obtain ⟨l1,l2⟩:=hval true (-R) fun p hp=>(hfar p hp R (by grind)).2;rw [hl] at hm
 match hs',hH,hm,r2,l2 with
 | [],hH,hm,_,_=>exact absurd (congrArg List.length hm) (by simp)
 | [_],hH,hm,_,_=>exact absurd (congrArg List.length hm) (by simp)
 | h1 :: h2 :: l',hH,hm,r2,l2 =>
  have hm:=List.cons.inj hm;have:=hc_all hR P1 hP0 hH hc (sm_ev g) (fun x=>congrFun hm.1 x) (f1:=ev Q) (fun x=>congrFun (List.cons.inj hm.2).1 x) hDv r1 (a := -R) ⟨by grind,by grind⟩ l1;rw [r2,l2] at this;unfold dif;omega
theorem own_dif {c:List Poly} (hp:Trimd p) (h0:p≠[]) (h:own p=some c):0≤dif c:=by
 obtain ⟨s,hs,h⟩:=cbind h;obtain ⟨d,hd,h⟩:=cbind h;obtain ⟨d',hd',hs⟩:=cbind hs;obtain ⟨g,hg,hs⟩:=cbind hs;obtain ⟨g1,g2,g3,g4⟩:=zCp hg hp (zBT hd').1;obtain ⟨s1,s2⟩:=zBy hs hp g1;have hlp:=zy h0;have hgl:g.length≤p.length:=by
  by_cases e:d'=[]
  · rw [g4 e];exact Nat.le_refl _
  · have h1:=g3 e;have h2:d'.length≤p.length:=zBF (zBT hd').1 fun i hi=>by rw [(zBT hd').2,co_ge (by omega)];grind
    omega
 exact chain_dif s1 (fun e=>by rw [e] at s2;simp at s2;omega) hd h
theorem zGg:∀ {f:Nat} {g:Poly} {m t:Int},zFs f g m=some t→Trimd g→g≠[]→m≤t
 | 0,_,_,_,h,_,_=>by cases h
 | f+1,g,m,t,h,hg,hg0=>by
  unfold zFs at h;split at h
  · cases h;exact Int.le_refl _
  · obtain ⟨c,hc,h⟩:=cbind h;obtain ⟨d,hd,h⟩:=cbind h;obtain ⟨k,hk,h⟩:=cbind h;obtain ⟨k1,k2,_⟩:=zCp hk hg (zBT hd).1;have h1:=own_dif hg hg0 hc;have h2:=zGg h k1 (k2 (.inl hg0));have h3:dif c=zAX true c-zAX false c:=rfl;omega
end Go.Proofs.YtjiendlfobjanaaGreatDoor
namespace Go.Proofs.YtjiendlfobjanaaGreatDoor
open Go Go.Proofs Tryz
abbrev YB:=zBG prog
theorem hb3:YB 3:=hb_ func3
theorem hb4:YB 4:=hb_ func4
theorem hb5:YB 5:=hb_ func5
theorem hb6:YB 6:=hb_ func6
theorem hb7:YB 7:=hb_ func7
theorem hb9:YB 9:=hb_ func9
theorem hb13:YB 13:=hb_ func13
theorem hb14:YB 14:=hb_ func14
theorem hb15:YB 15:=hb_ func15
theorem hb16:YB 16:=hb_ func16
theorem hb17:YB 17:=hb_ func17
theorem hb18:YB 18:=hb_ func18
theorem hb19:YB 19:=hb_ func19
theorem hb20:YB 20:=hb_ func20
theorem hb21:YB 21:=hb_ func21
theorem hb22:YB 22:=hb_ func22
theorem hb29:YB 29:=hb_ func29
theorem hb32:YB 32:=hb_ func32
theorem hb34:YB 34:=hb_ func34
theorem hb37:YB 37:=hb_ func37
theorem hb38:YB 38:=hb_ func38
theorem hb53:YB 53:=hb_ func53
theorem hb54:YB 54:=hb_ func54
theorem hb55:YB 55:=hb_ func55
theorem hb56:YB 56:=hb_ func56
theorem hb57:YB 57:=hb_ func57
theorem hb63:YB 63:=hb_ func63
theorem hb64:YB 64:=hb_ func64
theorem hb65:YB 65:=hb_ func65
theorem hb66:YB 66:=hb_ func66
theorem hb67:YB 67:=hb_ func67
theorem hb68:YB 68:=hb_ func68
theorem hb69:YB 69:=hb_ func69
theorem hb70:YB 70:=hb_ func70
theorem hb71:YB 71:=hb_ func71
theorem hb72:YB 72:=hb_ func72
theorem hb73:YB 73:=hb_ func73
theorem hb74:YB 74:=hb_ func74
theorem hb75:YB 75:=hb_ func75
theorem hb79:YB 79:=hb_ func79
theorem hb80:YB 80:=hb_ func80
theorem hb87:YB 87:=hb_ func87
theorem hb88:YB 88:=hb_ func88
theorem hb89:YB 89:=hb_ func89
theorem hb94:YB 94:=hb_ func94
theorem hb95:YB 95:=hb_ func95
theorem hb96:YB 96:=hb_ func96
theorem hb99:YB 99:=hb_ func99
theorem hb100:YB 100:=hb_ func100
theorem hb101:YB 101:=hb_ func101
theorem hb102:YB 102:=hb_ func102
theorem hb103:YB 103:=hb_ func103
theorem hb104:YB 104:=hb_ func104
theorem hb105:YB 105:=hb_ func105
theorem hb106:YB 106:=hb_ func106
theorem hb119:YB 119:=hb_ func119
theorem hb127:YB 127:=hb_ func127
theorem hb131:YB 131:=hb_ func131
theorem hb132:YB 132:=hb_ func132
theorem hb138:YB 138:=hb_ func138
theorem hb146:YB 146:=hb_ func146
theorem hb147:YB 147:=hb_ func147
theorem hb149:YB 149:=hb_ func149
theorem hb150:YB 150:=hb_ func150
theorem hb151:YB 151:=hb_ func151
theorem hb152:YB 152:=hb_ func152
theorem hb153:YB 153:=hb_ func153
theorem hb154:YB 154:=hb_ func154
theorem hb155:YB 155:=hb_ func155
theorem hb156:YB 156:=hb_ func156
theorem hb157:YB 157:=hb_ func157
theorem hb158:YB 158:=hb_ func158
theorem hb159:YB 159:=hb_ func159
theorem hb160:YB 160:=hb_ func160
theorem hb161:YB 161:=hb_ func161
theorem hb162:YB 162:=hb_ func162
theorem hb163:YB 163:=hb_ func163
theorem hb164:YB 164:=hb_ func164
theorem hb165:YB 165:=hb_ func165
theorem hb166:YB 166:=hb_ func166
theorem hb167:YB 167:=hb_ func167
theorem hb168:YB 168:=hb_ func168
theorem hb169:YB 169:=hb_ func169
theorem hb170:YB 170:=hb_ func170
theorem hb171:YB 171:=hb_ func171
theorem hb172:YB 172:=hb_ func172
theorem hb173:YB 173:=hb_ func173
theorem hb174:YB 174:=hb_ func174
theorem hb176:YB 176:=hb_ func176
theorem hb177:YB 177:=hb_ func177
theorem hb178:YB 178:=hb_ func178
theorem hb184:YB 184:=hb_ func184
theorem hb185:YB 185:=hb_ func185
theorem hb186:YB 186:=hb_ func186
theorem hb189:YB 189:=hb_ func189
theorem hb190:YB 190:=hb_ func190
theorem hb191:YB 191:=hb_ func191
theorem hb192:YB 192:=hb_ func192
theorem hb194:YB 194:=hb_ func194
theorem hb199:YB 199:=hb_ func199
theorem hb201:YB 201:=hb_ func201
theorem hb202:YB 202:=hb_ func202
theorem hb203:YB 203:=hb_ func203
theorem hb213:YB 213:=hb_ func213
theorem hb214:YB 214:=hb_ func214
theorem hb223:YB 223:=hb_ func223
theorem hb234:YB 234:=hb_ func234
theorem hb235:YB 235:=hb_ func235
theorem hb236:YB 236:=hb_ func236
theorem hb237:YB 237:=hb_ func237
theorem hb239:YB 239:=hb_ func239
theorem hb240:YB 240:=hb_ func240
theorem hb242:YB 242:=hb_ func242
theorem hb243:YB 243:=hb_ func243
theorem hb245:YB 245:=hb_ func245
theorem hb246:YB 246:=hb_ func246
theorem hb247:YB 247:=hb_ func247
theorem hb248:YB 248:=hb_ func248
theorem hb249:YB 249:=hb_ func249
theorem hb250:YB 250:=hb_ func250
theorem hb251:YB 251:=hb_ func251
theorem hb252:YB 252:=hb_ func252
theorem hb253:YB 253:=hb_ func253
theorem hb254:YB 254:=hb_ func254
theorem hb255:YB 255:=hb_ func255
theorem hb256:YB 256:=hb_ func256
theorem hb257:YB 257:=hb_ func257
theorem hb258:YB 258:=hb_ func258
theorem hb259:YB 259:=hb_ func259
theorem hb260:YB 260:=hb_ func260
theorem hb264:YB 264:=hb_ func264
theorem hb265:YB 265:=hb_ func265
theorem hb266:YB 266:=hb_ func266
theorem hb267:YB 267:=hb_ func267
theorem hb268:YB 268:=hb_ func268
theorem hb269:YB 269:=hb_ func269
theorem hb270:YB 270:=hb_ func270
theorem hb271:YB 271:=hb_ func271
theorem hb293:YB 293:=hb_ func293
theorem hb298:YB 298:=hb_ func298
theorem hb306:YB 306:=hb_ func306
theorem hb307:YB 307:=hb_ func307
theorem hb308:YB 308:=hb_ func308
theorem hb309:YB 309:=hb_ func309
theorem hb310:YB 310:=hb_ func310
theorem hb311:YB 311:=hb_ func311
theorem hb312:YB 312:=hb_ func312
theorem hb313:YB 313:=hb_ func313
theorem hb314:YB 314:=hb_ func314
theorem hb315:YB 315:=hb_ func315
theorem hb331:YB 331:=hb_ func331
theorem hb344:YB 344:=hb_ func344
theorem hb345:YB 345:=hb_ func345
theorem hb346:YB 346:=hb_ func346
theorem hb349:YB 349:=hb_ func349
theorem hb350:YB 350:=hb_ func350
theorem hb364:YB 364:=hb_ func364
end Go.Proofs.YtjiendlfobjanaaGreatDoor
namespace Go.Proofs.YtjiendlfobjanaaGreatDoor
open Go Go.RowKit Go.Proofs Tryz
set_option maxRecDepth 10000
set_option maxHeartbeats 2000000
attribute [local irreducible] Runs WPE CallK Ret
variable {cap k n:Nat} {ds:List Nat} {w:World}
theorem zFy (w:World):Ret prog 106 #[] w (fun v w'=>IsW w' v 1):=by
 refine J0 2 func106 rfl (rj fun K=>ag (ru K (rj fun K => ?_)));refine K1 (zc (cs:=[.int .u64 1]) zDf info164' (by decide) (by decide) (by kernel_rfl) fun b w1 hb hE hB hs => ?_);replace E0:=E0.trans hE;refine ag (ru K (zB (en rfl E0 ?_)));refine ⟨some ⟨b,0,none⟩,[1],1,rfl,by decide,fun i hi => ?_,⟨by intro d hd;simp at hd;omega,by simp⟩,rfl⟩;have:i=0:=by simpa using hi
 subst this;exact ⟨b,0,_,rfl,hB,rfl⟩
theorem zMW (h:Norm ds):nat64 ds=1↔ds.length=1∧ds.getD 0 0=1:=by
 constructor
 · intro e;have h1:Norm [1]:=⟨by intro d hd;simp at hd;omega,by simp⟩;have:=h.inj h1 (by rw [e];rfl);subst this;exact ⟨rfl,rfl⟩
 · rintro ⟨h1,h2⟩
   match ds,h1 with
   | [d],_=>simp at h2;subst h2;rfl
theorem zDL {x:Value} (hx:IsW w x n):Ret prog 156 #[x] w (fun v _=>v = .bool (decide (n=1))):=by
 obtain ⟨p,ds,cap,rfl,hcap,hrd,hno,hn⟩:=hx;have hi:=zMW hno;rw [hn] at hi;by_cases hl:ds.length=1
 · obtain ⟨d,rfl⟩:∃ d,ds=[d]:=by match ds,hl with | [d],_=>exact ⟨d,rfl⟩
   obtain ⟨b,o,cs,rfl,hB,hv⟩:=hrd 0 (by simp);have E0:Ext w w:=Ext.refl w;refine J0 12 func156 rfl (rj fun K=>ag (ru K (rJ fun K=>K1 (zG zX rfl (K8 rfl (mv (K7 (K2 (zE zX rfl rfl (by decide) (by simp) (K2 (zI zAR rfl hB hv (K2 (zF rfl rfl rfl (pk rfl (ag ?_)))))))))))))));refine ru K (zB (en rfl E0 ?_));show Value.bool ((d:Int)==1)=_;congr 1;rw [Bool.eq_iff_iff];simp at hi ⊢;omega
 · have hl':((((ds.length:Nat):Int)==1)==true)=false:=by simp;omega
   have E0:Ext w w:=Ext.refl w;refine J0 12 func156 rfl (rj fun K=>ag (ru K (rJ fun K=>K1 (zG zX rfl (K8 rfl (mv (zCE hl' (zCE hl' (zCE hl' (zCE hl' (pk rfl (ag ?_))))))))))));refine ru K (zB (en rfl E0 ?_));show (if (((ds.length:Nat):Int)==1)=true then _ else Value.bool false)=_;rw [if_neg (by simp;omega)];congr 1;have:¬ n=1:=fun e=>hl (hi.1 e).1;simp [this]
theorem zCv (h:k<ds.length) (h0:ds.getD k 0=0):nat64 (ds.take (k+1))=nat64 (ds.take k):=by
 rw [zDd h,h0];simp
theorem zJF (hd:Dig ds) (h:k<ds.length) (h0:ds.getD k 0≠0):Norm (ds.take (k+1)):=by
 refine ⟨hd.take _,?_⟩;rw [zCI h,List.getLast?_append];simpa using h0
theorem zMJ {p:Option Addr} (hcap:ds.length≤cap) (hrd:Rd w p ds) (hdig:Dig ds) (hbig:ds.length<4611686018427387904):Ret prog 194 #[.slice p ds.length cap] w (fun v _=>∃ k,k≤ds.length∧v = .slice p k cap∧Norm (ds.take k)∧nat64 (ds.take k)=nat64 ds):=by
 have E0:Ext w w:=Ext.refl w;refine J0 21 func194 rfl (rj fun K=>ag (ru K (zA (zD (ze (X:=Nat) (fun k ρ w'=>Keep ρ [(0,.slice p k cap)]∧k≤ds.length∧nat64 (ds.take k)=nat64 ds∧Ext w w'∧Rd w' p ds) (fun k=>k) ds.length ⟨(kp rfl),Nat.le_refl _,by simp,E0,hrd⟩ ?_)))));clear E0 hrd;rintro k ρ1 w1 ⟨hk,hkl,hnk,E0,hrd⟩;refine wpe_k _ hk ?_;clear hk ρ1;refine zA (zA ?_);rcases k with _ | k
 · skip
   refine rI fun K=>K1 (zG zX rfl (K8 rfl (mv (K3 (K3 (K3 (K3 (K3 (K3 (K3 (pk rfl (rl K (zN ?_)))))))))))));refine wcf rfl (zV (zv (zi (zL (zN (rJ fun K=>ag (ru K (zB (zQ ?_)))))))));exact ⟨rfl,_,zg rfl rfl,E0,0,Nat.zero_le _,rfl,⟨by intro d hd;simp at hd,by simp⟩,hnk⟩
 · obtain ⟨b,o,cs,rfl,hB,hv⟩:=hrd k (by omega);have hg0:decide (((k+1:Nat):Int)>0)=true:=by simp only [decide_eq_true_eq];omega
   have hg:(decide (((k+1:Nat):Int)>0)==true)=true:=by rw [hg0];rfl
   have hw:IntKind.i64.wrap (((k+1:Nat):Int)-1)=(k:Int):=by rw [zj (by omega) (by omega)];omega
   refine rI fun K=>K1 (zG zX rfl (K8 rfl (mv (sr_g hg (zC (sr_g hg (zC (sr_g hg (zG zX rfl (sr_g hg (zF rfl rfl rfl (sr_g hg (zE (ix:=k) zX rfl (congrArg (Value.int .i64) hw) (by omega) (by omega) (sr_g hg (zI zAR rfl hB (by simpa using hv) (sr_g hg (zF rfl rfl rfl (pk (b:=true) (congrArg Value.bool hg0) (rl K (zN ?_))))))))))))))))))));refine K0 rfl ?_ ?_<;>intro hc
   · have hz:ds.getD k 0=0:=by simpa [look,look1,ext] using hc
     refine sk (zD (rI fun K=>mv (K1 (zG zX rfl (K8 rfl (K1 (zBq (h:=k) zX rfl (congrArg (Value.int .i64) hw) (by omega) (by omega) (ag (rl K (zS (zP (⟨rfl,k,⟨(kp rfl),by omega,?_,E0,hrd⟩,by omega⟩))))))))))));rw [← hnk,zCv (by omega) hz]
   · have hz:ds.getD k 0≠0:=by simpa [look,look1,ext] using hc
     refine zV (zv (zi (zL (zN (rJ fun K=>ag (ru K (zB (en rfl E0 ⟨k+1,hkl,rfl,zJF hdig (by omega) hz,hnk⟩))))))))
variable {ca:Nat} {fd:Nat→Nat→Nat→Nat×Nat} {pa:Option Addr} {xs ys:List Nat}
theorem zIX (x y c:Nat) (hc:c≤1) (w:World):(callFunc 193 #[.int .u64 (x:Int),.int .u64 (y:Int),.int .u64 (c:Int)]).run prog w =
 .ok (.value (.tuple #[.int .u64 (((x+y+c)%18446744073709551616:Nat):Int),.int .u64 (((x+y+c)/18446744073709551616:Nat):Int)])) w:=by
 rw [run_callFunc_extern func193 (by kernel_rfl) (by kernel_rfl) (by kernel_rfl) (e:=add64Entry) (by kernel_rfl),run_add64 x y c (by omega) (by omega) (by omega) (by omega)];simp only [Result.andThen];congr 5<;>omega
theorem zLJ (x y b:Nat) (hb:b≤1) (w:World):(callFunc 294 #[.int .u64 (x:Int),.int .u64 (y:Int),.int .u64 (b:Int)]).run prog w =
 .ok (.value (.tuple #[.int .u64 (((x+18446744073709551616-y-b)%18446744073709551616:Nat):Int),.int .u64 ((if x<y+b then 1 else 0:Nat):Int)])) w:=by
 rw [run_callFunc_extern func294 (by kernel_rfl) (by kernel_rfl) (by kernel_rfl) (e:=sub64Entry) (by kernel_rfl),run_sub64 x y b hb];rfl
def zY (fd:Nat→Nat→Nat→Nat×Nat) (xs ys:List Nat):Nat→List Nat×Nat
 | 0=>([],0)
 | i+1=>((zY fd xs ys i).1++[(fd (xs.getD i 0) (ys.getD i 0) (zY fd xs ys i).2).1],(fd (xs.getD i 0) (ys.getD i 0) (zY fd xs ys i).2).2)
theorem zAE (fd:Nat→Nat→Nat→Nat×Nat) (xs ys:List Nat):∀ i,(zY fd xs ys i).1.length=i
 | 0=>rfl
 | i+1=>by simp [zY,zAE fd xs ys i]
theorem zCw (hdx:Dig xs) (hdy:Dig ys) (h:∀ x y c,x<18446744073709551616→y<18446744073709551616→c≤1→(fd x y c).2≤1) (i:Nat):(zY fd xs ys i).2≤1:=by
 induction i with
 | zero=>exact Nat.zero_le _
 | succ i ih=>exact h _ _ _ (hdx.getD i) (hdy.getD i) ih
theorem zDP (l:List Nat) (n d:Nat):(l++List.replicate (n+1) 0).set l.length d=(l++[d])++List.replicate n 0:=by
 rw [List.set_append_right _ _ (Nat.le_refl _)];simp [List.replicate_succ]
theorem zGy {pb:Option Addr} {cb g:Nat} (ha:Rd w pa xs) (hb:Rd w pb ys) (hla:xs.length<17592186044416) 
 (hdx:Dig xs) (hdy:Dig ys)
 (hdo:∀ (x y c:Nat),x<18446744073709551616→y<18446744073709551616→c≤1→∀ w,(callFunc g #[.int .u64 (x:Int),.int .u64 (y:Int),.int .u64 (c:Int)]).run prog w = .ok (.value (.tuple #[.int .u64 ((fd x y c).1:Nat),.int .u64 ((fd x y c).2:Nat)])) w)
 (hfd:∀ x y c,x<18446744073709551616→y<18446744073709551616→c≤1→(fd x y c).2≤1) :
 Ret prog 293 #[.slice pa xs.length ca,.slice pb ys.length cb,.func (.func g) #[] #[]] w (fun v w'=>∃ b,w.heap.size≤b∧v = .slice (some ⟨b,0,none⟩) (xs.length+1) (xs.length+1)∧Blk w' b 164 (dv ((zY fd xs ys xs.length).1++[(zY fd xs ys xs.length).2]))):=by
 have hc1:∀ i,(zY fd xs ys i).2≤1:=zCw hdx hdy hfd;have E0:Ext w w:=Ext.refl w;refine J0 49 func293 rfl (rj fun K=>ag (ru K (rJ fun K=>K1 (zG zX rfl (K8 rfl ?_)))));have hw1:IntKind.i64.wrap (((xs.length:Nat):Int)+1)=((xs.length+1:Nat):Int):=by rw [zj (by omega) (by omega)];omega
 refine K1 (zAJ zDf zGI rfl (congrArg (Value.int .i64) hw1) (congrArg (Value.int .i64) hw1) (by omega) (by omega) (by omega) fun b w1 hb1 hE hB hs => ?_);have hgb:w.heap.size≤b:=by rw [hb1];exact E0.size
 have hna:=ha.ne (Nat.le_of_eq hb1.symm);have hnb:=hb.ne (Nat.le_of_eq hb1.symm);replace E0:=E0.trans hE;replace ha:=ha.ext hE;replace hb:=hb.ext hE;clear hE hs hb1;rw [show ((xs.length+1:Nat):Int).toNat=xs.length+1 from by omega,show (Value.int IntKind.u64 0).cells.toList=[Value.int IntKind.u64 0] from rfl,zAk] at hB;refine ag (ru K (rj fun K=>ag (ru K (zA (rJ fun K=>K1 (zG zX rfl (mv (ru K (zD ?_)))))))));have slot17:((xs.length+1:Nat):Int).toNat=xs.length+1:=by omega
 refine ze (X:=Nat) (fun i ρ w'=>Keep ρ [(0,.slice pa xs.length ca),(1,.slice pb ys.length cb),(2,.func (.func g) #[] #[]),(7,.slice (some ⟨b,0,none⟩) (xs.length+1) (xs.length+1)),(8,.int .u64 ((zY fd xs ys i).2:Nat)),(16,.slice pa xs.length ca),(17,.int .i64 (xs.length:Nat)),(18,.int .i64 (i:Nat))]∧i≤xs.length∧Ext w w'∧Rd w' pa xs∧Rd w' pb ys∧Blk w' b 164 (dv ((zY fd xs ys i).1++List.replicate (xs.length+1-i) 0))) (fun i=>xs.length-i) 0 ⟨(kp rfl),Nat.zero_le _,E0,ha,hb,hB⟩ ?_;clear E0 ha hb hB;rintro i ρ1 w1 ⟨hk,hil,E0,ha,hb,hB⟩;refine wpe_k _ hk ?_;clear hk ρ1;refine rj fun K=>K8 rfl (ru K (zA ?_));refine K0 rfl ?_ ?_<;>intro hc
 · have hlt:i<xs.length:=by simpa [look,look1,ext] using hc
   clear hc;obtain ⟨b2,o2,cs2,hpa2,hB2,hv2⟩:=ha i hlt;refine sk (zA (zD (rJ fun K=>K1 (zE (b:=b2) (o:=o2) zX (congrArg (fun p=>Value.slice p xs.length ca) hpa2) rfl (by omega) (by omega) (K1 (zI zAR rfl hB2 (by simpa using hv2) (ag (ag (ru K (rj fun K=>ag (ru K (zBO (fun ρ w'=>Keep ρ [(0,.slice pa xs.length ca),(1,.slice pb ys.length cb),(2,.func (.func g) #[] #[]),(7,.slice (some ⟨b,0,none⟩) (xs.length+1) (xs.length+1)),(8,.int .u64 ((zY fd xs ys i).2:Nat)),(16,.slice pa xs.length ca),(17,.int .i64 (xs.length:Nat)),(18,.int .i64 (i:Nat)),(9,.int .i64 (i:Nat)),(10,.int .u64 (xs.getD i 0:Nat)),(11,.int .u64 (ys.getD i 0:Nat))]∧w'=w1) ?_ ?_))))))))))))
   · refine rJ fun K=>mv (K1 (zG zX rfl (K8 rfl (ru K ?_))));refine K0 rfl ?_ ?_<;>intro hc
     · have hltb:i<ys.length:=by simpa [look,look1,ext] using hc
       clear hc;obtain ⟨b3,o3,cs3,hpb3,hB3,hv3⟩:=hb i hltb;exact rI fun K=>mv (K1 (zE (b:=b3) (o:=o3) zX (congrArg (fun p=>Value.slice p ys.length cb) hpb3) rfl (by omega) (by omega) (K1 (zI zAR rfl hB3 (by simpa using hv3) (ag (rl K (zP ⟨rfl,(kp rfl),rfl⟩)))))))
     · have hltb:¬ i<ys.length:=by simpa [look,look1,ext] using hc
       refine zm (zP ?_);exact ⟨rfl,⟨rfl,rfl,rfl,rfl,rfl,rfl,rfl,rfl,rfl,rfl,rfl,rfl,rfl,rfl,rfl,rfl,rfl,rfl,rfl,rfl,rfl,(by simp only [look1,ext,look,List.getD_eq_getElem?_getD,List.getElem?_eq_none (Nat.le_of_not_lt hltb)];rfl),trivial⟩,rfl⟩
   · rintro ρ2 w2 ⟨hk,rfl⟩;refine wpe_k _ hk ?_;clear hk ρ2;refine rI fun K=>mv (mv (mv (mv (mv (K1 (runs_callEV rfl (hdo (xs.getD i 0) (ys.getD i 0) _ (hdx.getD i) (hdy.getD i) (hc1 i) _) (mv (xt rfl (xt rfl (K1 (zE (b:=b) (o:=0) zX rfl rfl (by omega) (by omega) ?_)))))))))));refine K1 (zt zCc rfl hB rfl (by simp [zAF,zAE]<;>omega) (by decide) rfl fun w2 hU hN => ?_);refine ag (rl K (zS (zN (K6 fun K=>K8 rfl (mv (rl K (zP ?_)))))));have h2:=zAj (i:=i) (d:=(fd (xs.getD i 0) (ys.getD i 0) (zY fd xs ys i).2).1) hN (by simp);have h3:=zDP (zY fd xs ys i).1 (xs.length-i) (fd (xs.getD i 0) (ys.getD i 0) (zY fd xs ys i).2).1;rw [zAE] at h3;rw [show xs.length+1-i=xs.length-i+1 from by omega,h3] at h2;refine ⟨rfl,i+1,⟨⟨rfl,rfl,rfl,rfl,rfl,rfl,rfl,rfl,rfl,rfl,rfl,rfl,rfl,rfl,rfl,congrArg (Value.int .i64) (zx (by omega)),trivial⟩,by omega,E0.upd hU hgb,ha.upd' hU hna,hb.upd' hU hnb,?_⟩,by omega⟩;rw [show xs.length+1-(i+1)=xs.length-i from by omega];exact h2
 · have hge:¬ i<xs.length:=by simpa [look,look1,ext] using hc
   obtain rfl:i=xs.length:=by omega
   refine zV (zv (zi (zL (zN (rJ fun K=>mv (K1 (zG zX rfl (mv (K1 (zE (b:=b) (o:=0) zX rfl rfl (by omega) (by omega) ?_))))))))));refine K1 (zt zCc rfl hB rfl (by simp [zAF,zAE]<;>omega) (by decide) rfl fun w2 hU hN => ?_);refine ru K (rJ fun K=>ag (ru K (zB (en rfl (E0.upd hU hgb) ⟨b,hgb,rfl,?_⟩))));have h2:=zAj (i:=xs.length) (d:=(zY fd xs ys xs.length).2) hN (by simp);have h3:=zDP (zY fd xs ys xs.length).1 0 (zY fd xs ys xs.length).2;rw [zAE] at h3;rw [show xs.length+1-xs.length=0+1 from by omega,h3] at h2;simpa using h2
variable {B X Y b c:Nat}
def Fit (n:Nat):Prop:=n.log2<8796093022208
theorem Norm.fit (h:Norm ds) (hf:Fit (nat64 ds)):ds.length≤137438953473:=h.len_le hf
theorem Rd.of_blk (h:Blk w b 164 (dv ds)):Rd w (some ⟨b,0,none⟩) ds:=fun i hi=>⟨b,0,_,rfl,h,by rw [Nat.zero_add];exact zCW ds i hi⟩
theorem Rd.take {p:Option Addr} (h:Rd w p ds) (k:Nat):Rd w p (ds.take k):=fun i hi=>by
 have hk:i<k∧i<ds.length:=by simp at hi;omega
 obtain ⟨b,o,cs,h1,h2,h3⟩:=h i hk.2;refine ⟨b,o,cs,h1,h2,?_⟩;rw [h3];simp [hk.1]
theorem zEl {p:Option Addr} (hn:ds.length=n) (hcap:n≤cap) (hrd:Rd w p ds) (hdig:Dig ds) (hbig:n<4611686018427387904):Ret prog 194 #[.slice p n cap] w (fun v w'=>IsW w' v (nat64 ds)):=by
 subst hn;exact (zMJ hcap hrd hdig hbig).mono fun v w' hx ⟨k,hk,hv,hn,he⟩=>⟨p,ds.take k,cap,by rw [hv];simp [Nat.min_eq_left hk],by simp;omega,(hrd.ext hx).take k,hn,he⟩
def fAdd (x y c:Nat):Nat×Nat:=((x+y+c)%18446744073709551616,(x+y+c)/18446744073709551616)
def fSub (x y b:Nat):Nat×Nat:=((x+18446744073709551616-y-b)%18446744073709551616,if x<y+b then 1 else 0)
theorem zBb {fd:Nat→Nat→Nat→Nat×Nat} (h:∀ x y c,(fd x y c).1<18446744073709551616) (xs ys:List Nat):∀ i,Dig (zY fd xs ys i).1
 | 0=>by intro d hd;simp [zY] at hd
 | i+1=>by
  intro d hd;simp only [zY,List.mem_append,List.mem_singleton] at hd;rcases hd with hd | rfl
  · exact zBb h xs ys i d hd
  · exact h _ _ _
theorem nat64_take_succ' (ds:List Nat) (k:Nat):nat64 (ds.take (k+1))=nat64 (ds.take k)+18446744073709551616^k*ds.getD k 0:=by
 by_cases h:k<ds.length
 · exact zDd h
 · rw [List.take_of_length_le (by omega),List.take_of_length_le (by omega)];simp [List.getElem?_eq_none (Nat.le_of_not_lt h)]
theorem zDh (xs ys:List Nat):∀ i,nat64 (zY fAdd xs ys i).1+18446744073709551616^i*(zY fAdd xs ys i).2=nat64 (xs.take i)+nat64 (ys.take i)
 | 0=>by simp [zY,nat64]
 | i+1=>by
  have ih:=zDh xs ys i;rw [nat64_take_succ' xs,nat64_take_succ' ys];simp only [zY];rw [zBN,zAE];generalize (zY fAdd xs ys i).2=c at *;generalize xs.getD i 0=x;generalize ys.getD i 0=y;simp only [fAdd,nat64,Nat.mul_zero,Nat.add_zero,Nat.pow_succ];have hdm:(x+y+c)=(x+y+c)%18446744073709551616+18446744073709551616*((x+y+c)/18446744073709551616):=(Nat.mod_add_div _ _).symm;generalize (x+y+c)%18446744073709551616=r at *;generalize (x+y+c)/18446744073709551616=q at *;generalize 18446744073709551616^i=B at *;grind
theorem zHx {x y:Nat} (hx:x<18446744073709551616) (hy:y<18446744073709551616) (hc:c≤1):(fSub x y c).1+(y+c)=x+18446744073709551616*(fSub x y c).2:=by
 simp only [fSub];by_cases h:x<y+c
 · rw [if_pos h];omega
 · rw [if_neg h];omega
theorem zEC (x y c:Nat):(fSub x y c).2≤1:=by
 simp only [fSub];by_cases h:x<y+c
 · rw [if_pos h];omega
 · rw [if_neg h];omega
theorem zKW {R x y r q:Nat} (ih:R+Y=X+B*c) (key:r+(y+c)=x+18446744073709551616*q):R+B*r+(Y+B*y)=X+B*x+B*(18446744073709551616*q):=by
 have k2:B*(r+(y+c))=B*(x+18446744073709551616*q):=by rw [key]
 simp only [Nat.mul_add] at k2;omega
theorem zGH (xs ys:List Nat) (hx:Dig xs) (hy:Dig ys) (i:Nat):nat64 (zY fSub xs ys i).1+nat64 (ys.take i)=nat64 (xs.take i)+18446744073709551616^i*(zY fSub xs ys i).2:=by
 induction i with
 | zero=>simp [zY,nat64]
 | succ i ih =>
  have key:=zHx (hx.getD i) (hy.getD i) (zCw hx hy (fun x y c _ _ _=>zEC x y c) i);rw [nat64_take_succ' xs,nat64_take_succ' ys];simp only [zY];rw [zBN,zAE,Nat.pow_succ,Nat.mul_assoc];generalize fSub (xs.getD i 0) (ys.getD i 0) (zY fSub xs ys i).2=r at *;generalize (zY fSub xs ys i).2=c at *;have h:=zKW ih key;rw [zEM];exact h
theorem zFj (hl:ys.length≤xs.length):nat64 ((zY fAdd xs ys xs.length).1++[(zY fAdd xs ys xs.length).2])=nat64 xs+nat64 ys:=by
 have h:=zDh xs ys xs.length;rw [List.take_length,List.take_of_length_le hl] at h;rw [zBN,zAE];simpa [nat64] using h
theorem zHP {x y:Nat} (hx:x<18446744073709551616) (hy:y<18446744073709551616) (hc:c≤1):(fAdd x y c).2≤1:=by
 simp only [fAdd];omega
theorem zGz (hx:Dig xs) (hy:Dig ys) (hl:ys.length≤xs.length) (hle:nat64 ys≤nat64 xs):nat64 (zY fSub xs ys xs.length).1=nat64 xs-nat64 ys:=by
 have h:=zGH xs ys hx hy xs.length;rw [List.take_length,List.take_of_length_le hl] at h;have h1:=zCL _ (zBb (fd:=fSub) (fun x y c=>Nat.mod_lt _ (by decide)) xs ys xs.length);rw [zAE] at h1;have hc:=zCw hx hy (fun x y c _ _ _=>zEC x y c) xs.length;have h2:=zCL ys hy;have h3:18446744073709551616^ys.length≤18446744073709551616^xs.length:=Nat.pow_le_pow_right (by decide) hl;rcases (show (zY fSub xs ys xs.length).2=0∨(zY fSub xs ys xs.length).2=1 by omega) with h4 | h4
 · rw [h4] at h;omega
 · rw [h4] at h;omega
variable {d m:Nat}
theorem zFC (hd:d<18446744073709551616):Ret prog 105 #[.int .u64 (d:Int)] w (fun v w'=>IsW w' v d):=by
 refine J0 6 func105 rfl (rj fun K=>ag (ru K (rj fun K=>mv ?_)));refine K1 (zc (cs:=dv [d]) zDf info164' (by decide) (by decide) (by kernel_rfl) fun b w1 hb hE hB hs => ?_);replace E0:=E0.trans hE;refine K1 (j0 E0 hb194 (zEl (ds:=[d]) rfl (Nat.le_refl _) (Rd.of_blk hB) (by intro x hx;simp at hx;omega) (by decide)) fun v1_2 w1 E0 hr => ?_);rw [zEM] at hr;exact ag (ru K (zB (en rfl E0 hr)))
theorem zCJ {x:Value} {q:Rat} (hx:IsNum w x q):Ret prog 104 #[x] w (fun v w'=>IsW w' v q.den):=by
 obtain ⟨n,d,rfl,hn,hd⟩:=hx;obtain ⟨p,ds,cap,rfl,hcap,hrd,hno,hv⟩:=hd;refine J0 10 func104 rfl (rj fun K => ?_);refine K1 (zAA fun b1 w1 hb hE hB1 hs => ?_);have hgb1:w.heap.size≤b1:=by rw [hb];exact E0.size
 replace E0:=E0.trans hE;replace hn:=hn.ext hE;replace hrd:=hrd.ext hE;clear hE hs hb;refine ag (ru K (zA (rj fun K=>K1 (zJ zGS rfl (K1 (zI zAn rfl hB1 rfl (K1 (zG zX rfl (K8 rfl (ru K ?_))))))))));refine K0 rfl ?_ ?_<;>intro hc
 · have h0:ds=[]:=by have:=hc;simpa using this
   have h1:q.den=1:=by
    have h2:(if q.den=1 then 0 else q.den)=0:=by rw [← hv,h0];rfl
    have:=q.den_pos;by_cases h:q.den=1
    · exact h
    · rw [if_neg h] at h2;omega
   refine rj fun K=>K1 (j3 E0 hn.ext hrd.ext hB1.ext hb106 (zFy _) fun v2_0 w2 E0 hn hrd hB1 hr=>ag (ru K (zB (zU (zQ ?_)))));exact ⟨rfl,_,zg rfl rfl,E0,by rw [h1];exact hr⟩
 · have h0:ds≠[]:=by intro e;subst e;have:=hc;simp at this
   have h1:q.den≠1:=by
    intro e;rw [if_pos e] at hv;exact h0 (hno.zero.1 hv)
   refine sk (rj fun K=>K1 (zJ zGS rfl (K1 (zI zAn rfl hB1 rfl (ag (ru K (zB (en rfl E0 ⟨p,ds,cap,rfl,hcap,hrd,hno,?_⟩))))))));rw [hv,if_neg h1]
theorem zKt (hx:Dig xs) (hy:Dig ys):Dig ((zY fAdd xs ys xs.length).1++[(zY fAdd xs ys xs.length).2]):=by
 intro d hd;rw [List.mem_append,List.mem_singleton] at hd;rcases hd with hd | rfl
 · exact zBb (fun x y c=>Nat.mod_lt _ (by decide)) xs ys _ d hd
 · have:=zCw (fd:=fAdd) hx hy (fun x y c h1 h2 h3=>zHP h1 h2 h3) xs.length;omega
theorem zOd {x y:Value} (hx:IsW w x m) (hy:IsW w y n) (hm:Fit m) (hn:Fit n):Ret prog 234 #[x,y] w (fun v w'=>IsW w' v (m+n)):=by
 obtain ⟨pa,xs,ca,rfl,hca,ha,hxn,hxv⟩:=hx;obtain ⟨pb,ys,cb,rfl,hcb,hb,hyn,hyv⟩:=hy;subst hxv;subst hyv;have hlx:=hxn.fit hm;have hly:=hyn.fit hn;by_cases hl:xs.length<ys.length
 · skip
   have E0:Ext w w:=Ext.refl w;refine J0 16 func234 rfl (rj fun K=>ag (ru K (zA (rJ fun K=>K1 (zG zX rfl (mv (K1 (zG zX rfl (K8 rfl (ru K ?_))))))))));have hcl:decide (((xs.length:Nat):Int)<(ys.length:Nat))=true:=by simp only [decide_eq_true_eq];omega
   refine wct (congrArg Value.bool hcl) (rI fun K=>mv (ag (ag (rl K (zN (rJ fun K=>mv (K1 (zH hb293 (CallK.of_ret (zGy (fd:=fAdd) hb ha (by omega) hyn.1 hxn.1 (fun x y c _ _ hc w=>zIX x y c hc w) (fun _ _ _ h1 h2 h3=>zHP h1 h2 h3)) fun v1 w1 hE hr => ?_) rfl))))))));obtain ⟨b,hgb,rfl,hB⟩:=hr;replace E0:=E0.trans hE;clear hE;refine K1 (j0 E0 hb194 (zEl (by simp [zAE]) (Nat.le_refl _) (Rd.of_blk hB) (zKt hyn.1 hxn.1) (by omega)) fun v3_3 w1 E0 hr => ?_);rw [zFj (by omega)] at hr;refine ag (ru K (zB (zQ ?_)));rw [Nat.add_comm] at hr;exact ⟨rfl,_,zg rfl rfl,E0,hr⟩
 · skip
   have E0:Ext w w:=Ext.refl w;refine J0 16 func234 rfl (rj fun K=>ag (ru K (zA (rJ fun K=>K1 (zG zX rfl (mv (K1 (zG zX rfl (K8 rfl (ru K ?_))))))))));have hcl:decide (((xs.length:Nat):Int)<(ys.length:Nat))=false:=by simp only [decide_eq_false_iff_not];omega
   refine wcf (congrArg Value.bool hcl) (sk (rJ fun K=>mv (K1 (zH hb293 (CallK.of_ret (zGy (fd:=fAdd) ha hb (by omega) hxn.1 hyn.1 (fun x y c _ _ hc w=>zIX x y c hc w) (fun _ _ _ h1 h2 h3=>zHP h1 h2 h3)) fun v1 w1 hE hr => ?_) rfl))));obtain ⟨b,hgb,rfl,hB⟩:=hr;replace E0:=E0.trans hE;clear hE;refine K1 (j0 E0 hb194 (zEl (by simp [zAE]) (Nat.le_refl _) (Rd.of_blk hB) (zKt hxn.1 hyn.1) (by omega)) fun v3_3 w1 E0 hr => ?_);rw [zFj (by omega)] at hr;exact ag (ru K (zB (en rfl E0 hr)))
theorem zMZ (xs ys:List Nat):Dig ((zY fSub xs ys xs.length).1++[(zY fSub xs ys xs.length).2]):=by
 intro d hd;rw [List.mem_append,List.mem_singleton] at hd;rcases hd with hd | rfl
 · exact zBb (fun x y c=>Nat.mod_lt _ (by decide)) xs ys _ d hd
 · have:(zY fSub xs ys xs.length).2≤1:=by
    cases xs.length with
    | zero=>exact Nat.zero_le _
    | succ i=>exact zEC _ _ _
   omega
theorem sub_take:((zY fSub xs ys xs.length).1++[(zY fSub xs ys xs.length).2]).take xs.length=(zY fSub xs ys xs.length).1:=by
 have h:=zAE fSub xs ys xs.length;rw [List.take_append_of_le_length (by omega),List.take_of_length_le (by omega)]
theorem Dig.of_append {a b:List Nat} (h:Dig (a++b)):Dig a:=fun d hd=>h d (List.mem_append_left _ hd)
theorem zPZ {x y:Value} (hx:IsW w x m) (hy:IsW w y n) (hm:Fit m) (hle:n≤m):Ret prog 235 #[x,y] w (fun v w'=>IsW w' v (m-n)):=by
 obtain ⟨pa,xs,ca,rfl,hca,ha,hxn,hxv⟩:=hx;obtain ⟨pb,ys,cb,rfl,hcb,hb,hyn,hyv⟩:=hy;subst hxv;subst hyv;have hlx:=hxn.fit hm;have hll:ys.length≤xs.length:=by
  rcases Nat.lt_or_ge xs.length ys.length with h | h
  · have:=Norm.len_lt hxn.1 hyn h;omega
  · exact h
 refine J0 12 func235 rfl (rj fun K=>ag (ru K (rJ fun K=>mv (K1 (zH hb293 (CallK.of_ret (zGy (fd:=fSub) ha hb (by omega) hxn.1 hyn.1 (fun x y c _ _ hc w=>zLJ x y c hc w) (fun x y c _ _ _=>zEC x y c)) fun v1 w1 hE hr => ?_) rfl)))));obtain ⟨b,hgb,rfl,hB⟩:=hr;replace E0:=E0.trans hE;clear hE;refine mv (K1 (zG zX rfl (K1 (zBq zX rfl rfl (by omega) (by omega) (K1 (j0 E0 hb194 (zEl (ds:=(zY fSub xs ys xs.length).1) (by simp [zAE]) (by omega) (sub_take (xs:=xs) (ys:=ys) ▸ (Rd.of_blk hB).take xs.length) (Dig.of_append (zMZ xs ys)) (by omega)) fun v1_6 w1 E0 hr => ?_))))));rw [zGz hxn.1 hyn.1 hll hle] at hr;exact ag (ru K (zB (en rfl E0 hr)))
def CmpIs (c:Int) (m n:Nat):Prop:=(c<0↔m<n)∧(c=0↔m=n)
theorem zFe (h:k<ds.length):nat64 (ds.drop k)=ds.getD k 0+18446744073709551616*nat64 (ds.drop (k+1)):=by
 rw [List.drop_eq_getElem_cons h];simp [nat64,h]
theorem nat64_eq_of (hx:Dig xs) (hy:Dig ys) (hl:xs.length=ys.length) (hk:k<xs.length) (hd:nat64 (xs.drop (k+1))=nat64 (ys.drop (k+1))) :
 (xs.getD k 0=ys.getD k 0→nat64 (xs.drop k)=nat64 (ys.drop k))∧(xs.getD k 0<ys.getD k 0→nat64 xs<nat64 ys)∧(ys.getD k 0<xs.getD k 0→nat64 ys<nat64 xs):=by
 have e1:=zFe hk;have e2:=zFe (ds:=ys) (hl ▸ hk);have key:∀ (a b:List Nat),Dig a→Dig b→a.length=b.length→k<a.length→nat64 (a.drop k)<nat64 (b.drop k)→nat64 a<nat64 b:=by
  intro a b ha hb hl hk h;rw [zEh a k,zEh b k];have h1:=zCL _ (ha.take k);simp only [List.length_take,Nat.min_eq_left (Nat.le_of_lt hk)] at h1;rw [← hl,Nat.min_eq_left (Nat.le_of_lt hk)];generalize 18446744073709551616^k=B at *;generalize nat64 (a.drop k)=u at *;generalize nat64 (b.drop k)=v at *;have:B*(u+1)≤B*v:=Nat.mul_le_mul_left _ h;rw [Nat.mul_add,Nat.mul_one] at this;omega
 refine ⟨fun h=>by rw [e1,e2,h,hd],fun h=>key xs ys hx hy hl hk ?_,fun h=>key ys xs hy hx hl.symm (hl ▸ hk) ?_⟩
 · rw [e1,e2,hd];omega
 · rw [e1,e2,hd];omega
theorem zPE {x y:Value} (hx:IsW w x m) (hy:IsW w y n) (hm:Fit m) (hn:Fit n):Ret prog 174 #[x,y] w (fun v _=>∃ c,v = .int .i64 c∧CmpIs c m n):=by
 obtain ⟨pa,xs,ca,rfl,hca,ha,hxn,hxv⟩:=hx;obtain ⟨pb,ys,cb,rfl,hcb,hb,hyn,hyv⟩:=hy;subst hxv;subst hyv;have hlx:=hxn.fit hm;have hly:=hyn.fit hn;by_cases hl:xs.length=ys.length
 · skip
   have E0:Ext w w:=Ext.refl w;refine J0 41 func174 rfl (rj fun K=>ag (ru K (zA (rJ fun K=>K1 (zG zX rfl (mv (K1 (zG zX rfl (K8 rfl (ru K ?_))))))))));have hcl:(((xs.length:Nat):Int) != (ys.length:Nat))=false:=by simp;omega
   refine wcf (congrArg Value.bool hcl) (sk (zA (rJ fun K=>K1 (zG zX rfl (K8 rfl (ag (ru K (zD (ze (X:=Nat) (fun k ρ w'=>Keep ρ [(0,.slice pa xs.length ca),(1,.slice pb ys.length cb),(5,.int .i64 (((k:Nat):Int)-1))]∧k≤xs.length∧nat64 (xs.drop k)=nat64 (ys.drop k)∧Ext w w'∧Rd w' pa xs∧Rd w' pb ys) (fun k=>k) xs.length ⟨⟨rfl,rfl,rfl,rfl,rfl,congrArg (Value.int .i64) (zj (by omega) (by omega)),trivial⟩,Nat.le_refl _,by rw [hl,List.drop_length,← hl,List.drop_length],E0,ha,hb⟩ ?_)))))))));clear E0 ha hb;rintro k ρ1 w1 ⟨hk,hkl,hdk,E0,ha,hb⟩;refine wpe_k _ hk ?_;clear hk ρ1;refine zA (zA ?_);rcases k with _ | k
   · skip
     refine rI fun K=>K8 rfl (rl K (zN (wcf rfl (zV (zv (zi (zL (zN (rj fun K=>ag (ru K (zB ?_)))))))))));refine en rfl E0 ⟨0,rfl,?_⟩;simp only [List.drop_zero] at hdk;rw [hdk];exact ⟨⟨fun h=>by omega,fun h=>by omega⟩,⟨fun _=>rfl,fun _=>rfl⟩⟩
   · obtain ⟨b1,o1,cs1,hpa1,hB1,hv1⟩:=ha k (by omega);obtain ⟨b2,o2,cs2,hpb2,hB2,hv2⟩:=hb k (by omega);have hkey:=nat64_eq_of hxn.1 hyn.1 hl (by omega) hdk;have hk0:decide ((((k+1:Nat):Int)-1)≥0)=true:=by simp only [decide_eq_true_eq];omega
     have hwk:IntKind.i64.wrap (((k+1:Nat):Int)-1-1)=((k:Nat):Int)-1:=by rw [zj (by omega) (by omega)];omega
     have hkn:(((k+1:Nat):Int)-1).toNat=k:=by omega
     refine rI fun K=>K8 rfl (rl K (zN (wct (congrArg Value.bool hk0) (sk (zA (zD (zA (zCH mixed rfl rfl fun K hK=>qr rfl (fun wx hE=>zC ⟨rfl,Ext.refl _⟩) (qr rfl (fun wx hE=>zC ⟨rfl,Ext.refl _⟩) (qr rfl (fun wx hE=>zE (b:=b1) (o:=o1) zX (congrArg (fun p=>Value.slice p xs.length ca) hpa1) rfl (by omega) (by omega) ⟨rfl,Ext.refl _⟩) ?_))))))))));refine qr rfl (fun wx hE=>zI zAR rfl (hB1.ext hE) (by rw [hkn];simpa using hv1) ⟨rfl,Ext.refl _⟩) ?_;refine qr rfl (fun wx hE=>zC ⟨rfl,Ext.refl _⟩) (qr rfl (fun wx hE=>zC ⟨rfl,Ext.refl _⟩) (qr rfl (fun wx hE=>zE (b:=b2) (o:=o2) zX (congrArg (fun p=>Value.slice p ys.length cb) hpb2) rfl (by omega) (by omega) ⟨rfl,Ext.refl _⟩) ?_));refine qr rfl (fun wx hE=>zI zAR rfl (hB2.ext hE) (by rw [hkn];simpa using hv2) ⟨rfl,Ext.refl _⟩) ?_;refine qr rfl (fun wx hE=>zF rfl rfl rfl ⟨rfl,Ext.refl _⟩) (hK _ fun wq hE => ?_);replace E0:=E0.trans hE;replace ha:=ha.ext hE;replace hb:=hb.ext hE;replace hB1:=hB1.ext hE;replace hB2:=hB2.ext hE;clear hE;refine zN ?_;refine K0 rfl ?_ ?_<;>intro hc
     · have hc6:=hc;clear hc;refine zA (zA (zCH mixed rfl rfl fun K hK=>qr rfl (fun wx hE=>zC ⟨rfl,Ext.refl _⟩) (qr rfl (fun wx hE=>zC ⟨rfl,Ext.refl _⟩) (qr rfl (fun wx hE=>zE (b:=b1) (o:=o1) zX (congrArg (fun p=>Value.slice p xs.length ca) hpa1) rfl (by omega) (by omega) ⟨rfl,Ext.refl _⟩) ?_))));refine qr rfl (fun wx hE=>zI zAR rfl (hB1.ext hE) (by rw [hkn];simpa using hv1) ⟨rfl,Ext.refl _⟩) ?_;refine qr rfl (fun wx hE=>zC ⟨rfl,Ext.refl _⟩) (qr rfl (fun wx hE=>zC ⟨rfl,Ext.refl _⟩) (qr rfl (fun wx hE=>zE (b:=b2) (o:=o2) zX (congrArg (fun p=>Value.slice p ys.length cb) hpb2) rfl (by omega) (by omega) ⟨rfl,Ext.refl _⟩) ?_));refine qr rfl (fun wx hE=>zI zAR rfl (hB2.ext hE) (by rw [hkn];simpa using hv2) ⟨rfl,Ext.refl _⟩) ?_;refine qr rfl (fun wx hE=>zF rfl rfl rfl ⟨rfl,Ext.refl _⟩) (hK _ fun wq hE => ?_);replace E0:=E0.trans hE;replace ha:=ha.ext hE;replace hb:=hb.ext hE;replace hB1:=hB1.ext hE;replace hB2:=hB2.ext hE;clear hE;refine zN ?_;refine K0 rfl ?_ ?_<;>intro hc
       · have hlt:xs.getD k 0<ys.getD k 0:=t_lt hc;refine rj fun K=>ag (ru K (zB (zU (zT (zU (zAG (zT (zU (en rfl E0 ⟨-1,rfl,?_⟩)))))))));have:=hkey.2.1 hlt;exact ⟨⟨fun _=>this,fun _=>by omega⟩,⟨fun e=>by omega,fun e=>by omega⟩⟩
       · have hlt:ys.getD k 0≤xs.getD k 0:=f_lt hc;have hne:xs.getD k 0≠ys.getD k 0:=t_bne hc6;refine sk (rj fun K=>ag (ru K (zB (zT (zU (zAG (zT (zU (en rfl E0 ⟨1,rfl,?_⟩)))))))));have:=hkey.2.2 (by omega);exact ⟨⟨fun _=>by omega,fun _=>by omega⟩,⟨fun e=>by omega,fun e=>by omega⟩⟩
     · have heq:xs.getD k 0=ys.getD k 0:=f_bne hc;exact zm (zS (zN (rI fun K=>K8 rfl (ag (rl K (zP (⟨rfl,k,⟨⟨rfl,rfl,rfl,rfl,rfl,congrArg (Value.int .i64) hwk,trivial⟩,by omega,hkey.1 heq,E0,ha,hb⟩,by omega⟩)))))))
 · skip
   have E0:Ext w w:=Ext.refl w;refine J0 41 func174 rfl (rj fun K=>ag (ru K (zA (rJ fun K=>K1 (zG zX rfl (mv (K1 (zG zX rfl (K8 rfl (ru K ?_))))))))));have hcl:(((xs.length:Nat):Int) != (ys.length:Nat))=true:=by simp;omega
   refine wct (congrArg Value.bool hcl) (rJ fun K=>K1 (zG zX rfl (mv (K1 (zG zX rfl (K8 rfl (ag (ru K (zB (zU (en rfl E0 ⟨_,rfl,?_⟩)))))))))));rw [zj (by omega) (by omega)];rcases Nat.lt_or_gt_of_ne hl with h | h
   · have:=Norm.len_lt hxn.1 hyn h;exact ⟨⟨fun _=>this,fun _=>by omega⟩,⟨fun e=>by omega,fun e=>by omega⟩⟩
   · have:=Norm.len_lt hyn.1 hxn h;exact ⟨⟨fun _=>by omega,fun _=>by omega⟩,⟨fun e=>by omega,fun e=>by omega⟩⟩
end Go.Proofs.YtjiendlfobjanaaGreatDoor
namespace Go.Proofs
open Go.Shelf
def Tryz.lays156_ren:Go.Shelf.Ren:=⟨fun | 156=>243 | 165=>301 | 166=>302 | 169=>304 | 240=>336 | 241=>337 | 276=>360 | 277=>361 | n=>n,fun | 31=>304 | 9=>9 | 3=>3 | 4=>4 | 0=>0 | 20=>20 | 72=>356 | 76=>360 | 70=>354 | 37=>109 | 75=>359 | 127=>387 | 164=>409 | 5=>5 | 80=>221 | n=>n,fun | n=>n⟩
theorem Tryz.lays156:Go.Proofs.Lays.n156 Tryz.prog Tryz.lays156_ren:=by constructor<;>intros<;>kernel_rfl
theorem Tryz.Builder_Extra_156:Builder.Extra Tryz.prog Tryz.lays156_ren:={
 sizeBuilder:=by kernel_rfl
 liesBuilder:=by kernel_rfl
 t5:=Tryz.underlying5
 a5:=Tryz.isAgg5
 z5:=Tryz.sizeOf5
 v5:=Tryz.zeroValue5
 infoByte:=by kernel_rfl
 cellsByte:=by kernel_rfl
 sizeByte:=by kernel_rfl
 neB5:=by decide }
open Go.RowKit in
theorem Tryz.strings_Join (bk o c:Nat) (xs:List ByteArray) (sep:ByteArray) (w:World) (hcells:∀ (j:Nat) x,xs[j]? = some x→w.cell? ⟨bk,o+j,none⟩=some (.string x)) (hbk:bk<w.heap.size) (hN:xs.length≤140737488355328) (hcap:xs.length≤c) (hlen:(Lib.join (xs.map (·.data.toList)) sep.data.toList).length≤140737488355328) :
 Calls Tryz.prog 243 #[.slice (some ⟨bk,o,none⟩) xs.length c,.string sep] w fun e w'=>e = .returned (.string ⟨(Lib.join (xs.map (·.data.toList)) sep.data.toList).toArray⟩)∧Below w.heap.size w w':=Any.strings_Join Tryz.lays156 Tryz.Builder_Extra_156 bk o c xs sep w hcells hbk hN hcap hlen
def Tryz.lays134_ren:Go.Shelf.Ren:=⟨fun | 134=>266 | 129=>321 | n=>n,fun | 53=>164 | 3=>3 | 4=>4 | 46=>110 | 5=>5 | 9=>9 | n=>n,fun | n=>n⟩
theorem Tryz.lays134:Go.Proofs.Lays.n134 Tryz.prog Tryz.lays134_ren:=by constructor<;>intros<;>kernel_rfl
theorem Tryz.bits_LeadingZeros64 (x:Int) (w:World) (h0:0≤x) (h1:x≤18446744073709551615) :
 Calls Tryz.prog 266 #[.int .u64 x] w fun e w'=>e = .returned (.int .i64 (64-(Lib.bitLen x.toNat:Int)))∧w'=w:=Any.bits_LeadingZeros64 Tryz.lays134 x w h0 h1
def Tryz.lays103_ren:Go.Shelf.Ren:=⟨fun | 103=>151 | 210=>244 | 206=>305 | n=>n,fun | 9=>9 | 4=>4 | 24=>222 | 3=>3 | n=>n,fun | n=>n⟩
theorem Tryz.lays103:Go.Proofs.Lays.n103 Tryz.prog Tryz.lays103_ren:=by constructor<;>intros<;>kernel_rfl
open Go.RowKit in
theorem Tryz.strings_CutPrefix (s p:ByteArray) (w:World) :
 Calls Tryz.prog 151 #[.string s,.string p] w fun e w'=>e = .returned (.tuple #[.string ⟨(Lib.trimPrefix s.data.toList p.data.toList).toArray⟩,.bool (Lib.hasPrefix s.data.toList p.data.toList)])∧w'=w:=Any.strings_CutPrefix Tryz.lays103 s p w
def Tryz.lays283_ren:Go.Shelf.Ren:=⟨fun | 283=>331 | n=>n,fun | 3=>3 | 9=>9 | 4=>4 | n=>n,fun | n=>n⟩
theorem Tryz.lays283:Go.Proofs.Lays.n283 Tryz.prog Tryz.lays283_ren:=by constructor<;>intros<;>kernel_rfl
open Go.Lib in
theorem Tryz.internal_strconv_small (i:Nat) (h:i<100) (w:World) :
 Calls Tryz.prog 331 #[.int .i64 i] w fun e w'=>e = .returned (.string ⟨(Lib.decDigits i).toArray⟩)∧w'=w:=Any.internal_strconv_small Tryz.lays283 i h w
def Tryz.lays219_ren:Go.Shelf.Ren:=⟨fun | 219=>306 | 217=>338 | 225=>339 | 224=>340 | 267=>341 | 266=>362 | 314=>363 | n=>n,fun | 9=>9 | 3=>3 | 4=>4 | 5=>5 | 46=>110 | 146=>385 | 51=>384 | n=>n,fun | 1=>2 | n=>n⟩
theorem Tryz.lays219:Go.Proofs.Lays.n219 Tryz.prog Tryz.lays219_ren:=by constructor<;>intros<;>kernel_rfl
open Go.RowKit Go.Lib in
theorem Tryz.stringslite_Index_one (s:ByteArray) (c:UInt8) (w:World) :
 Calls Tryz.prog 306 #[.string s,.string ⟨#[c]⟩] w fun e w'=>e = .returned (.int .i64 (Lib.indexByte s.data.toList c))∧w'=w:=Any.stringslite_Index_one Tryz.lays219 s c w
def Tryz.lays227_ren:Go.Shelf.Ren:=⟨fun | 227=>344 | n=>n,fun | 9=>9 | 116=>392 | 4=>4 | 0=>0 | 3=>3 | 5=>5 | n=>n,fun | n=>n⟩
theorem Tryz.lays227:Go.Proofs.Lays.n227 Tryz.prog Tryz.lays227_ren:=by constructor<;>intros<;>kernel_rfl
open Go.RowKit Go.Lib in
theorem Tryz.strings_makeASCIISet (hv116:∀ w,(zeroValue 392).run Tryz.prog w = .ok (.agg (Array.replicate 256 (.bool false))) w) (chars:ByteArray) (w:World) (hs:chars.size<4294967281) (hascii:∀ (j:Nat) b,chars.data.toList[j]? = some b→b.toNat<128) :
 Calls Tryz.prog 344 #[.string chars] w fun e w'=>e = .returned (.tuple #[.agg (Lib.setCells chars.data.toList),.bool true])∧w'=w.alloc (.cells (Lib.setCells chars.data.toList) 392):=Any.strings_makeASCIISet Tryz.lays227 hv116 (by kernel_rfl) chars w hs hascii
def Tryz.lays228_ren:Go.Shelf.Ren:=⟨fun | 228=>364 | n=>n,fun | 124=>396 | 5=>5 | 4=>4 | 0=>0 | 116=>392 | n=>n,fun | n=>n⟩
theorem Tryz.lays228:Go.Proofs.Lays.n228 Tryz.prog Tryz.lays228_ren:=by constructor<;>intros<;>kernel_rfl
open Go.RowKit Go.Lib in
theorem Tryz.asciiSet_contains (b:Nat) (x:UInt8) (v:Bool) (w:World) (hc:w.cell? ⟨b,x.toNat,none⟩=some (.bool v)) :
 Calls Tryz.prog 364 #[.pointer (some ⟨b,0,none⟩),.int .u8 x.toNat] w fun e w'=>e = .returned (.bool v)∧w'=w:=Any.asciiSet_contains Tryz.lays228 b x v w hc
def Tryz.lays264_ren:Go.Shelf.Ren:=⟨fun | 264=>192 | n=>n,fun | 53=>164 | 46=>110 | n=>n,fun | n=>n⟩
theorem Tryz.lays264:Go.Proofs.Lays.n264 Tryz.prog Tryz.lays264_ren:=by constructor<;>intros<;>kernel_rfl
open Go.RowKit Go.Lib in
theorem Tryz.bits_Mul64 (x y:Nat) (hx:x<18446744073709551616) (hy:y<18446744073709551616) (w:World) :
 Calls Tryz.prog 192 #[.int .u64 x,.int .u64 y] w fun e w'=>e = .returned (.tuple #[.int .u64 ((x*y/18446744073709551616:Nat):Int),.int .u64 ((x*y%18446744073709551616:Nat):Int)])∧w'=w:=Any.bits_Mul64 Tryz.lays264 x y hx hy w
end Go.Proofs
namespace Go.Proofs.YtjiendlfobjanaaGreatDoor
open Go Go.RowKit Go.Proofs Tryz
set_option maxRecDepth 10000
set_option maxHeartbeats 2000000
variable {N0 X a b c c1 d hi i j l1 l2 lo m n o:Nat} {O ds xs ys:List Nat} {w:World}
theorem Mul64_ok {x y:Nat} (hx:x<18446744073709551616) (hy:y<18446744073709551616) (w:World) :
 Ret prog 192 #[.int .u64 (x:Int),.int .u64 (y:Int)] w (fun v w'=>w'=w∧v = .tuple #[.int .u64 ((x*y/18446744073709551616:Nat):Int),.int .u64 ((x*y%18446744073709551616:Nat):Int)]) :=
 (Tryz.bits_Mul64 x y hx hy w).mono fun e w' ⟨he,hw⟩=>⟨_,he,by rw [hw];exact Ext.refl w,hw,rfl⟩
attribute [local irreducible] Runs WPE CallK Ret
theorem zIY:∀ (ds:List Nat) (k d:Nat),k<ds.length→nat64 (ds.set k d)+18446744073709551616^k*ds.getD k 0=nat64 ds+18446744073709551616^k*d
 | x :: ds,0,d,_=>by simp only [List.set_cons_zero,nat64,Nat.pow_zero,Nat.one_mul,List.getD_cons_zero];omega
 | x :: ds,k+1,d,h=>by
  have ih:=zIY ds k d (by simpa using h);simp only [List.set_cons_succ,nat64,List.getD_cons_succ,Nat.pow_succ];generalize 18446744073709551616^k=B at *;generalize ds.getD k 0=e at *;have h1:18446744073709551616*(nat64 (ds.set k d)+B*e)=18446744073709551616*(nat64 ds+B*d):=by rw [ih]
  rw [Nat.mul_add,Nat.mul_add] at h1;have h2:B*18446744073709551616*e=18446744073709551616*(B*e):=by rw [Nat.mul_comm B,Nat.mul_assoc]
  have h3:B*18446744073709551616*d=18446744073709551616*(B*d):=by rw [Nat.mul_comm B,Nat.mul_assoc]
  rw [h2,h3];omega
theorem Dig.set (h:Dig ds) (k:Nat) (hd:d<18446744073709551616):Dig (ds.set k d):=fun x hx=>by
 rcases List.mem_or_eq_of_mem_set hx with h1 | h1
 · exact h x h1
 · rw [h1];exact hd
theorem zKu {x y:Nat} (hx:x<18446744073709551616) (hy:y<18446744073709551616) (w:World) :
 Ret prog 192 #[.int .u64 (x:Int),.int .u64 (y:Int)] w (fun v w'=>w'=w∧∃ hi lo:Nat,v = .tuple #[.int .u64 (hi:Int),.int .u64 (lo:Int)]∧lo+18446744073709551616*hi=x*y∧lo<18446744073709551616) :=
 (Mul64_ok hx hy w).mono fun v w' _ ⟨h1,h2⟩=>⟨h1,_,_,h2,Nat.mod_add_div _ _,Nat.mod_lt _ (by decide)⟩
theorem zGt (x y c:Nat) (hx:x<18446744073709551616) (hy:y<18446744073709551616) (hc:c≤1) :
 ∃ s k:Nat,(∀ w,(callFunc 193 #[.int .u64 (x:Int),.int .u64 (y:Int),.int .u64 (c:Int)]).run prog w = .ok (.value (.tuple #[.int .u64 (s:Int),.int .u64 (k:Int)])) w)∧s+18446744073709551616*k=x+y+c∧s<18446744073709551616∧k≤1 :=
 ⟨_,_,fun w=>zIX x y c hc w,Nat.mod_add_div _ _,Nat.mod_lt _ (by decide),by omega⟩
theorem zNc (x y c:Nat) (hx:x<18446744073709551616) (hy:y<18446744073709551616) (hc:c≤1) :
 ∃ s k:Nat,(∀ w,(callFunc 294 #[.int .u64 (x:Int),.int .u64 (y:Int),.int .u64 (c:Int)]).run prog w = .ok (.value (.tuple #[.int .u64 (s:Int),.int .u64 (k:Int)])) w)∧s+(y+c)=x+18446744073709551616*k∧s<18446744073709551616∧k≤1 :=
 ⟨(fSub x y c).1,(fSub x y c).2,fun w=>zLJ x y c hc w,zHx hx hy hc,Nat.mod_lt _ (by decide),zEC x y c⟩
theorem mul_num {x y c2:Nat} (hx:x<18446744073709551616) (hy:y<18446744073709551616) (ho:o<18446744073709551616) (hc:c<18446744073709551616)
 (e1:lo+18446744073709551616*hi=x*y) (e2:l1+18446744073709551616*c1=lo+o+0) (e3:l2+18446744073709551616*c2=l1+c+0) :
 hi+c1<18446744073709551616∧hi+c1+c2<18446744073709551616∧l2+18446744073709551616*(hi+c1+c2)=x*y+o+c:=by
 have hxy:x*y≤18446744073709551615*18446744073709551615:=Nat.mul_le_mul (by omega) (by omega);generalize x*y=t at *;omega
theorem zJu {x y c':Nat} (hlen:i+j<O.length) (h:nat64 O+18446744073709551616^(i+j)*c=N0+18446744073709551616^i*(x*X))
 (hs:l2+18446744073709551616*c'=x*y+O.getD (i+j) 0+c):nat64 (O.set (i+j) l2)+18446744073709551616^(i+(j+1))*c'=N0+18446744073709551616^i*(x*(X+18446744073709551616^j*y)):=by
 have h1:=zIY O (i+j) l2 hlen;rw [← Nat.add_assoc,Nat.pow_succ,Nat.mul_add,Nat.mul_add,← Nat.mul_assoc x,Nat.mul_comm x (_^j),Nat.mul_assoc (_^j),← Nat.mul_assoc (_^i) (_^j),← Nat.pow_add,Nat.mul_assoc];generalize 18446744073709551616^(i+j)=B at *;generalize 18446744073709551616^i*(x*X)=M at *;generalize O.getD (i+j) 0=o at *;generalize x*y=xy at *;have h2:B*(l2+18446744073709551616*c')=B*(xy+o+c):=by rw [hs]
 simp only [Nat.mul_add] at h2;omega
theorem zBr (n:Nat):Dig (List.replicate n 0):=fun d hd=>by rw [List.mem_replicate] at hd;omega
theorem zEV (n k:Nat):(List.replicate n 0).getD k 0=0:=by
 simp only [List.getD_eq_getElem?_getD,List.getElem?_replicate];split<;>rfl
theorem zEq:∀ n,nat64 (List.replicate n 0)=0
 | 0=>rfl
 | n+1=>by rw [List.replicate_succ,nat64,zEq n]
theorem zMD {y:Nat} (h:∀ k,i+y≤k→O.getD k 0=0) (hj:j<y):∀ k,i+y≤k→(O.set (i+j) d).getD k 0=0:=fun k hk=>by
 have:=h k hk;simp only [List.getD_eq_getElem?_getD] at this ⊢;rw [List.getElem?_set_ne (by omega)];exact this
theorem zLf {y:Nat} (h:∀ k,i+y≤k→O.getD k 0=0):∀ k,i+1+y≤k→(O.set (i+y) d).getD k 0=0:=fun k hk=>by
 have:=h k (by omega);simp only [List.getD_eq_getElem?_getD] at this ⊢;rw [List.getElem?_set_ne (by omega)];exact this
theorem zIo (hlen:i+ys.length<O.length) (h:nat64 O+18446744073709551616^(i+ys.length)*c=nat64 (xs.take i)*nat64 ys+18446744073709551616^i*(xs.getD i 0*nat64 ys))
 (hz:∀ k,i+ys.length≤k→O.getD k 0=0):nat64 (O.set (i+ys.length) c)=nat64 (xs.take (i+1))*nat64 ys:=by
 have h1:=zIY O (i+ys.length) c hlen;rw [hz _ (Nat.le_refl _),Nat.mul_zero,Nat.add_zero] at h1;rw [h1,h,nat64_take_succ',Nat.add_mul,Nat.mul_assoc]
theorem wrap_carry (h1:a+b<18446744073709551616) (h2:a+b+c<18446744073709551616):IntKind.u64.wrap (IntKind.u64.wrap ((a:Int)+(b:Int))+(c:Int))=((a+b+c:Nat):Int):=by
 rw [zBu,zBu];omega
theorem zEU {x y:Value} (hx:IsW w x m) (hy:IsW w y n) (hm:Fit m) (hn:Fit n):Ret prog 103 #[x,y] w (fun v w'=>IsW w' v (m*n)):=by
 obtain ⟨pa,xs,ca,rfl,hca,ha,hxn,hxv⟩:=hx;obtain ⟨pb,ys,cb,rfl,hcb,hb,hyn,hyv⟩:=hy;subst hxv;subst hyv;have hlx:=hxn.fit hm;have hly:=hyn.fit hn;have E0:Ext w w:=Ext.refl w;refine J0 80 func103 rfl (rj fun K=>ag (rm [0,1] K ?_));refine rJ fun K=>K1 (zG zX rfl (mv (K1 (zG zX rfl (K8 rfl ?_)))));have hw1:IntKind.i64.wrap (((xs.length:Nat):Int)+((ys.length:Nat):Int))=((xs.length+ys.length:Nat):Int):=by rw [zj (by omega) (by omega)];omega
 refine K1 (zAJ zDf zGI rfl (congrArg (Value.int .i64) hw1) (congrArg (Value.int .i64) hw1) (by omega) (by omega) (by omega) fun b w1 hb1 hE hB hs => ?_);have hgb:w.heap.size≤b:=by rw [hb1];exact E0.size
 have hna:=ha.ne (Nat.le_of_eq hb1.symm);have hnb:=hb.ne (Nat.le_of_eq hb1.symm);replace E0:=E0.trans hE;replace ha:=ha.ext hE;replace hb:=hb.ext hE;clear hE hs hb1;rw [show ((xs.length+ys.length:Nat):Int).toNat=xs.length+ys.length from by omega,show (Value.int IntKind.u64 0).cells.toList=[Value.int IntKind.u64 0] from rfl,zAk] at hB;refine ag (rm [0,1,5] K ?_);refine zA (rJ fun K=>K1 (zG zX rfl (mv (rm [0,1,5,20,21,22] K ?_))));refine zD ?_;refine ze (X:=Nat) (fun i ρ w'=>Keep ρ [(0,.slice pa xs.length ca),(1,.slice pb ys.length cb),(5,.slice (some ⟨b,0,none⟩) (xs.length+ys.length) (xs.length+ys.length)),(20,.slice pa xs.length ca),(21,.int .i64 (xs.length:Nat)),(22,.int .i64 (i:Nat))]∧i≤xs.length∧Ext w w'∧Rd w' pa xs∧Rd w' pb ys∧∃ O,O.length=xs.length+ys.length∧Dig O∧(∀ k,i+ys.length≤k→O.getD k 0=0)∧nat64 O=nat64 (xs.take i)*nat64 ys∧Blk w' b 164 (dv O)) (fun i=>xs.length-i) 0 ⟨(kp rfl),Nat.zero_le _,E0,ha,hb,List.replicate (xs.length+ys.length) 0,by simp,zBr _,fun k _=>zEV _ _,by rw [zEq];simp [nat64],hB⟩ ?_;clear E0 ha hb hB;rintro i ρ1 w1 ⟨hk,hil,E0,ha,hb,O,hO,hOd,hOz,hOn,hB⟩;refine wpe_k _ hk ?_;clear hk ρ1;refine rj fun K=>K8 rfl (rm [0,1,5,20,21,22,23] K ?_);refine zA ?_;refine K0 rfl ?_ ?_<;>intro hc
 · have hlt:i<xs.length:=t_lt hc;clear hc;obtain ⟨b2,o2,cs2,hpa2,hB2,hv2⟩:=ha i hlt;refine sk (zA (zD (rJ fun K=>K1 (zE (b:=b2) (o:=o2) zX (congrArg (fun p=>Value.slice p xs.length ca) hpa2) rfl (by omega) (by omega) (K1 (zI zAR rfl hB2 (by simpa using hv2) (ag (ag (rm [0,1,5,6,7,20,21,22] K ?_)))))))));refine rj fun K=>ag (rm [0,1,5,6,7,8,20,21,22] K ?_);refine zA (rJ fun K=>K1 (zG zX rfl (mv (rm [0,1,5,6,7,8,20,21,22,27,28,29] K ?_))));refine zD ?_
   refine ze (X:=Nat×Nat) (fun p ρ w'=>Keep ρ [(0,.slice pa xs.length ca),(1,.slice pb ys.length cb),(5,.slice (some ⟨b,0,none⟩) (xs.length+ys.length) (xs.length+ys.length)),(20,.slice pa xs.length ca),(21,.int .i64 (xs.length:Nat)),(22,.int .i64 (i:Nat)),(6,.int .i64 (i:Nat)),(7,.int .u64 (xs.getD i 0:Nat)),(8,.int .u64 (p.2:Nat)),(27,.slice pb ys.length cb),(28,.int .i64 (ys.length:Nat)),(29,.int .i64 (p.1:Nat))]∧p.1≤ys.length∧p.2<18446744073709551616∧Ext w w'∧Rd w' pa xs∧Rd w' pb ys∧∃ O,O.length=xs.length+ys.length∧Dig O∧(∀ k,i+ys.length≤k→O.getD k 0=0)∧nat64 O+18446744073709551616^(i+p.1)*p.2=nat64 (xs.take i)*nat64 ys+18446744073709551616^i*(xs.getD i 0*nat64 (ys.take p.1))∧Blk w' b 164 (dv O)) (fun p=>ys.length-p.1) (0,0) ⟨(kp rfl),Nat.zero_le _,by decide,E0,ha,hb,O,hO,hOd,fun k hk=>hOz k hk,by rw [hOn];simp [nat64],hB⟩ ?_;clear E0 ha hb hB hOn hOz hOd hO O;rintro ⟨j,c⟩ ρ1 w2 ⟨hk,hjl,hc,E0,ha,hb,O,hO,hOd,hOz,hOn,hB⟩;simp only at hk hjl hc hOn;refine wpe_k _ hk ?_;clear hk ρ1;refine rj fun K=>K8 rfl (rm [0,1,5,6,7,8,20,21,22,27,28,29,30] K ?_);refine zA ?_;refine K0 rfl ?_ ?_<;>intro hc
   · have hc7:=hc;clear hc;rename _<18446744073709551616=>hc;have hjlt:j<ys.length:=t_lt hc7;obtain ⟨b3,o3,cs3,hpb3,hB3,hv3⟩:=hb j hjlt;have hij:IntKind.i64.wrap (((i:Nat):Int)+((j:Nat):Int))=((i+j:Nat):Int):=by rw [zj (by omega) (by omega)];omega
     have hix:0+((i+j:Nat):Int).toNat*1=i+j:=by omega
     refine sk (zA (zD (rJ fun K=>K1 (zE (b:=b3) (o:=o3) zX (congrArg (fun p=>Value.slice p ys.length cb) hpb3) rfl (by omega) (by omega) (K1 (zI zAR rfl hB3 (by simpa using hv3) (ag (ag (rm [0,1,5,6,7,8,9,10,20,21,22,27,28,29] K ?_)))))))));refine rJ fun K=>mv (K1 (zH hb192 (CallK.of_ret (zKu (hxn.1.getD i) (hyn.1.getD j) _) fun v1 w3 hE hr => ?_) rfl));obtain ⟨rfl,hi,lo,rfl,e1,hlo⟩:=hr;clear hE;obtain ⟨l1,c1,run1,e2,hl1,hc1⟩:=zGt lo (O.getD (i+j) 0) 0 hlo (hOd.getD _) (by decide);obtain ⟨l2,c2,run2,e3,hl2,hc2⟩:=zGt l1 c 0 hl1 hc (by decide);obtain ⟨n1,n2,n3⟩:=mul_num (hxn.1.getD i) (hyn.1.getD j) (hOd.getD (i+j)) hc e1 e2 e3;refine mv (xt rfl (xt rfl (ag (ag (rm [0,1,5,6,7,8,9,11,12,20,21,22,27,28,29] K ?_)))));refine rJ fun K=>mv (mv (mv (K8 rfl (K1 (zE (b:=b) (o:=0) (ix:=((i+j:Nat):Int)) zX rfl (congrArg (Value.int .i64) hij) (by omega) (by omega) ?_)))));refine K1 (zI zAR rfl hB (by rw [hix];exact zCW O (i+j) (by omega)) ?_);refine K1 (zHH (run1 _) rfl (mv (xt rfl (xt rfl (ag (ag (rm [0,1,5,6,7,8,9,11,12,13,20,21,22,27,28,29] K ?_)))))));refine rJ fun K=>mv (K8 rfl (ag (rm [0,1,5,6,7,8,9,11,12,20,21,22,27,28,29] K ?_)))
     refine rJ fun K=>mv (K1 (zHH (run2 _) rfl (mv (xt rfl (xt rfl (ag (ag (rm [0,1,5,6,7,8,9,11,12,13,20,21,22,27,28,29] K ?_))))))));refine rI fun K=>mv (mv (K8 rfl (mv (mv (mv (K8 rfl (K1 (zE (b:=b) (o:=0) (ix:=((i+j:Nat):Int)) zX rfl (congrArg (Value.int .i64) hij) (by omega) (by omega) ?_))))))));refine K1 (zt zCc rfl hB rfl (by rw [hix,zAF];omega) (by decide) rfl fun w4 hU hN => ?_);have hwc:=wrap_carry n1 n2;refine ag (rl K (zS (zN (K5 [0,1,5,6,7,8,20,21,22,27,28,29] ?_))));refine K6 fun K=>K8 rfl (mv (rl K (zP ?_)));exact ⟨rfl,(j+1,_),⟨⟨rfl,rfl,rfl,rfl,rfl,rfl,rfl,rfl,rfl,rfl,rfl,rfl,rfl,rfl,rfl,rfl,rfl,congrArg (Value.int .u64) hwc,rfl,rfl,rfl,rfl,rfl,congrArg (Value.int .i64) (zx (by omega)),trivial⟩,by omega,n2,E0.upd hU hgb,ha.upd' hU hna,hb.upd' hU hnb,_,by simp [hO],hOd.set _ hl2,zMD hOz (by omega),by rw [zDd hjlt];exact zJu (by omega) hOn n3,zAj hN hix⟩,by simp only;omega⟩
   · have hc7:=hc;clear hc;rename _<18446744073709551616=>hc;obtain rfl:j=ys.length:=by have:=f_lt hc7;omega
     have hij:IntKind.i64.wrap (((i:Nat):Int)+((ys.length:Nat):Int))=((i+ys.length:Nat):Int):=by rw [zj (by omega) (by omega)];omega
     have hix:0+((i+ys.length:Nat):Int).toNat*1=i+ys.length:=by omega
     have hO2:=hO;have hO2d:=hOd;have hO2z:=hOz;have hO2n:=hOn;rw [List.take_length] at hO2n;refine zV (zv (zi (zL (zN (rI fun K=>mv (mv (K1 (zG zX rfl (K8 rfl (mv (K1 (zE (b:=b) (o:=0) (ix:=((i+ys.length:Nat):Int)) zX rfl (congrArg (Value.int .i64) hij) (by omega) (by omega) ?_))))))))))));refine K1 (zt zCc rfl hB rfl (by rw [hix,zAF];omega) (by decide) rfl fun w4 hU hN => ?_);refine rl K (zS (zN (K5 [0,1,5,6,7,8,20,21,22,27,28,29] ?_)));exact K6 fun K=>K8 rfl (mv (rl K (zP (⟨rfl,i+1,⟨⟨rfl,rfl,rfl,rfl,rfl,rfl,rfl,rfl,rfl,rfl,rfl,congrArg (Value.int .i64) (zx (by omega)),trivial⟩,by omega,E0.upd hU hgb,ha.upd' hU hna,hb.upd' hU hnb,_,by simp [hO2],hO2d.set _ hc,zLf hO2z,zIo (by omega) hO2n hO2z,zAj hN hix⟩,by omega⟩))))
 · have hge:=f_lt hc;obtain rfl:i=xs.length:=by omega
   clear hc;refine zV (zv (zi (zL (zN (rJ fun K=>K1 (j3 E0 ha.ext hb.ext hB.ext hb194 (zEl hO (Nat.le_refl _) (Rd.of_blk hB) hOd (by omega)) fun v17_1 w1 E0 ha hb hB hr => ?_))))));rw [hOn,List.take_length] at hr;refine ag (rm [0,1,4,5,20,21,22] K ?_);exact zB (en rfl E0 hr)
end Go.Proofs.YtjiendlfobjanaaGreatDoor
namespace Go.Proofs.YtjiendlfobjanaaGreatDoor
open Go Go.RowKit Go.Proofs Tryz
variable {P:Program} {a b c n s:Nat} {af:Array Edge} {g:Option (Nat×Bool)} {k':IntKind} {pos:String} {r:Option Nat} {t' ty:TypeId} {w:World} {σ:Operand→Value}
theorem zOD (h:n<18446744073709551616):IntKind.u64.wrap (n:Int)=(n:Int):=by rw [zBu];omega
theorem zNj (v:BitVec 64) (h:v.toNat=n):IntKind.u64.wrap (v.toNat:Int)=(n:Int):=by
 rw [h];exact zOD (by rw [← h];exact v.isLt)
theorem zGs (n:Nat) (h:n<18446744073709551616):(BitVec.ofInt 64 (n:Int)).toNat=n:=by
 rw [BitVec.toNat_ofInt];omega
section laws
variable {K:Value→World→Prop} {d:Option Tmp} {t:TypeId} {x y:Operand}
theorem zCF (c:Nat) (hx:σ x = .int .u64 (a:Int)) (hy:σ y = .int .u64 (b:Int)) (h:a+b=c) (hc:c<18446744073709551616) (hk:K (.int .u64 (c:Int)) w):Runs P r ⟨d,.binOp .add t x y t',ty,pos,af,g⟩ σ w K:=by
 refine zF hx hy rfl ?_;rw [zBu,show ((a:Int)+(b:Int))%18446744073709551616=(c:Int) from by omega];exact hk
theorem zDA (c:Nat) (hx:σ x = .int .u64 (a:Int)) (hy:σ y = .int .u64 (b:Int)) (h:c+b=a) (hc:a<18446744073709551616) (hk:K (.int .u64 (c:Int)) w):Runs P r ⟨d,.binOp .sub t x y t',ty,pos,af,g⟩ σ w K:=by
 refine zF hx hy rfl ?_;rw [zBu,show ((a:Int)-(b:Int))%18446744073709551616=(c:Int) from by omega];exact hk
theorem zJJ (c:Nat) (hx:σ x = .int .u64 (a:Int)) (hy:σ y = .int .u64 (b:Int)) (h:IntKind.u64.wrap ((a:Int)-(b:Int))=(c:Int)) (hk:K (.int .u64 (c:Int)) w):Runs P r ⟨d,.binOp .sub t x y t',ty,pos,af,g⟩ σ w K:=by
 refine zF hx hy rfl ?_;rw [h];exact hk
theorem zCY (c:Nat) (hx:σ x = .int .u64 (a:Int)) (hy:σ y = .int .u64 (b:Int)) (h:a*b=c) (hc:c<18446744073709551616) (hk:K (.int .u64 (c:Int)) w):Runs P r ⟨d,.binOp .mul t x y t',ty,pos,af,g⟩ σ w K:=by
 refine zF hx hy rfl ?_;rw [show ((a:Int)*(b:Int))=((c:Nat):Int) from by rw [← h];exact (Int.natCast_mul a b).symm,zOD hc];exact hk
theorem zFb (c:Nat) (hx:σ x = .int .u64 (a:Int)) (hy:σ y = .int .u64 (b:Int)) (h:a*b%18446744073709551616=c) (hk:K (.int .u64 (c:Int)) w):Runs P r ⟨d,.binOp .mul t x y t',ty,pos,af,g⟩ σ w K:=by
 refine zF hx hy rfl ?_;rw [zBu,show ((a:Int)*(b:Int))%18446744073709551616=((c:Nat):Int) from by rw [← h,← Int.natCast_mul];omega];exact hk
theorem zIp (c:Nat) (hx:σ x = .int .u64 (a:Int)) (hy:σ y = .int .u64 (b:Int)) (hb:b≠0) (h:a/b=c) (hc:c<18446744073709551616) (hk:K (.int .u64 (c:Int)) w):Runs P r ⟨d,.binOp .quo t x y t',ty,pos,af,g⟩ σ w K:=by
 refine zCX hx hy (by omega) ?_;rw [show (a:Int).tdiv (b:Int)=((c:Nat):Int) from by rw [← h];rfl,zOD hc];exact hk
theorem zLw (c:Nat) (hx:σ x = .int .u64 (a:Int)) (hy:σ y = .int .u64 (b:Int)) (hb:b≠0) (h:a%b=c) (hk:K (.int .u64 (c:Int)) w):Runs P r ⟨d,.binOp .rem t x y t',ty,pos,af,g⟩ σ w K:=by
 refine zHy hx hy (by omega) ?_;rw [show (a:Int).tmod (b:Int)=((c:Nat):Int) from by rw [← h];rfl];exact hk
theorem zFL (c:Nat) (hx:σ x = .int .u64 (a:Int)) (hy:σ y = .int k' (s:Int)) (hs:s≤64) (h:a*2^s%18446744073709551616=c) (hk:K (.int .u64 (c:Int)) w):Runs P r ⟨d,.binOp .shl t x y t',ty,pos,af,g⟩ σ w K:=by
 refine zNV hx hy (by omega) ?_;have e:min (s:Int).toNat IntKind.u64.bits=s:=by simp [IntKind.bits];omega
 rw [e,zBu];have:((a:Int)*2^s)%18446744073709551616=(c:Int):=by
  rw [← h];have:((2:Int)^s)=((2^s:Nat):Int):=by simp
  rw [this,← Int.natCast_mul];omega
 rw [this];exact hk
theorem zEQ (c:Nat) (hx:σ x = .int .u64 (a:Int)) (hy:σ y = .int k' (s:Int)) (hs:s≤64) (h:a/2^s=c) (hk:K (.int .u64 (c:Int)) w):Runs P r ⟨d,.binOp .shr t x y t',ty,pos,af,g⟩ σ w K:=by
 refine runs_shr hx hy (by omega) ?_;have e:min (s:Int).toNat IntKind.u64.bits=s:=by simp [IntKind.bits];omega
 rw [e];have:(a:Int).fdiv (2^s)=(c:Int):=by
  rw [← h,show ((2:Int)^s)=((2^s:Nat):Int) from by simp];rw [Int.fdiv_eq_ediv_of_nonneg _ (Int.natCast_nonneg _)];rfl
 rw [this];exact hk
theorem zLY (c:Nat) (hx:σ x = .int .u64 (a:Int)) (hy:σ y = .int .u64 (b:Int)) (ha:a<18446744073709551616) (hb:b<18446744073709551616) (h:a &&& b=c) (hk:K (.int .u64 (c:Int)) w):Runs P r ⟨d,.binOp .and t x y t',ty,pos,af,g⟩ σ w K:=by
 refine zF hx hy rfl ?_;have:bits .and .u64 (a:Int) (b:Int)=(c:Int):=zNj (BitVec.ofInt 64 (a:Int) &&& BitVec.ofInt 64 (b:Int)) (by rw [BitVec.toNat_and,zGs a ha,zGs b hb,h]);rw [this];exact hk
theorem zKk (c:Nat) (hx:σ x = .int .u64 (a:Int)) (hy:σ y = .int .u64 (b:Int)) (ha:a<18446744073709551616) (hb:b<18446744073709551616) (h:a ||| b=c) (hk:K (.int .u64 (c:Int)) w):Runs P r ⟨d,.binOp .or t x y t',ty,pos,af,g⟩ σ w K:=by
 refine zF hx hy rfl ?_;have:bits .or .u64 (a:Int) (b:Int)=(c:Int):=zNj (BitVec.ofInt 64 (a:Int) ||| BitVec.ofInt 64 (b:Int)) (by rw [BitVec.toNat_or,zGs a ha,zGs b hb,h]);rw [this];exact hk
theorem zCT {S D:TypeId} {u:TypeDesc} {k:IntKind} {n:Int} (hS:P.underlying S=some u) (hD:P.underlying D=some (.int k)) (hx:σ x = .int k' n) (hk:K (.int k (k.wrap n)) w):Runs P r ⟨d,.convert S D x,ty,pos,af,g⟩ σ w K:=by
 refine zq (fun _ e=>by cases e) ?_ hk;simp [execOp,convert,run_underlying hS,run_underlying hD,hx,Conv.intToInt]
theorem zFk {S D:TypeId} {u:TypeDesc} (c:Nat) (hS:P.underlying S=some u) (hD:P.underlying D=some (.int .u64)) (hx:σ x = .int k' (c:Int)) (hc:c<18446744073709551616) (hk:K (.int .u64 (c:Int)) w):Runs P r ⟨d,.convert S D x,ty,pos,af,g⟩ σ w K:=by
 refine zCT hS hD hx ?_;rw [zOD hc];exact hk
end laws
theorem zPB (h:c<2^s):a*2^s ||| c=a*2^s+c:=by
 rw [Nat.mul_comm];exact (Nat.two_pow_add_eq_or_of_lt h a).symm
theorem zNI:a &&& 4294967295=a%4294967296:=Nat.and_two_pow_sub_one_eq_mod a 32
variable {Y d hi lo n0 n1 rh:Nat}
theorem dinit {U:Nat} (hY:Y=n1*4294967296+n0) (h0:n0<4294967296) (h1:2147483648≤n1) (hn:n1<4294967296) (hU:U<Y) (hd:d<4294967296) :
 (U/n1)*n1+U%n1=U∧U%n1<4294967296∧U*4294967296+d<(U/n1+1)*Y∧U/n1≤4294967297:=by
 have e1:(U/n1)*n1+U%n1=U:=by rw [Nat.mul_comm];exact Nat.div_add_mod U n1
 have e2:U%n1<n1:=Nat.mod_lt _ (by omega);refine ⟨e1,by omega,?_,?_⟩
 · rw [hY,Nat.mul_add,← Nat.mul_assoc,Nat.add_mul (U/n1) 1 n1];have:0≤(U/n1+1)*n0:=Nat.zero_le _;generalize (U/n1)*n1=A at *;generalize (U/n1+1)*n0=C at *;omega
 · rcases Nat.lt_or_ge (U/n1) 4294967298 with h | h
   · omega
   · have:=Nat.mul_le_mul_right n1 h;generalize (U/n1)*n1=A at *;omega
theorem dstep {U q:Nat} (hY:Y=n1*4294967296+n0) (hU:U<Y) (hd:d<4294967296) (hi:q*n1+rh=U) (hc:4294967296≤q∨4294967296*rh+d<q*n0) :
 U*4294967296+d<q*Y∧1≤q:=by
 have h1:U*4294967296+d<q*Y:=by
  rcases hc with h | h
  · have:=Nat.mul_le_mul_right Y h;generalize q*Y=A at *;omega
  · rw [hY,Nat.mul_add,← Nat.mul_assoc];generalize q*n1=A at *;generalize q*n0=C at *;omega
 refine ⟨h1,?_⟩;rcases q with _ | q
 · simp at h1
 · omega
theorem ddown {U q:Nat} (hq:1≤q) (hi:q*n1+rh=U):(q-1)*n1+(rh+n1)=U:=by
 obtain ⟨k,rfl⟩:∃ k,q=k+1:=⟨q-1,by omega⟩;rw [Nat.add_mul] at hi;simp only [Nat.add_sub_cancel];omega
theorem zJp {U q:Nat} (hY:Y=n1*4294967296+n0) (hi:q*n1+rh=U) (hc:q*n0≤4294967296*rh+d):q*Y≤U*4294967296+d:=by
 rw [hY,Nat.mul_add,← Nat.mul_assoc];generalize q*n1=A at *;generalize q*n0=C at *;omega
theorem zOL {q:Nat} (h0:n0<4294967296) (hq:q≤4294967296) (hr:4294967296≤rh):q*n0≤4294967296*rh+d:=by
 have h1:=Nat.mul_le_mul hq (Nat.le_of_lt h0);generalize q*n0=C at *;omega
theorem zPd {U q:Nat} (hU:U<Y) (hd:d<4294967296) (h:q*Y≤U*4294967296+d):q<4294967296:=by
 rcases Nat.lt_or_ge q 4294967296 with h1 | h1
 · exact h1
 · have:=Nat.mul_le_mul_right Y h1;generalize q*Y=A at *;omega
theorem drest {U q:Nat} (hY:Y<18446744073709551616) (h1:q*Y≤U*4294967296+d) (h2:U*4294967296+d<(q+1)*Y)
 (ha:U*4294967296%18446744073709551616=a) (hb:(a+d)%18446744073709551616=b) (hc:q*Y%18446744073709551616=c) :
 IntKind.u64.wrap ((b:Int)-(c:Int))=((U*4294967296+d-q*Y:Nat):Int):=by
 rw [Nat.add_mul] at h2;rw [zBu];generalize q*Y=A at *;omega
theorem dfinal {y U L q1 q0 R1 R d1 d0:Nat} (hy:0<y) (hYs:y*2^s=Y) (hT:U*18446744073709551616+L=n*2^s) (hL:L=d1*4294967296+d0)
 (h1:q1*Y+R1=U*4294967296+d1) (h0:q0*Y+R=R1*4294967296+d0) (hR:R<Y) :
 (q1*4294967296+q0)*y+R/2^s=n∧R/2^s<y:=by
 have e1:(q1*4294967296+q0)*Y+R=n*2^s:=by
  have e2:(q1*4294967296+q0)*Y=q1*Y*4294967296+q0*Y:=by rw [Nat.add_mul,Nat.mul_assoc,Nat.mul_comm 4294967296 Y,← Nat.mul_assoc]
  rw [← hT,hL,e2];clear hT hL e2 hYs;generalize q1*Y=A at *;generalize q0*Y=C at *;omega
 have hp:0<2^s:=Nat.pow_pos (by decide);rw [← hYs,← Nat.mul_assoc] at e1;have hdv:2^s∣R:=by
  have h3:2^s∣(q1*4294967296+q0)*y*2^s+R:=⟨n,by rw [e1,Nat.mul_comm]⟩;exact (Nat.dvd_add_right (Nat.dvd_mul_left _ _)).1 h3
 obtain ⟨k,hk⟩:=hdv;have hk':R/2^s=k:=by rw [hk];exact Nat.mul_div_cancel_left k hp
 rw [hk',];constructor
 · have:((q1*4294967296+q0)*y+k)*2^s=n*2^s:=by rw [Nat.add_mul,← e1,hk,Nat.mul_comm k]
   exact Nat.eq_of_mul_eq_mul_right hp this
 · rw [hk,← hYs,Nat.mul_comm y] at hR;exact Nat.lt_of_mul_lt_mul_left hR
theorem dshift {y:Nat} (hs:s<64) (hl:lo<18446744073709551616) (hh:hi<y) (hy:y*2^s<18446744073709551616) :
 hi*2^s<18446744073709551616∧lo/2^(64-s)<2^s∧hi*2^s+lo/2^(64-s)<y*2^s ∧
 (hi*2^s+lo/2^(64-s))*18446744073709551616+lo*2^s%18446744073709551616=(hi*18446744073709551616+lo)*2^s:=by
 have hp:0<2^s:=Nat.pow_pos (by decide);have hM:(18446744073709551616:Nat)=2^(64-s)*2^s:=by rw [← Nat.pow_add,Nat.sub_add_cancel (by omega)]
 have h2:lo/2^(64-s)<2^s:=by
  rw [Nat.div_lt_iff_lt_mul (Nat.pow_pos (by decide)),Nat.mul_comm,← hM];exact hl
 have h3:hi*2^s+2^s≤y*2^s:=by
  have:=Nat.mul_le_mul_right (2^s) (show hi+1≤y from hh);rwa [Nat.add_mul,Nat.one_mul] at this
 have h4:lo*2^s/18446744073709551616=lo/2^(64-s):=by rw [hM];exact Nat.mul_div_mul_right lo _ hp
 have h5:=Nat.div_add_mod (lo*2^s) 18446744073709551616;rw [h4] at h5;refine ⟨by omega,h2,by omega,?_⟩;rw [Nat.add_mul,Nat.add_mul,Nat.mul_assoc hi 18446744073709551616,Nat.mul_comm 18446744073709551616 (2^s),← Nat.mul_assoc];generalize hi*2^s=A at *;generalize lo*2^s=C at *;generalize lo/2^(64-s)=D at *;omega
theorem LZ_ok {y:Nat} (h0:y≠0) (hy:y<18446744073709551616) (w:World) :
 Ret prog 266 #[.int .u64 (y:Int)] w (fun v w'=>w'=w∧∃ s:Nat,v = .int .i64 (s:Int)∧s<64∧y*2^s<18446744073709551616∧9223372036854775808≤y*2^s) :=
 (Tryz.bits_LeadingZeros64 (y:Int) w (by omega) (by omega)).mono fun e w' ⟨he,hw⟩=>by
  obtain ⟨b1,b2,b3⟩:=Lib.bitLenAux_bounds 64 y hy h0;have b4:Lib.bitLen y≤64:=Lib.bitLen_le y 64 (by decide) hy;change 1≤Lib.bitLen y at b1;change 2^(Lib.bitLen y-1)≤y at b2;change y<2^Lib.bitLen y at b3;rw [Int.toNat_natCast] at he;generalize Lib.bitLen y=L at *;refine ⟨_,he,by rw [hw];exact Ext.refl w,hw,64-L,by congr 1;omega,by omega,?_,?_⟩
  · have:=Nat.mul_lt_mul_of_pos_right b3 (Nat.pow_pos (n:=64-L) (by decide:0<2));rwa [← Nat.pow_add,show L+(64-L)=64 from by omega] at this
  · have:=Nat.mul_le_mul_right (2^(64-L)) b2;rwa [← Nat.pow_add,show L-1+(64-L)=63 from by omega] at this
variable {w1 w2:World}
section laws
variable {K:Value→World→Prop} {d:Option Tmp} {t:TypeId} {x y:Operand}
theorem za (c:Nat) (hx:σ x = .int .i64 (a:Int)) (hy:σ y = .int .i64 (b:Int)) (h:a+b=c) (hc:c<9223372036854775808) (hk:K (.int .i64 (c:Int)) w):Runs P r ⟨d,.binOp .add t x y t',ty,pos,af,g⟩ σ w K:=by
 refine zF hx hy rfl ?_;rw [zj (by omega) (by omega),show ((a:Int)+(b:Int))=(c:Int) from by omega];exact hk
theorem zAM (c:Nat) (hx:σ x = .int .i64 (a:Int)) (hy:σ y = .int .i64 (b:Int)) (h:c+b=a) (hc:a<9223372036854775808) (hk:K (.int .i64 (c:Int)) w):Runs P r ⟨d,.binOp .sub t x y t',ty,pos,af,g⟩ σ w K:=by
 refine zF hx hy rfl ?_;rw [zj (by omega) (by omega),show ((a:Int)-(b:Int))=(c:Int) from by omega];exact hk
theorem zBi (c:Nat) (hx:σ x = .int .i64 (a:Int)) (hy:σ y = .int .i64 (b:Int)) (h:a*b=c) (hc:c<9223372036854775808) (hk:K (.int .i64 (c:Int)) w):Runs P r ⟨d,.binOp .mul t x y t',ty,pos,af,g⟩ σ w K:=by
 refine zF hx hy rfl ?_;have e:((a:Int)*(b:Int))=((c:Nat):Int):=by rw [← h];exact (Int.natCast_mul a b).symm
 rw [e,zj (by omega) (by omega)];exact hk
theorem zAp (c:Nat) (hx:σ x = .int .i64 (a:Int)) (hy:σ y = .int .i64 (b:Int)) (hb:b≠0) (h:a/b=c) (hc:c<9223372036854775808) (hk:K (.int .i64 (c:Int)) w):Runs P r ⟨d,.binOp .quo t x y t',ty,pos,af,g⟩ σ w K:=by
 refine zCX hx hy (by omega) ?_;rw [show (a:Int).tdiv (b:Int)=((c:Nat):Int) from by rw [← h];rfl,zj (by omega) (by omega)];exact hk
theorem zAP (c:Nat) (hx:σ x = .int .i64 (a:Int)) (hy:σ y = .int .i64 (b:Int)) (hb:b≠0) (h:a%b=c) (hk:K (.int .i64 (c:Int)) w):Runs P r ⟨d,.binOp .rem t x y t',ty,pos,af,g⟩ σ w K:=by
 refine zHy hx hy (by omega) ?_;rw [show (a:Int).tmod (b:Int)=((c:Nat):Int) from by rw [← h];rfl];exact hk
end laws
theorem Ext.updS (h:Ext w w1) (hS:ExtS [b] w1 w2) (hb:w.heap.size≤b):Ext w w2 :=
 ⟨hS.os.trans (Below.os h),hS.tape.trans (Below.tape h),hS.output.trans (Below.output h),Nat.le_trans h.size hS.size,fun k hk=>(hS.block k (Nat.lt_of_lt_of_le hk h.size) (by simp;omega)).trans (Below.block h k hk)⟩
end Go.Proofs.YtjiendlfobjanaaGreatDoor
namespace Go.Proofs.YtjiendlfobjanaaGreatDoor
open Go Go.RowKit Go.Proofs Tryz
set_option maxRecDepth 10000
set_option maxHeartbeats 2000000
attribute [local irreducible] Runs WPE CallK Ret
variable {a b hi lo n0:Nat}
theorem zOw:prog.underlying 3=some (.int .i64):=by kernel_rfl
theorem zKl:prog.underlying 110=some (.int .u64):=by kernel_rfl
theorem dq0 (ha:a<4294967296):a*4294967296<18446744073709551616:=by omega
theorem dq (ha:a<4294967296) (hb:b<4294967296):a*4294967296+b<18446744073709551616:=by omega
theorem dlt {q:Nat} (hq:q<4294967296) (h0:n0<4294967296):q*n0<18446744073709551616:=by
 have:=Nat.mul_le_mul (Nat.le_of_lt_succ hq) (Nat.le_of_lt_succ h0);omega
theorem t_le (h:decide (((a:Nat):Int)≥((b:Nat):Int))=true):b≤a:=by rw [decide_eq_true_eq] at h;omega
theorem f_le (h:decide (((a:Nat):Int)≥((b:Nat):Int))=false):a<b:=by rw [decide_eq_false_iff_not] at h;omega
theorem zNv {y:Nat} (hh:hi<y) (hl:lo<18446744073709551616) (hy:y<18446744073709551616) (w:World):Ret prog 268 #[.int .u64 (hi:Int),.int .u64 (lo:Int),.int .u64 (y:Int)] w (fun v _=>∃ q r:Nat,v = .tuple #[.int .u64 (q:Int),.int .u64 (r:Int)]∧q*y+r=hi*18446744073709551616+lo∧r<y∧q<18446744073709551616):=by
 refine J0 135 func268 rfl (rj fun K=>ag (ag (rm [0,1,2] K ?_)));refine zA (rJ fun K=>K8 rfl (rm [0,1,2,20] K ?_));refine wcf (congrArg Value.bool (beq_eq_false_iff_ne.2 (by omega))) (sk (zA (rJ fun K=>mv (K8 rfl (rm [0,1,2,24] K ?_)))));refine wcf (congrArg Value.bool (decide_eq_false (by omega))) (sk (zA (rJ fun K=>K8 rfl (rm [0,1,2,27] K ?_))));refine K0 rfl ?_ ?_<;>intro hc
 · obtain rfl:hi=0:=t_beq (b:=0) hc;clear hc;refine zA (zCH mixed rfl rfl fun K hK=>qr rfl (fun wx hE=>zC ⟨rfl,Ext.refl _⟩) (qr rfl (fun wx hE=>zC ⟨rfl,Ext.refl _⟩) (qr rfl (fun wx hE=>zIp (lo/y) rfl rfl (by omega) rfl (Nat.lt_of_le_of_lt (Nat.div_le_self _ _) hl) ⟨rfl,Ext.refl _⟩) (qr rfl (fun wx hE=>zC ⟨rfl,Ext.refl _⟩) (qr rfl (fun wx hE=>zC ⟨rfl,Ext.refl _⟩) (qr rfl (fun wx hE=>zLw (lo%y) rfl rfl (by omega) rfl ⟨rfl,Ext.refl _⟩) (qr rfl (fun wx hE=>zZ ⟨rfl,Ext.refl _⟩) (qr rfl (fun wx hE=>zZ ⟨rfl,Ext.refl _⟩) (hK _ fun wq hE => ?_)))))))));replace E0:=E0.trans hE;clear hE;refine zN (K5 [2,6,7] ?_);refine zB (zU (zQ ?_));exact ⟨rfl,_,zo rfl rfl rfl,E0,_,_,rfl,by rw [Nat.zero_mul,Nat.zero_add,Nat.mul_comm];exact Nat.div_add_mod lo y,Nat.mod_lt _ (by omega),Nat.lt_of_le_of_lt (Nat.div_le_self _ _) hl⟩
 · clear hc;refine sk (rJ fun K=>K1 (j0 E0 hb266 (LZ_ok (by omega) hy _) fun v7_1 w1 E0 hr => ?_));obtain ⟨hw,s,rfl,hs,hY1,hY2⟩:=hr;subst w1;obtain ⟨Y,hY⟩:∃ Y,Y=y*2^s:=⟨_,rfl⟩;obtain ⟨k1,k2,k3,k4⟩:=dshift hs hl hh hY1;rw [← hY] at hY1 hY2 k3;obtain ⟨U,hUe⟩:∃ U,U=hi*2^s+lo/2^(64-s):=⟨_,rfl⟩;obtain ⟨L,hLe⟩:∃ L,L=lo*2^s%18446744073709551616:=⟨_,rfl⟩;rw [← hUe] at k3;rw [← hUe,← hLe] at k4;have hLM:L<18446744073709551616:=by rw [hLe];exact Nat.mod_lt _ (by decide)
   obtain ⟨n1,hn1⟩:∃ n1,n1=Y/2^32:=⟨_,rfl⟩;obtain ⟨n0,hn0⟩:∃ n0,n0=Y%4294967296:=⟨_,rfl⟩;obtain ⟨d1,hd1⟩:∃ d1,d1=L/2^32:=⟨_,rfl⟩;obtain ⟨d0,hd0⟩:∃ d0,d0=L%4294967296:=⟨_,rfl⟩;have hYn:Y=n1*4294967296+n0:=by omega
   have hLn:L=d1*4294967296+d0:=by omega
   have h0:n0<4294967296:=by omega
   have hd:d1<4294967296:=by omega
   have hd':d0<4294967296:=by omega
   have h1:2147483648≤n1:=by omega
   have h1':n1<4294967296:=by omega
   refine K1 (zFk s zOw zKl rfl (by omega) (ag (rm [0,1,2,8] K ?_)));refine rJ fun K=>mv ?_;refine K1 (zFL (Y) rfl rfl (by omega) (by rw [← hY];exact Nat.mod_eq_of_lt hY1) ?_);refine ag (rm [0,1,2,8] K ?_);refine rJ fun K=>K1 (zEQ (s:=32) (n1) rfl rfl (by decide) hn1.symm (ag (rm [0,1,2,8,9] K ?_)));refine rj fun K=>mv ?_;refine K1 (zLY (b:=4294967295) (n0) rfl rfl hY1 (by decide) (by rw [zNI];exact hn0.symm) ?_);refine ag (rm [0,1,2,8,9,10] K ?_);refine rJ fun K=>mv (K1 (zFL (hi*2^s) rfl rfl (by omega) (Nat.mod_eq_of_lt k1) (mv (mv (K1 (zDA (a:=64) (64-s) rfl rfl (by omega) (by decide) (K1 (zEQ (s:=64-s) (lo/2^(64-s)) rfl rfl (by omega) rfl (K1 (zKk (U) rfl rfl k1 (by omega) (by rw [zPB k2,hUe]) (ag (rm [1,2,8,9,10,11] K ?_))))))))))));refine rJ fun K=>mv (K1 (zFL (L) rfl rfl (by omega) hLe.symm (ag (rm [2,8,9,10,11,12] K ?_))));refine rJ fun K=>K1 (zEQ (s:=32) (d1) rfl rfl (by decide) hd1.symm (ag (rm [2,8,9,10,11,12,13] K ?_)));refine rj fun K=>mv ?_;refine K1 (zLY (b:=4294967295) (d0) rfl rfl hLM (by decide) (by rw [zNI];exact hd0.symm) ?_);refine ag (rm [2,8,9,10,11,13,14] K ?_);refine zA ?_;have hU:=k3;have hinit:=dinit hYn h0 h1 h1' hU hd;refine rI fun K=>mv ?_;refine K1 (zIp (U/n1) rfl rfl (by omega) rfl (by have:=Nat.div_le_self U n1;omega) ?_)
   refine ag (rs [2,8,9,10,11,13,14,15] K ?_);refine rJ fun K=>mv (mv ?_);refine K1 (zCY (U/n1*n1) rfl rfl rfl (by have:=hinit.1;omega) ?_);refine K1 (zDA (U%n1) rfl rfl (by have:=hinit.1;omega) (by omega) ?_);refine ag (rm [2,8,9,10,11,13,14,15,16] K ?_);refine zBO (fun ρ w'=>∃ q:Nat,Keep ρ [(2,.int .u64 (Y:Nat)),(8,.int .u64 (s:Nat)),(9,.int .u64 (n1:Nat)),(10,.int .u64 (n0:Nat)),(14,.int .u64 (d0:Nat)),(11,.int .u64 (U:Nat)),(13,.int .u64 (d1:Nat)),(15,.int .u64 (q:Nat))]∧w'=w∧q*Y≤U*4294967296+d1∧U*4294967296+d1<(q+1)*Y) ?_ ?_
   · refine zD (ze (X:=Nat×Nat) (fun p ρ w'=>Keep ρ [(2,.int .u64 (Y:Nat)),(8,.int .u64 (s:Nat)),(9,.int .u64 (n1:Nat)),(10,.int .u64 (n0:Nat)),(14,.int .u64 (d0:Nat)),(11,.int .u64 (U:Nat)),(13,.int .u64 (d1:Nat)),(15,.int .u64 (p.1:Nat)),(16,.int .u64 (p.2:Nat))]∧w'=w∧p.1*n1+p.2=U∧p.2<4294967296∧U*4294967296+d1<(p.1+1)*Y∧p.1≤4294967297) (fun p=>p.1) (U/n1,U%n1) ⟨(kp rfl),rfl,hinit⟩ ?_);clear hinit;rintro ⟨q,rh⟩ ρ1 w2 ⟨hk,hw,hi,hi2,hi3,hi4⟩;subst w2;simp only at hk hi hi2 hi3 hi4;refine wpe_k _ hk ?_;clear hk ρ1;refine zA (zA ?_);rcases Nat.lt_or_ge q 4294967296 with hq | hq
     · skip
       refine rI fun K=>K1 (zF (v := .bool false) rfl rfl (congrArg (fun b=>some (Value.bool b)) (decide_eq_false (by omega))) (mv (K7 (K7 (K2 (zCY (q*n0) rfl rfl rfl (dlt hq h0) (K7 (K2 (zCY (a:=4294967296) (4294967296*rh) rfl rfl rfl (by omega) (K7 (K2 (zCF (4294967296*rh+d1) rfl rfl rfl (by omega) (K2 (zF rfl rfl rfl (pk rfl (rl K (zN ?_)))))))))))))))));refine K5 [2,8,9,10,11,13,14,15,16,70,71,72,73,74,75,76,77,78] ?_;refine K0 rfl ?_ ?_<;>intro hc
       · obtain ⟨g1,g2⟩:=dstep hYn hU hd hi (Or.inr (t_lt hc));clear hc;refine sk (zD (rJ fun K=>K1 (zDA (b:=1) (q-1) rfl rfl (by omega) (by omega) (ag (rm [2,8,9,10,11,13,14,15,16,70,71,72,73,74,75,76,77] K ?_)))));refine rJ fun K=>mv (K1 (zCF (rh+n1) rfl rfl rfl (by omega) (ag (rm [2,8,9,10,11,13,14,15,16,70,71,72,73,74,75,76,77] K ?_))));refine rJ fun K=>K8 rfl (rm [2,8,9,10,11,13,14,15,16,70,71,72,73,74,75,76,77,85] K ?_);refine K0 rfl ?_ ?_<;>intro hc
         · refine zV (zCu (by decide) (zi (zL (zP ?_))));exact ⟨rfl,q-1,(kp rfl),rfl,zJp hYn (ddown g2 hi) (zOL h0 (by omega) (by have:=t_le hc;omega)),by rw [Nat.sub_add_cancel g2];exact g1⟩
         · refine zm (zS (zP ?_));have hlt:=f_le hc;exact ⟨rfl,(q-1,rh+n1),⟨(kp rfl),rfl,ddown g2 hi,hlt,by simp only;rw [Nat.sub_add_cancel g2];exact g1,by simp only;omega⟩,by simp only;omega⟩
       · have hle:=f_lt hc;clear hc;have hp:=zJp hYn hi hle;exact zV (zv (zi (zL (zP ⟨rfl,q,(kp rfl),rfl,hp,hi3⟩))))
     · skip
       refine rI fun K=>K1 (zF (v := .bool true) rfl rfl (congrArg (fun b=>some (Value.bool b)) (decide_eq_true (by omega))) (mv (K3 (K3 (K3 (K3 (K3 (K3 (K3 (K3 (pk rfl (rl K (zN ?_)))))))))))));refine K5 [2,8,9,10,11,13,14,15,16,70,71,72,73,74,75,76,77,78] ?_;obtain ⟨g1,g2⟩:=dstep hYn hU hd hi (Or.inl hq);refine wct rfl (sk (zD (rJ fun K=>K1 (zDA (b:=1) (q-1) rfl rfl (by omega) (by omega) (ag (rm [2,8,9,10,11,13,14,15,16,70,71,72,73,74,75,76,77] K ?_))))));refine rJ fun K=>mv (K1 (zCF (rh+n1) rfl rfl rfl (by omega) (ag (rm [2,8,9,10,11,13,14,15,16,70,71,72,73,74,75,76,77] K ?_))));refine rJ fun K=>K8 rfl (rm [2,8,9,10,11,13,14,15,16,70,71,72,73,74,75,76,77,85] K ?_);refine K0 rfl ?_ ?_<;>intro hc
       · refine zV (zCu (by decide) (zi (zL (zP ?_))));exact ⟨rfl,q-1,(kp rfl),rfl,zJp hYn (ddown g2 hi) (zOL h0 (by omega) (by have:=t_le hc;omega)),by rw [Nat.sub_add_cancel g2];exact g1⟩
       · refine zm (zS (zP ?_));have hlt:=f_le hc;exact ⟨rfl,(q-1,rh+n1),⟨(kp rfl),rfl,ddown g2 hi,hlt,by simp only;rw [Nat.sub_add_cancel g2];exact g1,by simp only;omega⟩,by simp only;omega⟩
   · rintro ρ1 w2 ⟨q1,hk,hw,p1,p2⟩;subst w2;refine wpe_k _ hk ?_;clear hk ρ1;have hq1:q1<4294967296:=zPd hU hd p1;obtain ⟨R1,hR1⟩:∃ R1,R1=U*4294967296+d1-q1*Y:=⟨_,rfl⟩;have hR1Y:R1<Y:=by rw [Nat.add_mul] at p2;omega
     refine rJ fun K=>K1 (zFb (b:=4294967296) (U*4294967296%18446744073709551616) rfl rfl rfl (mv ?_));refine K1 (zF (v := .int .u64 (((U*4294967296%18446744073709551616+d1)%18446744073709551616:Nat):Int)) rfl rfl (by rw [ibin,zBu];rfl) ?_);refine mv (mv (K1 (zFb (q1*Y%18446744073709551616) rfl rfl rfl (K1 (zJJ (R1) rfl rfl (by rw [drest hY1 p1 p2 rfl rfl rfl,hR1]) (ag (rm [2,8,9,10,11,13,14,15,17] K ?_)))))));refine zA ?_;clear hd hU;have hd:=hd';have hU:=hR1Y;have hinit:=dinit hYn h0 h1 h1' hU hd;refine rI fun K=>mv ?_;refine K1 (zIp (R1/n1) rfl rfl (by omega) rfl (by have:=Nat.div_le_self R1 n1;omega) ?_);refine ag (rs [2,8,9,10,11,13,14,15,17,18] K ?_);refine rJ fun K=>mv (mv ?_);refine K1 (zCY (R1/n1*n1) rfl rfl rfl (by have:=hinit.1;omega) ?_);refine K1 (zDA (R1%n1) rfl rfl (by have:=hinit.1;omega) (by omega) ?_);refine ag (rm [2,8,9,10,11,13,14,15,16,17,18] K ?_);refine zBO (fun ρ w'=>∃ q:Nat,Keep ρ [(2,.int .u64 (Y:Nat)),(8,.int .u64 (s:Nat)),(9,.int .u64 (n1:Nat)),(10,.int .u64 (n0:Nat)),(14,.int .u64 (d0:Nat)),(17,.int .u64 (R1:Nat)),(15,.int .u64 (q1:Nat)),(18,.int .u64 (q:Nat))]∧w'=w∧q*Y≤R1*4294967296+d0∧R1*4294967296+d0<(q+1)*Y) ?_ ?_
     · refine zD (ze (X:=Nat×Nat) (fun p ρ w'=>Keep ρ [(2,.int .u64 (Y:Nat)),(8,.int .u64 (s:Nat)),(9,.int .u64 (n1:Nat)),(10,.int .u64 (n0:Nat)),(14,.int .u64 (d0:Nat)),(17,.int .u64 (R1:Nat)),(15,.int .u64 (q1:Nat)),(18,.int .u64 (p.1:Nat)),(16,.int .u64 (p.2:Nat))]∧w'=w∧p.1*n1+p.2=R1∧p.2<4294967296∧R1*4294967296+d0<(p.1+1)*Y∧p.1≤4294967297) (fun p=>p.1) (R1/n1,R1%n1) ⟨(kp rfl),rfl,hinit⟩ ?_);clear hinit;rintro ⟨q,rh⟩ ρ1 w2 ⟨hk,hw,hi,hi2,hi3,hi4⟩;subst w2;simp only at hk hi hi2 hi3 hi4;refine wpe_k _ hk ?_;clear hk ρ1;refine zA (zA ?_);rcases Nat.lt_or_ge q 4294967296 with hq | hq
       · skip
         refine rI fun K=>K1 (zF (v := .bool false) rfl rfl (congrArg (fun b=>some (Value.bool b)) (decide_eq_false (by omega))) (mv (K7 (K7 (K2 (zCY (q*n0) rfl rfl rfl (dlt hq h0) (K7 (K2 (zCY (a:=4294967296) (4294967296*rh) rfl rfl rfl (by omega) (K7 (K2 (zCF (4294967296*rh+d0) rfl rfl rfl (by omega) (K2 (zF rfl rfl rfl (pk rfl (rl K (zN ?_)))))))))))))))));refine K5 [2,8,9,10,14,15,16,17,18,105,106,107,108,109,110,111,112,113] ?_;refine K0 rfl ?_ ?_<;>intro hc
         · obtain ⟨g1,g2⟩:=dstep hYn hU hd hi (Or.inr (t_lt hc));clear hc;refine sk (zD (rJ fun K=>K1 (zDA (b:=1) (q-1) rfl rfl (by omega) (by omega) (ag (rm [2,8,9,10,14,15,16,17,18,105,106,107,108,109,110,111,112] K ?_)))));refine rJ fun K=>mv (K1 (zCF (rh+n1) rfl rfl rfl (by omega) (ag (rm [2,8,9,10,14,15,16,17,18,105,106,107,108,109,110,111,112] K ?_))));refine rJ fun K=>K8 rfl (rm [2,8,9,10,14,15,16,17,18,105,106,107,108,109,110,111,112,120] K ?_);refine K0 rfl ?_ ?_<;>intro hc
           · refine zV (zCu (by decide) (zi (zL (zP ?_))));exact ⟨rfl,q-1,(kp rfl),rfl,zJp hYn (ddown g2 hi) (zOL h0 (by omega) (by have:=t_le hc;omega)),by rw [Nat.sub_add_cancel g2];exact g1⟩
           · refine zm (zS (zP ?_));have hlt:=f_le hc;exact ⟨rfl,(q-1,rh+n1),⟨(kp rfl),rfl,ddown g2 hi,hlt,by simp only;rw [Nat.sub_add_cancel g2];exact g1,by simp only;omega⟩,by simp only;omega⟩
         · have hle:=f_lt hc;clear hc;have hp:=zJp hYn hi hle;exact zV (zv (zi (zL (zP ⟨rfl,q,(kp rfl),rfl,hp,hi3⟩))))
       · skip
         refine rI fun K=>K1 (zF (v := .bool true) rfl rfl (congrArg (fun b=>some (Value.bool b)) (decide_eq_true (by omega))) (mv (K3 (K3 (K3 (K3 (K3 (K3 (K3 (K3 (pk rfl (rl K (zN ?_)))))))))))));refine K5 [2,8,9,10,14,15,16,17,18,105,106,107,108,109,110,111,112,113] ?_;obtain ⟨g1,g2⟩:=dstep hYn hU hd hi (Or.inl hq);refine wct rfl (sk (zD (rJ fun K=>K1 (zDA (b:=1) (q-1) rfl rfl (by omega) (by omega) (ag (rm [2,8,9,10,14,15,16,17,18,105,106,107,108,109,110,111,112] K ?_))))));refine rJ fun K=>mv (K1 (zCF (rh+n1) rfl rfl rfl (by omega) (ag (rm [2,8,9,10,14,15,16,17,18,105,106,107,108,109,110,111,112] K ?_))));refine rJ fun K=>K8 rfl (rm [2,8,9,10,14,15,16,17,18,105,106,107,108,109,110,111,112,120] K ?_);refine K0 rfl ?_ ?_<;>intro hc
         · refine zV (zCu (by decide) (zi (zL (zP ?_))));exact ⟨rfl,q-1,(kp rfl),rfl,zJp hYn (ddown g2 hi) (zOL h0 (by omega) (by have:=t_le hc;omega)),by rw [Nat.sub_add_cancel g2];exact g1⟩
         · refine zm (zS (zP ?_));have hlt:=f_le hc;exact ⟨rfl,(q-1,rh+n1),⟨(kp rfl),rfl,ddown g2 hi,hlt,by simp only;rw [Nat.sub_add_cancel g2];exact g1,by simp only;omega⟩,by simp only;omega⟩
     · rintro ρ1 w2 ⟨q0,hk,hw,p3,p4⟩;subst w2;refine wpe_k _ hk ?_;clear hk ρ1;have hq0:q0<4294967296:=zPd hU hd p3;obtain ⟨R,hR⟩:∃ R,R=R1*4294967296+d0-q0*Y:=⟨_,rfl⟩;have hRY:R<Y:=by rw [Nat.add_mul] at p4;omega
       refine rJ fun K=>K1 (zCY (b:=4294967296) (q1*4294967296) rfl rfl rfl (dq0 hq1) (mv (K1 (zCF (q1*4294967296+q0) rfl rfl rfl (dq hq1 hq0) (mv (K1 (zFb (b:=4294967296) (R1*4294967296%18446744073709551616) rfl rfl rfl (mv ?_))))))));refine K1 (zF (v := .int .u64 (((R1*4294967296%18446744073709551616+d0)%18446744073709551616:Nat):Int)) rfl rfl (by rw [ibin,zBu];rfl) ?_);refine mv (mv (K1 (zFb (q0*Y%18446744073709551616) rfl rfl rfl (K1 (zJJ (R) rfl rfl (by rw [drest hY1 p3 p4 rfl rfl rfl,hR]) (mv (K1 (zEQ (s:=s) (R/2^s) rfl rfl (by omega) rfl (ag (ag (rm [2,6,7,8,9,10,14,15,17,18] K ?_)))))))))));refine zB (zQ ?_);obtain ⟨f1,f2⟩:=dfinal (q1:=q1) (q0:=q0) (R1:=R1) (R:=R) (Nat.zero_lt_of_lt hh) hY.symm k4 hLn (by rw [hR1];exact Nat.add_sub_of_le p1) (by rw [hR];exact Nat.add_sub_of_le p3) hRY;exact ⟨rfl,_,zo rfl rfl rfl,E0,_,_,rfl,f1,f2,dq hq1 hq0⟩
variable {O xs:List Nat} {d k m n:Nat} {w:World}
theorem zIU (h:k<O.length):nat64 ((O.set k d).drop k)=d+18446744073709551616*nat64 (O.drop (k+1)):=by
 rw [zFe (by simpa using h)];congr 1
 · simp [h]
 · rw [List.drop_set_of_lt (by omega)]
theorem by1_step {rest q r:Nat} (hk:k<xs.length) (hO:k<O.length) (hi:nat64 (O.drop (k+1))*b+rest=nat64 (xs.drop (k+1))) (hs:q*b+r=rest*18446744073709551616+xs.getD k 0) :
 nat64 ((O.set k q).drop k)*b+r=nat64 (xs.drop k):=by
 rw [zIU hO,zFe hk,← hi,Nat.add_mul,Nat.mul_assoc];generalize nat64 (O.drop (k+1))*b=A at *;generalize q*b=C at *;omega
theorem divmod_of {q r:Nat} (h:q*b+r=n) (hr:r<b):n/b=q∧n%b=r:=by
 subst h;constructor
 · rw [Nat.mul_comm,Nat.mul_add_div (by omega),Nat.div_eq_of_lt hr,Nat.add_zero]
 · rw [Nat.mul_comm,Nat.mul_add_mod,Nat.mod_eq_of_lt hr]
theorem zOo {x:Value} (hxw:IsW w x m) (hm:Fit m) (hb0:0<b) (hb:b<18446744073709551616):Ret prog 239 #[x,.int .u64 (b:Int)] w (fun v w'=>∃ q,v = .tuple #[q,.int .u64 ((m%b:Nat):Int)]∧IsW w' q (m/b)):=by
 obtain ⟨pa,xs,ca,rfl,hca,ha,hx,hxv⟩:=hxw;subst hxv;have hlx:=hx.fit hm;have E0:Ext w w:=Ext.refl w;refine J0 35 func239 rfl (rj fun K=>ag (ag (rm [0,1] K ?_)));refine rJ fun K=>K1 (zG zX rfl ?_);refine K1 (zAJ zDf zGI rfl rfl rfl (by omega) (by omega) (by omega) fun ob w1 hb1 hE hB hs => ?_);have hgb:w.heap.size≤ob:=by rw [hb1];exact E0.size
 have hna:=ha.ne (Nat.le_of_eq hb1.symm);replace E0:=E0.trans hE;replace ha:=ha.ext hE;clear hE hs hb1;rw [show ((xs.length:Nat):Int).toNat=xs.length from by omega,show (Value.int IntKind.u64 0).cells.toList=[Value.int IntKind.u64 0] from rfl,zAk] at hB;refine ag (rm [0,1,6] K ?_);refine rj fun K=>ag (rm [0,1,6,7] K ?_);refine zA (rJ fun K=>K1 (zG zX rfl (K1 (zF (v := .int .i64 (((xs.length:Nat):Int)-1)) rfl rfl (congrArg (fun z=>some (Value.int .i64 z)) (zj (by omega) (by omega))) (ag (rm [0,1,6,7,8] K ?_))))));refine zD (ze (X:=Nat×Nat) (fun p ρ w'=>Keep ρ [(0,.slice pa xs.length ca),(1,.int .u64 (b:Nat)),(6,.slice (some ⟨ob,0,none⟩) xs.length xs.length),(7,.int .u64 (p.2:Nat)),(8,.int .i64 (((p.1:Nat):Int)-1))]∧p.1≤xs.length∧p.2<b∧Ext w w'∧Rd w' pa xs∧∃ O,O.length=xs.length∧Dig O∧nat64 (O.drop p.1)*b+p.2=nat64 (xs.drop p.1)∧Blk w' ob 164 (dv O)) (fun p=>p.1) (xs.length,0) ⟨(kp rfl),Nat.le_refl _,by omega,E0,ha,List.replicate xs.length 0,by simp,zBr _,by simp [nat64],hB⟩ ?_);clear E0 ha hB;rintro ⟨k,rest⟩ ρ1 w1 ⟨hk,hkl,hrb,E0,ha,O,hO,hOd,hOn,hB⟩;simp only at hk hkl hrb hOn;refine wpe_k _ hk ?_;clear hk ρ1;refine zA (zA ?_);rcases k with _ | k
 · skip
   refine rI fun K=>K8 rfl (rs [0,1,6,7,8,16] K ?_);refine wcf (congrArg Value.bool (decide_eq_false (by omega))) (zV (zv (zi (zL (zN (rJ fun K=>K1 (j2 E0 ha.ext hB.ext hb194 (zEl hO (Nat.le_refl _) (Rd.of_blk hB) hOd (by omega)) fun v7_1 w1 E0 ha hB hr => ?_)))))));rw [List.drop_zero,List.drop_zero] at hOn;refine mv (ag (ag (rm [0,1,4,5,6,7,8] K ?_)));refine zB (zQ ?_);obtain ⟨d1,d2⟩:=divmod_of hOn hrb;exact ⟨rfl,_,zo rfl rfl rfl,E0,v7_1,by rw [d2];rfl,by rw [d1];exact hr⟩
 · obtain ⟨b2,o2,cs2,hpa,hB2,hv2⟩:=ha k (by omega);have hw1:((k+1:Nat):Int)-1=(k:Int):=by omega
   have hw2:IntKind.i64.wrap (((k+1:Nat):Int)-1-1)=(k:Int)-1:=by rw [zj (by omega) (by omega)];omega
   refine rI fun K=>K8 rfl (rs [0,1,6,7,8,16] K ?_);refine wct (congrArg Value.bool (decide_eq_true (by omega))) (sk (zA (zD (rI fun K=>mv (mv (mv (mv (K1 (zE (ix:=k) (b:=b2) (o:=o2) zX (congrArg (fun p=>Value.slice p xs.length ca) hpa) (congrArg (Value.int .i64) hw1) (by omega) (by omega) (K1 (zI zAR rfl hB2 (by simpa using hv2) (mv (K1 (j2 E0 ha.ext hB.ext hb268 (zNv hrb (hx.1.getD k) hb _) fun v6_8 w1 E0 ha hB hr => ?_))))))))))))));obtain ⟨q,r,rfl,hqr,hrl,hql⟩:=hr;refine mv (xt rfl (xt rfl (K1 (zE (ix:=k) (b:=ob) (o:=0) zX rfl (congrArg (Value.int .i64) hw1) (by omega) (by omega) ?_))));refine K1 (zt zCc rfl hB rfl (by rw [zAF];omega) (by decide) rfl fun w3 hU hN => ?_);refine ag (rl K (zS (zN (K5 [0,1,6,7,8] ?_))));refine rI fun K=>K8 rfl (ag (rl K (zP ?_)));exact ⟨rfl,(k,r),⟨⟨rfl,rfl,rfl,rfl,rfl,rfl,rfl,rfl,rfl,congrArg (Value.int .i64) hw2,trivial⟩,by simp only;omega,hrl,E0.upd hU hgb,ha.upd' hU hna,_,by simp [hO],hOd.set _ hql,by1_step (by omega) (by omega) hOn hqr,zAj hN (by omega)⟩,by simp only;omega⟩
end Go.Proofs.YtjiendlfobjanaaGreatDoor
