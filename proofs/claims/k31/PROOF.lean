import PyProof.Rows.All
import HandS.Ends
import HandS.Words
import HandS.Iter
import HandS.Zip
import HandS.TryOnly
import KE.GoesEnum
import HandS.Strs
import HandS.WrittenGet
import HandS.Text
import KE.KExcIs
import HandS.Star
import PyProof.StrLawsRepr
import KE.DataMinMax
import KE.KSortedM
import PyProof.ReprLen
import PyProof.FitsInt
import HandS.TupAny
import HandS.SortInts
import HandS.IsInst
import HandS.Conv
import HandS.ExcIs
import HandS.ExcInit
import HandS.ExcField
import HandS.ForMost
import HandS.Flow
import HandS.More
import HandS.Wide
import HandS.Deep
import HandS.Exc
import HandS.ExcOwn
import PySem.Syntax
import HandS.TupMul
import KE.SortData
import HandS.SortRule
import PyProof.Rows.CountFlat
import PyProof.LongRange
import KE.KDictZip
import PyProof.ListNew
import HandS.Small
import HandS.DictComp
import HandS.SetFor
import HandS.Style
import HandS.List
import KE.KRevSl
import KE.GoesOver
import PyProof.RulesMatch
import PyProof.Rows.MatchSeqLen
import KE.GoesRaise
import HandS.Comp
import PyProof.TableCode
import PySem.Challenge.RW_restpieces_k31_sets_moved
import Wide.All
import OpenK.AllK
import Wide.FinOn
set_option Elab.async false
set_option maxHeartbeats 8000000
set_option linter.all false
set_option maxRecDepth 100000
set_option exponentiation.threshold 3000
section
set_option Elab.async false
def PySem.W.Fast.tw12503966587125879427:Unit:=()
def PySem.W.Fast.tw3841089074956331400:Unit:=()
def PySem.W.Fast.tw8611994560667603832:Unit:=()
def PySem.W.Fast.tw3094701115853657799:Unit:=()
def PySem.W.Fast.tw1647960591809683682:Unit:=()
def PySem.W.Fast.tw17506200762921685195:Unit:=()
open PySem PySem.W PyProof.Rows
set_option maxHeartbeats 0 in
set_option maxRecDepth 100000 in
open_top head for PySem.Challenge.rw_restpieces_k31_sets_moved
end
section
namespace PL
inductive K0 where
 | i (n:Int)|s (x:List Nat)
 deriving DecidableEq,Inhabited
def K0.isS:K0→Bool
 | .s _=>true
 | .i _=>false
inductive D where
 | non|bl (b:Bool)|int (i:Int)|str (s:List Nat)
 | tup (xs:List D)|lst (xs:List D)|dct (ks:List K0) (vs:List D)|ob (t:Nat) (xs:List D)
 deriving Inhabited
structure Strm where
 big:List Int
 cells:List Int
 turn:Int
abbrev St:=Option Strm
inductive R (α:Type) where
 | ok (a:α) (st:St)|exc (c:Nat) (fs:List D) (st:St)|no
def R.bind {α β:Type}:R α→(α→St→R β)→R β
 | .ok a st,f=>f a st
 | .exc c fs st,_=>.exc c fs st
 | .no,_=>.no
@[simp] theorem R.bind_ok {α β:Type} (a:α) (st:St) (f:α→St→R β):(R.ok a st).bind f=f a st:=rfl
@[simp] theorem R.bind_exc {α β:Type} (c:Nat) (fs:List D) (st:St) (f:α→St→R β):(R.exc c fs st).bind f=.exc c fs st:=rfl
@[simp] theorem R.bind_no {α β:Type} (f:α→St→R β):(R.no:R α).bind f=.no:=rfl
def R.lift {α:Type}:Option α→St→R α
 | some a,st=>.ok a st
 | none,_=>.no
@[simp] theorem R.lift_some {α:Type} (a:α) (st:St):R.lift (some a) st=.ok a st:=rfl
@[simp] theorem R.lift_none {α:Type} (st:St):(R.lift (none:Option α) st)=.no:=rfl
mutual
def D.depth:D→Nat
 | .tup xs=>D.depths xs+1
 | .lst xs=>D.depths xs+1
 | .dct _ vs=>D.depths vs+1
 | .ob _ xs=>D.depths xs+1
 | _=>0
def D.depths:List D→Nat
 | []=>0
 | x::r=>max (D.depth x) (D.depths r)
end
mutual
/-- no dict, no object within -/
def D.plain:D→Bool
 | .tup xs=>D.plains xs
 | .lst xs=>D.plains xs
 | .str s=>s.all fun c=>decide (c<1114112)
 | .dct _ _=>false
 | .ob _ _=>false
 | _=>true
def D.plains:List D→Bool
 | []=>true
 | x::r=>D.plain x&&D.plains r
end
def D.shaped (d:D):Bool:=d.plain&&decide (d.depth≤60)
def D.flat:D→Bool
 | .non=>true
 | .bl _=>true
 | .int _=>true
 | .str _=>true
 | _=>false
mutual
/-- no list, no dict, no object within -/
def D.nol:D→Bool
 | .tup xs=>D.nols xs
 | .lst _=>false
 | .dct _ _=>false
 | .ob _ _=>false
 | _=>true
def D.nols:List D→Bool
 | []=>true
 | x::r=>D.nol x&&D.nols r
end
mutual
/-- Python's == of plain data -/
def D.eqv:D→D→Bool
 | .non,.non=>true
 | .bl a,.bl b=>a==b
 | .bl a,.int j=>(if a then 1 else 0)==j
 | .int i,.bl b=>i==(if b then 1 else 0)
 | .int i,.int j=>i==j
 | .str a,.str b=>a==b
 | .tup xs,.tup ys=>D.eqvs xs ys
 | .lst xs,.lst ys=>D.eqvs xs ys
 | _,_=>false
def D.eqvs:List D→List D→Bool
 | [],[]=>true
 | x::r,y::s=>D.eqv x y&&D.eqvs r s
 | _,_=>false
end
mutual
/-- repr's text has at most so many signs; ints below 2 ^ 1900 -/
def D.wt:D→Nat
 | .int _=>2000
 | .str s=>10*s.length+2
 | .tup xs=>D.wts xs+3
 | .lst xs=>D.wts xs+3
 | .dct _ _=>0
 | .ob _ _=>0
 | _=>5
def D.wts:List D→Nat
 | []=>0
 | x::r=>D.wt x+2+D.wts r
end
def bigN:Nat:=2^1900
mutual
def D.small:D→Bool
 | .int i=>decide (i.natAbs<bigN)
 | .str s=>s.all fun c=>decide (c<1114112)
 | .tup xs=>D.smalls xs
 | .lst xs=>D.smalls xs
 | .dct _ _=>false
 | .ob _ _=>false
 | _=>true
def D.smalls:List D→Bool
 | []=>true
 | x::r=>D.small x&&D.smalls r
end
abbrev line:Nat:=16777216
def D.reprOk (d:D):Bool:=d.small&&decide (d.depth≤150)&&decide (d.wt≤line)
def dkOk:List K0→Bool
 | []=>true
 | [.s x]=>x.all fun c=>decide (c<1114112)
 | _=>false
def dkWt:List K0→Nat
 | [.s x]=>10*x.length+2
 | _=>0
mutual
/-- as small, with small dicts within -/
def D.smallH:D→Bool
 | .int i=>decide (i.natAbs<bigN)
 | .str s=>s.all fun c=>decide (c<1114112)
 | .tup xs=>D.smallHs xs
 | .lst xs=>D.smallHs xs
 | .dct ks vs=>dkOk ks&&(decide (ks.length=vs.length)&&D.smallHs vs)
 | .ob _ _=>false
 | _=>true
def D.smallHs:List D→Bool
 | []=>true
 | x::r=>D.smallH x&&D.smallHs r
end
mutual
/-- no list within -/
def D.noL:D→Bool
 | .tup xs=>D.noLs xs
 | .lst _=>false
 | .dct _ vs=>D.noLs vs
 | _=>true
def D.noLs:List D→Bool
 | []=>true
 | x::r=>D.noL x&&D.noLs r
end
mutual
/-- as wt, with a nearer bound for ints below 10 ^ 19 -/
def D.wtf:D→Nat
 | .int i=>if i.natAbs<10^19 then 22 else 2000
 | .str s=>10*s.length+2
 | .tup xs=>D.wtfs xs+3
 | .lst xs=>D.wtfs xs+3
 | .dct ks vs=>dkWt ks+D.wtfs vs+8
 | .ob _ _=>0
 | _=>5
def D.wtfs:List D→Nat
 | []=>0
 | x::r=>D.wtf x+2+D.wtfs r
end
def D.reprDk (d:D):Bool:=(d.small || (d.smallH&&d.noL))&&decide (d.depth≤150)&&decide (d.wtf≤line)
def D.truth:D→Option Bool
 | .non=>some false
 | .bl b=>some b
 | .int i=>some (i != 0)
 | .str s=>if s.length≤line then some (!s.isEmpty) else none
 | .tup xs=>some (!xs.isEmpty)
 | .lst xs=>some (!xs.isEmpty)
 | _=>none
@[simp] theorem D.truth_bl (b:Bool):(D.bl b).truth=some b:=rfl
def D.ints:List D→Option (List Int)
 | []=>some []
 | .int i::r=>(D.ints r).map (i :: ·)
 | _=>none
def D.bools:List D→Option (List Bool)
 | []=>some []
 | .bl b::r=>(D.bools r).map (b :: ·)
 | _=>none
@[simp] theorem D.ints_map (l:List Int):D.ints (l.map D.int)=some l:=by
 induction l with
 | nil=>rfl
 | cons a r ih=>simp [D.ints,ih]
@[simp] theorem D.bools_map (l:List Bool):D.bools (l.map D.bl)=some l:=by
 induction l with
 | nil=>rfl
 | cons a r ih=>simp [D.bools,ih]
def ix {α:Type}(xs:List α)(i:Int):Option α :=
 if 0≤i then xs[i.toNat]? else if 0≤i+xs.length then xs[(i+xs.length).toNat]? else none
def clampI (n:Nat)(i:Int):Nat:=if 0≤i then min i.toNat n else (i+n).toNat
def endI (n d:Nat):Option Int→Nat
 | none=>d
 | some i=>clampI n i
def cut {α:Type}(xs:List α)(lo hi:Option Int):List α:=(xs.take (endI xs.length xs.length hi)).drop (endI xs.length 0 lo)
inductive Bop where
 | add|sub|mul|div|mod|pow|shl
 deriving DecidableEq
inductive Cop where
 | eq|ne|lt|le|gt|ge|inn|nin
 deriving DecidableEq
inductive Bi where
 | len|abs|max2|min2|maxL|minL|sum|int|bool|repr|sorted|any|all|divmod|str
 deriving DecidableEq
inductive Ty where
 | int|str|bool|tuple|list|dict
 deriving DecidableEq
def mulOk (a b:Int):Bool:=decide (a.natAbs.log2+b.natAbs.log2<1000000)
def divOk (b:Int):Bool:=(decide (b≠0)&&decide (b.natAbs<1073741824)) || (decide (0<b)&&decide (b.natAbs.log2<9000))
def bop:Bop→D→D→Option D
 | .add,.int a,.int b=>some (.int (a+b))
 | .add,.str a,.str b=>if a.length+b.length≤line then some (.str (a++b)) else none
 | .add,.lst a,.lst b=>if a.length+b.length≤line then some (.lst (a++b)) else none
 | .add,.tup a,.tup b=>if a.length+b.length≤line then some (.tup (a++b)) else none
 | .sub,.int a,.int b=>some (.int (a-b))
 | .mul,.int a,.int b=>if mulOk a b then some (.int (a*b)) else none
 | .mul,.lst a,.int n=>if 0≤n∧n<1000000∧a.length*n.toNat≤line then some (.lst (List.replicate n.toNat a).flatten) else none
 | .mul,.tup a,.int n=>if 1≤n∧n≤1000∧a≠[]∧a.length≤1000 then some (.tup (List.replicate n.toNat a).flatten) else none
 | .shl,.int a,.int b=>if 0≤b∧b≤1000000∧a.natAbs<2^64 then some (.int (a*2^b.toNat)) else none
 | .div,.int a,.int b=>if divOk b then some (.int (a.fdiv b)) else none
 | .mod,.int a,.int b=>if b≠0 then some (.int (a.fmod b)) else none
 | .pow,.int a,.int b=>if 0≤b∧b≤1000000∧a.natAbs<2^64 then some (.int (a^b.toNat)) else none
 | _,_,_=>none
def D.has (k:D):D→Option Bool
 | .lst ys=>if k.shaped&&ys.all D.shaped then some (ys.any fun y=>D.eqv y k) else none
 | .tup ys=>if k.flat&&ys.all D.flat then some (ys.any fun y=>D.eqv y k) else none
 | .dct ks _=>match k with
  | .int i=>if ks.any K0.isS then none else some (ks.contains (K0.i i))
  | .str s=>some (ks.contains (K0.s s))
  | _=>none
 | _=>none
def eqD:D→D→Option Bool
 | .str a,.str b=>some (a==b)
 | x,y=>if x.shaped&&y.shaped then some (D.eqv x y) else none
def cop:Cop→D→D→Option Bool
 | .eq,x,y=>eqD x y
 | .ne,x,y=>(eqD x y).map not
 | .lt,.int a,.int b=>some (decide (a<b))
 | .le,.int a,.int b=>some (decide (a≤b))
 | .gt,.int a,.int b=>some (decide (b<a))
 | .ge,.int a,.int b=>some (decide (b≤a))
 | .inn,x,y=>D.has x y
 | .nin,x,y=>(D.has x y).map not
 | _,_,_=>none
def findK {α:Type}(k:K0):List K0→List α→Option α
 | a::r,v::vs=>if a=k then some v else findK k r vs
 | _,_=>none
def subD:D→D→Option D
 | .tup xs,.int i=>ix xs i
 | .lst xs,.int i=>ix xs i
 | .str s,.int i=>if s.length≤line then (ix s i).map fun c=>.str [c] else none
 | .dct ks vs,.int i=>if ks.any K0.isS then none else findK (.i i) ks vs
 | .dct ks vs,.str s=>findK (.s s) ks vs
 | _,_=>none
def cutD:D→Option Int→Option Int→Option D
 | .tup xs,lo,hi=>some (.tup (cut xs lo hi))
 | .lst xs,lo,hi=>some (.lst (cut xs lo hi))
 | .str xs,lo,hi=>if xs.length≤line then some (.str (cut xs lo hi)) else none
 | _,_,_=>none
def insI (a:Int):List Int→List Int
 | []=>[a]
 | b::r=>if a≤b then a::b::r else b::insI a r
def sortI:List Int→List Int
 | []=>[]
 | a::r=>insI a (sortI r)
def insU (a:Int):List Int→List Int
 | []=>[a]
 | b::r=>if a<b then a::b::r else if a=b then b::r else b::insU a r
def sortU:List Int→List Int
 | []=>[]
 | a::r=>insU a (sortU r)
def maxI:List Int→Option Int
 | []=>none
 | a::r=>some (r.foldl max a)
def minI:List Int→Option Int
 | []=>none
 | a::r=>some (r.foldl min a)
def lenD:List D→Option D
 | [.lst xs]=>some (.int xs.length)
 | [.tup xs]=>some (.int xs.length)
 | [.str xs]=>if xs.length≤line then some (.int xs.length) else none
 | _=>none
def absD:List D→Option D
 | [.int i]=>some (.int (if i<0 then -i else i))
 | _=>none
def max2D:List D→Option D
 | [.int i,.int j]=>some (.int (if j > i then j else i))
 | _=>none
def min2D:List D→Option D
 | [.int i,.int j]=>some (.int (if j<i then j else i))
 | _=>none
def maxLD:List D→Option D
 | [.lst xs]=>(D.ints xs).bind fun l=>(maxI l).map .int
 | [.tup xs]=>(D.ints xs).bind fun l=>(maxI l).map .int
 | _=>none
mutual
/-- ints, tuples and lists of them to any depth, of one shape -/
def D.like:D→D→Bool
 | .int _,.int _=>true
 | .tup xs,.tup ys=>D.likes xs ys
 | .lst xs,.lst ys=>D.likes xs ys
 | _,_=>false
def D.likes:List D→List D→Bool
 | [],[]=>true
 | x::r,y::s=>D.like x y&&D.likes r s
 | _,_=>false
end
mutual
/-- Python's < of these -/
def D.ltN:D→D→Bool
 | .int a,.int b=>decide (a<b)
 | .tup xs,.tup ys=>D.ltNs xs ys
 | .lst xs,.lst ys=>D.ltNs xs ys
 | _,_=>false
def D.ltNs:List D→List D→Bool
 | x::r,y::s=>if D.eqv x y then D.ltNs r s else D.ltN x y
 | _,_=>false
end
def D.mins (xs:List D):Bool:=xs.all fun x=>decide (x.depth≤60)&&xs.all fun y=>D.like x y
def minDt:D→List D→D
 | b,[]=>b
 | b,x::r=>minDt (if D.ltN x b then x else b) r
def minT:List D→Option D
 | []=>none
 | x::r=>if D.mins (x::r) then some (minDt x r) else none
def minLD:List D→Option D
 | [.lst xs]=>match D.ints xs with
  | some l=>(minI l).map .int
  | none=>minT xs
 | [.tup xs]=>(D.ints xs).bind fun l=>(minI l).map .int
 | _=>none
def sumD:List D→Option D
 | [.lst xs]=>(D.ints xs).map fun l=>.int l.sum
 | _=>none
def intD:List D→Option D
 | [.int i]=>some (.int i)
 | [.bl b]=>some (.int (if b then 1 else 0))
 | _=>none
def boolD:List D→Option D
 | [.int i]=>some (.bl (i != 0))
 | [.bl b]=>some (.bl b)
 | _=>none
def reprD (shown:D→List Nat):List D→Option D
 | [d]=>if d.reprOk then some (.str (shown d)) else if d.reprDk then some (.str (shown d)) else none
 | _=>none
def strD (shown:D→List Nat):List D→Option D
 | [.int i]=>if i.natAbs<bigN then some (.str (shown (.int i))) else none
 | _=>none
def D.isTup1:D→Bool
 | .tup (_::_)=>true
 | _=>false
def D.sorts (xs:List D):Bool:=xs.all fun x=>x.isTup1&&(decide (x.depth≤60)&&xs.all fun y=>D.like x y)
def sortedD:List D→Option D
 | [.lst xs]=>match D.ints xs with
  | some l=>some (.lst ((sortI l).map .int))
  | none=>if D.sorts xs then some (.lst (xs.mergeSort fun a b=>!D.ltN b a)) else none
 | _=>none
def anyD:List D→Option D
 | [.lst xs]=>(D.bools xs).map fun l=>.bl (l.any id)
 | _=>none
def allD:List D→Option D
 | [.lst xs]=>(D.bools xs).map fun l=>.bl (l.all id)
 | _=>none
def divmodD:List D→Option D
 | [.int i,.int j]=>if 0<j∧j<1073741824 then some (.tup [.int (i/j),.int (i%j)]) else none
 | _=>none
def biD (shown:D→List Nat):Bi→List D→Option D
 | .len,ds=>lenD ds
 | .abs,ds=>absD ds
 | .max2,ds=>max2D ds
 | .min2,ds=>min2D ds
 | .maxL,ds=>maxLD ds
 | .minL,ds=>minLD ds
 | .sum,ds=>sumD ds
 | .int,ds=>intD ds
 | .bool,ds=>boolD ds
 | .repr,ds=>reprD shown ds
 | .sorted,ds=>sortedD ds
 | .any,ds=>anyD ds
 | .all,ds=>allD ds
 | .divmod,ds=>divmodD ds
 | .str,ds=>strD shown ds
def isTy:D→Ty→Option Bool
 | .non,_=>some false
 | .bl _,t=>some (t==.bool || t==.int)
 | .int _,t=>some (t==.int)
 | .str _,t=>some (t==.str)
 | .tup _,t=>some (t==.tuple)
 | .lst _,t=>some (t==.list)
 | .dct _ _,t=>some (t==.dict)
 | .ob _ _,_=>none
mutual
inductive E where
 | loc (i:Nat)|cst (d:D)|glb (g:Nat)
 | bin (o:Bop) (a b:E)|neg (a:E)
 | cmp (o:Cop) (a b:E)|chn (o1 o2:Cop) (a b c:E)|isn (a:E)|isnn (a:E)
 | and (a b:E)|or (a b:E)|not (a:E)|ifx (c a b:E)
 | call (f:Nat) (es:Es)|bi (b:Bi) (es:Es)|isi (a:E) (t:Ty)
 | tup (es:Es)|lst (es:Es)|dct (ks:List K0) (es:Es)|dct0
 | sub (a i:E)|slc (a:E) (lo hi:Eo)|get (a k d:E)|get1 (a k:E)
 | tof (a:E)|lof (t:It)|cnt (a b:E)|tix (ss:List (List Nat)) (b:E)
 | lc (e:E) (tg:Tg) (it:It) (c:Eo) (own:List Nat)
 | sHas (i:Nat)|sBig (i:Nat)|sTurn (i:Nat)|sCell (i j:Nat)
 | isE (a:E) (cs:List Nat)|fldE (i:Nat) (nm:List Nat)
 | lc2 (e:E) (tg:Tg) (it:It) (tg1:Tg) (it1:It) (own own1:List Nat)
 | dc (k v:E) (tg:Tg) (it:It) (c:Eo) (own:List Nat)|dc2 (k v:E) (tg:Tg) (it:It) (tg1:Tg) (it1:It) (own own1:List Nat)
 | sst (a:E)|rev (a:E)|isB (a:E) (b neg:Bool)|lsq (a:E)
 | zl (a b:E)|zls (a:E)|cat (a b:E)|dpl (a:E)
inductive Es where
 | nil|cons (e:E) (r:Es)|star (e:E) (r:Es)
inductive Eo where
 | no|so (e:E)
inductive It where
 | seq (e:E)|rng1 (a:E)|rng2 (a b:E)|rng3 (a b c:E)|rngL (a b:E)|enm (e:E) (s:Int)|zp (a b:E)|zp3 (a b c:E)|enmz (a b:E) (s:Int)
inductive Tg where
 | nm (i:Nat)|tp (ts:Tgs)
inductive Tgs where
 | nil|cons (t:Tg) (r:Tgs)
end
inductive Slot where
 | un|val (d:D)|own (ds:List D)|dow (ks:List K0) (ds:List D)
 deriving Inhabited
abbrev Env:=List Slot
def Slot.get:Slot→Option D
 | .val d=>some d
 | _=>none
def Env.get (env:Env)(i:Nat):Option D:=(env[i]?).bind Slot.get
def wipeE (env:Env):List Nat→Env
 | []=>env
 | v::vs=>(wipeE env vs).set v .un
mutual
/-- a target is stored to -/
def putT:Tg→D→Env→Option Env
 | .nm i,d,env=>some (env.set i (.val d))
 | .tp ts,.tup xs,env=>putTs ts xs env
 | .tp ts,.lst xs,env=>putTs ts xs env
 | .tp _,_,_=>none
def putTs:Tgs→List D→Env→Option Env
 | .nil,[],env=>some env
 | .cons t r,x::xs,env=>(putT t x env).bind (putTs r xs)
 | _,_,_=>none
end
def mapR (f:D→St→R (Option D)):List D→St→R (List D)
 | [],st=>.ok [] st
 | x::r,st=>(f x st).bind fun y st=>(mapR f r st).bind fun ys st=>.ok (match y with|some y=>y::ys|none=>ys) st
def rngI (a b:Int):List D:=(List.range (b-a).toNat).map fun k:Nat=>D.int (a+k)
def downI (a b:Int):List D:=(List.range (a-b).toNat).map fun k:Nat=>D.int (a-k)
def upI (a b c:Int):List D:=(List.range (if a<b then (b-a-1)/c+1 else 0).toNat).map fun k:Nat=>D.int (a+k*c)
def okR (a:Int):Bool:=decide (-(2^62)≤a∧a<2^62)
def D.items:D→Option (List D)
 | .tup xs=>some xs
 | .lst xs=>some xs
 | _=>none
def D.walk:D→Option (List D)
 | .tup xs=>some xs
 | .lst xs=>some xs
 | .ob 1 xs=>some xs
 | _=>none
def enmD (s:Int):List D→List D
 | []=>[]
 | x::r=>.tup [.int s,x]::enmD (s+1) r
def zipD:List D→List D→List D
 | x::r,y::s=>.tup [x,y]::zipD r s
 | _,_=>[]
def zip3D:List D→List D→List D→List D
 | x::r,y::s,z::t=>.tup [x,y,z]::zip3D r s t
 | _,_,_=>[]
def negD:D→Option D
 | .int i=>some (.int (-i))
 | _=>none
def D.isN:D→Bool
 | .non=>true
 | _=>false
def D.part:D→Option (Option Int)
 | .int i=>some (some i)
 | .non=>some none
 | _=>none
def D.isDct:D→Option Unit
 | .dct _ _=>some ()
 | _=>none
def getD:D→D→D→Option D
 | .dct ks vs,.int i,z=>if ks.any K0.isS then none else some ((findK (.i i) ks vs).getD z)
 | .dct ks vs,.str s,z=>some ((findK (.s s) ks vs).getD z)
 | _,_,_=>none
def D.isLst:D→Option Unit
 | .lst _=>some ()
 | _=>none
def idxOf (s:List Nat):List (List Nat)→Option Nat
 | []=>none
 | t::r=>if t=s then some 0 else (idxOf s r).map (·+1)
def tixD (ss:List (List Nat)):D→Option D
 | .str s=>(idxOf s ss).map fun j=>.int (j:Nat)
 | _=>none
def cntD:D→D→Option D
 | .lst xs,.bl b=>(D.bools xs).map fun l=>.int (l.count b:Nat)
 | _,_=>none
def sstD:D→Option D
 | .lst xs=>(D.ints xs).bind fun l=>if l.length<64 then some (.lst ((sortU l).map .int)) else none
 | _=>none
def revD:D→Option D
 | .lst xs=>some (.lst xs.reverse)
 | .tup xs=>some (.tup xs.reverse)
 | _=>none
def isBD (b neg:Bool):D→Option D
 | .bl t=>some (.bl ((t==b) != neg))
 | _=>none
def K0.toD:K0→D
 | .i n=>.int n
 | .s x=>.str x
def lsqD:D→Option (List D)
 | .tup xs=>some xs
 | .lst xs=>some xs
 | .dct ks _=>if ks.any K0.isS then none else some (ks.map K0.toD)
 | _=>none
def rngD:D→D→Option (List D)
 | .int m,.int n=>if okR m&&okR n then some (rngI m n) else none
 | _,_=>none
def rngW:D→D→Option (List D)
 | .int m,.int n=>some (rngI m n)
 | _,_=>none
def rng3D:D→D→D→Option (List D)
 | .int m,.int n,.int k=>if (okR m&&okR n)&&k == -1 then some (downI m n) else if (0≤m∧m≤100000)∧(0≤n∧n≤100000)∧(1≤k∧k≤100000) then some (upI m n k) else none
 | _,_,_=>none
def strAt (env:Env)(i:Nat):St→Option Strm
 | none=>none
 | some s=>match env.get i with
  | some (.ob 0 [])=>some s
  | _=>none
def cellD (s:Strm):D→Option D
 | .int t=>some (.int (s.cells.getD (t%s.cells.length).toNat 0))
 | _=>none
def enmO (s:Int):D→Option (List D)
 | .lst ds=>if s=0 then some (enmD 0 ds) else none
 | .tup ds=>if s=0 then some (enmD 0 ds) else none
 | _=>none
def catO:D→D→Option (List D)
 | .lst a,.lst b=>some (a++b)
 | _,_=>none
def zipO (x y:D):Option (List D):=x.items.bind fun ds=>y.items.map fun es=>zipD ds es
def zip3O (x y z:D):Option (List D):=x.items.bind fun ds=>y.items.bind fun es=>z.items.map fun fs=>zip3D ds es fs
def zipsO (x:D):Option (List D):=x.items.bind fun l=>match l with
 | [a,b]=>zipO a b
 | [a,b,c]=>zip3O a b c
 | _=>none
def R.made:R (List D)→R D
 | .ok ys st=>if ys.length≤line then .ok (.lst ys) st else .no
 | _=>.no
def R.opt {α β:Type}(o:Option α)(f:α→R β):R β :=
 match o with
 | some a=>f a
 | none=>.no
@[simp] theorem R.opt_some {α β:Type} (a:α) (f:α→R β):R.opt (some a) f=f a:=rfl
@[simp] theorem R.opt_none {α β:Type} (f:α→R β):R.opt none f=.no:=rfl
def lcStep (fe:Env→St→R D)(fc:Env→St→R Bool)(tg:Tg)(own:List Nat)(env:Env)(d:D)(st:St):R (Option D) :=
 R.opt (putT tg d (wipeE env own)) fun env'=>(fc env' st).bind fun t st=>if t then (fe env' st).bind fun y st=>.ok (some y) st else .ok none st
def D.key:D→Option K0
 | .int n=>some (.i n)
 | .str s=>some (.s s)
 | _=>none
def putVs (k:K0)(v:D):List K0→List D→List D
 | a::ks,d::ds=>if a=k then v::ds else d::putVs k v ks ds
 | _,_=>[v]
def putKs (k:K0):List K0→List K0
 | a::ks=>if a=k then a::ks else a::putKs k ks
 | []=>[k]
def pairE (fk fv:Env→St→R D)(env:Env)(st:St):R D:=(fk env st).bind fun k st=>(fv env st).bind fun v st=>.ok (.tup [k,v]) st
def dctL:List K0→List D→List D→Option D
 | ks,ds,[]=>some (.dct ks ds)
 | ks,ds,.tup [k,v]::r=>k.key.bind fun k=>if ks.length<line then dctL (putKs k ks) (putVs k v ks ds) r else none
 | _,_,_=>none
def dplO:D→Option D
 | .lst ys=>dctL [] [] ys
 | _=>none
def R.dmade:R (List D)→R D
 | .ok ys st=>R.lift (dctL [] [] ys) st
 | _=>.no
def catR (f:D→St→R (List D)):List D→St→R (List D)
 | [],st=>.ok [] st
 | x::r,st=>(f x st).bind fun ys st=>(catR f r st).bind fun zs st=>.ok (ys++zs) st
def lc2Step (fi:Env→St→R (List D))(fe:Env→St→R D)(tg tg1:Tg)(own own1:List Nat)(env:Env)(d:D)(st:St):R (List D) :=
 R.opt (putT tg d (wipeE env own)) fun env1=>(fi env1 st).bind fun ds st=>mapR (lcStep fe (fun _ st=>.ok true st) tg1 own1 env1) ds st
structure Ctx where
 gl:Nat→Option D
 shown:D→List Nat
 cal:Nat→List D→St→R D
 er:Option (Nat × Nat × Nat × List (List Nat)):=none
def isED:Option (Nat × Nat × Nat × List (List Nat))→List Nat→D→Option D
 | some (c,k,_,[]),cs,.ob 2 [.int a]=>if a=k then some (.bl (cs.contains c)) else none
 | some (c,k,d,_::_),cs,.ob 2 (.int a::.int b::_::_)=>if a=k∧b=d then some (.bl (cs.contains c)) else none
 | _,_,_=>none
@[simp] theorem isED_some (c k d:Nat) (cs:List Nat):isED (some (c,k,d,[])) cs (.ob 2 [.int k])=some (.bl (cs.contains c)):=by simp [isED]
@[simp] theorem isED_fld (c k d:Nat) (n:List Nat) (ns:List (List Nat)) (cs:List Nat) (x:D) (r:List D):isED (some (c,k,d,n::ns)) cs (.ob 2 (.int k::.int d::x::r))=some (.bl (cs.contains c)):=by simp [isED]
def strsD:List D→Option (List (List Nat))
 | []=>some []
 | .str s::r=>(strsD r).map (s :: ·)
 | _=>none
def namesD:D→Option (List (List Nat))
 | .tup xs=>strsD xs
 | _=>none
theorem strsD_map:∀ ns:List (List Nat),strsD (ns.map .str)=some ns
 | []=>rfl
 | n::r=>by rw [List.map_cons,strsD,strsD_map r];rfl
theorem namesD_of (ns:List (List Nat)):namesD (.tup (ns.map .str))=some ns:=strsD_map ns
def fldD:Option (Nat × Nat × Nat × List (List Nat))→List Nat→D→Option D
 | some (_,k,d,ns),nm,.ob 2 (.int a::.int b::nd::fs)=>if a=k∧b=d∧namesD nd=some ns then (idxOf nm ns).bind fun j=>fs[j]? else none
 | _,_,_=>none
mutual
def evE (X:Ctx):E→Env→St→R D
 | .loc i,env,st=>R.lift (env.get i) st
 | .cst d,_,st=>.ok d st
 | .glb g,_,st=>R.lift (X.gl g) st
 | .bin o a b,env,st=>(evE X a env st).bind fun x st=>(evE X b env st).bind fun y st=>R.lift (bop o x y) st
 | .neg a,env,st=>(evE X a env st).bind fun x st=>R.lift (negD x) st
 | .cmp o a b,env,st=>(evE X a env st).bind fun x st=>(evE X b env st).bind fun y st=>R.lift ((cop o x y).map .bl) st
 | .chn o1 o2 a b c,env,st=>(evE X a env st).bind fun x st=>(evE X b env st).bind fun y st=>(R.lift (cop o1 x y) st).bind fun t st =>
   if t then (evE X c env st).bind fun z st=>R.lift ((cop o2 y z).map .bl) st else .ok (.bl false) st
 | .isn a,env,st=>(evE X a env st).bind fun x st=>.ok (.bl x.isN) st
 | .isnn a,env,st=>(evE X a env st).bind fun x st=>.ok (.bl (!x.isN)) st
 | .and a b,env,st=>(evE X a env st).bind fun x st=>(R.lift x.truth st).bind fun t st=>if t then evE X b env st else .ok x st
 | .or a b,env,st=>(evE X a env st).bind fun x st=>(R.lift x.truth st).bind fun t st=>if t then .ok x st else evE X b env st
 | .not a,env,st=>(evE X a env st).bind fun x st=>(R.lift x.truth st).bind fun t st=>.ok (.bl (!t)) st
 | .ifx c a b,env,st=>(evE X c env st).bind fun x st=>(R.lift x.truth st).bind fun t st=>if t then evE X a env st else evE X b env st
 | .call f es,env,st=>(evEs X es env st).bind fun ds st=>X.cal f ds st
 | .bi b es,env,st=>(evEs X es env st).bind fun ds st=>R.lift (biD X.shown b ds) st
 | .isi a t,env,st=>(evE X a env st).bind fun x st=>R.lift ((isTy x t).map .bl) st
 | .tup es,env,st=>(evEs X es env st).bind fun ds st=>if ds.length≤line then .ok (.tup ds) st else .no
 | .lst es,env,st=>(evEs X es env st).bind fun ds st=>if ds.length≤line then .ok (.lst ds) st else .no
 | .dct0,env,st=>.ok (.dct [] []) st
 | .dct ks es,env,st=>(evEs X es env st).bind fun ds st=>if ds.length=ks.length∧ks.length≤15∧ks.Nodup then .ok (.dct ks ds) st else .no
 | .sub a i,env,st=>(evE X a env st).bind fun x st=>(evE X i env st).bind fun y st=>R.lift (subD x y) st
 | .slc a lo hi,env,st=>(evE X a env st).bind fun x st=>(evO X lo env st).bind fun l st=>(evO X hi env st).bind fun h st=>R.lift (cutD x l h) st
 | .get a k d,env,st=>(evE X a env st).bind fun x st=>(R.lift x.isDct st).bind fun _ st=>(evE X k env st).bind fun y st=>(evE X d env st).bind fun z st=>R.lift (getD x y z) st
 | .get1 a k,env,st=>(evE X a env st).bind fun x st=>(R.lift x.isDct st).bind fun _ st=>(evE X k env st).bind fun y st=>R.lift (getD x y .non) st
 | .tof a,env,st=>(evE X a env st).bind fun x st=>R.lift (x.items.map .tup) st
 | .tix ss b,env,st=>(evE X b env st).bind fun y st=>R.lift (tixD ss y) st
 | .cnt a b,env,st=>(evE X a env st).bind fun x st=>(R.lift x.isLst st).bind fun _ st=>(evE X b env st).bind fun y st=>R.lift (cntD x y) st
 | .lof t,env,st=>(evI X t env st).bind fun ds st=>if ds.length≤line then .ok (.lst ds) st else .no
 | .lc e tg it c own,env,st=>R.made ((evI X it env st).bind fun ds st=>mapR (lcStep (evE X e) (evB X c) tg own env) ds st)
 | .dc k v tg it c own,env,st=>R.dmade ((evI X it env st).bind fun ds st=>mapR (lcStep (pairE (evE X k) (evE X v)) (evB X c) tg own env) ds st)
 | .dc2 k v tg it tg1 it1 own own1,env,st=>R.dmade ((evI X it env st).bind fun ds st=>catR (lc2Step (evI X it1) (pairE (evE X k) (evE X v)) tg tg1 own own1 env) ds st)
 | .lc2 e tg it tg1 it1 own own1,env,st=>R.made ((evI X it env st).bind fun ds st=>catR (lc2Step (evI X it1) (evE X e) tg tg1 own own1 env) ds st)
 | .sHas i,env,st=>R.lift ((strAt env i st).map fun s=>.bl (!s.big.isEmpty)) st
 | .sBig i,env,st=>R.lift ((strAt env i st).bind fun s=>s.big.head?.map .int) st
 | .sTurn i,env,st=>R.lift ((strAt env i st).map fun s=>.int s.turn) st
 | .sCell i j,env,st=>R.lift ((strAt env i st).bind fun s=>(env.get j).bind (cellD s)) st
 | .isE a cs,env,st=>(evE X a env st).bind fun x st=>R.lift (isED X.er cs x) st
 | .fldE i nm,env,st=>R.lift ((env.get i).bind (fldD X.er nm)) st
 | .sst a,env,st=>(evE X a env st).bind fun x st=>R.lift (sstD x) st
 | .rev a,env,st=>(evE X a env st).bind fun x st=>R.lift (revD x) st
 | .isB a b neg,env,st=>(evE X a env st).bind fun x st=>R.lift (isBD b neg x) st
 | .lsq a,env,st=>(evE X a env st).bind fun x st=>(R.lift (lsqD x) st).bind fun ds st=>if ds.length≤line then .ok (.lst ds) st else .no
 | .zl a b,env,st=>(evE X a env st).bind fun x st=>(evE X b env st).bind fun y st=>(R.lift (zipO x y) st).bind fun ds st=>if ds.length≤line then .ok (.lst ds) st else .no
 | .zls a,env,st=>(evE X a env st).bind fun x st=>(R.lift (zipsO x) st).bind fun ds st=>if ds.length≤line then .ok (.lst ds) st else .no
 | .dpl a,env,st=>(evE X a env st).bind fun x st=>R.lift (dplO x) st
 | .cat a b,env,st=>(evE X a env st).bind fun x st=>(evE X b env st).bind fun y st=>(R.lift (catO x y) st).bind fun ds st=>if ds.length≤line then .ok (.lst ds) st else .no
def evEs (X:Ctx):Es→Env→St→R (List D)
 | .nil,_,st=>.ok [] st
 | .cons e r,env,st=>(evE X e env st).bind fun x st=>(evEs X r env st).bind fun xs st=>.ok (x::xs) st
 | .star e r,env,st=>(evE X e env st).bind fun x st=>(R.lift x.items st).bind fun ys st=>(evEs X r env st).bind fun xs st=>.ok (ys++xs) st
def evO (X:Ctx):Eo→Env→St→R (Option Int)
 | .no,_,st=>.ok none st
 | .so e,env,st=>(evE X e env st).bind fun x st=>R.lift x.part st
/-- the test of a comprehension -/
def evB (X:Ctx):Eo→Env→St→R Bool
 | .no,_,st=>.ok true st
 | .so e,env,st=>(evE X e env st).bind fun x st=>R.lift x.truth st
def evI (X:Ctx):It→Env→St→R (List D)
 | .seq e,env,st=>(evE X e env st).bind fun x st=>R.lift x.walk st
 | .rng1 a,env,st=>(evE X a env st).bind fun x st=>R.lift (rngD (.int 0) x) st
 | .rng2 a b,env,st=>(evE X a env st).bind fun x st=>(evE X b env st).bind fun y st=>R.lift (rngD x y) st
 | .rngL a b,env,st=>(evE X a env st).bind fun x st=>(evE X b env st).bind fun y st=>R.lift (rngW x y) st
 | .rng3 a b c,env,st=>(evE X a env st).bind fun x st=>(evE X b env st).bind fun y st=>(evE X c env st).bind fun z st=>R.lift (rng3D x y z) st
 | .enm e s,env,st=>(evE X e env st).bind fun x st=>R.lift (enmO s x) st
 | .zp a b,env,st=>(evE X a env st).bind fun x st=>(evE X b env st).bind fun y st=>R.lift (zipO x y) st
 | .zp3 a b c,env,st=>(evE X a env st).bind fun x st=>(evE X b env st).bind fun y st=>(evE X c env st).bind fun z st=>R.lift (zip3O x y z) st
 | .enmz a b s,env,st=>(evE X a env st).bind fun x st=>(evE X b env st).bind fun y st=>R.lift ((zipO x y).map (enmD s)) st
end
def lcxR (X:Ctx)(e:E)(tg:Tg)(it:It)(own:List Nat)(env:Env)(st:St):R D :=
 (evI X it env st).bind fun ds st=>if ds.length≤line then (mapR (lcStep (evE X e) (evB X .no) tg own env) ds st).bind fun ys st=>.ok (.lst ys) st else .no
inductive Pt where
 | cap (i:Nat)|any|val (s:List Nat)|num (k:Int)|vs (ss:List (List Nat))|orc (ss:List (List Nat)) (i:Nat)|sub (ps:List Pt)
inductive Pat where
 | any|vals (ss:List (List Nat))|seq (ps:List Pt)
mutual
inductive S where
 | asg (own:Bool) (i:Nat) (e:E)|asgs (fz:List Nat) (i:Nat) (e:E)
 | par2 (o1 o2:Bool) (i j:Nat) (a b:E)|par3 (o1 o2 o3:Bool) (i j k:Nat) (a b c:E)|asgT (tg:Tg) (e:E)
 | asgT2 (o1 o2:Bool) (i j:Nat) (a b:E)|asgT3 (o1 o2 o3:Bool) (i j k:Nat) (a b c:E)
 | frz (is:List Nat)
 | dnew (i:Nat)|dput (i:Nat) (k e:E)|lput (i:Nat) (k e:E)|aug (i:Nat) (e:E)
 | app (fz:List Nat) (i:Nat) (e:E)|ext (fz:List Nat) (i:Nat) (e:E)
 | exp (e:E)
 | ite (fz:List Nat) (c:E) (a b:Ss)
 | whl (fz:List Nat) (c:E) (b:Ss)
 | for_ (tg:Tg) (it:It) (b:Ss)
 | ret (e:E)|retN|pass|brk|cnt
 | mtch (e:E) (cs:Cs)|never
 | sPutB (i:Nat) (e:E)|sPop (i:Nat)|sPutT (i:Nat) (e:E)|retS (e:E) (j:Nat)|retC (f i:Nat) (e:E) (tg:Tg) (it:It) (own:List Nat)
 | raise (c:Nat)|raiseF (c:Nat) (ns:List (List Nat)) (es:Es)|tryA (cs:List Nat) (i:Nat) (b h:Ss)|tryO (cs:List Nat) (b h:Ss)
inductive Ss where
 | nil|cons (s:S) (r:Ss)
inductive Cs where
 | nil|cons (p:Pat) (b:Ss) (r:Cs)
end
inductive Q where
 | next (env:Env) (st:St)|ret (d:D) (st:St)|brk (env:Env) (st:St)|cnt (env:Env) (st:St)
 | exc (c:Nat) (fs:List D) (env:Env) (st:St)|no
def augD:D→D→Option D
 | .int a,.int b=>some (.int (a+b))
 | _,_=>none
def Slot.frz:Slot→Slot
 | .own ds=>.val (.lst ds)
 | .dow ks ds=>.val (.dct ks ds)
 | s=>s
def frz1 (env:Env)(i:Nat):Env :=
 match env[i]? with
 | some s=>env.set i s.frz
 | none=>env
def freeze (env:Env):List Nat→Env
 | []=>env
 | i::r=>freeze (frz1 env i) r
def R.use {α:Type}(r:R α)(env:Env)(k:α→St→Q):Q :=
 match r with
 | .ok a st=>k a st
 | .exc c fs st=>.exc c fs env st
 | .no=>.no
@[simp] theorem R.use_ok {α:Type} (a:α) (st:St) (env:Env) (k:α→St→Q):(R.ok a st).use env k=k a st:=rfl
@[simp] theorem R.use_exc {α:Type} (c:Nat) (fs:List D) (st:St) (env:Env) (k:α→St→Q):(R.exc c fs st:R α).use env k=.exc c fs env st:=rfl
@[simp] theorem R.use_no {α:Type} (env:Env) (k:α→St→Q):(R.no:R α).use env k=.no:=rfl
def R.thaw {α:Type}:List Nat→R α→R α
 | [],r=>r
 | _::_,.exc c fs st=>if D.nols fs=true then .exc c fs st else .no
 | _::_,.ok a st=>.ok a st
 | _::_,.no=>.no
@[simp] theorem R.thaw_nil {α:Type} (r:R α):R.thaw [] r=r:=rfl
@[simp] theorem R.thaw_ok {α:Type} (fz:List Nat) (a:α) (st:St):R.thaw fz (.ok a st)=.ok a st:=by cases fz<;>rfl
@[simp] theorem R.thaw_no {α:Type} (fz:List Nat):R.thaw fz (.no:R α)=.no:=by cases fz<;>rfl
@[simp] theorem R.thaw_exc0 {α:Type} (fz:List Nat) (c:Nat) (st:St):R.thaw fz (.exc c [] st:R α)=.exc c [] st:=by cases fz<;>rfl
theorem R.thaw_exc {α:Type}{fz:List Nat}{c:Nat}{fs:List D}{st:St}:(R.thaw fz (.exc c fs st:R α)=.exc c fs st∧(fz=[]∨D.nols fs=true))∨R.thaw fz (.exc c fs st:R α)=.no:=by
 cases fz with
 | nil=>exact .inl ⟨rfl,.inl rfl⟩
 | cons i r =>
  by_cases h:D.nols fs=true
  ·exact .inl ⟨if_pos h,.inr h⟩
  ·exact .inr (if_neg h)
def Q.then (q:Q)(k:Env→St→Q):Q :=
 match q with
 | .next env st=>k env st
 | q=>q
@[simp] theorem Q.then_next (env:Env) (st:St) (k:Env→St→Q):(Q.next env st).then k=k env st:=rfl
@[simp] theorem Q.then_ret (d:D) (st:St) (k:Env→St→Q):(Q.ret d st).then k=.ret d st:=rfl
@[simp] theorem Q.then_no (k:Env→St→Q):Q.no.then k=.no:=rfl
@[simp] theorem Q.then_brk (env:Env) (st:St) (k:Env→St→Q):(Q.brk env st).then k=.brk env st:=rfl
@[simp] theorem Q.then_cnt (env:Env) (st:St) (k:Env→St→Q):(Q.cnt env st).then k=.cnt env st:=rfl
@[simp] theorem Q.then_exc (c:Nat) (fs:List D) (env:Env) (st:St) (k:Env→St→Q):(Q.exc c fs env st).then k=.exc c fs env st:=rfl
def Q.opt {α:Type}(o:Option α)(f:α→Q):Q :=
 match o with
 | some a=>f a
 | none=>.no
@[simp] theorem Q.opt_some {α:Type} (a:α) (f:α→Q):Q.opt (some a) f=f a:=rfl
@[simp] theorem Q.opt_none {α:Type} (f:α→Q):Q.opt none f=.no:=rfl
def ownAt (env:Env)(i:Nat):Option (List D) :=
 match env[i]? with
 | some (.own ds)=>some ds
 | _=>none
def dowAt (env:Env)(i:Nat):Option (List K0 × List D) :=
 match env[i]? with
 | some (.dow ks ds)=>some (ks,ds)
 | _=>none
def putB (env:Env)(i:Nat)(d:D)(st:St):Option St :=
 match strAt env i st,d with
 | some s,.int v=>match s.big with
  | _::r=>some (some { s with big:=v::r })
  | []=>none
 | _,_=>none
def popB (env:Env)(i:Nat)(st:St):Option St :=
 match strAt env i st with
 | some s=>match s.big with
  | _::r=>some (some { s with big:=r })
  | []=>none
 | none=>none
def putU (env:Env)(i:Nat)(d:D)(st:St):Option St :=
 match strAt env i st,d with
 | some s,.int v=>some (some { s with turn:=v })
 | _,_=>none
def mkS (d:D)(own:Option (List D))(st:St):Option St :=
 match d,own,st with
 | .lst xs,some ds,none=>match D.ints xs,D.ints ds with
  | some big,some l=>some (some ⟨big,if l=[] then [47] else l,0⟩)
  | _,_=>none
 | _,_,_=>none
def putIx:D→List D→D→Option (List D)
 | .int k,ds,v=>if 0≤k∧k<ds.length then some (ds.set k.toNat v) else none
 | _,_,_=>none
def lstAt (fz:List Nat):D→Option (List D)
 | .lst xs=>if fz=[]∨D.nols xs=true then some xs else none
 | _=>none
def mk (own:Bool)(d:D):Slot:=match own,d with
 | true,.lst ds=>.own ds
 | _,_=>.val d
def forL (f:D→Env→St→Q):List D→Env→St→Q
 | [],env,st=>.next env st
 | x::r,env,st=>match f x env st with
  | .next env st=>forL f r env st
  | .cnt env st=>forL f r env st
  | .brk env st=>.next env st
  | q=>q
def whlL (c:Env→St→R Bool)(f:Env→St→Q):Nat→Env→St→Q
 | 0,_,_=>.no
 | n+1,env,st=>(c env st).use env fun t st=>if t then
   (match f env st with
   | .next env st=>whlL c f n env st
   | .cnt env st=>whlL c f n env st
   | .brk env st=>.next env st
   | q=>q) else .next env st
def whlTest (f:Env→St→R D)(fz:List Nat)(env:Env)(st:St):R Bool:=(R.thaw fz (f (freeze env fz) st)).bind fun x st=>R.lift x.truth st
def forStep (f:Env→St→Q)(tg:Tg)(d:D)(env:Env)(st:St):Q:=Q.opt (putT tg d env) fun env=>f env st
def turns:Nat:=1000000000
def valIn (d:D):List (List Nat)→Option Bool
 | []=>some false
 | s::r=>(eqD d (.str s)).bind fun t=>if t then some true else valIn d r
def seqIn (n:Nat)(f:List D→Option Bool):D→Option Bool
 | .tup xs=>if xs.length=n then f xs else some false
 | .non=>some false
 | .int _=>some false
 | .bl _=>some false
 | .str _=>some false
 | _=>none
mutual
def ptIn:Pt→D→Option Bool
 | .cap _,_=>some true
 | .any,_=>some true
 | .val s,d=>eqD d (.str s)
 | .num k,d=>eqD d (.int k)
 | .vs ss,d=>valIn d ss
 | .orc ss _,d=>valIn d ss
 | .sub ps,d=>seqIn ps.length (ptsIn ps) d
def ptsIn:List Pt→List D→Option Bool
 | [],[]=>some true
 | p::ps,d::ds=>(ptIn p d).bind fun t=>if t then ptsIn ps ds else some false
 | _,_=>some false
end
mutual
@[simp] def ptBind1:Pt→D→Env→Env
 | .cap i,d,env=>env.set i (.val d)
 | .orc _ i,d,env=>env.set i (.val d)
 | .sub ps,.tup xs,env=>ptBind ps xs env
 | _,_,env=>env
def ptBind:List Pt→List D→Env→Env
 | p::ps,d::ds,env=>ptBind ps ds (ptBind1 p d env)
 | _,_,env=>env
end
def patIn:Pat→D→Option Bool
 | .any,_=>some true
 | .vals ss,d=>valIn d ss
 | .seq ps,.tup xs=>if xs.length=ps.length then ptsIn ps xs else some false
 | .seq _,.non=>some false
 | .seq _,.int _=>some false
 | .seq _,.bl _=>some false
 | .seq _,.str _=>some false
 | .seq _,_=>none
def patBind:Pat→D→Env→Env
 | .seq ps,.tup xs,env=>ptBind ps xs env
 | _,_,env=>env
def evS_try (q:Q)(f:Nat→List D→Env→St→Q):Q :=
 match q with
 | .exc c fs env st=>f c fs env st
 | q=>q
@[simp] theorem evS_try_next (env:Env) (st:St) (f):evS_try (.next env st) f=.next env st:=rfl
@[simp] theorem evS_try_ret (d:D) (st:St) (f):evS_try (.ret d st) f=.ret d st:=rfl
@[simp] theorem evS_try_exc (c:Nat) (fs:List D) (env:Env) (st:St) (f):evS_try (.exc c fs env st) f=f c fs env st:=rfl
@[simp] theorem evS_try_no (f):evS_try .no f=.no:=rfl
def Q.gone (i:Nat):Q→Q
 | .next env st=>.next (env.set i .un) st
 | .brk env st=>.brk (env.set i .un) st
 | .cnt env st=>.cnt (env.set i .un) st
 | .ret d st=>.ret d st
 | _=>.no
def Q.noX:Q→Q
 | .exc _ _ _ _=>.no
 | q=>q
@[simp] theorem Q.gone_ret (i:Nat) (d:D) (st:St):(Q.ret d st).gone i=.ret d st:=rfl
@[simp] theorem Q.gone_next (i:Nat) (env:Env) (st:St):(Q.next env st).gone i=.next (env.set i .un) st:=rfl
@[simp] theorem Q.noX_ret (d:D) (st:St):(Q.ret d st).noX=.ret d st:=rfl
@[simp] theorem Q.noX_next (env:Env) (st:St):(Q.next env st).noX=.next env st:=rfl
open Classical in
noncomputable def tryQ {ι:Type}[Inhabited ι](i:Nat)(f:ι→Q):Q:=if ∀ a,(f a).gone i=(f default).gone i then (f default).gone i else .no
theorem tryQ_of {ι:Type}[Inhabited ι]{i:Nat}{f:ι→Q}{q:Q}(h:∀ a,(f a).gone i=q):tryQ i f=q:=by
 unfold tryQ
 rw [if_pos fun a=>by rw [h a,h default]]
 exact h default
theorem tryQ_at {ι:Type}[Inhabited ι]{i:Nat}{f:ι→Q}(h:tryQ i f≠.no)(a:ι):(f a).gone i=tryQ i f:=by
 unfold tryQ at h ⊢
 by_cases z:∀ a,(f a).gone i=(f default).gone i
 ·rw [if_pos z];exact z a
 ·rw [if_neg z] at h;exact absurd rfl h
def E.disp:E→Bool
 | .lst _=>true
 | _=>false
def D.nolL:D→Bool
 | .lst xs=>D.nols xs
 | d=>d.nol
mutual
noncomputable def evS:Ctx→S→Env→St→Q
 | X,.asg o i e,env,st=>(evE X e env st).use env fun d st=>.next (env.set i (mk o d)) st
 | X,.asgs fz i e,env,st=>(R.thaw fz (evE X e (freeze env fz) st)).use env fun d st=>if d.nol then .next (env.set i (.val d)) st else .no
 | X,.par2 o1 o2 i j a b,env,st=>(evE X a env st).use env fun x st=>(evE X b env st).use env fun y st =>
   if i<env.length∧j<env.length∧i≠j then .next ((env.set i (mk o1 x)).set j (mk o2 y)) st else .no
 | X,.par3 o1 o2 o3 i j k a b c,env,st=>(evE X a env st).use env fun x st=>(evE X b env st).use env fun y st=>(evE X c env st).use env fun z st =>
   if i<env.length∧j<env.length∧k<env.length∧i≠j∧i≠k∧j≠k then .next (((env.set i (mk o1 x)).set j (mk o2 y)).set k (mk o3 z)) st else .no
 | X,.asgT2 o1 o2 i j a b,env,st=>(evE X a env st).use env fun x st=>(evE X b env st).use env fun y st =>
   if i<env.length∧j<env.length∧i≠j then .next ((env.set i (mk o1 x)).set j (mk o2 y)) st else .no
 | X,.asgT3 o1 o2 o3 i j k a b c,env,st=>(evE X a env st).use env fun x st=>(evE X b env st).use env fun y st=>(evE X c env st).use env fun z st =>
   if i<env.length∧j<env.length∧k<env.length∧i≠j∧i≠k∧j≠k then .next (((env.set i (mk o1 x)).set j (mk o2 y)).set k (mk o3 z)) st else .no
 | X,.asgT tg e,env,st=>(evE X e env st).use env fun d st=>Q.opt (putT tg d env) fun env=>.next env st
 | X,.frz is,env,st=>.next (freeze env is) st
 | X,.aug i e,env,st=>Q.opt (env.get i) fun x=>(evE X e env st).use env fun y st=>Q.opt (augD x y) fun d=>.next (env.set i (.val d)) st
 | _,.dnew i,env,st=>.next (env.set i (.dow [] [])) st
 | X,.dput i k e,env,st=>(evE X e env st).use env fun v st=>Q.opt (dowAt env i) fun kd=>(evE X k env st).use env fun kv st=>Q.opt kv.key fun k=>if kd.1.length<line then .next (env.set i (.dow (putKs k kd.1) (putVs k v kd.1 kd.2))) st else .no
 | X,.lput i k e,env,st=>(evE X e env st).use env fun v st=>Q.opt (ownAt env i) fun ds=>(evE X k env st).use env fun kv st=>Q.opt (putIx kv ds v) fun es=>.next (env.set i (.own es)) st
 | X,.app fz i e,env,st=>Q.opt (ownAt env i) fun ds=>(R.thaw fz (evE X e (freeze env fz) st)).use env fun d st=>if ds.length<line∧(fz=[]∨d.nol=true∨(e.disp=true∧d.nolL=true)) then .next (env.set i (.own (ds++[d]))) st else .no
 | X,.ext fz i e,env,st=>Q.opt (ownAt env i) fun ds=>(R.thaw fz (evE X e (freeze env fz) st)).use env fun d st=>Q.opt (lstAt fz d) fun xs=>if ds.length+xs.length≤line then .next (env.set i (.own (ds++xs))) st else .no
 | X,.exp e,env,st=>(evE X e env st).use env fun _ st=>.next env st
 | X,.ite fz c a b,env,st=>(R.thaw fz (evE X c (freeze env fz) st)).use env fun x st=>(R.lift x.truth st).use env fun t st=>if t then evSs X a env st else evSs X b env st
 | X,.whl fz c b,env,st=>whlL (whlTest (evE X c) fz) (evSs X b) turns env st
 | X,.for_ tg it b,env,st=>(evI X it env st).use env fun ds st=>forL (forStep (evSs X b) tg) ds env st
 | X,.ret e,env,st=>(evE X e env st).use env fun d st=>.ret d st
 | X,.retN,_,st=>.ret .non st
 | X,.pass,env,st=>.next env st
 | X,.brk,env,st=>.brk env st
 | X,.cnt,env,st=>.cnt env st
 | X,.mtch e cs,env,st=>(evE X e env st).use env fun d st=>evC X cs d env st
 | X,.never,_,_=>.no
 | X,.sPutB i e,env,st=>(evE X e env st).use env fun d st=>Q.opt (putB env i d st) fun st=>.next env st
 | X,.sPop i,env,st=>Q.opt (popB env i st) fun st=>.next env st
 | X,.sPutT i e,env,st=>(evE X e env st).use env fun d st=>Q.opt (putU env i d st) fun st=>.next env st
 | X,.retS e j,env,st=>(R.thaw [j] (evE X e (freeze env [j]) st)).use env fun d st=>Q.opt (mkS d (ownAt env j) st) fun st=>.ret (.ob 0 []) st
 | X,.retC f i e tg it own,env,st=>(evE X (.loc i) env st).use env fun x st=>((lcxR X e tg it own env st).bind fun ys st=>X.cal f [x,ys] st).use env fun d st=>.ret d st
 | _,.raise c,env,st=>.exc c [] env st
 | X,.raiseF c ns es,env,st=>(evEs X es env st).use env fun ds st=>.exc c (.tup (ns.map .str)::ds) env st
 | X,.tryA cs i b h,env,st=>(evS_try (evSs X b env st)) fun c fs env st=>if cs.contains c then (match fs with
   | []=>tryQ i fun a:Nat=>evSs { X with er:=some (c,a,0,[]) } h (env.set i (.val (.ob 2 [.int a]))) st
   | nd::vs=>(match namesD nd with
    | some ns=>tryQ i fun a:Nat × Nat=>evSs { X with er:=some (c,a.1,a.2,ns) } h (env.set i (.val (.ob 2 (.int a.1::.int a.2::nd::vs)))) st
    | none=>.no)) else .exc c fs env st
 | X,.tryO cs b h,env,st=>(evS_try (evSs X b env st)) fun c fs env st=>if cs.contains c then (evSs { X with er:=none } h env st).noX else .exc c fs env st
noncomputable def evSs:Ctx→Ss→Env→St→Q
 | X,.nil,env,st=>.next env st
 | X,.cons s r,env,st=>(evS X s env st).then (evSs X r)
noncomputable def evC:Ctx→Cs→D→Env→St→Q
 | X,.nil,_,env,st=>.next env st
 | X,.cons p b r,d,env,st=>Q.opt (patIn p d) fun t=>if t then evSs X b (patBind p d env) st else evC X r d env st
end
inductive Fn where
 | fn (ps ns:Nat) (body:Ss)
 | prim (f:List D→St→R D)
structure Prog where
 fns:Nat→Option Fn
 gl:Nat→Option D
 shown:D→List Nat
 er:Option (Nat × Nat × Nat × List (List Nat)):=none
def outR:Q→R D
 | .ret d st=>.ok d st
 | .next _ st=>.ok .non st
 | .exc c fs _ st=>.exc c fs st
 | _=>.no
@[simp] theorem outR_ret (d:D) (st:St):outR (.ret d st)=.ok d st:=rfl
@[simp] theorem outR_next (env:Env) (st:St):outR (.next env st)=.ok .non st:=rfl
@[simp] theorem outR_no:outR .no=.no:=rfl
def entry (ns:Nat)(ds:List D):Env:=ds.map .val++List.replicate (ns-ds.length) .un
noncomputable def run (P:Prog):Nat→Nat→List D→St→R D
 | 0,_,_,_=>.no
 | k+1,f,ds,st=>match P.fns f with
  | none=>.no
  | some (.prim g)=>g ds st
  | some (.fn ps ns b)=>if ds.length=ps then outR (evSs ⟨P.gl,P.shown,run P k,none⟩ b (entry ns ds) st) else .no
noncomputable abbrev Prog.cx (P:Prog)(k:Nat):Ctx:=⟨P.gl,P.shown,run P k,none⟩
noncomputable abbrev Prog.cxe (P:Prog)(k:Nat):Ctx:=⟨P.gl,P.shown,run P k,P.er⟩
theorem run_er (P:Prog)(e:Option (Nat × Nat × Nat × List (List Nat))):∀ k,run { P with er:=e } k=run P k
 | 0=>by funext f ds st;rfl
 | k+1=>by
  funext f ds st
  unfold run
  rw [run_er P e k]
end PL
end
section
namespace PL
open PySem
def kPy:K0→PyData
 | .i n=>.int n
 | .s x=>.str ⟨x.toArray⟩
mutual
def toPy:D→PyData
 | .non=>.none
 | .bl b=>.bool b
 | .int i=>.int i
 | .str s=>.str ⟨s.toArray⟩
 | .tup xs=>.tuple (toPys xs)
 | .lst xs=>.list (toPys xs)
 | .dct ks vs=>.dict ((ks.map kPy).zip (toPys vs))
 | .ob _ _=>.none
def toPys:List D→List PyData
 | []=>[]
 | x::r=>toPy x::toPys r
end
def shownD (d:D):List Nat:=(toPy d).shown.cps.toList
structure XT where
 cls:List (Nat × Str × List Str)
 nms:List Str
 fld:List (Nat × List Str)
def XT.says (T:XT)(cs:List Nat)(xs:List Str):Bool:=xs.all T.nms.contains&&T.cls.all fun c=>cs.contains c.1==xs.any c.2.2.contains
def nameOf:Expr→Option Str
 | .Name x _=>some x
 | _=>none
structure SC where
 sc:Scope
 st:Str→Bool
 N:List Str
 fname:Nat→Option Str
 gname:Nat→Option Str
 xt:XT
 cal:Bool
def hotB:Bi→Bool
 | .len=>true|.abs=>true|.int=>true|.bool=>true|.repr=>true|.str=>true|_=>false
def Es.isNil:Es→Bool
 | .nil=>true
 | _=>false
def okName (x : Str) : Bool := !(x == ("__debug__" : Str)) && (!(x == ("__classdict__" : Str)) && !(x == ("__name__" : Str)))
def isLoc (sc:Scope)(x:Str):Bool:=match sc.names.lookup x with|some .local=>true|some .cell=>true|_=>false
def visB (sc:Scope)(x:Str):Bool:=match sc.names.lookup x with|some .local=>true|some .cell=>true|some .free=>true|_=>false
def globB (sc:Scope)(x:Str):Bool:=match sc.names.lookup x with|some .globalImplicit=>okName x|_=>false
def isStar:Expr→Bool
 | .Starred _ _=>true
 | _=>false
def isSlice:Expr→Bool
 | .Slice _ _ _ _=>true
 | _=>false
def isLC:Expr→Bool
 | .ListComp _ _ _ _=>true
 | .SetComp _ _ _ _=>true
 | .DictComp _ _ _ _ _=>true
 | _=>false
def bopOf:Bop→Operator
 | .add=>.Add|.sub=>.Sub|.mul=>.Mult|.div=>.FloorDiv|.mod=>.Mod|.pow=>.Pow|.shl=>.LShift
def copOf:Cop→CmpOp
 | .eq=>.Eq|.ne=>.NotEq|.lt=>.Lt|.le=>.LtE|.gt=>.Gt|.ge=>.GtE|.inn=>.In|.nin=>.NotIn
def biName:Bi→Str
 | .len => "len" | .abs => "abs" | .max2 => "max" | .min2 => "min" | .maxL => "max" | .minL => "min" | .sum => "sum"
 | .int => "int" | .bool => "bool" | .repr => "repr" | .sorted => "sorted" | .any => "any" | .all => "all" | .divmod => "divmod" | .str => "str"
def bltNames : List Str := ["len", "abs", "max", "min", "sum", "int", "bool", "repr", "sorted", "any", "all", "divmod", "isinstance", "str", "tuple", "list", "dict", "range", "enumerate", "zip", "set"]
def ownN (N:List Str):List Nat→List (Str × Nat)
 | []=>[]
 | i::r=>match N[i]? with
  | some x=>(x,i)::ownN N r
  | none=>ownN N r
def SC.blk (C:SC)(scope:Scope):SC:={ C with sc:=L2.relS scope C.sc,st:=fun x=>isLoc scope x }
mutual
/-- the slots that a target stores to -/
def tgIn (own:List Nat):Tg→Bool
 | .nm i=>own.contains i
 | .tp ts=>tgsIn own ts
def tgsIn (own:List Nat):Tgs→Bool
 | .nil=>true
 | .cons t r=>tgIn own t&&tgsIn own r
end
def itOk:It→Expr→Bool
 | .enm _ _,.Tuple _ _ _=>true
 | .enm _ _,_=>false
 | .zp _ _,.Tuple _ _ _=>true
 | .zp _ _,_=>false
 | .zp3 _ _ _,.Tuple _ _ _=>true
 | .zp3 _ _ _,_=>false
 | .enmz _ _ _,.Tuple _ _ _=>true
 | .enmz _ _ _,_=>false
 | _,_=>true
mutual
def chkT (C:SC):Tg→Expr→Bool
 | .nm i,.Name x _=>decide (C.N[i]?=some x)&&C.st x
 | .tp ts,.Tuple es _ _=>C.cal&&chkTs C ts es
 | _,_=>false
def chkTs (C:SC):Tgs→List Expr→Bool
 | .nil,[]=>true
 | .cons t r,e::es=>chkT C t e&&chkTs C r es
 | _,_=>false
end
mutual
def chkE (C:SC):E→Expr→Bool
 | .loc i,.Name x _=>okName x&&visB C.sc x&&decide (C.N[i]?=some x)
 | .cst .non,.Constant .none _ _=>true
 | .cst (.bl b),.Constant (.bool c) _ _=>b==c
 | .cst (.int i),.Constant (.int j) _ _=>i==j
 | .cst (.str s),.Constant (.str x) _ _=>decide (x.cps.toList=s)
 | .glb g,.Name x _=>globB C.sc x&&decide (C.gname g=some x)
 | .bin o a b,.BinOp p op q _=>decide (op=bopOf o)&&(chkE C a p&&chkE C b q)
 | .neg a,.UnaryOp .USub p _=>chkE C a p
 | .cmp o a b,.Compare p [op] [q] _=>decide (op=copOf o)&&(!behindInMarks op q&&(chkE C a p&&chkE C b q))
 | .isn a,.Compare p [.Is] [.Constant .none _ _] _=>chkE C a p
 | .isnn a,.Compare p [.IsNot] [.Constant .none _ _] _=>chkE C a p
 | .and a b,.BoolOp .And (p::q::r) pos=>chkE C a p&&chkE C b (match r with|[]=>q|_::_=>.BoolOp .And (q::r) pos)
 | .or a b,.BoolOp .Or (p::q::r) pos=>chkE C a p&&chkE C b (match r with|[]=>q|_::_=>.BoolOp .Or (q::r) pos)
 | .not a,.UnaryOp .Not p _=>chkE C a p
 | .ifx c a b,.IfExp t p q _=>chkE C c t&&(chkE C a p&&chkE C b q)
 | .call f es,.Call (.Name x _) [] [] _=>C.cal&&(globB C.sc x&&(decide (C.fname f=some x)&&es.isNil))
 | .call f es,.Call (.Name x _) (p::ps) [] _=>C.cal&&(globB C.sc x&&(decide (C.fname f=some x)&&(!isStar p&&(ps.all (fun p=>!isStar p)&&chkEs C es (p::ps)))))
 | .bi b es,.Call (.Name x _) (p::ps) [] _=>(C.cal || hotB b)&&(globB C.sc x&&(decide (x=biName b)&&(!isStar p&&(ps.all (fun p=>!isStar p)&&chkEs C es (p::ps)))))
 | .tup es,.Tuple ps _ _=>chkEs C es ps
 | .lst es,.List ps _=>chkEs C es ps
 | .sub a i,.Subscript p q _=>!isSlice q&&(chkE C a p&&chkE C i q)
 | .slc a lo hi,.Subscript p (.Slice l h none _) _=>chkE C a p&&(chkO C lo l&&chkO C hi h)
 | .tof a, .Call (.Name x _) [p] [] _ => globB C.sc x && (decide (x = "tuple") && (!isStar p && chkE C a p))
 | .isE (.loc i) cs, .Call (.Name x _) [p, .Name y _] [] _ => !C.cal && (globB C.sc x && (globB C.sc y && (decide (x = "isinstance") && (C.xt.says cs [y] && (!isStar p && chkE C (.loc i) p)))))
 | .isE (.loc i) cs, .Call (.Name x _) [p, .Tuple es _ _] [] _ => !C.cal && (globB C.sc x && (decide (x = "isinstance") && ((decide (es.length ≤ 15) && es.all (fun e => (nameOf e).any (globB C.sc))) && (C.xt.says cs (es.filterMap nameOf) && (!isStar p && chkE C (.loc i) p)))))
 | .sst a, .Call (.Name x _) [.Call (.Name y _) [p] [] _] [] _ => C.cal && (globB C.sc x && (globB C.sc y && (decide (x = "sorted") && (decide (y = "set") && (!isStar p && chkE C a p)))))
 | .sHas i,.Compare (.Subscript (.Name x _) (.Constant (.int k) _ _) _) [.NotEq] [.List [] _] _=>decide (k=0)&&(okName x&&(visB C.sc x&&decide (C.N[i]?=some x)))
 | .sBig i,.Subscript (.Subscript (.Name x _) (.Constant (.int k) _ _) _) (.Constant (.int l) _ _) _=>decide (k=0)&&(decide (l=0)&&(okName x&&(visB C.sc x&&decide (C.N[i]?=some x))))
 | .sTurn i,.Subscript (.Name x _) (.Constant (.int k) _ _) _=>decide (k=2)&&(okName x&&(visB C.sc x&&decide (C.N[i]?=some x)))
 | .sCell i j,.Subscript (.Subscript (.Name x _) (.Constant (.int k) _ _) _) (.BinOp (.Name y _) .Mod (.Call (.Name z _) [.Subscript (.Name x2 _) (.Constant (.int k2) _ _) _] [] _) _) _=>decide (k=1)&&(decide (k2=1)&&(decide (x2=x)&&(okName x&&(visB C.sc x&&(decide (C.N[i]?=some x) &&
   (okName y && (visB C.sc y && (decide (C.N[j]? = some y) && (globB C.sc z && decide (z = "len"))))))))))
 | .lc e tg it c own,.ListComp pe [⟨ptg,pit,ifs,asy⟩] scope _ =>
  C.cal&&(decide (asy=0)&&(decide (own.length=(ownN C.N own).length)&&(L2.blkC C.N C.sc scope (ownN C.N own)&&(itOk it ptg&&(tgIn own tg&&(chkI C it pit&&(chkT (C.blk scope) tg ptg &&
   (chkE (C.blk scope) e pe&&(match c,ifs with|.no,[]=>true|.so c,[p]=>chkE (C.blk scope) c p|_,_=>false)))))))))
 | .dc k v tg it c own,p=>match p with
  | .DictComp pk pv [⟨ptg,pit,ifs,asy⟩] scope _ =>
   C.cal&&(decide (asy=0)&&(decide (own.length=(ownN C.N own).length)&&(L2.blkC C.N C.sc scope (ownN C.N own)&&(itOk it ptg&&(tgIn own tg&&(chkI C it pit&&(chkT (C.blk scope) tg ptg &&
    (chkE (C.blk scope) k pk&&(chkE (C.blk scope) v pv&&(match c,ifs with|.no,[]=>true|.so c,[p]=>chkE (C.blk scope) c p|_,_=>false))))))))))
  | _=>false
 | .dc2 k v tg it tg1 it1 own own1,p=>match p with
  | .DictComp pk pv [⟨ptg,pit,[],asy⟩,⟨ptg1,pit1,[],asy1⟩] scope _ =>
   C.cal&&(decide (asy=0)&&(decide (asy1=0)&&(decide (own.length=(ownN C.N own).length)&&(L2.blkC C.N C.sc scope (ownN C.N own)&&(own1.all (fun i=>own.contains i)&&(itOk it ptg&&(tgIn own tg&&(tgIn own1 tg1&&(chkI C it pit&&(chkT (C.blk scope) tg ptg &&
    (itOk it1 ptg1&&(chkI (C.blk scope) it1 pit1&&(chkT (C.blk scope) tg1 ptg1&&(chkE (C.blk scope) k pk&&chkE (C.blk scope) v pv))))))))))))))
  | _=>false
 | .lc2 e tg it tg1 it1 own own1,.ListComp pe [⟨ptg,pit,[],asy⟩,⟨ptg1,pit1,[],asy1⟩] scope _ =>
  C.cal&&(decide (asy=0)&&(decide (asy1=0)&&(decide (own.length=(ownN C.N own).length)&&(L2.blkC C.N C.sc scope (ownN C.N own)&&(own1.all (fun i=>own.contains i)&&(itOk it ptg&&(tgIn own tg&&(tgIn own1 tg1&&(chkI C it pit&&(chkT (C.blk scope) tg ptg &&
   (itOk it1 ptg1&&(chkI (C.blk scope) it1 pit1&&(chkT (C.blk scope) tg1 ptg1&&chkE (C.blk scope) e pe)))))))))))))
 | _,_=>false
def chkEs (C:SC):Es→List Expr→Bool
 | .nil,[]=>true
 | .cons e r,p::ps=>!isStar p&&(chkE C e p&&chkEs C r ps)
 | .star e r,.Starred p _::ps=>chkE C e p&&chkEs C r ps
 | _,_=>false
def chkO (C:SC):Eo→Option Expr→Bool
 | .no,none=>true
 | .so e,some p=>chkE C e p
 | _,_=>false
def chkI (C:SC):It→Expr→Bool
 | .seq e,p=>(match p with|.Set _ _ _=>false|_=>true)&&chkE C e p
 | .rng1 a, .Call (.Name x _) [p] [] _ => globB C.sc x && (decide (x = "range") && (!isStar p && chkE C a p))
 | .rng2 a b, .Call (.Name x _) [p, q] [] _ => globB C.sc x && (decide (x = "range") && (!isStar p && (!isStar q && (chkE C a p && chkE C b q))))
 | _,_=>false
end
def swapC (sc:Scope)(targets:List Expr)(value:Expr):Option (Option (List Str)) :=
 match (match targets,value with
  | [.Tuple ts _ _],.Tuple vs _ _=>some (ts,vs)
  | [.List ts _],.Tuple vs _ _=>some (ts,vs)
  | _,_=>none) with
 | none=>some none
 | some (ts,vs) =>
  if !(ts.length==2 || ts.length==3) || vs.length != ts.length then some none
  else if vs.any (fun|.Starred ..=>true|_=>false) then some none
  else
   let line:=(ts.head?.map (·.pos.line)).getD 0
   let names:=ts.filterMap fun
    | .Name id pos=>if sc.names.lookup id==some .local&&pos.line==line then some id else none
    | _=>none
   if names.length != ts.length || names.eraseDups.length != names.length then some none
   else if vs.all (foldedForSure 8) then some none
   else if vs.all (constantsAlone 8) then none
   else some (some names)
def chkVals:List (List Nat)→List Pattern→Bool
 | [],[]=>true
 | s::r,.MatchValue (.Constant (.str x) _ _) _::ps=>decide (x.cps.toList=s)&&chkVals r ps
 | _,_=>false
mutual
def chkPt (C:SC):Pt→Pattern→Bool
 | .cap i,.MatchAs none (some x) _=>decide (C.N[i]?=some x)&&C.st x
 | .any,.MatchAs none none _=>true
 | .val s,.MatchValue (.Constant (.str x) _ _) _=>decide (x.cps.toList=s)
 | .num k,.MatchValue (.Constant (.int z) _ _) _=>decide (z=k)
 | .vs ss,.MatchOr pps _=>chkVals ss pps
 | .orc ss i,.MatchAs (some (.MatchOr pps _)) (some x) _=>(decide (C.N[i]?=some x)&&C.st x)&&chkVals ss pps
 | .sub ps,.MatchSequence pps _=>chkPts C ps pps&&!(pps.all fun p=>p.isWildcard || (p.isStar&&p.names.isEmpty))
 | _,_=>false
def chkPts (C:SC):List Pt→List Pattern→Bool
 | [],[]=>true
 | p::r,q::s=>chkPt C p q&&chkPts C r s
 | _,_=>false
end
def chkP (C:SC):Pat→Pattern→Bool
 | .any,.MatchAs none none _=>true
 | .vals [s],.MatchValue (.Constant (.str x) _ _) _=>decide (x.cps.toList=s)
 | .vals ss,.MatchOr ps _=>chkVals ss ps
 | .seq ps,.MatchSequence pps _=>chkPts C ps pps&&!(pps.all fun p=>p.isWildcard || (p.isStar&&p.names.isEmpty))
 | _,_=>false
def fresh:E→Bool
 | .lst _=>true
 | .lc _ _ _ _ _=>true
 | .lc2 _ _ _ _ _ _ _=>true
 | .lof _=>true
 | .lsq _=>true
 | .zl _ _=>true
 | .zls _=>true
 | .cat _ _=>true
 | _=>false
def lcSwap (sc:Scope)(x:Str)(px:Pos):Expr→Bool
 | .ListComp _ _ scope pos=>(sc.names.lookup x==some .local)&&((px.line==pos.line)&&!(scope.names.any fun (n,k)=>n==x&&(k==.local || k==.cell)))
 | .DictComp _ _ _ scope pos=>(sc.names.lookup x==some .local)&&((px.line==pos.line)&&!(scope.names.any fun (n,k)=>n==x&&(k==.local || k==.cell)))
 | _=>false
def locB (sc:Scope)(x:Str):Bool:=decide (sc.names.lookup x=some .local)
mutual
def chkS:SC→S→Stmt→Bool
 | C,.asg o i e,.Assign [.Name x p] pe _=>(!o || fresh e)&&(decide (C.N[i]?=some x)&&(C.st x&&chkE C e pe))
 | C,.par2 o1 o2 i j a b,.Assign [.Tuple [.Name x px,.Name y py] k p] (.Tuple [pa,pb] k2 p2) _=>C.cal&&(((!o1 || fresh a)&&(!o2 || fresh b))&&((decide (C.N[i]?=some x)&&(decide (C.N[j]?=some y)&&decide (i≠j)))&&((locB C.sc x&&locB C.sc y) &&
   (decide (swapC C.sc [.Tuple [.Name x px,.Name y py] k p] (.Tuple [pa,pb] k2 p2)=some (some [x,y]))&&((!isStar pa&&!isStar pb)&&(chkE C a pa&&chkE C b pb))))))
 | C,.asgT2 o1 o2 i j a b,.Assign [.Tuple [.Name x px,.Name y py] k p] (.Tuple [pa,pb] k2 p2) _=>C.cal&&(((!o1 || fresh a)&&(!o2 || fresh b))&&((decide (C.N[i]?=some x)&&(decide (C.N[j]?=some y)&&decide (i≠j)))&&((C.st x&&C.st y) &&
   (decide (swapC C.sc [.Tuple [.Name x px,.Name y py] k p] (.Tuple [pa,pb] k2 p2)=some none)&&((!isStar pa&&!isStar pb)&&(chkE C a pa&&chkE C b pb))))))
 | C,.asgT tg e,.Assign [.Tuple ts k p] pe _=>decide (swapC C.sc [.Tuple ts k p] pe=some none)&&(chkT C tg (.Tuple ts k p)&&chkE C e pe)
 | C, .app _ i e, .Expr (.Call (.Attribute (.Name x _) m apos) [pe] [] cpos) _ => decide (m = "append") && (apos.endLine == cpos.line && (okName x && (visB C.sc x && (decide (C.N[i]? = some x) && (!isStar pe && chkE C e pe)))))
 | C,.exp e,.Expr pe _=>!isLC pe&&chkE C e pe
 | C,.ite _ c a b,.If pc pa pb _=>chkE C c pc&&(chkSs C a pa&&chkSs C b pb)
 | C,.whl _ c b,.While pc pb [] _=>C.cal&&(chkE C c pc&&chkSs C b pb)
 | C,.for_ tg it b,.For pt pi pb [] _=>C.cal&&(itOk it pt&&(chkT C tg pt&&(chkI C it pi&&chkSs C b pb)))
 | C,.ret e,.Return (some pe) _=>chkE C e pe
 | C,.sPutB i e,.Assign [.Subscript (.Subscript (.Name x _) (.Constant (.int k) _ _) _) (.Constant (.int l) _ _) _] pe _=>decide (k=0)&&(decide (l=0)&&(okName x&&(visB C.sc x&&(decide (C.N[i]?=some x)&&(!isLC pe&&chkE C e pe)))))
 | C, .sPop i, .Expr (.Call (.Attribute (.Subscript (.Name x _) (.Constant (.int k) _ _) _) m apos) [.Constant (.int l) _ _] [] cpos) _ => decide (k = 0) && (decide (l = 0) && (decide (m = "pop") && (apos.endLine == cpos.line && (okName x && (visB C.sc x && decide (C.N[i]? = some x))))))
 | C,.sPutT i e,.Assign [.Subscript (.Name x _) (.Constant (.int k) _ _) _] pe _=>decide (k=2)&&(okName x&&(visB C.sc x&&(decide (C.N[i]?=some x)&&(!isLC pe&&chkE C e pe))))
 | C,.retS e j,.Return (some (.List [pe,.IfExp (.Compare (.Name x _) [.NotEq] [.List [] _] _) (.Name y _) (.List [.Constant (.int k) _ _] _) _,.Constant (.int l) _ _] _)) _=>decide (k=47)&&(decide (l=0)&&(decide (x=y)&&(okName x&&(visB C.sc x&&(decide (C.N[j]?=some x)&&(fresh e&&(!isStar pe&&chkE C e pe)))))))
 | C,.raise c,.Raise (some (.Call (.Name x _) [] [] _)) none _=>C.cal&&(globB C.sc x&&(decide ((C.xt.cls.lookup c).map (·.1)=some x)&&(C.xt.fld.lookup c).isNone))
 | C,.tryA cs i b h,.Try pb [.ExceptHandler (some (.Name x _)) (some n) (p0::ph) _] [] [] _=>C.cal&&(globB C.sc x&&(decide (C.N[i]?=some n)&&(locB C.sc n&&(C.xt.says cs [x]&&(chkSs C b pb&&chkSs { C with cal:=false } h (p0::ph))))))
 | _,_,_=>false
def chkSs:SC→Ss→List Stmt→Bool
 | C,.nil,[]=>true
 | C,.cons (.frz _) r,ps=>chkSs C r ps
 | C,.cons s r,p::ps=>chkS C s p&&chkSs C r ps
 | _,_,_=>false
def chkC:SC→Cs→List MatchCase→Bool
 | C,.nil,[]=>true
 | C,.cons p b r,⟨pp,none,pb⟩::pr=>chkP C p pp&&(chkSs C b pb&&chkC C r pr)
 | _,_,_=>false
end
def fnSC (fname gname:Nat→Option Str)(xt:XT)(sc:Scope)(N:List Str):SC:=⟨sc,isLoc sc,N,fname,gname,xt,true⟩
def scopeOk (N ps:List Str)(sc:Scope):Bool :=
 (match sc.kind with|.function=>true|_=>false)&&(!sc.isCoroutine&&(!sc.isGenerator&&(decide N.Nodup&&(decide (N.take ps.length=ps)&&(ps.all (isLoc sc)&&(N.all okName&&sc.names.all fun y=>match y.2 with|.free=>false|_=>true))))))
def chkFn (fname gname:Nat→Option Str)(xt:XT)(N ps:List Str)(b:Ss)(st:Stmt):Bool :=
 scopeOk N ps (L2.defScope st)&&chkSs (fnSC fname gname xt (L2.defScope st) N) b (L2.defBody st)
end PL
end
section
namespace PL
open PySem PySem.Spec PyProof.Rows L2
structure Foot where
 at_:Option Addr
 inn:Addr→Prop
def kOf:K0→Key
 | .i n=>.inl n
 | .s x=>.inr ⟨x.toArray⟩
mutual
inductive Rep (K:PySem.W.Frag) (w:World) (F:Foot) (B:Addr→Prop) (H:Hp):V→D→Prop
 | non:Rep K w F B H .non .non
 | bl (b:Bool):Rep K w F B H (.bl b) (.bl b)
 | int (i:Int):Rep K w F B H (.int i) (.int i)
 | str (x:Str) (s:List Nat) (e:x.cps.toList=s):Rep K w F B H (.str x) (.str s)
 | tup {a:Addr} {xs:List V} {ds:List D} (h:H a=some (.tup xs)) (f:¬ F.inn a) (b:¬ B a) (r:RepL K w F B H xs ds):Rep K w F B H (.ref a) (.tup ds)
 | lst {a:Addr} {xs:List V} {ds:List D} (h:H a=some (.lst xs)) (f:¬ F.inn a) (b:¬ B a) (r:RepL K w F B H xs ds):Rep K w F B H (.ref a) (.lst ds)
 | dct {a:Addr} {kvs:List (Key × V)} {ks:List K0} {ds:List D} (h:H a=some (.dK kvs)) (f:¬ F.inn a) (b:¬ B a) (e:kvs.map (·.1)=ks.map kOf) (r:RepL K w F B H (kvs.map (·.2)) ds):Rep K w F B H (.ref a) (.dct ks ds)
 | tupW {a : Addr} {xs : List V} {ds : List D} {o : Obj} {its : Array Value} {n : Nat} (l : K.lookup a = some o) (c : o.cls = .type "tuple") (d : o.data = .seq its n) (z : its.size ≤ sizeLine) (v : Vals xs its.toList) (r : RepL K w F B H xs ds) : Rep K w F B H (.ref a) (.tup ds)
 | dctW {a:Addr} {es:Array DictEntry} {n:Nat} {ks:List K0} {xs:List V} {ds:List D} (kd:KDict K w a es n) (hs:ks.any K0.isS=true) (hl:ks.length=xs.length)
   (g:∀ z:Str,∃ r,PySem.W.nsIn K a z=some r∧match findK (.s z.cps.toList) ks xs with|some v=>∃ u,r=some u∧RelV v u|none=>r=none) (r:RepL K w F B H xs ds) (h2:2≤ks.length):Rep K w F B H (.ref a) (.dct ks ds)
 | ob0 {a:Addr} (h:F.at_=some a):Rep K w F B H (.ref a) (.ob 0 [])
 | ob1 {a:Addr} {o:Obj} (l:List Int) (h:H a=some (.frz o (.lst (l.map V.int)))) (f:¬ F.inn a) (b:¬ B a):Rep K w F B H (.ref a) (.ob 1 (l.map D.int))
 | ob1W {a:Addr} (l:List Int) (h:SqL K (fun _=>none) a (l.map V.int)):Rep K w F B H (.ref a) (.ob 1 (l.map D.int))
 | err {a:Addr}:Rep K w F B H (.ref a) (.ob 2 [.int (a:Nat)])
 | errF {a d:Addr} {kvs:List (Str × V)} {ns:List (List Nat)} {ds:List D} (h:H d=some (.xd kvs)) (f:¬ F.inn d) (b:¬ B d) (e:kvs.map (fun p=>p.1.cps.toList)=ns.reverse) (r:RepL K w F B H (kvs.map (·.2)).reverse ds):Rep K w F B H (.ref a) (.ob 2 (.int (a:Nat)::.int (d:Nat)::.tup (ns.map .str)::ds))
inductive RepL (K:PySem.W.Frag) (w:World) (F:Foot) (B:Addr→Prop) (H:Hp):List V→List D→Prop
 | nil:RepL K w F B H [] []
 | cons {v:V} {d:D} {vs:List V} {ds:List D} (r:Rep K w F B H v d) (t:RepL K w F B H vs ds):RepL K w F B H (v::vs) (d::ds)
end
def XdR (K:PySem.W.Frag)(w:World)(F:Foot)(B:Addr→Prop)(H:Hp)(d:Addr)(ns:List (List Nat))(ds:List D):Prop :=
 ∃ kvs:List (Str × V),H d=some (.xd kvs)∧¬ F.inn d∧¬ B d∧kvs.map (fun p=>p.1.cps.toList)=ns.reverse∧RepL K w F B H (kvs.map (·.2)).reverse ds
section
variable {K:PySem.W.Frag}{w:World}{F F':Foot}{B B':Addr→Prop}{H H':Hp}
mutual
theorem Rep.move (m:∀ a,¬ F.inn a→¬ B a→H a≠none→H' a=H a∧¬ F'.inn a∧¬ B' a)(mt:∀ a,F.at_=some a→F'.at_=some a):∀ {v:V} {d:D},Rep K w F B H v d→Rep K w F' B' H' v d
 | _,_,.non=>.non
 | _,_,.bl b=>.bl b
 | _,_,.int i=>.int i
 | _,_,.str x s e=>.str x s e
 | _,_,.tup (a:=a) h f b r=>by
  have q:=m a f b (by rw [h];simp)
  exact .tup (by rw [q.1];exact h) q.2.1 q.2.2 (RepL.move m mt r)
 | _,_,.lst (a:=a) h f b r=>by
  have q:=m a f b (by rw [h];simp)
  exact .lst (by rw [q.1];exact h) q.2.1 q.2.2 (RepL.move m mt r)
 | _,_,.dct (a:=a) h f b e r=>by
  have q:=m a f b (by rw [h];simp)
  exact .dct (by rw [q.1];exact h) q.2.1 q.2.2 e (RepL.move m mt r)
 | _,_,.tupW l c d z v r=>.tupW l c d z v (RepL.move m mt r)
 | _,_,.dctW kd hs hl g r h2=>.dctW kd hs hl g (RepL.move m mt r) h2
 | _,_,.ob0 h=>.ob0 (mt _ h)
 | _,_,.ob1 (a:=a) l h f b=>by
  have q:=m a f b (by rw [h];simp)
  exact .ob1 l (by rw [q.1];exact h) q.2.1 q.2.2
 | _,_,.ob1W l h=>.ob1W l h
 | _,_,.err=>.err
 | _,_,.errF (d:=d) h f b e r=>by
  have q:=m d f b (by rw [h];simp)
  exact .errF (by rw [q.1];exact h) q.2.1 q.2.2 e (RepL.move m mt r)
theorem RepL.move (m:∀ a,¬ F.inn a→¬ B a→H a≠none→H' a=H a∧¬ F'.inn a∧¬ B' a)(mt:∀ a,F.at_=some a→F'.at_=some a):∀ {vs:List V} {ds:List D},RepL K w F B H vs ds→RepL K w F' B' H' vs ds
 | _,_,.nil=>.nil
 | _,_,.cons r t=>.cons (Rep.move m mt r) (RepL.move m mt t)
end
theorem Rep.anti (r:Rep K w F B H v d)(h:∀ a,B' a→B a):Rep K w F B' H v d:=r.move (fun a f b _=>⟨rfl,f,fun z=>b (h a z)⟩) fun _ e=>e
theorem RepL.anti (r:RepL K w F B H vs ds)(h:∀ a,B' a→B a):RepL K w F B' H vs ds:=r.move (fun a f b _=>⟨rfl,f,fun z=>b (h a z)⟩) fun _ e=>e
theorem XdR.anti {d:Addr}{ns:List (List Nat)}{ds:List D}(r:XdR K w F B H d ns ds)(h:∀ a,B' a→B a):XdR K w F B' H d ns ds:=by
 obtain ⟨kvs,h1,h2,h3,h4,h5⟩:=r
 exact ⟨kvs,h1,h2,fun z=>h3 (h d z),h4,h5.anti h⟩
theorem XdR.rep {a d:Addr}{ns:List (List Nat)}{ds:List D}(r:XdR K w F B H d ns ds):Rep K w F B H (.ref a) (.ob 2 (.int (a:Nat)::.int (d:Nat)::.tup (ns.map .str)::ds)):=by
 obtain ⟨kvs,h1,h2,h3,h4,h5⟩:=r
 exact .errF h1 h2 h3 h4 h5
theorem RepL.length:∀ {vs:List V} {ds:List D},RepL K w F B H vs ds→vs.length=ds.length
 | _,_,.nil=>rfl
 | _,_,.cons _ t=>by rw [List.length_cons,List.length_cons,t.length]
theorem RepL.append:∀ {vs us:List V} {ds es:List D},RepL K w F B H vs ds→RepL K w F B H us es→RepL K w F B H (vs++us) (ds++es)
 | _,_,_,_,.nil,s=>s
 | _,_,_,_,.cons r t,s=>.cons r (t.append s)
theorem RepL.get:∀ {vs:List V} {ds:List D} {i:Nat} {d:D},RepL K w F B H vs ds→ds[i]?=some d→∃ v,vs[i]?=some v∧Rep K w F B H v d
 | _,_,_,_,.nil,e=>by simp at e
 | _,_,0,_,.cons r _,e=>by simp at e;subst e;exact ⟨_,rfl,r⟩
 | _,_,i+1,_,.cons _ t,e=>by
  obtain ⟨v,h1,h2⟩:=RepL.get (i:=i) t (by simpa using e)
  exact ⟨v,by simpa using h1,h2⟩
theorem RepL.take:∀ (n:Nat) {vs:List V} {ds:List D},RepL K w F B H vs ds→RepL K w F B H (vs.take n) (ds.take n)
 | 0,_,_,_=>.nil
 | _+1,_,_,.nil=>.nil
 | n+1,_,_,.cons r t=>.cons r (RepL.take n t)
theorem RepL.drop:∀ (n:Nat) {vs:List V} {ds:List D},RepL K w F B H vs ds→RepL K w F B H (vs.drop n) (ds.drop n)
 | 0,_,_,r=>r
 | _+1,_,_,.nil=>.nil
 | n+1,_,_,.cons _ t=>RepL.drop n t
theorem RepL.ints:∀ {vs:List V} {ds:List D} {l:List Int},RepL K w F B H vs ds→D.ints ds=some l→vs=l.map V.int
 | _,_,_,.nil,e=>by simp [D.ints] at e;subst e;rfl
 | _,_,l,.cons (d:=d) r t,e=>by
  cases r with
  | int i =>
   simp only [D.ints,Option.map_eq_some_iff] at e
   obtain ⟨l',e1,rfl⟩:=e
   rw [RepL.ints t e1];rfl
  | _=>simp [D.ints] at e
theorem RepL.bools:∀ {vs:List V} {ds:List D} {l:List Bool},RepL K w F B H vs ds→D.bools ds=some l→vs=l.map V.bl
 | _,_,_,.nil,e=>by simp [D.bools] at e;subst e;rfl
 | _,_,l,.cons (d:=d) r t,e=>by
  cases r with
  | bl i =>
   simp only [D.bools,Option.map_eq_some_iff] at e
   obtain ⟨l',e1,rfl⟩:=e
   rw [RepL.bools t e1];rfl
  | _=>simp [D.bools] at e
theorem RepL.of_ints (l:List Int):RepL K w F B H (l.map V.int) (l.map D.int):=by
 induction l with
 | nil=>exact .nil
 | cons a r ih=>exact .cons (.int a) ih
theorem Rep.flat {v:V}{d:D}(r:Rep K w F B H v d)(h:d.flat=true){F':Foot}{B':Addr→Prop}{H':Hp}:Rep K w F' B' H' v d:=by
 cases r with
 | non=>exact .non
 | bl b=>exact .bl b
 | int i=>exact .int i
 | str x s e=>exact .str x s e
 | _=>simp [D.flat] at h
theorem RepL.flat:∀ {vs:List V} {ds:List D},RepL K w F B H vs ds→ds.all D.flat=true→∀ {F':Foot} {B':Addr→Prop} {H':Hp},RepL K w F' B' H' vs ds
 | _,_,.nil,_,_,_,_=>.nil
 | _,_,.cons r t,h,_,_,_=>by
  simp only [List.all_cons,Bool.and_eq_true] at h
  exact .cons (r.flat h.1) (t.flat h.2)
def Own (H:Hp)(a:Addr):Prop:=(∃ xs,H a=some (HO.lst xs))∨∃ kvs,H a=some (HO.dK kvs)
mutual
/-- data without lists stands apart from lists that are set free -/
theorem Rep.nol (k:∀ a,B a→¬ B' a→Own H a):∀ {v:V} {d:D},Rep K w F B' H v d→d.nol=true→Rep K w F B H v d
 | _,_,.non,_=>.non
 | _,_,.bl b,_=>.bl b
 | _,_,.int i,_=>.int i
 | _,_,.str x s e,_=>.str x s e
 | _,_,.tup (a:=a) h f b r,z=>.tup h f (fun q=>by
   rcases k a q b with ⟨xs,e⟩|⟨xs,e⟩<;>(rw [h] at e;cases e)) (RepL.nol k r (by simpa [D.nol] using z))
 | _,_,.lst _ _ _ _,z=>by simp [D.nol] at z
 | _,_,.dct _ _ _ _ _,z=>by simp [D.nol] at z
 | _,_,.tupW l c d z' v r,z=>.tupW l c d z' v (RepL.nol k r (by simpa [D.nol] using z))
 | _,_,.dctW _ _ _ _ _ _,z=>by simp [D.nol] at z
 | _,_,.ob0 _,z=>by simp [D.nol] at z
 | _,_,.ob1 _ _ _ _,z=>by simp [D.nol] at z
 | _,_,.ob1W _ _,z=>by simp [D.nol] at z
 | _,_,.err,z=>by simp [D.nol] at z
 | _,_,.errF _ _ _ _ _,z=>by simp [D.nol] at z
theorem RepL.nol (k:∀ a,B a→¬ B' a→Own H a):∀ {vs:List V} {ds:List D},RepL K w F B' H vs ds→D.nols ds=true→RepL K w F B H vs ds
 | _,_,.nil,_=>.nil
 | _,_,.cons r t,z=>by
  simp only [D.nols,Bool.and_eq_true] at z
  exact .cons (Rep.nol k r z.1) (RepL.nol k t z.2)
end
theorem XdR.thaw (k:∀ a,B a→¬ B' a→Own H a){d:Addr}{ns:List (List Nat)}{ds:List D}(r:XdR K w F B' H d ns ds)(z:D.nols ds=true):XdR K w F B H d ns ds:=by
 obtain ⟨kvs,h1,h2,h3,h4,h5⟩:=r
 refine ⟨kvs,h1,h2,fun q=>?_,h4,h5.nol k z⟩
 rcases k d q h3 with ⟨xs,e⟩|⟨xs,e⟩<;>(rw [h1] at e;cases e)
theorem Rep.isL {v:V}{ds:List D}(r:Rep K w F B H v (.lst ds)):∃ a xs,v=.ref a∧H a=some (.lst xs)∧RepL K w F B H xs ds:=by
 cases r with
 | lst h f b r=>exact ⟨_,_,rfl,h,r⟩
theorem Rep.isT {v:V}{ds:List D}(r:Rep K w F B H v (.tup ds)):∃ a xs,v=.ref a∧SqT K H a xs∧RepL K w F B H xs ds:=by
 cases r with
 | tup h f b r=>exact ⟨_,_,rfl,.of h,r⟩
 | tupW l c d z vs r=>exact ⟨_,_,rfl,.inr ⟨_,_,_,l,c,d,z,vs⟩,r⟩
theorem Rep.isScr {v:V}{ds:List D}(r:Rep K w F B H v (.ob 1 ds)):∃ (a:Addr) (l:List Int),v=.ref a∧SqL K H a (l.map V.int)∧ds=l.map D.int:=by
 cases r with
 | ob1 l h f b=>exact ⟨_,l,rfl,.inl (.inr ⟨_,h⟩),rfl⟩
 | ob1W l h =>
  refine ⟨_,l,rfl,?_,rfl⟩
  rcases h with (h|⟨o,h⟩)|h
  ·cases h
  ·cases h
  ·exact .inr h
theorem str_of (x:Str):(⟨x.cps.toList.toArray⟩:Str)=x:=by
 cases x;simp
mutual
theorem Rep.dp:∀ {d:D} {v:V},Rep K w F B H v d→d.plain=true→Dp K H v (toPy d)
 | _,_,.non,_=>.non
 | _,_,.bl b,_=>.bl b
 | _,_,.int i,_=>.int i
 | _,_,.str x s e,_=>by subst e;unfold toPy;rw [str_of];exact .str x
 | _,_,.tup h f b r,p=>by unfold toPy;exact .tup (.of h) (RepL.dp r (by simpa [D.plain] using p))
 | _,_,.lst h f b r,p=>by unfold toPy;exact .lst (.of h) (RepL.dp r (by simpa [D.plain] using p))
 | _,_,.tupW l c d z v r,p=>by unfold toPy;exact .tup (.inr ⟨_,_,_,l,c,d,z,v⟩) (RepL.dp r (by simpa [D.plain] using p))
 | _,_,.dct h f b e r,p=>by simp [D.plain] at p
 | _,_,.dctW kd hs hl g r h2,p=>by simp [D.plain] at p
 | _,_,.ob0 h,p=>by simp [D.plain] at p
 | _,_,.ob1 _ h _ _,p=>by simp [D.plain] at p
 | _,_,.ob1W _ h,p=>by simp [D.plain] at p
theorem RepL.dp:∀ {ds:List D} {vs:List V},RepL K w F B H vs ds→D.plains ds=true→DpAll K H vs (toPys ds)
 | _,_,.nil,_=>.nil
 | _,_,.cons r t,p=>by
  simp only [D.plains,Bool.and_eq_true] at p
  unfold toPys
  exact .cons (Rep.dp r p.1) (RepL.dp t p.2)
end
end
def SR:St→Foot→Hp→Prop
 | none,F,_=>F.at_=none∧∀ b,¬ F.inn b
 | some s,F,H=>∃ a0 a1 a2:Addr,F.at_=some a0∧(∀ b,F.inn b↔b=a0∨b=a1∨b=a2)∧a0≠a1∧a0≠a2∧a1≠a2 ∧
   H a0=some (.lst [.ref a1,.ref a2,.int s.turn])∧H a1=some (.lst (s.big.map V.int))∧H a2=some (.lst (s.cells.map V.int))∧s.cells≠[]
theorem SR.occ {st:St}{F:Foot}{H:Hp}(s:SR st F H):∀ b,F.inn b→H b≠none:=by
 cases st with
 | none=>exact fun b h=>absurd h (s.2 b)
 | some s' =>
  obtain ⟨a0,a1,a2,_,i,_,_,_,h0,h1,h2,_⟩:=s
  intro b h
  rcases (i b).mp h with e|e|e<;>subst e
  ·rw [h0];simp
  ·rw [h1];simp
  ·rw [h2];simp
theorem SR.keep {st:St}{F:Foot}{H H':Hp}(s:SR st F H)(k:∀ b,F.inn b→H' b=H b):SR st F H':=by
 cases st with
 | none=>exact s
 | some s' =>
  obtain ⟨a0,a1,a2,e,i,n1,n2,n3,h0,h1,h2,c⟩:=s
  exact ⟨a0,a1,a2,e,i,n1,n2,n3,by rw [k _ ((i _).mpr (.inl rfl))];exact h0,by rw [k _ ((i _).mpr (.inr (.inl rfl)))];exact h1,by rw [k _ ((i _).mpr (.inr (.inr rfl)))];exact h2,c⟩
structure Ext (F:Foot)(H:Hp)(F':Foot)(H':Hp):Prop where
 keep:∀ b,¬ F.inn b→H b≠none→H' b=H b∧¬ F'.inn b
 occ:∀ b,H b≠none→H' b≠none
 at_:∀ a,F.at_=some a→F'.at_=some a
theorem Ext.refl (F:Foot)(H:Hp):Ext F H F H:=⟨fun _ f _=>⟨rfl,f⟩,fun _ h=>h,fun _ h=>h⟩
theorem Ext.trans {F F1 F2:Foot}{H H1 H2:Hp}(a:Ext F H F1 H1)(b:Ext F1 H1 F2 H2):Ext F H F2 H2 where
 keep:=fun c f h=>by
  obtain ⟨e1,f1⟩:=a.keep c f h
  obtain ⟨e2,f2⟩:=b.keep c f1 (a.occ c h)
  exact ⟨e2.trans e1,f2⟩
 occ:=fun c h=>b.occ c (a.occ c h)
 at_:=fun c h=>b.at_ c (a.at_ c h)
theorem upd_occ {H:Hp}{a b:Addr}{o:HO}(h:H b≠none):upd H a o b≠none:=by
 unfold upd;split<;>simp [h]
theorem Ext.new {F:Foot}{H:Hp}{p:Addr}{o:HO}(hp:H p=none):Ext F H F (upd H p o) where
 keep:=fun b f h=>⟨by rw [upd_ne (fun e=>h (by rw [e];exact hp))],f⟩
 occ:=fun b h=>upd_occ h
 at_:=fun _ h=>h
theorem SR.new {st:St}{F:Foot}{H:Hp}{p:Addr}{o:HO}(s:SR st F H)(hp:H p=none):SR st F (upd H p o) :=
 s.keep fun b h=>upd_ne (fun e=>s.occ b h (by rw [e];exact hp))
section
variable {K:PySem.W.Frag}{w:World}{F F':Foot}{B:Addr→Prop}{H H':Hp}
theorem Rep.ext (r:Rep K w F B H v d)(x:Ext F H F' H'):Rep K w F' B H' v d:=r.move (fun a f b h=>⟨(x.keep a f h).1,(x.keep a f h).2,b⟩) x.at_
theorem RepL.ext (r:RepL K w F B H vs ds)(x:Ext F H F' H'):RepL K w F' B H' vs ds:=r.move (fun a f b h=>⟨(x.keep a f h).1,(x.keep a f h).2,b⟩) x.at_
theorem Rep.newL {p:Addr}{xs:List V}{ds:List D}(hp:H p=none)(st:SR s F H)(ob:∀ b,B b→H b≠none)(r:RepL K w F B H xs ds):Rep K w F B (upd H p (.lst xs)) (.ref p) (.lst ds) :=
 .lst upd_same (fun f=>st.occ p f hp) (fun b=>ob p b hp) (r.ext (Ext.new hp))
theorem Rep.newT {p:Addr}{xs:List V}{ds:List D}(hp:H p=none)(st:SR s F H)(ob:∀ b,B b→H b≠none)(r:RepL K w F B H xs ds):Rep K w F B (upd H p (.tup xs)) (.ref p) (.tup ds) :=
 .tup upd_same (fun f=>st.occ p f hp) (fun b=>ob p b hp) (r.ext (Ext.new hp))
end
def _root_.PL.Slot.isOwn:Slot→Bool
 | .own _=>true
 | .dow _ _=>true
 | _=>false
def OwnR (K:PySem.W.Frag)(w:World)(F:Foot)(B:Addr→Prop)(H:Hp)(a:Addr):Slot→Prop
 | .own ds=>∃ xs,H a=some (.lst xs)∧RepL K w F B H xs ds
 | .dow ks ds=>∃ kvs:List (Key × V),H a=some (.dK kvs)∧(kvs.map (·.1)=ks.map kOf∧ks.Nodup)∧RepL K w F B H (kvs.map (·.2)) ds
 | _=>False
theorem OwnR.occ {K:PySem.W.Frag}{w:World}{F:Foot}{B:Addr→Prop}{H:Hp}{a:Addr}:∀ {s:Slot},OwnR K w F B H a s→H a≠none
 | .own _,⟨_,h,_⟩=>by rw [h];simp
 | .dow _ _,⟨_,h,_⟩=>by rw [h];simp
theorem OwnR.is {K:PySem.W.Frag}{w:World}{F:Foot}{B:Addr→Prop}{H:Hp}{a:Addr}:∀ {s:Slot},OwnR K w F B H a s→Own H a
 | .own _,⟨xs,h,_⟩=>.inl ⟨xs,h⟩
 | .dow _ _,⟨kvs,h,_⟩=>.inr ⟨kvs,h⟩
theorem OwnR.move {K:PySem.W.Frag}{w:World}{F F':Foot}{B B':Addr→Prop}{H H':Hp}{a:Addr}(m:∀ {vs:List V} {ds:List D},RepL K w F B H vs ds→RepL K w F' B' H' vs ds)(h:H' a=H a):∀ {s:Slot},OwnR K w F B H a s→OwnR K w F' B' H' a s
 | .own _,⟨xs,e,r⟩=>⟨xs,by rw [h];exact e,m r⟩
 | .dow _ _,⟨kvs,e,q,r⟩=>⟨kvs,by rw [h];exact e,q,m r⟩
structure OkE (K:PySem.W.Frag)(w:World)(F:Foot)(B:Addr→Prop)(σ:L2.St)(H:Hp)(env:Env)(st:St):Prop where
 len:env.length=σ.length
 val:∀ (i:Nat) (d:D),env[i]?=some (.val d)→∃ v,σ[i]?=some (some v)∧Rep K w F B H v d
 own:∀ (i:Nat) (s:Slot),s.isOwn=true→env[i]?=some s→∃ a,σ[i]?=some (some (.ref a))∧OwnR K w F B H a s∧B a∧¬ F.inn a
 apart:∀ (i j:Nat) (s t:Slot) (a:Addr),s.isOwn=true→t.isOwn=true→env[i]?=some s→env[j]?=some t→σ[i]?=some (some (.ref a))→σ[j]?=some (some (.ref a))→i=j
 occ:∀ b,B b→H b≠none
 sr:SR st F H
section
variable {K:PySem.W.Frag}{w:World}{F F':Foot}{B:Addr→Prop}{σ:L2.St}{H H':Hp}{env:Env}{st st':St}
theorem OkE.ext (o:OkE K w F B σ H env st)(x:Ext F H F' H')(s:SR st' F' H'):OkE K w F' B σ H' env st' where
 len:=o.len
 val:=fun i d e=>by
  obtain ⟨v,h1,h2⟩:=o.val i d e
  exact ⟨v,h1,h2.ext x⟩
 own:=fun i s os e=>by
  obtain ⟨a,h1,h2,h4,h5⟩:=o.own i s os e
  have q:=x.keep a h5 h2.occ
  exact ⟨a,h1,h2.move (fun r=>r.ext x) q.1,h4,q.2⟩
 apart:=o.apart
 occ:=fun b h=>x.occ b (o.occ b h)
 sr:=s
theorem OkE.get (o:OkE K w F B σ H env st){i:Nat}{d:D}(h:env.get i=some d):∃ v,σ[i]?=some (some v)∧Rep K w F B H v d:=by
 unfold Env.get at h
 cases e:env[i]? with
 | none=>rw [e] at h;simp at h
 | some s =>
  rw [e] at h
  cases s with
  | val d' =>
   have h':d'=d:=by simpa [Slot.get] using h
   subst h'
   exact o.val i _ e
  | un=>simp [Slot.get] at h
  | own ds=>simp [Slot.get] at h
  | dow ks ds=>simp [Slot.get] at h
end
end PL
end
section
namespace PL
open PySem PySem.Spec PyProof.Rows L2
structure FnG (P:Program)(w:World)(K:PySem.W.Frag)(mg:Str→Option Value)(base:Heap)(k:Nat)(f:Addr)(fd:FuncData)(ps:List Str)(sp:Sp):Prop where
 len:∀ vs H Q E,sp vs H Q E→vs.length=ps.length
 run:∀ (A:Around) (outer:List PySem.Env) (s:Shared) (H:Hp) (args:Args) (us:List Value) (vs:List V) (Q:VK) (E:XK),Room k A→A.guards=some [] →
  Env0 P w K mg base A outer s H→BindsTo s fd args (ps.zip us)→Vals vs us→sp vs H Q E→codeAny (model P w) A (.call (.ref f) args) (CR (CX P w) outer P w H s Q E) s
theorem FnG.mono {P:Program}{w:World}{K:PySem.W.Frag}{mg:Str→Option Value}{base:Heap}{j k:Nat}{f:Addr}{fd:FuncData}{ps:List Str}{sp:Sp}
  (F:FnG P w K mg base j f fd ps sp) (h:j≤k):FnG P w K mg base k f fd ps sp :=
 ⟨F.len,fun A outer s H args us vs Q E hr=>F.run A outer s H args us vs Q E (hr.mono h)⟩
theorem FnG.of {P:Program}{w:World}{K:PySem.W.Frag}{mg:Str→Option Value}{base:Heap}{x qual:Str}{sd:Stmt}{f:Addr}{fd:FuncData}{N ps:List Str}{k:Nat}{sp:Sp}
  (F:Fun K x qual sd f fd) (S:FnScope N ps (defScope sd)) (len:∀ vs H Q E,sp vs H Q E→vs.length=ps.length)
  (body:∀ (cdv:Value) (A:Around) (outer:List PySem.Env) (s:Shared) (H:Hp) (vs:List V) (Q:VK) (E:XK),
   Room k (A.deeper (envOfC qual (defScope sd) s.heap.objs.size f cdv))→A.guards=some []→sp vs H Q E →
   ∃ t,PSs (cxOf (CX P w) P w K mg base N qual (defScope sd) f cdv A outer s H E) (defBody sd) t ∧
    t { nx:=fun _ H'=>Q .non H',rt:=Q } (start N vs) H) :
  FnG P w K mg base (k+1) f fd ps sp:=by
 obtain ⟨oc,od,kV,doc,pm,an,cdv,ct,osl,rfl,lk,hcd⟩:=F.ex
 constructor
 ·exact len
 ·intro A outer s H args us vs Q E hr hgd e0 hb r hsp
  have inK:=e0.mod.kin.keeps fun b o e=>(e0.bs b o e).1
  have lim:=e0.mod.nolimit.keeps fun b o e=>(e0.bs b o e).1
  refine codeAny_call_function hr.depth (inK _ _ lk) rfl S.co S.gen rfl (PySem.W.codeRec_of inK hcd) (hb _ _ _ _ ?_)
  refine wpAny_newFunctionEnv_cells S.kind ?_ fun env he s1 x=>?_
  ·intro y hy
   rcases S.par y.1 (List.of_mem_zip (show (y.1,y.2)∈ps.zip us from hy)).1 with q|q
   ·exact Or.inl q
   ·exact Or.inr ⟨q,PySem.W.cellsFrom_some _ _ _ (Or.inl q)⟩
  ·subst he
   refine ⟨lim.keeps x.toInCall.keep,codeAny_func ?_⟩
   obtain ⟨t,ht,hq⟩:=body cdv A outer s H vs Q E (hr.deeper _) hgd hsp
   have I:=inv_start (CX:=CX P w) (E:=E) S hr.hd e0 (len _ _ _ _ hsp) r x
   refine wpAny_mono (ht.run [] s1 (start N vs) H _ I hq) (fun fl s' hs=>?_) fun e s' hs=>hs
   cases fl with
   | ret u =>
    obtain ⟨v,σ',H',J,rv,q⟩:=hs
    exact ⟨v,H',J.os,J.bare,J.base,J.hok,rv,q⟩
   | next =>
    obtain ⟨σ',H',J,q⟩:=hs
    exact ⟨V.non,H',J.os,J.bare,J.base,J.hok,rfl,q⟩
   | brk=>obtain ⟨_,_,_,q⟩:=hs;exact q.elim
   | cont=>obtain ⟨_,_,_,q⟩:=hs;exact q.elim
abbrev XRel:=Nat→List D→Value→Option Addr→Foot→(Addr→Prop)→Hp→Prop
def spG (K:PySem.W.Frag)(w:World)(XR:XRel)(pr:Prog)(n f np:Nat):Sp:=fun vs H Q E =>
 ∃ (F:Foot) (B:Addr→Prop) (st:St) (ds:List D),vs.length=np∧(∀ b,B b→H b≠none)∧SR st F H∧RepL K w F B H vs ds ∧
  match run pr n f ds st with
  | .ok d st'=>∀ v F' H',Ext F H F' H'→SR st' F' H'→Rep K w F' B H' v d→Q v H'
  | .exc c fs st'=>∀ cls dx F' H',Ext F H F' H'→SR st' F' H'→XR c fs cls dx F' B H'→E cls dx H'
  | .no=>False
structure ClsX (K:PySem.W.Frag)(mg:Str→Option Value)(T:XT)(c:Nat)(D:Addr):Prop where
 exc:ExcC K D
 sub:∀ nm anc,T.cls.lookup c=some (nm,anc)→∀ x∈T.nms,∃ E:Addr,mg x=some (.ref E)∧PySem.W.kitOne K (.ref D) (.ref E)=some (anc.contains x)∧PySem.W.exmOne K (.ref D) (.ref E)=some (anc.contains x)
def MadeK (K : PySem.W.Frag)(D : Addr) : Prop := ∃ (B newId initId : String) (bmB : List Value), ExcBaseFacts B newId initId bmB ∧ PySem.W.excIn K D bmB newId = true ∧ PySem.W.keepIn K (.ref D) = true ∧ PySem.W.subIn K (.ref D) (.type "BaseException") = some true ∧ PySem.W.typeIn K (.ref D) = some (.type "type")
abbrev Made (X:Cx)(D:Addr):Prop:=MadeK X.K D
def FldC (K:PySem.W.Frag)(D:Addr)(f:Str):Prop:=XfC K D∧PySem.W.findIn K (.ref D) f=some none
def spI (C:Addr)(l:List Str):Sp:=fun vs H Q _=>∃ (a:Addr) (ys:List V),vs=.ref a::ys∧ys.length=l.length∧H a=some (exo a C none) ∧
 ∀ (d:Addr) (H':Hp),H d=none→d≠a→(∀ b,b≠a→b≠d→H' b=H b)→H' a=some (exo a C (some d))→H' d=some (exd d (l.zip ys).reverse)→Q .non H'
def MadeF (P:Program)(w:World)(K:PySem.W.Frag)(mg:Str→Option Value)(base:Heap)(D:Addr)(l:List Str):Prop:=OexC K D∧(l≠[]∧(l.map fun s=>s.cps.toList).Nodup)∧(∀ f∈l,FldC K D f)∧∃ (fI:Addr) (fd:FuncData) (ps:List Str),
 PySem.W.findIn K (.ref D) "__init__" = some (some (.ref fI)) ∧ PySem.W.typeIn K (.ref fI) = some (.type "function") ∧ Binds K fd ps [] ∧ FnOk P w K mg base (L2.CX P w) 1 fI fd ps (spI D l)
def ErrF (K:PySem.W.Frag)(w:World)(T:XT)(c:Nat)(fs:List D)(D:Addr)(dx:Option Addr)(F:Foot)(B:Addr→Prop)(H:Hp):Prop :=
 (fs=[]∧dx=none)∨∃ (l:List Str) (ds:List PL.D) (d:Addr),fs=.tup ((l.map fun s=>s.cps.toList).map .str)::ds∧dx=some d∧(l≠[]∧(l.map fun s=>s.cps.toList).Nodup)∧(∀ f∈l,FldC K D f)∧XdR K w F B H d (l.map fun s=>s.cps.toList) ds
def Held (X:Cx)(T:XT)(c k d:Nat)(ns:List (List Nat)):Prop:=∃ (D:Addr) (nm:Str) (anc:List Str) (oe:Obj) (dx:Option Addr),T.cls.lookup c=some (nm,anc)∧ClsX X.K X.mg T c D∧Zc (.ref D) dx oe∧(∃ vs,oe.data=.fields vs)∧(k,oe)∈X.pn ∧
 (ns=[]→dx=none)∧(ns≠[]→dx=some d∧ns.Nodup∧∀ f:Str,f.cps.toList∈ns→FldC X.K D f)
def Thaw (XR:XRel):Prop:=∀ c fs cls dx F B B' H,(∀ a,B a→¬ B' a→Own H a)→(PL.D.nols fs=true∨∀ a,B a→B' a)→XR c fs cls dx F B' H→XR c fs cls dx F B H
structure Good (X:Cx)(pr:Prog)(XR:XRel)(C:SC)(n:Nat):Prop where
 sc:X.env.scope=C.sc
 kind:X.env.scope.kind=.function
 N:X.N=C.N
 nd:X.N.Nodup
 st:∀ x,C.st x=true→Loc X.env.scope x∧(X.fn x=true∨X.env.scope.names.lookup x=some .local)
 calm:C.cal=true→X.calm=true
 made:∀ c nm anc,C.xt.cls.lookup c=some (nm,anc)→C.xt.fld.lookup c=none→∃ D:Addr,X.mg nm=some (.ref D)∧Made X D∧∀ F B H,XR c [] (.ref D) none F B H
 err:∀ c fs cls dx F B H,XR c fs cls dx F B H→∃ (D:Addr) (nm:Str) (anc:List Str),cls=.ref D∧C.xt.cls.lookup c=some (nm,anc)∧ClsX X.K X.mg C.xt c D∧ErrF X.K X.w C.xt c fs D dx F B H
 anti:Thaw XR
 madeF:∀ c nm anc l,C.xt.cls.lookup c=some (nm,anc)→C.xt.fld.lookup c=some l→∃ D:Addr,X.mg nm=some (.ref D)∧MadeF X.prog X.w X.K X.mg X.base D l∧∀ F B H d (ds:List PL.D),XdR X.K X.w F B H d (l.map fun s=>s.cps.toList) ds→XR c (.tup ((l.map fun s=>s.cps.toList).map .str)::ds) (.ref D) (some d) F B H
 held:∀ c k d ns,pr.er=some (c,k,d,ns)→C.cal=false→Held X C.xt c k d ns
 nms:∀ x∈C.xt.nms,∃ E:Addr,X.mg x=some (.ref E)
 room:C.cal=true→Room (n+2) X.A
 un:X.A.units+16*n+200<cLine
 gd:X.A.guards=some []
 fns:∀ f nm,C.fname f=some nm→∃ (a:Addr) (fd:FuncData) (ps:List Str),X.mg nm=some (.ref a)∧PySem.W.keepIn X.K (.ref a)=true∧Binds X.K fd ps []∧(∀ ds st,run pr n f ds st≠.no→ds.length=ps.length) ∧
  FnG X.prog X.w X.K X.mg X.base (n+2) a fd ps (spG X.K X.w XR pr n f ps.length)
 gls:∀ g nm d,C.gname g=some nm→pr.gl g=some d→∃ (u:Value) (v:V),X.mg nm=some u∧RelV v u∧∀ F B H,Rep X.K X.w F B H v d
 blt:∀ x∈bltNames,X.mg x=none
 shown:pr.shown=shownD
def Fresh (K:PySem.W.Frag)(w:World)(B:Addr→Prop)(H:Hp)(F':Foot)(H':Hp)(v:V)(d:D):Prop :=
 ∃ (a:Addr) (xs:List V) (ds:List D),v=.ref a∧d=.lst ds∧H a=none∧H' a=some (.lst xs)∧¬ F'.inn a∧RepL K w F' (fun b=>B b∨b=a) H' xs ds
def RE (K:PySem.W.Frag)(w:World)(XR:XRel)(W:WX)(F:Foot)(B:Addr→Prop)(σ:L2.St)(H:Hp)(fr:Bool)(r:R D)(Q:VK):Prop :=
 match r with
 | .ok d st'=>∀ v F' H',Ext F H F' H'→SR st' F' H'→Rep K w F' B H' v d→(fr=true→Fresh K w B H F' H' v d)→Q v H'
 | .exc c fs st'=>∀ cls dx F' H',Ext F H F' H'→SR st' F' H'→XR c fs cls dx F' B H'→W cls dx σ H'
 | .no=>False
def tE (K:PySem.W.Frag)(w:World)(XR:XRel)(W:WX)(cx:Ctx)(e:E):TE:=fun σ H Q =>
 ∃ F B env st,OkE K w F B σ H env st∧RE K w XR W F B σ H (fresh e) (evE cx e env st) Q
def REs (K:PySem.W.Frag)(w:World)(XR:XRel)(W:WX)(F:Foot)(B:Addr→Prop)(σ:L2.St)(H:Hp)(r:R (List D))(Q:List V→Hp→Prop):Prop :=
 match r with
 | .ok ds st'=>∀ vs F' H',Ext F H F' H'→SR st' F' H'→RepL K w F' B H' vs ds→Q vs H'
 | .exc c fs st'=>∀ cls dx F' H',Ext F H F' H'→SR st' F' H'→XR c fs cls dx F' B H'→W cls dx σ H'
 | .no=>False
def tEs (K:PySem.W.Frag)(w:World)(XR:XRel)(W:WX)(cx:Ctx)(es:Es):TA:=fun σ H Q =>
 ∃ F B env st,OkE K w F B σ H env st∧REs K w XR W F B σ H (evEs cx es env st) Q
def RB (XR:XRel)(W:WX)(F:Foot)(B:Addr→Prop)(σ:L2.St)(H:Hp)(r:R Bool)(Q:Bool→Hp→Prop):Prop :=
 match r with
 | .ok b st'=>∀ F' H',Ext F H F' H'→SR st' F' H'→Q b H'
 | .exc c fs st'=>∀ cls dx F' H',Ext F H F' H'→SR st' F' H'→XR c fs cls dx F' B H'→W cls dx σ H'
 | .no=>False
def evT (cx:Ctx)(e:E)(env:Env)(st:St):R Bool:=(evE cx e env st).bind fun x st=>R.lift x.truth st
def tT (K:PySem.W.Frag)(w:World)(XR:XRel)(W:WX)(cx:Ctx)(e:E):TT:=fun σ H Q =>
 ∃ F B env st,OkE K w F B σ H env st∧RB XR W F B σ H (evT cx e env st) Q
theorem PE.of {X:Cx}{e:Expr}{t t':TE}(h:PE X e t)(i:∀ σ H Q,t' σ H Q→t σ H Q):PE X e t':=⟨fun pins s σ H Q I q=>h.run pins s σ H Q I (i _ _ _ q)⟩
theorem PT.of {X:Cx}{e:Expr}{t t':TT}(h:PT X e t)(i:∀ σ H Q,t' σ H Q→t σ H Q):PT X e t':=⟨fun pins s σ H Q I q=>h.run pins s σ H Q I (i _ _ _ q)⟩
theorem PA.of {X:Cx}{es:List Expr}{t t':TA}(h:PA X es t)(i:∀ σ H Q,t' σ H Q→t σ H Q):PA X es t':=⟨fun pos pins s σ H Q I q=>h.run pos pins s σ H Q I (i _ _ _ q)⟩
theorem PS.of {X:Cx}{st:Stmt}{t t':TS}(h:PS X st t)(i:∀ D σ H,t' D σ H→t D σ H):PS X st t':=⟨fun pins s σ H D I q=>h.run pins s σ H D I (i _ _ _ q)⟩
theorem PSs.of {X:Cx}{st:List Stmt}{t t':TS}(h:PSs X st t)(i:∀ D σ H,t' D σ H→t D σ H):PSs X st t':=⟨fun pins s σ H D I q=>h.run pins s σ H D I (i _ _ _ q)⟩
section
variable {K:PySem.W.Frag}{w:World}{XR:XRel}{W:WX}{cx:Ctx}{F:Foot}{B:Addr→Prop}{σ:L2.St}{H:Hp}{env:Env}{st:St}
theorem tE.mk (o:OkE K w F B σ H env st){e:E}{Q:VK}(h:RE K w XR W F B σ H (fresh e) (evE cx e env st) Q):tE K w XR W cx e σ H Q:=⟨F,B,env,st,o,h⟩
theorem tE.first (o:OkE K w F B σ H env st){e:E}{f:D→St→R D}{Q:VK}{fr:Bool}{Q':VK}
  (h:RE K w XR W F B σ H fr ((evE cx e env st).bind f) Q)
  (k:∀ d st' v F' H',Ext F H F' H'→OkE K w F' B σ H' env st'→Rep K w F' B H' v d→RE K w XR W F B σ H fr (f d st') Q→Q' v H'):tE K w XR W cx e σ H Q':=by
 refine ⟨F,B,env,st,o,?_⟩
 cases q:evE cx e env st with
 | ok d st' =>
  rw [q,R.bind_ok] at h
  intro v F' H' x s r _
  exact k d st' v F' H' x (o.ext x s) r h
 | exc c fs st' =>
  rw [q,R.bind_exc] at h
  exact h
 | no=>rw [q,R.bind_no] at h;exact h
theorem tEs.first (o:OkE K w F B σ H env st){es:Es}{f:List D→St→R D}{Q:VK}{fr:Bool}{Q':List V→Hp→Prop}
  (h:RE K w XR W F B σ H fr ((evEs cx es env st).bind f) Q)
  (k:∀ ds st' vs F' H',Ext F H F' H'→OkE K w F' B σ H' env st'→RepL K w F' B H' vs ds→RE K w XR W F B σ H fr (f ds st') Q→Q' vs H'):tEs K w XR W cx es σ H Q':=by
 refine ⟨F,B,env,st,o,?_⟩
 cases q:evEs cx es env st with
 | ok d st' =>
  rw [q,R.bind_ok] at h
  intro v F' H' x s r
  exact k d st' v F' H' x (o.ext x s) r h
 | exc c fs st' =>
  rw [q,R.bind_exc] at h
  exact h
 | no=>rw [q,R.bind_no] at h;exact h
theorem tT.first (o:OkE K w F B σ H env st){e:E}{f:Bool→St→R D}{Q:VK}{fr:Bool}{Q':Bool→Hp→Prop}
  (h:RE K w XR W F B σ H fr ((evE cx e env st).bind fun x st=>(R.lift x.truth st).bind f) Q)
  (k:∀ t st' F' H',Ext F H F' H'→OkE K w F' B σ H' env st'→RE K w XR W F B σ H fr (f t st') Q→Q' t H'):tT K w XR W cx e σ H Q':=by
 refine ⟨F,B,env,st,o,?_⟩
 unfold evT
 cases q:evE cx e env st with
 | ok d st' =>
  rw [q,R.bind_ok] at h
  rw [R.bind_ok]
  cases t:d.truth with
  | none=>rw [t] at h;exact h
  | some b =>
   rw [t,R.lift_some,R.bind_ok] at h
   rw [R.lift_some]
   intro F' H' x s
   exact k b st' F' H' x (o.ext x s) h
 | exc c fs st' =>
  rw [q,R.bind_exc] at h
  exact h
 | no=>rw [q,R.bind_no] at h;exact h
theorem RE.shift {F1:Foot}{H1:Hp}(x:Ext F H F1 H1){r:R D}{Q:VK}(h:RE K w XR W F B σ H false r Q):RE K w XR W F1 B σ H1 false r Q:=by
 cases r with
 | ok d st'=>exact fun v F' H' y s r _=>h v F' H' (x.trans y) s r (fun z=>by cases z)
 | exc c fs st'=>exact fun cls dx F' H' y s r=>h cls dx F' H' (x.trans y) s r
 | no=>exact h
theorem RE.fin {F':Foot}{H':Hp}{st':St}{v:V}{o:Option D}{d:D}{Q:VK}(h:RE K w XR W F B σ H false (R.lift o st') Q)(e:o=some d)(x:Ext F H F' H')(s:SR st' F' H')(r:Rep K w F' B H' v d):Q v H':=by
 subst e
 exact h v F' H' x s r (fun z=>by cases z)
theorem RE.some_of {st':St}{o:Option D}{fr:Bool}{Q:VK}(h:RE K w XR W F B σ H fr (R.lift o st') Q):∃ d,o=some d:=by
 cases o with
 | none=>exact h.elim
 | some d=>exact ⟨d,rfl⟩
end
end PL
end
section
set_option Elab.async false
namespace PL
open PySem PySem.Spec PyProof.Rows L2
theorem once_mul (l:Addr)(items:Array Value)(n:Nat)(dd:Option Addr)(sl:Array (Option Value))(u:Tok) :
  Meets (Builtin.«tuple.__mul__» ⟨[.ref l, .int 1 u], []⟩) (fun _ R s => s.heap.get? l = some { cls := .type "tuple", dict := dd, data := .seq items n, slots := sl } ∧ R (.ok (.ret (Value.ref l))) s) :=
 .of_wp fun prog w A R s h=>by
  obtain ⟨hp,g,d,tk,os⟩:=s
  obtain ⟨hl,h⟩:=h
  have f1:=AutoSeq1.idx_int
  have c0:(decide ((1:Int) < -(2^63)) || decide ((1:Int) ≥ 2^63))=false:=by decide
  have c1:(items.isEmpty || (1:Int)==1)=true:=by simp
  wp_walk using wpAny_loadPart' hl
  repeat (first
   | (refine wpAny_ite_false (decide_eq_false (by rw [c0];exact Bool.false_ne_true)) ?_;wp_walk using wpAny_loadPart' hl)
   | (refine wpAny_ite_true (decide_eq_true c1) ?_;wp_walk using wpAny_loadPart' hl))
  exact ⟨_,rfl,h⟩
def rOnce (K:PySem.W.Frag):R2:=fun x y H Q=>∃ l xs,x=.ref l∧y=.int 1∧SqT K H l xs∧Q (.ref l) H
theorem op_once {X:Cx}:OpR X (binaryOp .Mult) (rOnce X.K):=by
 intro pins s σ H x y v u Q I rx ry h
 obtain ⟨l,xs,rfl,rfl,hT,q⟩:=h
 cases rx
 obtain ⟨t,rfl⟩:=ry
 obtain ⟨its,r,⟨⟨cls,dd,data,sl⟩,ho,hc,n,hd⟩,hs⟩:=I.tuple hT
 simp only at hc hd
 subst hc hd
 refine wpAny_binaryOp_repeat_ref (T := "tuple") (U := "int") (by decide) ⟨_, ho, rfl⟩ (fun s' => typeIs_int s' 1 t) noFill_tuple_mul F.fills_int_mul F.slot_int_rmul repeat_tuple F.slot_int_index.lookup
  (call_meets F.slot_int_rmul (typeIs_int s 1 t) F.entry_int_rmul (F.args_int_rmul_2 _ _) (int_rmul_tuple 1 t l its.toArray n dd sl)
   ⟨ho,rfl,⟨_,ho,rfl⟩,call_meets F.slot_tuple_mul ⟨_,ho,rfl⟩ F.entry_tuple_mul (F.args_tuple_mul_2 _ _) (once_mul l its.toArray n dd sl t) ⟨ho,?_⟩⟩)
 exact ⟨.ref l,H,I,rfl,q⟩
end PL
end
section
namespace PL
open PySem PySem.Spec PyProof.Rows L2
def K1 (K:PySem.W.Frag)(w:World)(F:Foot)(B:Addr→Prop)(H:Hp)(st:St)(d:D)(Q:VK):Prop :=
 ∀ v F' H',Ext F H F' H'→SR st F' H'→Rep K w F' B H' v d→Q v H'
section
variable {K:PySem.W.Frag}{w:World}{F:Foot}{B:Addr→Prop}{H:Hp}{st:St}{d d1 d2:D}{Q:VK}{v u:V}
theorem K1.same (q:K1 K w F B H st d Q)(s:SR st F H)(r:Rep K w F B H v d):Q v H:=q v F H (Ext.refl F H) s r
theorem K1.newL {xs:List V}{ds:List D}(q:K1 K w F B H st (.lst ds) Q)(s:SR st F H)(ob:∀ b,B b→H b≠none)(r:RepL K w F B H xs ds):∀ p,H p=none→Q (.ref p) (upd H p (.lst xs)) :=
 fun p hp=>q _ F _ (Ext.new hp) (s.new hp) (Rep.newL hp s ob r)
theorem K1.newT {xs:List V}{ds:List D}(q:K1 K w F B H st (.tup ds) Q)(s:SR st F H)(ob:∀ b,B b→H b≠none)(r:RepL K w F B H xs ds):∀ p,H p=none→Q (.ref p) (upd H p (.tup xs)) :=
 fun p hp=>q _ F _ (Ext.new hp) (s.new hp) (Rep.newT hp s ob r)
theorem lineEq:line=sizeLine:=by rw [sizeLine_eq]
def rAddA (K:PySem.W.Frag):R2:=fun x y H Q=>rI0 (fun i j=>V.int (i+j)) x y H Q∨((∃ i j,x=.str i∧y=.str j∧i.length+j.length≤sizeLine∧Q (.str (i++j)) H)∨(rCat x y H Q∨rCatA K x y H Q))
theorem or_add {X:Cx}:OpR X (binaryOp .Add) (rAddA X.K):=op_add.or (op_add_str.or (op_cat.or op_catA))
def rMulA (K:PySem.W.Frag):R2:=fun x y H Q=>rI CMulW (fun i j=>V.int (i*j)) x y H Q∨(rRep x y H Q∨(rRepT K x y H Q∨rOnce K x y H Q))
theorem or_mul {X:Cx}:OpR X (binaryOp .Mult) (rMulA X.K):=op_mulW.or (op_rep.or (op_repT.or op_once))
def rDivA:R2:=fun x y H Q=>rI CDivN (fun i j=>V.int (i.fdiv j)) x y H Q∨rI CDivW (fun i j=>V.int (i/j)) x y H Q
theorem or_div {X:Cx}:OpR X (binaryOp .FloorDiv) rDivA:=op_fdivN.or op_fdivW
def rBin (K:PySem.W.Frag):Bop→R2
 | .add=>rAddA K
 | .sub=>rI0 fun i j=>V.int (i-j)
 | .mul=>rMulA K
 | .div=>rDivA
 | .mod=>rI (fun _ j=>j≠0) fun i j=>V.int (i.fmod j)
 | .pow=>rI CPow fun i j=>V.int (i^j.toNat)
 | .shl=>rI CPow fun i j=>V.int (i*2^j.toNat)
theorem bin_R {X:Cx}:∀ o,OpR X (binaryOp (bopOf o)) (rBin X.K o)
 | .add=>or_add
 | .sub=>op_sub
 | .mul=>or_mul
 | .div=>or_div
 | .mod=>op_modN
 | .pow=>op_pow
 | .shl=>op_shl
theorem strLen (x:Str):x.length=x.cps.toList.length:=by simp [Str.length]
theorem repL_nil {vs:List V}{ds:List D}(r:RepL K w F B H vs ds):vs=[]↔ds=[]:=by
 cases r<;>simp
theorem bin_ok {o:Bop}(e:bop o d1 d2=some d)(r1:Rep K w F B H v d1)(r2:Rep K w F B H u d2)(ob:∀ b,B b→H b≠none)(s:SR st F H)(q:K1 K w F B H st d Q):rBin K o v u H Q:=by
 have hl:line=sizeLine:=lineEq
 cases o with
 | add =>
  cases d1<;>cases d2<;>simp only [bop,Option.some.injEq] at e<;>try (cases e;done)
  case int.int i j=>subst e;cases r1;cases r2;exact .inl ⟨i,j,rfl,rfl,q.same s (.int _)⟩
  case str.str a b =>
   split at e
   ·rename_i hz
    cases e
    cases r1 with
    | str x _ ex =>
     cases r2 with
     | str y _ ey =>
      subst ex ey
      exact .inr (.inl ⟨x,y,rfl,rfl,by rw [strLen,strLen,← hl];exact hz,q.same s (.str _ _ (PySem.W.KAf.app_list x y))⟩)
   ·cases e
  case tup.tup a b =>
   split at e
   ·rename_i hz
    cases e
    obtain ⟨a1,xs,rfl,h1,l1⟩:=r1.isT
    obtain ⟨a2,ys,rfl,h2,l2⟩:=r2.isT
    refine .inr (.inr (.inr ⟨a1,a2,xs,ys,rfl,rfl,h1,h2,by rw [l1.length,l2.length,← hl];exact hz,fun z=>?_,fun _ z=>?_,fun _ _ p hp=>?_⟩))
    ·have z':=(repL_nil l1).mp z
     subst z'
     exact q.same s (by simpa using r2)
    ·have z':=(repL_nil l2).mp z
     subst z'
     exact q.same s (by simpa using r1)
    ·exact q.newT s ob (l1.append l2) p hp
   ·cases e
  case lst.lst a b =>
   split at e
   ·rename_i hz
    cases e
    obtain ⟨a1,xs,rfl,h1,l1⟩:=r1.isL
    obtain ⟨a2,ys,rfl,h2,l2⟩:=r2.isL
    exact .inr (.inr (.inl ⟨a1,a2,xs,ys,rfl,rfl,h1,h2,by rw [l1.length,l2.length,← hl];exact hz,q.newL s ob (l1.append l2)⟩))
   ·cases e
 | sub =>
  cases d1<;>cases d2<;>simp only [bop,Option.some.injEq] at e<;>try (cases e;done)
  case int.int i j=>subst e;cases r1;cases r2;exact ⟨i,j,rfl,rfl,q.same s (.int _)⟩
 | mul =>
  cases d1<;>cases d2<;>simp only [bop,Option.some.injEq] at e<;>try (cases e;done)
  case int.int i j =>
   split at e
   ·rename_i hz
    cases e
    cases r1;cases r2
    exact .inl ⟨i,j,rfl,rfl,(by unfold mulOk at hz;show _<_;simpa using hz),q.same s (.int _)⟩
   ·cases e
  case lst.int a n =>
   split at e
   ·rename_i hz
    cases e
    obtain ⟨a1,xs,rfl,h1,l1⟩:=r1.isL
    cases r2
    refine .inr (.inl ⟨a1,n,xs,rfl,rfl,h1,by omega,by omega,by rw [l1.length,← hl];exact hz.2.2,q.newL s ob ?_⟩)
    generalize n.toNat=m
    induction m with
    | zero=>exact .nil
    | succ m ih=>rw [List.replicate_succ,List.replicate_succ,List.flatten_cons,List.flatten_cons];exact l1.append ih
   ·cases e
  case tup.int a n =>
   split at e
   ·rename_i hz
    cases e
    obtain ⟨a1,xs,rfl,h1,l1⟩:=r1.isT
    cases r2
    obtain ⟨z1,z2,z3,z4⟩:=hz
    by_cases hn:n=1
    ·subst hn
     refine .inr (.inr (.inr ⟨a1,xs,rfl,rfl,h1,q.same s ?_⟩))
     have e1:(List.replicate (1:Int).toNat a).flatten=a:=by simp
     rw [e1]
     exact r1
    ·refine .inr (.inr (.inl ⟨a1,n,xs,rfl,rfl,h1,fun e=>z3 ((repL_nil l1).mp e),by omega,z2,by rw [l1.length];exact z4,q.newT s ob ?_⟩))
     generalize n.toNat=m
     induction m with
     | zero=>exact .nil
     | succ m ih=>rw [List.replicate_succ,List.replicate_succ,List.flatten_cons,List.flatten_cons];exact l1.append ih
   ·cases e
 | div =>
  cases d1<;>cases d2<;>simp only [bop,Option.some.injEq] at e<;>try (cases e;done)
  case int.int i j =>
   split at e
   ·rename_i hz
    cases e
    cases r1;cases r2
    unfold divOk at hz
    simp only [Bool.or_eq_true,Bool.and_eq_true,decide_eq_true_eq] at hz
    rcases hz with hz|hz
    ·exact .inl ⟨i,j,rfl,rfl,hz,q.same s (.int _)⟩
    ·refine .inr ⟨i,j,rfl,rfl,hz,?_⟩
     have z:i.fdiv j=i/j:=Int.fdiv_eq_ediv_of_nonneg i (by omega)
     rw [z] at q
     exact q.same s (.int _)
   ·cases e
 | mod =>
  cases d1<;>cases d2<;>simp only [bop,Option.some.injEq] at e<;>try (cases e;done)
  case int.int i j =>
   split at e
   ·rename_i hz
    cases e
    cases r1;cases r2
    exact ⟨i,j,rfl,rfl,hz,q.same s (.int _)⟩
   ·cases e
 | pow =>
  cases d1<;>cases d2<;>simp only [bop,Option.some.injEq] at e<;>try (cases e;done)
  case int.int i j =>
   split at e
   ·rename_i hz
    cases e
    cases r1;cases r2
    exact ⟨i,j,rfl,rfl,hz,q.same s (.int _)⟩
   ·cases e
 | shl =>
  cases d1<;>cases d2<;>simp only [bop,Option.some.injEq] at e<;>try (cases e;done)
  case int.int i j =>
   split at e
   ·rename_i hz
    cases e
    cases r1;cases r2
    exact ⟨i,j,rfl,rfl,hz,q.same s (.int _)⟩
   ·cases e
mutual
theorem eqv_py:∀ (a b:D),a.plain=true→b.plain=true→PyData.eqv (toPy a) (toPy b)=D.eqv a b
 | .non,b,_,hb=>by cases b<;>first|rfl|(simp [D.plain] at hb)
 | .bl x,b,_,hb=>by cases b<;>first|rfl|(simp [D.plain] at hb)|(simp [toPy,PyData.eqv,D.eqv])
 | .int x,b,_,hb=>by cases b<;>first|rfl|(simp [D.plain] at hb)|(simp [toPy,PyData.eqv,D.eqv])
 | .str x,b,_,hb=>by
  cases b with
  | str y =>
   simp only [toPy,PyData.eqv,D.eqv]
   have z:((⟨x.toArray⟩:Str)==⟨y.toArray⟩)=(x==y):=by
    rw [Bool.eq_iff_iff]
    simp
   first|exact z|simpa using z
  | _=>first|rfl|(simp [D.plain] at hb)
 | .tup xs,b,ha,hb=>by
  cases b with
  | tup ys=>simp only [toPy,PyData.eqv,D.eqv];exact eqvs_py xs ys (by simpa [D.plain] using ha) (by simpa [D.plain] using hb)
  | _=>first|rfl|(simp [D.plain] at hb)
 | .lst xs,b,ha,hb=>by
  cases b with
  | lst ys=>simp only [toPy,PyData.eqv,D.eqv];exact eqvs_py xs ys (by simpa [D.plain] using ha) (by simpa [D.plain] using hb)
  | _=>first|rfl|(simp [D.plain] at hb)
 | .dct _ _,_,ha,_=>by simp [D.plain] at ha
 | .ob _ _,_,ha,_=>by simp [D.plain] at ha
theorem eqvs_py:∀ (a b:List D),D.plains a=true→D.plains b=true→PyData.eqvAll (toPys a) (toPys b)=D.eqvs a b
 | [],[],_,_=>rfl
 | [],_::_,_,_=>rfl
 | _::_,[],_,_=>rfl
 | x::r,y::s,ha,hb=>by
  simp only [D.plains,Bool.and_eq_true] at ha hb
  simp only [toPys,PyData.eqvAll,D.eqvs]
  rw [eqv_py x y ha.1 hb.1,eqvs_py r s ha.2 hb.2]
end
end
end PL
end
section
namespace PL
open PySem PySem.Spec PyProof.Rows L2
section
variable {K:PySem.W.Frag}{w:World}{F:Foot}{B:Addr→Prop}{H:Hp}{st:St}{d d1 d2:D}{Q:VK}{v u:V}
mutual
theorem depth_py:∀ d:D,d.plain=true→(toPy d).depth=d.depth
 | .non,_=>rfl
 | .bl _,_=>rfl
 | .int _,_=>rfl
 | .str _,_=>rfl
 | .tup xs,h=>by simp only [toPy,PyData.depth,D.depth];rw [depths_py xs (by simpa [D.plain] using h)]
 | .lst xs,h=>by simp only [toPy,PyData.depth,D.depth];rw [depths_py xs (by simpa [D.plain] using h)]
 | .dct _ _,h=>by simp [D.plain] at h
 | .ob _ _,h=>by simp [D.plain] at h
theorem depths_py:∀ ds:List D,D.plains ds=true→PyData.depthAll (toPys ds)=D.depths ds
 | [],_=>rfl
 | x::r,h=>by
  simp only [D.plains,Bool.and_eq_true] at h
  simp only [toPys,PyData.depthAll,D.depths]
  rw [depth_py x h.1,depths_py r h.2]
end
mutual
theorem lay_py:∀ d:D,d.plain=true→(toPy d).canLay0=true
 | .non,_=>rfl
 | .bl _,_=>rfl
 | .int _,_=>rfl
 | .str s,h=>by
  simp only [toPy,PyData.canLay0,PyData.strOk]
  simpa [D.plain] using h
 | .tup xs,h=>by simp only [toPy,PyData.canLay0];exact lays_py xs (by simpa [D.plain] using h)
 | .lst xs,h=>by simp only [toPy,PyData.canLay0];exact lays_py xs (by simpa [D.plain] using h)
 | .dct _ _,h=>by simp [D.plain] at h
 | .ob _ _,h=>by simp [D.plain] at h
theorem lays_py:∀ ds:List D,D.plains ds=true→PyData.canLayAll0 (toPys ds)=true
 | [],_=>rfl
 | x::r,h=>by
  simp only [D.plains,Bool.and_eq_true] at h
  simp only [toPys,PyData.canLayAll0,Bool.and_eq_true]
  exact ⟨lay_py x h.1,lays_py r h.2⟩
end
theorem shaped_py (h:d.shaped=true):d.plain=true∧SeqAt.shaped (toPy d)=true:=by
 unfold D.shaped at h
 simp only [Bool.and_eq_true,decide_eq_true_eq] at h
 refine ⟨h.1,?_⟩
 unfold SeqAt.shaped
 rw [lay_py d h.1,depth_py d h.1]
 simp;omega
theorem str_eq (x y:Str):decide (V.str x=V.str y)=(x.cps.toList==y.cps.toList):=by
 rw [Bool.eq_iff_iff]
 simp only [decide_eq_true_eq,V.str.injEq,beq_iff_eq]
 constructor
 ·intro e;rw [e]
 ·intro e
  rw [← str_of x,← str_of y,e]
def rEqA (K:PySem.W.Frag):R2:=fun x y H Q=>rEq x y H Q∨rEqD K x y H Q
def rNeA (K:PySem.W.Frag):R2:=fun x y H Q=>rNe x y H Q∨rNeD K x y H Q
theorem eq_ok {b:Bool}(e:eqD d1 d2=some b)(r1:Rep K w F B H v d1)(r2:Rep K w F B H u d2)(q:Q (.bl b) H):rEqA K v u H Q:=by
 have two:∀ {d1 d2:D},(if d1.shaped&&d2.shaped then some (D.eqv d1 d2) else none)=some b→Rep K w F B H v d1→Rep K w F B H u d2→rEqA K v u H Q:=by
  intro d1 d2 e r1 r2
  split at e
  ·rename_i hz
   cases e
   simp only [Bool.and_eq_true] at hz
   obtain ⟨p1,s1⟩:=shaped_py hz.1
   obtain ⟨p2,s2⟩:=shaped_py hz.2
   exact .inr ⟨_,_,r1.dp p1,r2.dp p2,s1,s2,by rw [eqv_py _ _ p1 p2];exact q⟩
  ·cases e
 unfold eqD at e
 split at e
 ·cases e
  cases r1 with
  | str x _ ex =>
   cases r2 with
   | str y _ ey =>
    subst ex ey
    exact .inl ⟨rfl,by rw [str_eq];exact q⟩
 ·exact two e r1 r2
theorem ne_ok {b:Bool}(e:eqD d1 d2=some b)(r1:Rep K w F B H v d1)(r2:Rep K w F B H u d2)(q:Q (.bl (!b)) H):rNeA K v u H Q:=by
 have two:∀ {d1 d2:D},(if d1.shaped&&d2.shaped then some (D.eqv d1 d2) else none)=some b→Rep K w F B H v d1→Rep K w F B H u d2→rNeA K v u H Q:=by
  intro d1 d2 e r1 r2
  split at e
  ·rename_i hz
   cases e
   simp only [Bool.and_eq_true] at hz
   obtain ⟨p1,s1⟩:=shaped_py hz.1
   obtain ⟨p2,s2⟩:=shaped_py hz.2
   exact .inr ⟨_,_,r1.dp p1,r2.dp p2,s1,s2,by rw [eqv_py _ _ p1 p2];exact q⟩
  ·cases e
 unfold eqD at e
 split at e
 ·cases e
  cases r1 with
  | str x _ ex =>
   cases r2 with
   | str y _ ey =>
    subst ex ey
    exact .inl ⟨rfl,by rw [str_eq];exact q⟩
 ·exact two e r1 r2
theorem valV_findK:∀ {kvs:List (Key × V)} {ks:List K0} {ds:List D},kvs.map (·.1)=ks.map kOf→RepL K w F B H (kvs.map (·.2)) ds→∀ k:K0,
  match findK k ks ds with
  | some d=>∃ v,valV kvs (kOf k)=some v∧Rep K w F B H v d
  | none=>valV kvs (kOf k)=none
 | [],ks,ds,e,r,k=>by
  cases ks with
  | nil=>simp [findK,valV]
  | cons _ _=>simp at e
 | p::kvs,[],ds,e,r,k=>by simp at e
 | p::kvs,k'::ks,ds,e,r,k=>by
  simp only [List.map_cons,List.cons.injEq] at e
  cases ds with
  | nil=>cases r
  | cons d ds =>
   cases r with
   | cons r t =>
    have inj:∀ {a b:K0},kOf a=kOf b→a=b:=by
     intro a b h
     cases a<;>cases b<;>simp [kOf] at h ⊢ <;> exact h
    by_cases hk:k'=k
    ·subst hk
     simp only [findK,if_true]
     refine ⟨p.2,?_,r⟩
     unfold valV
     simp [e.1]
    ·simp only [findK,hk,if_false]
     have ih:=valV_findK e.2 t k
     have hne:¬ p.1=kOf k:=fun z=>hk (inj (by rw [← z,e.1]))
     have z:valV (p::kvs) (kOf k)=valV kvs (kOf k):=by
      conv=>lhs;unfold valV
      simp [hne]
      rfl
     rw [z]
     exact ih
end
end PL
end
section
namespace PL
open PySem PySem.Spec PyProof.Rows L2
section
variable {K:PySem.W.Frag}{w:World}{F:Foot}{B:Addr→Prop}{H:Hp}{st:St}{d d1 d2:D}{Q:VK}{v u:V}
def rInA (K : PySem.W.Frag)(w : World)(neg : Bool) : R2 := fun x y H Q => rIn K neg x y H Q ∨ ((if neg then rNotInD K x y H Q else rInD K x y H Q) ∨
  ((∃ a o, y = .ref a ∧ DGet H a x o ∧ Q (.bl (if neg then !o.isSome else o.isSome)) H) ∨
   (∃ a es n z r, KDict K w a es n ∧ x = .str z ∧ y = .ref a ∧ PySem.W.nsIn K a z = some r ∧ Q (.bl (if neg then !r.isSome else r.isSome)) H)))
theorem in_R {X:Cx}(hu:X.A.units+65<cLine):OpR X (compareOp .In) (rInA X.K X.w false):=by
 refine op_in_seq.or ?_
 refine OpR.or (r:=rInD X.K) (op_inD hu) ?_
 refine OpR.or ?_ ?_
 ·intro pins s σ H x y v u Q I rx ry h
  obtain ⟨a,o,rfl,g,q⟩:=h
  obtain rfl:u=Value.ref a:=ry
  exact d_in (by omega) I g rx fun s' I'=>⟨.bl o.isSome,H,I',rfl,q⟩
 ·intro pins s σ H x y v u Q I rx ry h
  obtain ⟨a,es,n,z,r,kd,e1,e2,e3,q⟩:=h
  exact op_in_kd kd pins s σ H x y v u Q I rx ry ⟨z,r,e1,e2,e3,q⟩
theorem notin_R {X:Cx}(hu:X.A.units+65<cLine):OpR X (compareOp .NotIn) (rInA X.K X.w true):=by
 refine op_notIn_seq.or ?_
 refine OpR.or (r:=rNotInD X.K) (op_notInD hu) ?_
 refine OpR.or ?_ ?_
 ·intro pins s σ H x y v u Q I rx ry h
  obtain ⟨a,o,rfl,g,q⟩:=h
  obtain rfl:u=Value.ref a:=ry
  exact d_notIn (by omega) I g rx fun s' I'=>⟨.bl (!o.isSome),H,I',rfl,q⟩
 ·intro pins s σ H x y v u Q I rx ry h
  obtain ⟨a,es,n,z,r,kd,e1,e2,e3,q⟩:=h
  exact op_notIn_kd kd pins s σ H x y v u Q I rx ry ⟨z,r,e1,e2,e3,q⟩
theorem flatV_of (r:Rep K w F B H v d)(h:d.flat=true):flatV v=true:=by
 cases r<;>first|rfl|(simp [D.flat] at h)
theorem flatV_all:∀ {vs:List V} {ds:List D},RepL K w F B H vs ds→ds.all D.flat=true→vs.all flatV=true
 | _,_,.nil,_=>rfl
 | _,_,.cons r t,h=>by
  simp only [List.all_cons,Bool.and_eq_true] at h ⊢
  exact ⟨flatV_of r h.1,flatV_all t h.2⟩
theorem eqV_of (r1:Rep K w F B H v d1)(r2:Rep K w F B H u d2)(h1:d1.flat=true)(h2:d2.flat=true):eqV v u=D.eqv d1 d2:=by
 cases r1 with
 | non=>cases r2<;>first|rfl|(simp [D.flat] at h2)
 | bl a=>cases r2<;>first|rfl|(simp [D.flat] at h2)
 | int a=>cases r2<;>first|rfl|(simp [D.flat] at h2)
 | str x s e =>
  cases r2 with
  | str y t e' =>
   subst e e'
   show (x==y)=(x.cps.toList==y.cps.toList)
   have z:=str_eq x y
   rw [Bool.eq_iff_iff] at z ⊢
   simp only [decide_eq_true_eq,V.str.injEq,beq_iff_eq] at z ⊢
   exact z
  | _=>first|rfl|(simp [D.flat] at h2)
 | _=>simp [D.flat] at h1
theorem inV_of (r:Rep K w F B H u d)(h:d.flat=true):∀ {vs:List V} {ds:List D},RepL K w F B H vs ds→ds.all D.flat=true→inV u vs=ds.any fun y=>D.eqv y d
 | _,_,.nil,_=>rfl
 | _,_,.cons r' t,h'=>by
  simp only [List.all_cons,Bool.and_eq_true] at h'
  have ih:=inV_of r h t h'.2
  unfold inV at ih ⊢
  rw [List.any_cons,List.any_cons,eqV_of r' r h'.1 h,ih]
theorem plains_of:∀ {ds:List D},ds.all D.shaped=true→D.plains ds=true∧D.depths ds≤60
 | [],_=>⟨rfl,by simp [D.depths]⟩
 | x::r,h=>by
  simp only [List.all_cons,Bool.and_eq_true] at h
  obtain ⟨h1,h2⟩:=plains_of h.2
  have h3:=h.1
  unfold D.shaped at h3
  simp only [Bool.and_eq_true,decide_eq_true_eq] at h3
  simp only [D.plains,D.depths,Bool.and_eq_true]
  exact ⟨⟨h3.1,h1⟩,by omega⟩
theorem any_py (p:d.plain=true):∀ {ds:List D},D.plains ds=true→((toPys ds).any fun z=>PyData.eqv z (toPy d))=ds.any fun y=>D.eqv y d
 | [],_=>rfl
 | x::r,h=>by
  simp only [D.plains,Bool.and_eq_true] at h
  simp only [toPys,List.any_cons]
  rw [eqv_py x d h.1 p,any_py p h.2]
theorem in_ok {b:Bool}(neg:Bool)(e:D.has d1 d2=some b)(r1:Rep K w F B H v d1)(r2:Rep K w F B H u d2)(q:Q (.bl (if neg then !b else b)) H):rInA K w neg v u H Q:=by
 unfold D.has at e
 split at e
 ·split at e
  ·rename_i hz
   cases e
   simp only [Bool.and_eq_true] at hz
   obtain ⟨p1,s1⟩:=shaped_py hz.1
   obtain ⟨p2,s2⟩:=plains_of hz.2
   rename_i ys
   have sh:SeqAt.shaped (.list (toPys ys))=true:=by
    have z1:(PyData.list (toPys ys)).canLay0=true:=lays_py _ p2
    have z2:(PyData.list (toPys ys)).depth=D.depths ys+1:=by
     show PyData.depthAll (toPys ys)+1=_
     rw [depths_py _ p2]
    unfold SeqAt.shaped
    rw [z1,z2]
    simp;omega
   have hd:=r2.dp (by simpa [D.plain] using p2)
   simp only [toPy] at hd
   refine .inr (.inl ?_)
   cases neg with
   | true=>exact ⟨_,_,r1.dp p1,hd,s1,sh,by rw [any_py p1 p2];exact q⟩
   | false=>exact ⟨_,_,r1.dp p1,hd,s1,sh,by rw [any_py p1 p2];exact q⟩
  ·cases e
 ·split at e
  ·rename_i hz
   cases e
   simp only [Bool.and_eq_true] at hz
   obtain ⟨a,xs,rfl,h2,l2⟩:=r2.isT
   refine .inl ⟨a,xs,rfl,.inr h2,flatV_of r1 hz.1,flatV_all l2 hz.2,?_⟩
   rw [inV_of r1 hz.1 l2 hz.2]
   exact q
  ·cases e
 ·rename_i ks vs
  have memF:∀ {α:Type} {ks:List K0} {ds:List α} (k:K0),ks.length=ds.length→(findK k ks ds).isSome=ks.contains k:=by
   intro α ks
   induction ks with
   | nil=>intro ds k _;simp [findK]
   | cons a r ih =>
    intro ds k hl
    cases ds with
    | nil=>simp at hl
    | cons x xs =>
     by_cases h:a=k
     ·subst h;simp [findK]
     ·have h':¬ k=a:=fun z=>h z.symm
      simp only [findK,h,if_false,List.contains_cons]
      rw [ih k (by simpa using hl)]
      simp [h']
  have key:∀ (k:K0),b=ks.contains k→v=kV (kOf k)→(ks.any K0.isS=true→∃ x:Str,k=.s x.cps.toList∧v=.str x)→rInA K w neg v u H Q:=by
   intro k eb ev es
   cases r2 with
   | dct h f hb e2 r =>
    have z:=valV_findK e2 r k
    refine .inr (.inr (.inl ⟨_,_,rfl,.inl ⟨_,kOf k,.inl h,ev,rfl⟩,?_⟩))
    have hl:ks.length=vs.length:=by
     have:=congrArg List.length e2
     have:=r.length
     simp at *;omega
    have z2:=memF (ds:=vs) k hl
    cases q':findK k ks vs with
    | none =>
     rw [q'] at z z2
     rw [z]
     rw [← z2] at eb;subst eb
     exact q
    | some d' =>
     rw [q'] at z z2
     obtain ⟨v',e',_⟩:=z
     rw [e']
     rw [← z2] at eb;subst eb
     exact q
   | dctW kd hs hl g r =>
    obtain ⟨x,rfl,rfl⟩:=es hs
    obtain ⟨o,h1,h2⟩:=g x
    refine .inr (.inr (.inr ⟨_,_,_,x,o,kd,rfl,rfl,h1,?_⟩))
    have z2:=memF (K0.s x.cps.toList) hl
    rw [← z2] at eb
    cases q':findK (K0.s x.cps.toList) ks _ with
    | none =>
     rw [q'] at h2 eb
     subst h2 eb
     exact q
    | some v' =>
     rw [q'] at h2 eb
     obtain ⟨u',rfl,_⟩:=h2
     subst eb
     exact q
  split at e
  ·rename_i i
   split at e
   ·cases e
   ·rename_i hn
    cases e
    cases r1
    exact key (.i i) rfl rfl fun z=>absurd z hn
  ·cases e
   cases r1 with
   | str x s ex =>
    subst ex
    refine key (.s _) rfl ?_ fun _=>⟨x,rfl,rfl⟩
    show V.str x=V.str _
    rw [str_of]
  ·cases e
 ·cases e
def rSubA (K:PySem.W.Frag)(w:World):R2:=fun x y H Q=>rIx K x y H Q∨((∃ a o,x=.ref a∧DGet H a y (some o)∧Q o H)∨rIxD K w x y H Q)
theorem sub_R {X:Cx}(hu:X.A.units+65<cLine):IxR X (rSubA X.K X.w):=by
 refine IxR.or ix_seq (IxR.or ?_ ix_kdict)
 intro value slice pins s σ H x y v u Q I rx ry h hs
 obtain ⟨a,o,rfl,g,q⟩:=h
 obtain rfl:v=Value.ref a:=rx
 exact tail_any (dict_typeIs I g) PySem.F.slot_dict_getitem.lookup (d_getItem (by omega) I g ry fun w' s' I' r'=>⟨o,H,I',r',q⟩) hs
theorem ix_at {α:Type}{xs:List α}{i:Int}{x:α}(h:ix xs i=some x):atI xs i=some x:=by
 unfold ix at h
 unfold atI ixN
 by_cases h0:0≤i
 ·rw [if_pos h0] at h ⊢
  have hl:i.toNat<xs.length:=(List.getElem?_eq_some_iff.mp h).1
  rw [if_pos (by omega)]
  exact h
 ·rw [if_neg h0] at h ⊢
  split at h
  ·rename_i h1
   rw [if_pos (by omega)]
   exact h
  ·cases h
theorem repL_ix {vs:List V}{ds:List D}(r:RepL K w F B H vs ds){i:Int}(h:ix ds i=some d):∃ x,atI vs i=some x∧Rep K w F B H x d:=by
 have hl:=r.length
 have h':=ix_at h
 unfold atI at h' ⊢
 rw [hl]
 cases q:ixN ds.length i with
 | none=>rw [q] at h';cases h'
 | some j =>
  rw [q] at h'
  obtain ⟨x,h1,h2⟩:=r.get h'
  exact ⟨x,h1,h2⟩
theorem sub_ok (e:subD d1 d2=some d)(r1:Rep K w F B H v d1)(r2:Rep K w F B H u d2)(s:SR st F H)(q:K1 K w F B H st d Q):rSubA K w v u H Q:=by
 unfold subD at e
 split at e
 ·obtain ⟨a,xs,rfl,h1,l1⟩:=r1.isT
  cases r2
  obtain ⟨x,h2,r⟩:=repL_ix l1 e
  exact .inl (.inr (.inl ⟨a,xs,_,x,rfl,rfl,h1,h2,q.same s r⟩))
 ·obtain ⟨a,xs,rfl,h1,l1⟩:=r1.isL
  cases r2
  obtain ⟨x,h2,r⟩:=repL_ix l1 e
  exact .inl (.inl ⟨a,xs,_,x,rfl,rfl,.of h1,h2,q.same s r⟩)
 ·split at e
  ·rename_i hz
   obtain ⟨c,e1,rfl⟩:=Option.map_eq_some_iff.mp e
   cases r2
   cases r1 with
   | str x _ ex =>
    subst ex
    exact .inl (.inr (.inr ⟨x,_,c,rfl,rfl,by rw [strLen,← lineEq];exact hz,ix_at e1,q.same s (.str _ _ (by simp))⟩))
  ·cases e
 ·split at e
  ·cases e
  ·rename_i hn
   cases r2
   cases r1 with
   | dct h f hb e2 r =>
    rename_i i _ _
    have z:=valV_findK e2 r (.i i)
    rw [e] at z
    obtain ⟨x,e',r'⟩:=z
    exact .inr (.inl ⟨_,x,rfl,.inl ⟨_,kOf (.i i),.inl h,rfl,e'.symm⟩,q.same s r'⟩)
   | dctW kd hs hl g r=>exact absurd hs hn
 ·cases r2 with
  | str x _ ex =>
   subst ex
   cases r1 with
   | dct h f hb e2 r =>
    have z:=valV_findK e2 r (.s x.cps.toList)
    rw [e] at z
    obtain ⟨y,e',r'⟩:=z
    refine .inr (.inl ⟨_,y,rfl,.inl ⟨_,kOf (.s x.cps.toList),.inl h,?_,e'.symm⟩,q.same s r'⟩)
    show V.str x=V.str _
    rw [str_of]
   | dctW kd hs hl g r =>
    obtain ⟨o,h1,h2⟩:=g x
    have two:∀ {ks:List K0} {xs:List V} {ds:List D},RepL K w F B H xs ds→∀ {k:K0} {d:D},findK k ks ds=some d→∃ x,findK k ks xs=some x∧Rep K w F B H x d:=by
     intro ks
     induction ks with
     | nil=>intro xs ds _ k d e;simp [findK] at e
     | cons a t ih =>
      intro xs ds r k d e
      cases r with
      | nil=>simp [findK] at e
      | cons r t' =>
       by_cases hk:a=k
       ·simp only [findK,hk,if_true,Option.some.injEq] at e ⊢
        subst e;exact ⟨_,rfl,r⟩
       ·simp only [findK,hk,if_false] at e ⊢
        exact ih t' e
    obtain ⟨y,e',r'⟩:=two r e
    rw [e'] at h2
    obtain ⟨u',rfl,ru⟩:=h2
    refine .inr (.inr ⟨_,x,y,rfl,rfl,⟨_,_,u',kd.at_,kd.lit,h1,ru⟩,q.same s r'⟩)
 ·cases e
theorem clamp_eq (n d:Nat):∀ i:Option Int,HT.sIx n d i=endI n d i
 | none=>rfl
 | some i=>by
  show (if i<0 then (i+(n:Int)).toNat else min i.toNat n)=if 0≤i then min i.toNat n else (i+n).toNat
  by_cases h:0≤i
  ·rw [if_pos h,if_neg (by omega)]
  ·rw [if_neg h,if_pos (by omega)]
theorem cut_eq (vs:List V)(lo hi:Option Int):cutV vs lo hi=cut vs lo hi:=by
 unfold cutV cut
 rw [clamp_eq,clamp_eq,List.take_drop]
 generalize endI vs.length 0 lo=a
 generalize endI vs.length vs.length hi=b
 by_cases h:a≤b
 ·rw [Nat.add_sub_cancel' h]
 ·rw [show a+(b-a)=a by omega,List.drop_of_length_le (by simp;omega),List.drop_of_length_le (by simp;omega)]
theorem repL_cut {vs:List V}{ds:List D}(r:RepL K w F B H vs ds)(lo hi:Option Int):RepL K w F B H (cutV vs lo hi) (cut ds lo hi):=by
 rw [cut_eq]
 unfold cut
 rw [r.length]
 exact (r.take _).drop _
end
end PL
end
section
namespace PL
open PySem PySem.Spec PyProof.Rows L2
mutual
theorem shown_len : ∀ d : D, d.small = true → (toPy d).shown.length ≤ d.wt
  | .non, _ => by show (Str.ofString "None").length ≤ 5; decide
  | .bl b, _ => by
    cases b
    · show (Str.ofString "False").length ≤ 5; decide
    · show (Str.ofString "True").length ≤ 5; decide
  | .int i, h => by
    have h' : i.natAbs < bigN := by simpa [D.small] using h
    have hl : i.natAbs.log2 < 1900 := PySem.Flt.log2_lt_of (by decide) (show i.natAbs < 2 ^ 1900 from h')
    have z := int_text_length_le (a := i) (k := 1900) (by decide) hl
    show (Str.ofString (toString i)).length ≤ 2000
    rw [PySem.ofString_length]; omega
  | .str s, h => by
    have h' : ∀ c ∈ s, c < 1114112 := by simpa [D.small] using h
    have z := PySem.StrLaws.reprText_len ⟨s.toArray⟩ (fun c hc => by
      have := h' c (by simpa using hc)
      omega)
    have e : (⟨s.toArray⟩ : Str).length = s.length := by simp [Str.length]
    show (reprText ⟨s.toArray⟩).length ≤ 10 * s.length + 2
    rw [e] at z
    exact z
  | .tup xs, h => by
    have z := tupleText_len_le (PyData.shownAll (toPys xs))
    have z2 := showns_len xs (by simpa [D.small] using h)
    show (tupleText (PyData.shownAll (toPys xs))).length ≤ D.wts xs + 3
    omega
  | .lst xs, h => by
    have z := listText_len_le (PyData.shownAll (toPys xs))
    have z2 := showns_len xs (by simpa [D.small] using h)
    show (listText (PyData.shownAll (toPys xs))).length ≤ D.wts xs + 3
    omega
  | .dct _ _, h => by simp [D.small] at h
  | .ob _ _, h => by simp [D.small] at h
theorem showns_len:∀ ds:List D,D.smalls ds=true→((PyData.shownAll (toPys ds)).map (·.length)).sum+2*(PyData.shownAll (toPys ds)).length≤D.wts ds
 | [],_=>by simp [toPys,PyData.shownAll,D.wts]
 | x::r,h=>by
  simp only [D.smalls,Bool.and_eq_true] at h
  have h1:=shown_len x h.1
  have h2:=showns_len r h.2
  simp only [toPys,PyData.shownAll,D.wts,List.map_cons,List.sum_cons,List.length_cons] at h2 ⊢
  omega
end
mutual
theorem show_py:∀ d:D,d.small=true→(toPy d).showable=true∧(toPy d).hasDict=false∧d.plain=true
 | .non,_=>⟨rfl,rfl,rfl⟩
 | .bl _,_=>⟨rfl,rfl,rfl⟩
 | .int i,h=>by
  have h':i.natAbs<bigN:=by simpa [D.small] using h
  have hl:i.natAbs.log2<1900:=PySem.Flt.log2_lt_of (by decide) (show i.natAbs<2^1900 from h')
  refine ⟨?_,rfl,rfl⟩
  show decide (i.natAbs.log2<1920)=true
  simp;omega
 | .str s,h=>⟨rfl,rfl,by simpa [D.small,D.plain] using h⟩
 | .tup xs,h=>by
  obtain ⟨h1,h2,h3⟩:=shows_py xs (by simpa [D.small] using h)
  exact ⟨h1,h2,by simpa [D.plain] using h3⟩
 | .lst xs,h=>by
  obtain ⟨h1,h2,h3⟩:=shows_py xs (by simpa [D.small] using h)
  exact ⟨h1,h2,by simpa [D.plain] using h3⟩
 | .dct _ _,h=>by simp [D.small] at h
 | .ob _ _,h=>by simp [D.small] at h
theorem shows_py:∀ ds:List D,D.smalls ds=true→PyData.showableAll (toPys ds)=true∧PyData.hasDictAll (toPys ds)=false∧D.plains ds=true
 | [],_=>⟨rfl,rfl,rfl⟩
 | x::r,h=>by
  simp only [D.smalls,Bool.and_eq_true] at h
  obtain ⟨a1,a2,a3⟩:=show_py x h.1
  obtain ⟨b1,b2,b3⟩:=shows_py r h.2
  exact ⟨by simp only [toPys,PyData.showableAll,a1,b1,Bool.and_self],by simp only [toPys,PyData.hasDictAll,a2,b2,Bool.or_self],by simp only [D.plains,a3,b3,Bool.and_self]⟩
end
def biF:Bi→Value
 | .len => .builtin "len" | .abs => .builtin "abs" | .max2 => .builtin "max" | .min2 => .builtin "min" | .maxL => .builtin "max" | .minL => .builtin "min"
 | .sum => .builtin "sum" | .int => .type "int" | .bool => .type "bool" | .repr => .builtin "repr" | .sorted => .builtin "sorted" | .any => .builtin "any"
 | .all => .builtin "all" | .divmod => .builtin "divmod" | .str => .type "str"
def rBi (K:PySem.W.Frag)(w:World)(b:Bi):List V→Hp→VK→Prop:=fun vs H Q =>
 ∃ (F:Foot) (B:Addr→Prop) (st:St) (ds:List D) (d:D),(∀ b,B b→H b≠none)∧SR st F H∧RepL K w F B H vs ds∧biD shownD b ds=some d∧K1 K w F B H st d Q
section
variable {K:PySem.W.Frag}{w:World}{F:Foot}{B:Addr→Prop}{H:Hp}{st:St}{d:D}{Q:VK}{v u:V}{vs:List V}
theorem RepL.one {d:D}(r:RepL K w F B H vs [d]):∃ v,vs=[v]∧Rep K w F B H v d:=by
 cases r with
 | cons r t=>cases t;exact ⟨_,rfl,r⟩
theorem RepL.two {d e:D}(r:RepL K w F B H vs [d,e]):∃ v u,vs=[v,u]∧Rep K w F B H v d∧Rep K w F B H u e:=by
 cases r with
 | cons r t =>
  cases t with
  | cons r2 t=>cases t;exact ⟨_,_,rfl,r,r2⟩
theorem SqL.ints {a:Addr}{xs:List V}{ds:List D}{l:List Int}(h:H a=some (.lst xs))(r:RepL K w F B H xs ds)(e:D.ints ds=some l):SqL K H a (l.map V.int):=by
 rw [r.ints e] at h
 exact .of h
theorem SqL.bools {a:Addr}{xs:List V}{ds:List D}{l:List Bool}(h:H a=some (.lst xs))(r:RepL K w F B H xs ds)(e:D.bools ds=some l):SqL K H a (l.map V.bl):=by
 rw [r.bools e] at h
 exact .of h
theorem foldl_max_ge:∀ (l:List Int) (a:Int),a≤l.foldl max a∧(∀ y∈l,y≤l.foldl max a)∧(l.foldl max a=a∨l.foldl max a∈l)
 | [],a=>⟨Int.le_refl _,by simp,.inl rfl⟩
 | b::r,a=>by
  obtain ⟨h1,h2,h3⟩:=foldl_max_ge r (max a b)
  simp only [List.foldl_cons,List.mem_cons]
  refine ⟨by omega,?_,?_⟩
  ·rintro y (rfl|hy)
   ·omega
   ·exact h2 y hy
  ·rcases h3 with h3|h3
   ·rw [h3]
    by_cases h:a≤b
    ·exact .inr (.inl (by omega))
    ·exact .inl (by omega)
   ·exact .inr (.inr h3)
theorem foldl_min_le:∀ (l:List Int) (a:Int),l.foldl min a≤a∧(∀ y∈l,l.foldl min a≤y)∧(l.foldl min a=a∨l.foldl min a∈l)
 | [],a=>⟨Int.le_refl _,by simp,.inl rfl⟩
 | b::r,a=>by
  obtain ⟨h1,h2,h3⟩:=foldl_min_le r (min a b)
  simp only [List.foldl_cons,List.mem_cons]
  refine ⟨by omega,?_,?_⟩
  ·rintro y (rfl|hy)
   ·omega
   ·exact h2 y hy
  ·rcases h3 with h3|h3
   ·rw [h3]
    by_cases h:a≤b
    ·exact .inl (by omega)
    ·exact .inr (.inl (by omega))
   ·exact .inr (.inr h3)
theorem max_one {l:List Int}{M m:Int}(e:maxI l=some M)(h1:m∈l)(h2:∀ y,y∈l→y≤m):m=M:=by
 cases l with
 | nil=>cases h1
 | cons a r =>
  simp only [maxI,Option.some.injEq] at e
  subst e
  obtain ⟨a1,a2,a3⟩:=foldl_max_ge r a
  have b1:m≤r.foldl max a:=by
   rcases List.mem_cons.mp h1 with rfl|h
   ·exact a1
   ·exact a2 m h
  have b2:r.foldl max a≤m:=by
   rcases a3 with z|z
   ·rw [z];exact h2 a List.mem_cons_self
   ·exact h2 _ (List.mem_cons_of_mem _ z)
  omega
theorem min_one {l:List Int}{M m:Int}(e:minI l=some M)(h1:m∈l)(h2:∀ y,y∈l→m≤y):m=M:=by
 cases l with
 | nil=>cases h1
 | cons a r =>
  simp only [minI,Option.some.injEq] at e
  subst e
  obtain ⟨a1,a2,a3⟩:=foldl_min_le r a
  have b1:r.foldl min a≤m:=by
   rcases List.mem_cons.mp h1 with rfl|h
   ·exact a1
   ·exact a2 m h
  have b2:m≤r.foldl min a:=by
   rcases a3 with z|z
   ·rw [z];exact h2 a List.mem_cons_self
   ·exact h2 _ (List.mem_cons_of_mem _ z)
  omega
theorem ne_len {l:List Int}{M:Int}(e:maxI l=some M∨minI l=some M):0<l.length:=by
 cases l with
 | nil=>simp [maxI,minI] at e
 | cons a r=>simp
theorem insI_perm (a:Int):∀ l:List Int,(insI a l).Perm (a::l)
 | []=>List.Perm.refl _
 | b::r=>by
  unfold insI
  split
  ·exact List.Perm.refl _
  ·exact (List.Perm.cons b (insI_perm a r)).trans (List.Perm.swap a b r)
theorem sortI_perm:∀ l:List Int,(sortI l).Perm l
 | []=>List.Perm.refl _
 | a::r=>(insI_perm a _).trans (List.Perm.cons a (sortI_perm r))
theorem insI_pw (a:Int):∀ l:List Int,l.Pairwise (·≤·)→(insI a l).Pairwise (·≤·)
 | [],_=>by simp [insI]
 | b::r,h=>by
  unfold insI
  rw [List.pairwise_cons] at h
  split
  ·rename_i hab
   rw [List.pairwise_cons]
   refine ⟨fun y hy=>?_,List.pairwise_cons.mpr h⟩
   rcases List.mem_cons.mp hy with rfl|hy
   ·exact hab
   ·exact Int.le_trans hab (h.1 y hy)
  ·rename_i hab
   rw [List.pairwise_cons]
   refine ⟨fun y hy=>?_,insI_pw a r h.2⟩
   rcases List.mem_cons.mp ((insI_perm a r).mem_iff.mp hy) with rfl|hy
   ·omega
   ·exact h.1 y hy
theorem sortI_pw:∀ l:List Int,(sortI l).Pairwise (·≤·)
 | []=>List.Pairwise.nil
 | a::r=>insI_pw a _ (sortI_pw r)
end
section
variable {X:Cx}
theorem ints_reads {h:Heap}:∀ {ns:List Int} {us:List Value},Vals (ns.map V.int) us→∃ as,ReadsAll h us (ns.map PyData.int) as
 | [],_,.nil=>⟨_,.nil⟩
 | n::r,_,.cons rv t=>by
  obtain ⟨as,h2⟩:=ints_reads t
  obtain ⟨tk,rfl⟩:=rv
  exact ⟨_,.cons (.int n tk) h2⟩
theorem ints_alike (ns:List Int):PySem.W.AlikeAll (ns.map PyData.int):=by
 constructor
 ·intro x hx y hy
  obtain ⟨i,_,rfl⟩:=List.mem_map.mp hx
  obtain ⟨j,_,rfl⟩:=List.mem_map.mp hy
  rfl
 ·intro x hx
  obtain ⟨i,_,rfl⟩:=List.mem_map.mp hx
  exact fun z=>nomatch z
theorem ints_depth:∀ ns:List Int,PyData.depthAll (ns.map PyData.int)=0
 | []=>rfl
 | _::r=>by simp [PyData.depthAll,PyData.depth,ints_depth r]
theorem max_tup (hc:X.calm=true)(hu:X.A.units+64<cLine){pins:List (Addr × Obj)}{σ:L2.St}{H:Hp}{s:Shared}{a:Addr}{n:Int}{ns:List Int}{Q:VK}(I:Inv X pins σ H s)(hq:SqT X.K H a ((n::ns).map V.int))
  (q : Q (.int (ns.foldl max n)) H) : wpAny (model X.prog X.w) X.A (call (.builtin "max") [.ref a]) (EP X pins σ Q) X.xe s := by
 obtain ⟨its,rv,ht,_⟩:=I.tuple hq
 obtain ⟨as,hr⟩:=ints_reads (h:=s.heap) rv
 refine PySem.W.max_tuple_data (x:=.int n) (xs:=ns.map .int) (I.ok.hd hc) (show s.heap.IsTuple a its.toArray from ht) (by simpa using hr) (ints_alike (n::ns)) ?_ fun i v h' tk bs _ hv hk=>?_
 ·have:=ints_depth (n::ns)
  simp only [List.map_cons] at this
  rw [this];omega
 ·rw [PySem.W.maxD_ints] at hv
  cases hv with
  | int i t=>exact ⟨.int _,H,I.kept hk,⟨_,rfl⟩,q⟩
theorem min_tup (hc:X.calm=true)(hu:X.A.units+64<cLine){pins:List (Addr × Obj)}{σ:L2.St}{H:Hp}{s:Shared}{a:Addr}{n:Int}{ns:List Int}{Q:VK}(I:Inv X pins σ H s)(hq:SqT X.K H a ((n::ns).map V.int))
  (q : Q (.int (ns.foldl min n)) H) : wpAny (model X.prog X.w) X.A (call (.builtin "min") [.ref a]) (EP X pins σ Q) X.xe s := by
 obtain ⟨its,rv,ht,_⟩:=I.tuple hq
 obtain ⟨as,hr⟩:=ints_reads (h:=s.heap) rv
 refine PySem.W.min_tuple_data (x:=.int n) (xs:=ns.map .int) (I.ok.hd hc) (show s.heap.IsTuple a its.toArray from ht) (by simpa using hr) (ints_alike (n::ns)) ?_ fun i v h' tk bs _ hv hk=>?_
 ·have:=ints_depth (n::ns)
  simp only [List.map_cons] at this
  rw [this];omega
 ·rw [PySem.W.minD_ints] at hv
  cases hv with
  | int i t=>exact ⟨.int _,H,I.kept hk,⟨_,rfl⟩,q⟩
end
end PL
end
section
namespace PL
open PySem PySem.Spec PyProof.Rows L2
mutual
theorem like_plain:∀ x y:D,D.like x y=true→x.plain=true
 | .int _,.int _,_=>rfl
 | .tup xs,.tup ys,h=>likes_plain xs ys h
 | .lst xs,.lst ys,h=>likes_plain xs ys h
theorem likes_plain:∀ xs ys:List D,D.likes xs ys=true→D.plains xs=true
 | [],[],_=>rfl
 | x::r,y::s,h=>by
  simp only [D.likes,Bool.and_eq_true] at h
  simp only [D.plains,Bool.and_eq_true]
  exact ⟨like_plain x y h.1,likes_plain r s h.2⟩
end
mutual
theorem like_symm:∀ x y:D,D.like x y=true→D.like y x=true
 | .int _,.int _,_=>rfl
 | .tup xs,.tup ys,h=>likes_symm xs ys h
 | .lst xs,.lst ys,h=>likes_symm xs ys h
theorem likes_symm:∀ xs ys:List D,D.likes xs ys=true→D.likes ys xs=true
 | [],[],_=>rfl
 | x::r,y::s,h=>by
  simp only [D.likes,Bool.and_eq_true] at h ⊢
  exact ⟨like_symm x y h.1,likes_symm r s h.2⟩
end
mutual
theorem alike_py:∀ x y:D,D.like x y=true→PySem.W.alike (toPy x) (toPy y)=true
 | .int _,.int _,_=>rfl
 | .tup xs,.tup ys,h=>alikes_py xs ys h
 | .lst xs,.lst ys,h=>alikes_py xs ys h
theorem alikes_py:∀ xs ys:List D,D.likes xs ys=true→PySem.W.alikeAll (toPys xs) (toPys ys)=true
 | [],[],_=>rfl
 | x::r,y::s,h=>by
  simp only [D.likes,Bool.and_eq_true] at h
  show PySem.W.alikeAll (toPy x::toPys r) (toPy y::toPys s)=true
  rw [PySem.W.alikeAll,alike_py x y h.1,alikes_py r s h.2]
  rfl
end
mutual
theorem lt_py:∀ x y:D,D.like x y=true→PySem.W.dataLt (toPy x) (toPy y)=D.ltN x y
 | .int a,.int b,_=>PySem.W.dataLt_int a b
 | .tup xs,.tup ys,h=>by
  show PySem.W.dataLt (.tuple (toPys xs)) (.tuple (toPys ys))=D.ltNs xs ys
  rw [PySem.W.dataLt_tuple]
  exact lts_py xs ys h
 | .lst xs,.lst ys,h=>lts_py xs ys h
theorem lts_py:∀ xs ys:List D,D.likes xs ys=true→PyProof.Rows.lexLt itemOrd (PySem.W.keyToksAll (toPys xs)) (PySem.W.keyToksAll (toPys ys))=D.ltNs xs ys
 | [],[],_=>by
  show PyProof.Rows.lexLt itemOrd (PySem.W.keyToksAll []) (PySem.W.keyToksAll [])=D.ltNs [] []
  rw [PyProof.Rows.lex_irrefl]
  rfl
 | x::r,y::s,h=>by
  simp only [D.likes,Bool.and_eq_true] at h
  show PyProof.Rows.lexLt itemOrd (PySem.W.keyToksAll (toPy x::toPys r)) (PySem.W.keyToksAll (toPy y::toPys s))=D.ltNs (x::r) (y::s)
  rw [PySem.W.dataLt_cons (alike_py x y h.1),eqv_py x y (like_plain x y h.1) (like_plain y x (like_symm x y h.1)),D.ltNs,lts_py r s h.2,lt_py x y h.1]
end
mutual
theorem toPy_inj:∀ x y:D,D.like x y=true→toPy x=toPy y→x=y
 | .int a,.int b,_,e=>by
  have e:=PyData.int.inj (show PyData.int a=PyData.int b from e)
  rw [e]
 | .tup xs,.tup ys,h,e=>by rw [toPys_inj xs ys h (PyData.tuple.inj (show PyData.tuple (toPys xs)=PyData.tuple (toPys ys) from e))]
 | .lst xs,.lst ys,h,e=>by rw [toPys_inj xs ys h (PyData.list.inj (show PyData.list (toPys xs)=PyData.list (toPys ys) from e))]
theorem toPys_inj:∀ xs ys:List D,D.likes xs ys=true→toPys xs=toPys ys→xs=ys
 | [],[],_,_=>rfl
 | x::r,y::s,h,e=>by
  simp only [D.likes,Bool.and_eq_true] at h
  have e:=List.cons.inj (show toPy x::toPys r=toPy y::toPys s from e)
  rw [toPy_inj x y h.1 e.1,toPys_inj r s h.2 e.2]
end
theorem minDt_mem:∀ (r:List D) (b:D),minDt b r=b∨minDt b r∈r
 | [],_=>.inl rfl
 | x::r,b=>by
  rw [minDt]
  rcases minDt_mem r (if D.ltN x b then x else b) with h|h
  ·split at h
   ·exact .inr (by rw [if_pos (by assumption),h];simp)
   ·exact .inl (by rw [if_neg (by assumption),h])
  ·exact .inr (by simp [h])
theorem minD_py (all:D→Prop)(hl:∀ x y,all x→all y→D.like x y=true):∀ (r:List D) (b:D),all b→(∀ x∈r,all x)→PySem.W.minD (toPy b) (r.map toPy)=toPy (minDt b r)
 | [],_,_,_=>rfl
 | x::r,b,hb,hr=>by
  have hx:=hr x (by simp)
  show (r.map toPy).foldl (fun a y=>if PySem.W.dataLt y a then y else a) (if PySem.W.dataLt (toPy x) (toPy b) then toPy x else toPy b)=_
  rw [lt_py x b (hl x b hx hb),minDt]
  split
  ·exact minD_py all hl r x hx fun y hy=>hr y (by simp [hy])
  ·exact minD_py all hl r b hb fun y hy=>hr y (by simp [hy])
section
variable {K:PySem.W.Frag}{w:World}{F:Foot}{B:Addr→Prop}{H:Hp}
def Std (K:PySem.W.Frag)(w:World)(F:Foot)(B:Addr→Prop)(H:Hp)(u:Value)(d:D):Prop:=∃ y,RelV y u∧Rep K w F B H y d
theorem each_std:∀ {ys:List V} {its:List Value} {ds:List D},Vals ys its→RepL K w F B H ys ds→PySem.W.EachIs (Std K w F B H) its ds
 | _,_,_,.nil,.nil=>.nil
 | _,_,_,.cons a as,.cons r rs=>.cons ⟨_,a,r⟩ (each_std as rs)
theorem std_each:∀ {its:List Value} {ds:List D},PySem.W.EachIs (Std K w F B H) its ds→∃ ys,Vals ys its∧RepL K w F B H ys ds
 | _,_,.nil=>⟨[],.nil,.nil⟩
 | _,_,.cons ⟨y,a,r⟩ t=>by
  obtain ⟨ys,b,c⟩:=std_each t
  exact ⟨y::ys,.cons a b,.cons r c⟩
end
section
variable {X:Cx}
theorem each_reads {pins:List (Addr × Obj)}{σ:L2.St}{H:Hp}{s:Shared}{F:Foot}{B:Addr→Prop}(I:Inv X pins σ H s):∀ {its:List Value} {ds:List D},PySem.W.EachIs (Std X.K X.w F B H) its ds→(∀ d∈ds,d.plain=true)→PySem.W.EachIs (fun v d=>∃ as,Reads s.heap v (toPy d) as) its ds
 | _,_,.nil,_=>.nil
 | _,_,.cons ⟨y,a,r⟩ t,h=>.cons (Dp.reads I _ _ _ (r.dp (h _ (by simp))) a) (each_reads I t fun d hd=>h d (by simp [hd]))
theorem call_sortedD (hu:X.A.units+200<cLine){pins:List (Addr × Obj)}{σ:L2.St}{H:Hp}{s:Shared}{us:List Value}{F:Foot}{B:Addr→Prop}{st:St}{a:Addr}{ys:List V}{ds:List D}{Q:VK}(I:Inv X pins σ H s)(r:Vals [V.ref a] us)(h1:H a=some (.lst ys))(l1:RepL X.K X.w F B H ys ds)(hz:D.sorts ds=true)(sr:SR st F H)(ob:∀ b,B b→H b≠none)(q:K1 X.K X.w F B H st (.lst (ds.mergeSort fun a b=>!D.ltN b a)) Q) :
  wpAny (model X.prog X.w) X.A (call (biF .sorted) us) (EP X pins σ Q) X.xe s:=by
 have all:∀ d∈ds,d.isTup1=true∧d.depth≤60∧∀ e∈ds,D.like d e=true:=by
  intro d hd
  have:=List.all_eq_true.1 hz d hd
  simp only [Bool.and_eq_true,decide_eq_true_eq] at this
  exact ⟨this.1,this.2.1,fun e he=>List.all_eq_true.1 this.2.2 e he⟩
 have plain:∀ d∈ds,d.plain=true:=fun d hd=>like_plain d d ((all d hd).2.2 d hd)
 obtain ⟨its,rv,hl,hn⟩:=I.list (.of h1)
 obtain ⟨u,rfl,ru⟩:=vals1 r
 obtain rfl:u=Value.ref a:=ru
 have e:=each_std rv l1
 have er:=each_reads I e plain
 have hlen:=l1.length
 have hsort:ds.mergeSort (PySem.W.dataLe false toPy)=ds.mergeSort fun a b=>!D.ltN b a:=PySem.W.sort_congr fun x hx y hy=>by
  rw [PySem.W.dataLe_eq]
  show (!PySem.W.dataLt (toPy y) (toPy x))=!D.ltN y x
  rw [lt_py y x ((all y hy).2.2 x hx)]
 refine PySem.W.sorted_data (enc:=toPy) hl.isList e er ?_ ?_ (by omega) ?_ fun out ho eo=>?_
 ·intro d hd d' hd'
  obtain ⟨x,hx,rfl⟩:=List.mem_map.1 hd
  obtain ⟨y,hy,rfl⟩:=List.mem_map.1 hd'
  exact alike_py x y ((all x hx).2.2 y hy)
 ·refine .inl fun d hd=>?_
  obtain ⟨x,hx,rfl⟩:=List.mem_map.1 hd
  have:=(all x hx).1
  cases x with
  | tup xs =>
   cases xs with
   | nil=>cases this
   | cons z zs=>exact ⟨toPy z,toPys zs,rfl⟩
  | _=>cases this
 ·intro d hd
  rw [depth_py d (plain d hd)]
  have:=(all d hd).2.1
  omega
 ·rw [hsort] at eo
  obtain ⟨ys',v',r'⟩:=std_each eo
  obtain ⟨n,hn'⟩:=PyProof.Rows.sortedAll_at s.heap its (List.toArray out)
  have hd:s.heap.objs.size≤s.heap.objs.size+1:=Nat.le_succ _
  have kp:∀ (b:Addr) (o:Obj),s.heap.get? b=some o→(PyProof.Rows.sortedAll s.heap its (List.toArray out)).get? b=some o:=fun b o e=>PyProof.Rows.sortedAll_old e
  have hz:ys'.length≤sizeLine:=by
   have:=v'.length
   omega
  have new:ObjOk X.prog X.w (upd H (s.heap.objs.size+1) (.lst ys')) (PyProof.Rows.sortedAll s.heap its (List.toArray out)) (s.heap.objs.size+1) (.lst ys'):=⟨hz,out,n,v',hn'⟩
  have inv:=I.laid (t':=s.toks) kp hd new
  exact ⟨.ref (s.heap.objs.size+1),upd H (s.heap.objs.size+1) (.lst ys'),inv,rfl,q.newL sr ob r' _ (I.hok.fresh hd)⟩
theorem each_at {P:Value→D→Prop}:∀ {its:List Value} {ds:List D},PySem.W.EachIs P its ds→∀ (i:Nat) (v:Value),its[i]?=some v→∃ d,ds[i]?=some d∧P v d
 | _,_,.nil,_,_,h=>by simp at h
 | _,_,.cons p t,0,v,h=>by
  simp only [List.getElem?_cons_zero,Option.some.injEq] at h
  subst h
  exact ⟨_,rfl,p⟩
 | _,_,.cons p t,i+1,v,h=>each_at t i v (by simpa using h)
theorem depthAll_le {m:Nat}:∀ ds:List D,(∀ d∈ds,(toPy d).depth≤m)→PyData.depthAll (ds.map toPy)≤m
 | [],_=>Nat.zero_le _
 | d::r,h=>by
  show max (toPy d).depth (PyData.depthAll (r.map toPy))≤m
  have:=h d (by simp)
  have:=depthAll_le r fun e he=>h e (by simp [he])
  omega
theorem call_minD (hc:X.A.handled=none)(hu:X.A.units+200<cLine){pins:List (Addr × Obj)}{σ:L2.St}{H:Hp}{s:Shared}{us:List Value}{F:Foot}{B:Addr→Prop}{st:St}{a:Addr}{ys:List V}{x:D}{ds:List D}{Q:VK}(I:Inv X pins σ H s)(r:Vals [V.ref a] us)(h1:H a=some (.lst ys))(l1:RepL X.K X.w F B H ys (x::ds))(hz:D.mins (x::ds)=true)(sr:SR st F H)(q:K1 X.K X.w F B H st (minDt x ds) Q) :
  wpAny (model X.prog X.w) X.A (call (biF .minL) us) (EP X pins σ Q) X.xe s:=by
 have all:∀ d∈x::ds,d.depth≤60∧∀ e∈x::ds,D.like d e=true:=by
  intro d hd
  have:=List.all_eq_true.1 hz d hd
  simp only [Bool.and_eq_true,decide_eq_true_eq] at this
  exact ⟨this.1,fun e he=>List.all_eq_true.1 this.2 e he⟩
 have plain:∀ d∈x::ds,d.plain=true:=fun d hd=>like_plain d d ((all d hd).2 d hd)
 obtain ⟨its,rv,hl,hn⟩:=I.list (.of h1)
 obtain ⟨u,rfl,ru⟩:=vals1 r
 obtain rfl:u=Value.ref a:=ru
 have e:=each_std rv l1
 have er:=each_reads I e plain
 obtain ⟨as,ra⟩:=PySem.W.each_readsAll toPy er
 have dp:PyData.depthAll (toPy x::ds.map toPy)≤60:=depthAll_le (x::ds) fun d hd=>by rw [depth_py d (plain d hd)];exact (all d hd).1
 refine PySem.W.min_list_data (x:=toPy x) (xs:=ds.map toPy) hc hl.isList ra ⟨fun d hd e he=>?_,fun d hd=>?_⟩ (by omega) fun i v h' tk bs hv hr' hk=>?_
 ·rw [← List.map_cons (f:=toPy)] at hd he
  obtain ⟨d,hd',rfl⟩:=List.mem_map.1 hd
  obtain ⟨e,he',rfl⟩:=List.mem_map.1 he
  exact alike_py d e ((all d hd').2 e he')
 ·rw [← List.map_cons (f:=toPy)] at hd
  obtain ⟨d,hd',rfl⟩:=List.mem_map.1 hd
  have:=(all d hd').2 d hd'
  cases d<;>first|(intro z;cases z;done)|exact (Bool.false_ne_true this).elim
 ·obtain ⟨d,hd,y,ry,rp⟩:=each_at e i v (by simpa using hv)
  have dm:d∈x::ds:=List.mem_of_getElem? hd
  obtain ⟨d',hd',as',rd⟩:=each_at er i v (by simpa using hv)
  obtain rfl:d=d':=Option.some.inj (hd.symm.trans hd')
  have mm:minDt x ds∈x::ds:=by
   rcases minDt_mem ds x with z|z
   ·rw [z];simp
   ·simp [z]
  rw [minD_py (fun d=>d∈x::ds) (fun d e hd he=>(all d hd).2 e he) ds x (by simp) fun d hd=>by simp [hd]] at hr'
  have same:d=minDt x ds:=by
   refine toPy_inj _ _ ((all d dm).2 _ mm) ?_
   exact PySem.W.alike_unique _ _ v _ _ (alike_py _ _ ((all d dm).2 _ mm)) (PySem.W.reads_keeps hk rd) hr'
  have rp:Rep X.K X.w F B H y (minDt x ds):=same ▸ rp
  exact ⟨y,H,I.kept hk,ry,q.same sr rp⟩
end
end PL
end
section
namespace PL
open PySem PySem.Spec PyProof.Rows L2
mutual
theorem smallH_of:∀ d:D,d.small=true→d.smallH=true
 | .non,_=>rfl
 | .bl _,_=>rfl
 | .int _,h=>h
 | .str _,h=>h
 | .tup xs,h=>smallHs_of xs h
 | .lst xs,h=>smallHs_of xs h
 | .dct _ _,h=>by simp [D.small] at h
 | .ob _ _,h=>by simp [D.small] at h
theorem smallHs_of:∀ ds:List D,D.smalls ds=true→D.smallHs ds=true
 | [],_=>rfl
 | x::r,h=>by
  simp only [D.smalls,Bool.and_eq_true] at h
  simp only [D.smallHs,smallH_of x h.1,smallHs_of r h.2,Bool.and_self]
end
theorem reprStr_len {s:List Nat}(h:(s.all fun c=>decide (c<1114112))=true):(reprText ⟨s.toArray⟩).length≤10*s.length+2:=by
 have h':∀ c∈s,c<1114112:=by simpa using h
 have z:=PySem.StrLaws.reprText_len ⟨s.toArray⟩ (fun c hc=>by
  have:=h' c (by simpa using hc)
  omega)
 have e:(⟨s.toArray⟩:Str).length=s.length:=by simp [Str.length]
 rw [e] at z
 exact z
theorem dkOk_cases {ks:List K0}{vs:List D}(h:dkOk ks=true)(l:ks.length=vs.length):(ks=[]∧vs=[])∨∃ x v,ks=[.s x]∧vs=[v]∧(x.all fun c=>decide (c<1114112))=true:=by
 match ks,vs,h,l with
 | [],[],_,_=>exact .inl ⟨rfl,rfl⟩
 | [.s x],[v],h,_=>exact .inr ⟨x,v,rfl,rfl,h⟩
 | [.s x],[],_,l=>exact nomatch l
 | [.s x],_::_::_,_,l=>exact nomatch l
 | [.i _],_,h,_=>exact nomatch h
 | .i _::_::_,_,h,_=>exact nomatch h
 | .s _::_::_,_,h,_=>exact nomatch h
mutual
theorem shown_lenf : ∀ d : D, d.smallH = true → (toPy d).shown.length ≤ d.wtf
  | .non, _ => by show (Str.ofString "None").length ≤ 5; decide
  | .bl b, _ => by
    cases b
    · show (Str.ofString "False").length ≤ 5; decide
    · show (Str.ofString "True").length ≤ 5; decide
  | .int i, h => by
    have h' : i.natAbs < bigN := by simpa [D.smallH] using h
    show (Str.ofString (toString i)).length ≤ D.wtf (.int i)
    rw [PySem.ofString_length]
    unfold D.wtf
    by_cases q : i.natAbs < 10 ^ 19
    · rw [if_pos q]
      have z := int_text_length_le10 (a := i) (k := 19) (by decide) q
      omega
    · rw [if_neg q]
      have hl : i.natAbs.log2 < 1900 := PySem.Flt.log2_lt_of (by decide) (show i.natAbs < 2 ^ 1900 from h')
      have z := int_text_length_le (a := i) (k := 1900) (by decide) hl
      omega
  | .str s, h => reprStr_len (by simpa [D.smallH] using h)
  | .tup xs, h => by
    have z := tupleText_len_le (PyData.shownAll (toPys xs))
    have z2 := showns_lenf xs (by simpa [D.smallH] using h)
    show (tupleText (PyData.shownAll (toPys xs))).length ≤ D.wtfs xs + 3
    omega
  | .lst xs, h => by
    have z := listText_len_le (PyData.shownAll (toPys xs))
    have z2 := showns_lenf xs (by simpa [D.smallH] using h)
    show (listText (PyData.shownAll (toPys xs))).length ≤ D.wtfs xs + 3
    omega
  | .dct ks vs, h => by
    simp only [D.smallH, Bool.and_eq_true, decide_eq_true_eq] at h
    obtain ⟨h1, h2, h3⟩ := h
    have z2 := showns_lenf vs h3
    rcases dkOk_cases h1 h2 with ⟨rfl, rfl⟩ | ⟨x, v, rfl, rfl, hx⟩
    · show (dictText (PyData.shownKv [])).length ≤ _
      have z := dictText_len_le (PyData.shownKv [])
      simp only [PyData.shownKv, List.map_nil, List.sum_nil, List.length_nil] at z ⊢
      unfold D.wtf
      omega
    · show (dictText (PyData.shownKv [(.str ⟨x.toArray⟩, toPy v)])).length ≤ dkWt [.s x] + (D.wtf v + 2 + 0) + 8
      have z := dictText_len_le (PyData.shownKv [(.str ⟨x.toArray⟩, toPy v)])
      have y := reprStr_len hx
      simp only [toPys, PyData.shownAll, List.map_cons, List.map_nil, List.sum_cons, List.sum_nil, List.length_cons, List.length_nil, D.wtfs] at z2
      simp only [PyData.shownKv, List.map_cons, List.map_nil, List.sum_cons, List.sum_nil, List.length_cons, List.length_nil] at z ⊢
      have e : (PyData.shown (.str ⟨x.toArray⟩) ++ (": " : Str) ++ PyData.shown (toPy v)).length = (reprText ⟨x.toArray⟩).length + 2 + (PyData.shown (toPy v)).length := by
        rw [strLen_append, strLen_append]; rfl
      rw [e] at z
      have k : dkWt [.s x] = 10 * x.length + 2 := rfl
      omega
  | .ob _ _, h => by simp [D.smallH] at h
theorem showns_lenf:∀ ds:List D,D.smallHs ds=true→((PyData.shownAll (toPys ds)).map (·.length)).sum+2*(PyData.shownAll (toPys ds)).length≤D.wtfs ds
 | [],_=>by simp [toPys,PyData.shownAll,D.wtfs]
 | x::r,h=>by
  simp only [D.smallHs,Bool.and_eq_true] at h
  have h1:=shown_lenf x h.1
  have h2:=showns_lenf r h.2
  simp only [toPys,PyData.shownAll,D.wtfs,List.map_cons,List.sum_cons,List.length_cons] at h2 ⊢
  omega
end
mutual
theorem show_pyH:∀ d:D,d.smallH=true→(toPy d).showable=true∧(toPy d).depth≤d.depth
 | .non,_=>⟨rfl,Nat.le_refl _⟩
 | .bl _,_=>⟨rfl,Nat.le_refl _⟩
 | .int i,h=>by
  have h':i.natAbs<bigN:=by simpa [D.smallH] using h
  have hl:i.natAbs.log2<1900:=PySem.Flt.log2_lt_of (by decide) (show i.natAbs<2^1900 from h')
  refine ⟨?_,Nat.le_refl _⟩
  show decide (i.natAbs.log2<1920)=true
  simp;omega
 | .str s,h=>⟨rfl,Nat.le_refl _⟩
 | .tup xs,h=>by
  obtain ⟨h1,h2⟩:=shows_pyH xs (by simpa [D.smallH] using h)
  refine ⟨h1,?_⟩
  show PyData.depthAll (toPys xs)+1≤D.depths xs+1
  omega
 | .lst xs,h=>by
  obtain ⟨h1,h2⟩:=shows_pyH xs (by simpa [D.smallH] using h)
  refine ⟨h1,?_⟩
  show PyData.depthAll (toPys xs)+1≤D.depths xs+1
  omega
 | .dct ks vs,h=>by
  simp only [D.smallH,Bool.and_eq_true,decide_eq_true_eq] at h
  obtain ⟨h1,h2,h3⟩:=h
  obtain ⟨a1,a2⟩:=shows_pyH vs h3
  rcases dkOk_cases h1 h2 with ⟨rfl,rfl⟩|⟨x,v,rfl,rfl,hx⟩
  ·exact ⟨rfl,Nat.le_refl _⟩
  ·simp only [toPys,PyData.showableAll,PyData.depthAll,D.depths,Bool.and_true] at a1 a2
   refine ⟨?_,?_⟩
   ·show PyData.showableKv [(.str ⟨x.toArray⟩,toPy v)]=true
    simp only [PyData.showableKv,PyData.showable,a1,Bool.and_self]
   ·show PyData.depthKv [(.str ⟨x.toArray⟩,toPy v)]+1≤max (D.depth v) 0+1
    simp only [PyData.depthKv,PyData.depth]
    omega
 | .ob _ _,h=>by simp [D.smallH] at h
theorem shows_pyH:∀ ds:List D,D.smallHs ds=true→PyData.showableAll (toPys ds)=true∧PyData.depthAll (toPys ds)≤D.depths ds
 | [],_=>⟨rfl,Nat.le_refl _⟩
 | x::r,h=>by
  simp only [D.smallHs,Bool.and_eq_true] at h
  obtain ⟨a1,a2⟩:=show_pyH x h.1
  obtain ⟨b1,b2⟩:=shows_pyH r h.2
  refine ⟨by simp only [toPys,PyData.showableAll,a1,b1,Bool.and_self],?_⟩
  show max (toPy x).depth (PyData.depthAll (toPys r))≤max x.depth (D.depths r)
  omega
end
section
variable {X:Cx}{pins:List (Addr × Obj)}{σ:L2.St}{H:Hp}{s:Shared}{F:Foot}{B:Addr→Prop}
mutual
/-- what holds no list is read, away from the table of modules -/
theorem Rep.readsN (I:Inv X pins σ H s):∀ {v:V} {d:D},Rep X.K X.w F B H v d→d.noL=true→d.smallH=true→∀ u:Value,RelV v u→∃ as,Reads s.heap u (toPy d) as∧sysModules∉as
 | _,_,.non,_,_,u,r=>by cases r;exact ⟨_,.none,by simp⟩
 | _,_,.bl b,_,_,u,r=>by cases r;exact ⟨_,.bool b,by simp⟩
 | _,_,.int i,_,_,u,r=>by obtain ⟨t,rfl⟩:=r;exact ⟨_,.int i t,by simp⟩
 | _,_,.str x s0 e,_,_,u,r=>by
  obtain ⟨t,rfl⟩:=r
  subst e
  unfold toPy
  rw [str_of]
  exact ⟨_,.str x t,by simp⟩
 | _,_,.tup h f b r',p,q,u,r=>by
  cases r
  obtain ⟨its,rv,⟨o,ho,hc,n,hd⟩,_⟩:=I.tuple (.of h)
  obtain ⟨as,hr,hn⟩:=RepL.readsN I r' p q its rv
  exact ⟨_,Reads.tuple ho hc hd hr,hn⟩
 | _,_,.lst _ _ _ _,p,_,_,_=>nomatch p
 | _,_,.tupW l c d z v r',p,q,u,r=>by
  cases r
  obtain ⟨its,rv,⟨o,ho,hc,n,hd⟩,_⟩:=I.tuple (.inr ⟨_,_,_,l,c,d,z,v⟩)
  obtain ⟨as,hr,hn⟩:=RepL.readsN I r' p q its rv
  exact ⟨_,Reads.tuple ho hc hd hr,hn⟩
 | _,_,.dct (kvs:=kvs) (ks:=ks) h f b e r',p,q,u,r=>by
  cases r
  simp only [D.smallH,Bool.and_eq_true,decide_eq_true_eq] at q
  obtain ⟨q1,q2,q3⟩:=q
  obtain ⟨_,hs,vs,kv,o,es,ep,ho,⟨hc,_,_⟩,hd,_,ps,_⟩:=dk_of I.hok h
  have hs':=beq_eq_false_iff_ne.mp hs
  rcases dkOk_cases q1 q2 with ⟨rfl,rfl⟩|⟨x,v,rfl,rfl,hx⟩
  ·obtain rfl:kvs=[]:=by simpa using e
   cases kv
   have es0:es.toList=[]:=by
    have:=ps.length
    exact List.length_eq_zero_iff.mp (by simpa using this)
   refine ⟨_,Reads.dict (kvs:=[]) (as:=[]) (bs:=[]) ho hc hd ?_ ?_,?_⟩
   ·rw [es0];exact .nil
   ·rw [es0];exact .nil
   ·simp only [List.append_nil,List.mem_singleton]
    exact fun z=>hs' z.symm
  ·cases kvs with
   | nil=>simp at e
   | cons kv0 t =>
    cases t with
    | cons _ _=>simp at e
    | nil =>
     simp only [List.map_cons,List.map_nil,List.cons.injEq,and_true] at e
     cases kv with
     | cons hkv t' =>
      cases t'
      generalize el:es.toList=el at ps
      cases ps with
      | cons hk hv t'' =>
       cases t''
       rename_i en
       obtain ⟨w1,w2⟩:=hkv
       have hk':keyIs kv0.1 en.key=true:=by rw [w1];exact hk
       rw [e] at hk'
       obtain ⟨t,ek⟩:=Value.isStrOf_shape (x:=⟨x.toArray⟩) (v:=en.key) hk'
       rw [← hv] at w2
       obtain ⟨bs,hr,hn⟩:=RepL.readsN I r' p q3 [en.val] (.cons w2 .nil)
       refine ⟨_,Reads.dict (kvs:=[(.str ⟨x.toArray⟩,toPy v)]) (as:=[]) (bs:=bs) ho hc hd ?_ ?_,?_⟩
       ·rw [el]
        show ReadsAll s.heap [en.key] [.str ⟨x.toArray⟩] []
        rw [ek]
        exact .cons (as:=[]) (bs:=[]) (.str _ t) .nil
       ·rw [el]
        exact hr
       ·simp only [List.append_nil,List.cons_append,List.nil_append,List.mem_cons,not_or]
        exact ⟨fun z=>hs' z.symm,hn⟩
 | _,_,.dctW (ks:=ks) kd hs hl g r' h2,_,q,_,_=>by
  simp only [D.smallH,Bool.and_eq_true,decide_eq_true_eq] at q
  rcases dkOk_cases q.1 q.2.1 with ⟨rfl,rfl⟩|⟨x,v,rfl,rfl,hx⟩
  ·simp at h2
  ·simp at h2
 | _,_,.ob0 _,_,q,_,_=>nomatch q
 | _,_,.ob1 _ _ _ _,_,q,_,_=>nomatch q
 | _,_,.ob1W _ _,_,q,_,_=>nomatch q
 | _,_,.err,_,q,_,_=>nomatch q
 | _,_,.errF _ _ _ _ _,_,q,_,_=>nomatch q
theorem RepL.readsN (I:Inv X pins σ H s):∀ {vs:List V} {ds:List D},RepL X.K X.w F B H vs ds→D.noLs ds=true→D.smallHs ds=true→∀ us:List Value,Vals vs us→∃ as,ReadsAll s.heap us (toPys ds) as∧sysModules∉as
 | _,_,.nil,_,_,_,r=>by cases r;exact ⟨_,.nil,by simp⟩
 | _,_,.cons a t,p,q,_,r=>by
  cases r with
  | cons r1 r2 =>
   simp only [D.noLs,Bool.and_eq_true] at p
   simp only [D.smallHs,Bool.and_eq_true] at q
   obtain ⟨as,h1,n1⟩:=Rep.readsN I a p.1 q.1 _ r1
   obtain ⟨bs,h2,n2⟩:=RepL.readsN I t p.2 q.2 _ r2
   exact ⟨_,.cons h1 h2,by simp [n1,n2]⟩
end
end
end PL
end
section
namespace PL
open PySem PySem.Spec PyProof.Rows L2
section
variable {K:PySem.W.Frag}{w:World}{F:Foot}{B:Addr→Prop}{H:Hp}{st:St}{d:D}{Q:VK}{v u:V}{vs:List V}
theorem tru_of {t:Bool}(r:Rep K w F B H v d)(e:d.truth=some t):TruV K v H t:=by
 cases r with
 | non=>simp only [D.truth,Option.some.injEq] at e;exact e.symm
 | bl b=>simp only [D.truth,Option.some.injEq] at e;exact e.symm
 | int i=>simp only [D.truth,Option.some.injEq] at e;exact e.symm
 | str x s es =>
  subst es
  simp only [D.truth] at e
  split at e
  ·rename_i hz
   cases e
   refine ⟨by rw [strLen,← lineEq];exact hz,?_⟩
   rw [strLen]
   cases x.cps.toList with
   | nil=>rfl
   | cons a r=>simp;omega
  ·cases e
 | tup h f b r =>
  simp only [D.truth,Option.some.injEq] at e
  refine .inr (.inl ⟨_,.of h,?_⟩)
  rw [← e]
  cases r<;>rfl
 | lst h f b r =>
  simp only [D.truth,Option.some.injEq] at e
  refine .inl ⟨_,.of h,?_⟩
  rw [← e]
  cases r<;>rfl
 | tupW l c dd z vv r =>
  simp only [D.truth,Option.some.injEq] at e
  refine .inr (.inl ⟨_,.inr ⟨_,_,_,l,c,dd,z,vv⟩,?_⟩)
  rw [← e]
  cases r<;>rfl
 | dct=>simp [D.truth] at e
 | dctW=>simp [D.truth] at e
 | ob0=>simp [D.truth] at e
 | ob1=>simp [D.truth] at e
 | ob1W=>simp [D.truth] at e
 | err=>simp [D.truth] at e
 | errF=>simp [D.truth] at e
end
section
variable {X:Cx}
theorem bi_R (hu:X.A.units+200<cLine)(hg:X.A.guards=some []):∀ b:Bi,(X.calm=true∨hotB b=true)→CallR X (biF b) (rBi X.K X.w b)
 | .len,_=>by
  intro pins s σ H xs us Q I r h
  obtain ⟨F,B,st,ds,d,ob,sr,rl,e,q⟩:=h
  change lenD _=_ at e
  unfold lenD at e
  split at e<;>try (cases e;done)
  ·cases e
   obtain ⟨v,rfl,rv⟩:=rl.one
   obtain ⟨a,ys,rfl,h1,l1⟩:=rv.isL
   exact call_len_seq pins s σ H _ us Q I r ⟨a,ys,rfl,.inl (.of h1),by rw [l1.length];exact q.same sr (.int _)⟩
  ·cases e
   obtain ⟨v,rfl,rv⟩:=rl.one
   obtain ⟨a,ys,rfl,h1,l1⟩:=rv.isT
   exact call_len_seq pins s σ H _ us Q I r ⟨a,ys,rfl,.inr h1,by rw [l1.length];exact q.same sr (.int _)⟩
  ·split at e
   ·rename_i hz
    cases e
    obtain ⟨v,rfl,rv⟩:=rl.one
    cases rv with
    | str x _ ex =>
     subst ex
     exact call_len pins s σ H _ us Q I r ⟨.str x,x.length,rfl,⟨by rw [strLen,← lineEq];exact hz,rfl⟩,by rw [strLen];exact q.same sr (.int _)⟩
   ·cases e
 | .abs,_=>by
  intro pins s σ H xs us Q I r h
  obtain ⟨F,B,st,ds,d,ob,sr,rl,e,q⟩:=h
  change absD _=_ at e
  unfold absD at e
  split at e<;>try (cases e;done)
  cases e
  obtain ⟨v,rfl,rv⟩:=rl.one
  cases rv
  exact call_abs pins s σ H _ us Q I r ⟨_,rfl,q.same sr (.int _)⟩
 | .max2,hq=>by
  have hc:X.calm=true:=hq.resolve_right (by decide)
  intro pins s σ H xs us Q I r h
  obtain ⟨F,B,st,ds,d,ob,sr,rl,e,q⟩:=h
  change max2D _=_ at e
  unfold max2D at e
  split at e<;>try (cases e;done)
  cases e
  obtain ⟨v,v2,rfl,rv,rv2⟩:=rl.two
  cases rv
  cases rv2
  exact call_max2 hc pins s σ H _ us Q I r ⟨_,_,rfl,q.same sr (.int _)⟩
 | .min2,hq=>by
  have hc:X.calm=true:=hq.resolve_right (by decide)
  intro pins s σ H xs us Q I r h
  obtain ⟨F,B,st,ds,d,ob,sr,rl,e,q⟩:=h
  change min2D _=_ at e
  unfold min2D at e
  split at e<;>try (cases e;done)
  cases e
  obtain ⟨v,v2,rfl,rv,rv2⟩:=rl.two
  cases rv
  cases rv2
  exact call_min2 hc pins s σ H _ us Q I r ⟨_,_,rfl,q.same sr (.int _)⟩
 | .maxL,hq=>by
  have hc:X.calm=true:=hq.resolve_right (by decide)
  intro pins s σ H xs us Q I r h
  obtain ⟨F,B,st,ds,d,ob,sr,rl,e,q⟩:=h
  change maxLD _=_ at e
  unfold maxLD at e
  split at e<;>try (cases e;done)
  ·obtain ⟨l,e1,e2⟩:=Option.bind_eq_some_iff.mp e
   obtain ⟨M,e3,rfl⟩:=Option.map_eq_some_iff.mp e2
   obtain ⟨v,rfl,rv⟩:=rl.one
   obtain ⟨a,ys,rfl,h1,l1⟩:=rv.isL
   refine cr_max hc pins s σ H _ us Q I r ⟨a,l,rfl,SqL.ints h1 l1 e1,ne_len (.inl e3),fun m m1 m2=>?_⟩
   rw [max_one e3 m1 m2]
   exact q.same sr (.int _)
  ·obtain ⟨l,e1,e2⟩:=Option.bind_eq_some_iff.mp e
   obtain ⟨M,e3,rfl⟩:=Option.map_eq_some_iff.mp e2
   obtain ⟨v,rfl,rv⟩:=rl.one
   obtain ⟨a,ys,rfl,h1,l1⟩:=rv.isT
   rw [l1.ints e1] at h1
   obtain ⟨u,rfl,ru⟩:=vals1 r
   obtain rfl:u=Value.ref a:=ru
   cases l with
   | nil=>cases e3
   | cons n ns =>
    refine max_tup hc (by omega) I h1 ?_
    simp only [maxI,Option.some.injEq] at e3
    rw [e3]
    exact q.same sr (.int _)
 | .minL,hq=>by
  have hc:X.calm=true:=hq.resolve_right (by decide)
  intro pins s σ H xs us Q I r h
  obtain ⟨F,B,st,ds,d,ob,sr,rl,e,q⟩:=h
  change minLD _=_ at e
  unfold minLD at e
  split at e<;>try (cases e;done)
  ·obtain ⟨v,rfl,rv⟩:=rl.one
   obtain ⟨a,ys,rfl,h1,l1⟩:=rv.isL
   split at e
   ·rename_i l e1
    obtain ⟨M,e3,rfl⟩:=Option.map_eq_some_iff.mp e
    refine cr_min hc pins s σ H _ us Q I r ⟨a,l,rfl,SqL.ints h1 l1 e1,ne_len (.inr e3),fun m m1 m2=>?_⟩
    rw [min_one e3 m1 m2]
    exact q.same sr (.int _)
   ·rename_i xs _ _
    cases xs with
    | nil=>cases e
    | cons x ds =>
     by_cases hz:D.mins (x::ds)=true
     ·rw [minT,if_pos hz] at e
      obtain rfl:=Option.some.inj e
      exact call_minD (I.ok.hd hc) hu I r h1 l1 hz sr q
     ·rw [minT,if_neg hz] at e
      cases e
  ·obtain ⟨l,e1,e2⟩:=Option.bind_eq_some_iff.mp e
   obtain ⟨M,e3,rfl⟩:=Option.map_eq_some_iff.mp e2
   obtain ⟨v,rfl,rv⟩:=rl.one
   obtain ⟨a,ys,rfl,h1,l1⟩:=rv.isT
   rw [l1.ints e1] at h1
   obtain ⟨u,rfl,ru⟩:=vals1 r
   obtain rfl:u=Value.ref a:=ru
   cases l with
   | nil=>cases e3
   | cons n ns =>
    refine min_tup hc (by omega) I h1 ?_
    simp only [minI,Option.some.injEq] at e3
    rw [e3]
    exact q.same sr (.int _)
 | .sum,hq=>by
  have hc:X.calm=true:=hq.resolve_right (by decide)
  intro pins s σ H xs us Q I r h
  obtain ⟨F,B,st,ds,d,ob,sr,rl,e,q⟩:=h
  change sumD _=_ at e
  unfold sumD at e
  split at e<;>try (cases e;done)
  obtain ⟨l,e1,rfl⟩:=Option.map_eq_some_iff.mp e
  obtain ⟨v,rfl,rv⟩:=rl.one
  obtain ⟨a,ys,rfl,h1,l1⟩:=rv.isL
  exact cr_sum hc pins s σ H _ us Q I r ⟨a,l,rfl,SqL.ints h1 l1 e1,q.same sr (.int _)⟩
 | .int,_=>by
  intro pins s σ H xs us Q I r h
  obtain ⟨F,B,st,ds,d,ob,sr,rl,e,q⟩:=h
  change intD _=_ at e
  unfold intD at e
  split at e<;>try (cases e;done)
  ·cases e
   obtain ⟨v,rfl,rv⟩:=rl.one
   cases rv
   exact call_int1 pins s σ H _ us Q I r (.inl ⟨_,rfl,q.same sr (.int _)⟩)
  ·cases e
   obtain ⟨v,rfl,rv⟩:=rl.one
   cases rv
   exact call_int1 pins s σ H _ us Q I r (.inr ⟨_,rfl,q.same sr (.int _)⟩)
 | .bool,_=>by
  intro pins s σ H xs us Q I r h
  obtain ⟨F,B,st,ds,d,ob,sr,rl,e,q⟩:=h
  change boolD _=_ at e
  unfold boolD at e
  split at e<;>try (cases e;done)
  ·cases e
   obtain ⟨v,rfl,rv⟩:=rl.one
   cases rv
   exact call_bool1 pins s σ H _ us Q I r (.inl ⟨_,rfl,q.same sr (.bl _)⟩)
  ·cases e
   obtain ⟨v,rfl,rv⟩:=rl.one
   cases rv
   exact call_bool1 pins s σ H _ us Q I r (.inr ⟨_,rfl,q.same sr (.bl _)⟩)
 | .repr,_=>by
  intro pins s σ H xs us Q I r h
  obtain ⟨F,B,st,ds,d,ob,sr,rl,e,q⟩:=h
  change reprD _ _=_ at e
  unfold reprD at e
  split at e<;>try (cases e;done)
  rename_i d0
  split at e
  ·rename_i hz
   cases e
   obtain ⟨v,rfl,rv⟩:=rl.one
   unfold D.reprOk at hz
   simp only [Bool.and_eq_true,decide_eq_true_eq] at hz
   obtain ⟨⟨h1,h2⟩,h3⟩:=hz
   obtain ⟨s1,s2,s3⟩:=show_py d0 h1
   have hl:(toPy d0).shown.length≤sizeLine:=by
    have:=shown_len d0 h1
    rw [← lineEq];omega
   obtain ⟨u,rfl,ru⟩:=vals1 r
   have fin:∀ h' u' tk,(∀ b o,s.heap.get? b=some o→h'.get? b=some o)→EP X pins σ Q (.str (toPy d0).shown u') { s with heap:=h',toks:=tk }:=fun h' u' tk hk =>
    ⟨.str _,H,I.kept hk,⟨_,rfl⟩,q.same sr (.str _ _ rfl)⟩
   obtain ⟨as,rd⟩:=Dp.reads I _ _ u (rv.dp s3) ru
   have big:∀ a,u=.ref a→wpAny (model X.prog X.w) X.A (call (biF .repr) [u]) (EP X pins σ Q) X.xe s:=by
    intro a ea
    subst ea
    refine repr_of_reads' rd s1 (fun z=>by rw [s2] at z;cases z) hg ?_ (fun _ _ z=>z) (fun h' u' tk hk=>fin h' u' tk hk) hl
    rw [depth_py d0 s3];omega
   cases rv with
   | non=>obtain rfl:u=Value.none:=ru;exact PySem.P.repr_of_none (fin s.heap _ _ fun _ _ z=>z)
   | bl b=>obtain rfl:u=Value.bool b:=ru;exact PySem.P.repr_of_bool (fin s.heap _ _ fun _ _ z=>z)
   | int i =>
    obtain ⟨t,rfl⟩:=ru
    have s1':i.natAbs.log2<1920:=by simpa [toPy,PyData.showable] using s1
    exact PySem.P.repr_of_int s1' (fin s.heap _ _ fun _ _ z=>z)
   | str x s0 ex =>
    subst ex
    obtain ⟨t,rfl⟩:=ru
    have ee:(toPy (.str x.cps.toList)).shown=reprText x:=by
     show reprText ⟨x.cps.toList.toArray⟩=_
     rw [str_of]
    rw [ee] at fin hl
    exact PySem.P.repr_of_str (fin s.heap _ _ fun _ _ z=>z) hl
   | tup h f b r=>exact big _ ru
   | lst h f b r=>exact big _ ru
   | tupW l c dd z vv r=>exact big _ ru
   | dct=>simp [D.plain] at s3
   | dctW=>simp [D.plain] at s3
   | ob0=>simp [D.plain] at s3
   | ob1=>simp [D.plain] at s3
   | ob1W=>simp [D.plain] at s3
   | err=>simp [D.plain] at s3
   | errF=>simp [D.plain] at s3
  ·split at e
   ·rename_i hz0 hz
    cases e
    obtain ⟨v,rfl,rv⟩:=rl.one
    unfold D.reprDk at hz
    simp only [Bool.and_eq_true,Bool.or_eq_true,decide_eq_true_eq] at hz
    obtain ⟨⟨h1,h2⟩,h3⟩:=hz
    have hH:d0.smallH=true:=h1.elim (smallH_of d0) (·.1)
    obtain ⟨s1,s2⟩:=show_pyH d0 hH
    have hl:(toPy d0).shown.length≤sizeLine:=by
     have:=shown_lenf d0 hH
     rw [← lineEq];omega
    obtain ⟨u,rfl,ru⟩:=vals1 r
    have fin:∀ h' u' tk,(∀ b o,s.heap.get? b=some o→h'.get? b=some o)→EP X pins σ Q (.str (toPy d0).shown u') { s with heap:=h',toks:=tk }:=fun h' u' tk hk =>
     ⟨.str _,H,I.kept hk,⟨_,rfl⟩,q.same sr (.str _ _ rfl)⟩
    have rd:∃ as,Reads s.heap u (toPy d0) as∧((toPy d0).hasDict=true→sysModules∉as):=by
     rcases h1 with h1|h1
     ·obtain ⟨_,z2,z3⟩:=show_py d0 h1
      obtain ⟨as,rd⟩:=Dp.reads I _ _ u (rv.dp z3) ru
      exact ⟨as,rd,fun z=>by rw [z2] at z;cases z⟩
     ·obtain ⟨as,rd,hn⟩:=rv.readsN I h1.2 hH u ru
      exact ⟨as,rd,fun _=>hn⟩
    obtain ⟨as,rd,hsm⟩:=rd
    have big:∀ a,u=.ref a→wpAny (model X.prog X.w) X.A (call (biF .repr) [u]) (EP X pins σ Q) X.xe s:=by
     intro a ea
     subst ea
     refine repr_of_reads' rd s1 hsm hg ?_ (fun _ _ z=>z) (fun h' u' tk hk=>fin h' u' tk hk) hl
     omega
    cases rv with
    | non=>obtain rfl:u=Value.none:=ru;exact PySem.P.repr_of_none (fin s.heap _ _ fun _ _ z=>z)
    | bl b=>obtain rfl:u=Value.bool b:=ru;exact PySem.P.repr_of_bool (fin s.heap _ _ fun _ _ z=>z)
    | int i =>
     obtain ⟨t,rfl⟩:=ru
     have s1':i.natAbs.log2<1920:=by simpa [toPy,PyData.showable] using s1
     exact PySem.P.repr_of_int s1' (fin s.heap _ _ fun _ _ z=>z)
    | str x s0 ex =>
     subst ex
     obtain ⟨t,rfl⟩:=ru
     have ee:(toPy (.str x.cps.toList)).shown=reprText x:=by
      show reprText ⟨x.cps.toList.toArray⟩=_
      rw [str_of]
     rw [ee] at fin hl
     exact PySem.P.repr_of_str (fin s.heap _ _ fun _ _ z=>z) hl
    | tup h f b r=>exact big _ ru
    | lst h f b r=>exact big _ ru
    | tupW l c dd z vv r=>exact big _ ru
    | dct=>exact big _ ru
    | dctW=>exact big _ ru
    | ob0=>exact nomatch hH
    | ob1=>exact nomatch hH
    | ob1W=>exact nomatch hH
    | err=>exact nomatch hH
    | errF=>exact nomatch hH
   ·cases e
 | .sorted,hq=>by
  have hc:X.calm=true:=hq.resolve_right (by decide)
  intro pins s σ H xs us Q I r h
  obtain ⟨F,B,st,ds,d,ob,sr,rl,e,q⟩:=h
  change sortedD _=_ at e
  unfold sortedD at e
  split at e<;>try (cases e;done)
  split at e
  ·rename_i l e1
   cases e
   obtain ⟨v,rfl,rv⟩:=rl.one
   obtain ⟨a,ys,rfl,h1,l1⟩:=rv.isL
   refine cr_sortedI pins s σ H _ us Q I r ⟨a,l,rfl,SqL.ints h1 l1 e1,fun ns p hp hs hn=>?_⟩
   have e:ns=sortI l:=PySem.W.ksm_same (hp.trans (sortI_perm l).symm) hs (sortI_pw l)
   subst e
   exact q.newL sr ob (RepL.of_ints _) p hn
  ·split at e
   ·rename_i hz
    cases e
    obtain ⟨v,rfl,rv⟩:=rl.one
    obtain ⟨a,ys,rfl,h1,l1⟩:=rv.isL
    exact call_sortedD hu I r h1 l1 hz sr ob q
   ·cases e
 | .any,hq=>by
  have hc:X.calm=true:=hq.resolve_right (by decide)
  intro pins s σ H xs us Q I r h
  obtain ⟨F,B,st,ds,d,ob,sr,rl,e,q⟩:=h
  change anyD _=_ at e
  unfold anyD at e
  split at e<;>try (cases e;done)
  obtain ⟨l,e1,rfl⟩:=Option.map_eq_some_iff.mp e
  obtain ⟨v,rfl,rv⟩:=rl.one
  obtain ⟨a,ys,rfl,h1,l1⟩:=rv.isL
  exact cr_any hc pins s σ H _ us Q I r ⟨a,l,rfl,SqL.bools h1 l1 e1,q.same sr (.bl _)⟩
 | .all,hq=>by
  have hc:X.calm=true:=hq.resolve_right (by decide)
  intro pins s σ H xs us Q I r h
  obtain ⟨F,B,st,ds,d,ob,sr,rl,e,q⟩:=h
  change allD _=_ at e
  unfold allD at e
  split at e<;>try (cases e;done)
  obtain ⟨l,e1,rfl⟩:=Option.map_eq_some_iff.mp e
  obtain ⟨v,rfl,rv⟩:=rl.one
  obtain ⟨a,ys,rfl,h1,l1⟩:=rv.isL
  exact cr_all hc pins s σ H _ us Q I r ⟨a,l,rfl,SqL.bools h1 l1 e1,q.same sr (.bl _)⟩
 | .divmod,hq=>by
  have hc:X.calm=true:=hq.resolve_right (by decide)
  intro pins s σ H xs us Q I r h
  obtain ⟨F,B,st,ds,d,ob,sr,rl,e,q⟩:=h
  change divmodD _=_ at e
  unfold divmodD at e
  split at e<;>try (cases e;done)
  split at e
  ·rename_i hz
   cases e
   obtain ⟨v,v2,rfl,rv,rv2⟩:=rl.two
   cases rv
   cases rv2
   exact call_divmod pins s σ H _ us Q I r ⟨_,_,rfl,hz,q.newT sr ob (.cons (.int _) (.cons (.int _) .nil))⟩
  ·cases e
 | .str,_=>by
  intro pins s σ H xs us Q I r h
  obtain ⟨F,B,st,ds,d,ob,sr,rl,e,q⟩:=h
  change strD _ _=_ at e
  unfold strD at e
  split at e<;>try (cases e;done)
  rename_i i
  split at e
  ·rename_i hz
   cases e
   obtain ⟨v,rfl,rv⟩:=rl.one
   cases rv
   obtain ⟨u,rfl,ru⟩:=vals1 r
   obtain ⟨t,rfl⟩:=ru
   have hl:i.natAbs.log2<1900:=PySem.Flt.log2_lt_of (by decide) (show i.natAbs<2^1900 from hz)
   exact PySem.P.str_of_int (by omega) ⟨.str _,H,I.kept fun _ _ z=>z,⟨_,rfl⟩,q.same sr (.str _ _ rfl)⟩
  ·cases e
end
end PL
end
section
namespace PL
open PySem PySem.Spec PyProof.Rows L2
section
variable {K:PySem.W.Frag}{w:World}{XR:XRel}{W:WX}{cx:Ctx}{F:Foot}{B:Addr→Prop}{σ:L2.St}{H:Hp}{env:Env}{st:St}
theorem RE.weak {r:R D}{Q:VK}{fr:Bool}(h:RE K w XR W F B σ H false r Q):RE K w XR W F B σ H fr r Q:=by
 cases r with
 | ok d st'=>exact fun v F' H' x s r _=>h v F' H' x s r (fun z=>by cases z)
 | exc c fs st'=>exact h
 | no=>exact h
theorem RE.k1 {F':Foot}{H':Hp}{st':St}{o:Option D}{d:D}{Q:VK}(h:RE K w XR W F B σ H false (R.lift o st') Q)(e:o=some d)(x:Ext F H F' H'):K1 K w F' B H' st' d Q:=by
 subst e
 exact fun v F2 H2 y s r=>h v F2 H2 (x.trans y) s r (fun z=>by cases z)
theorem tE.last (o:OkE K w F B σ H env st){e:E}{Q:VK}(h:RE K w XR W F B σ H false (evE cx e env st) Q):tE K w XR W cx e σ H Q:=⟨F,B,env,st,o,h.weak⟩
end
section
variable {X:Cx}{pr:Prog}{XR:XRel}{C:SC}{n:Nat}{W:WX}{cx:Ctx}
abbrev gE (X:Cx)(XR:XRel)(W:WX)(cx:Ctx)(e:E):TE:=tE X.K X.w XR W cx e
abbrev gEs (X:Cx)(XR:XRel)(W:WX)(cx:Ctx)(es:Es):TA:=tEs X.K X.w XR W cx es
abbrev gT (X:Cx)(XR:XRel)(W:WX)(cx:Ctx)(e:E):TT:=tT X.K X.w XR W cx e
variable {p q r:Expr}{a b c:E}{pos:Pos}
theorem x_loc {i:Nat}{x:Str}(hN:X.N[i]?=some x)(hv:Vis X.env.scope x)(hd:okName x=true):PE X (.Name x pos) (gE X XR W cx (.loc i)):=by
 unfold okName at hd
 simp only [Bool.and_eq_true,Bool.not_eq_true'] at hd
 refine PE.of (pe_var hN hv hd.1 hd.2.1) fun σ H Q h=>?_
 obtain ⟨F,B,env,st,o,h⟩:=h
 unfold evE at h
 obtain ⟨d,e⟩:=RE.some_of h
 obtain ⟨v,h1,h2⟩:=o.get e
 exact ⟨v,h1,RE.fin h e (Ext.refl F H) o.sr h2⟩
theorem x_glb (G:Good X pr XR C n){g:Nat}{x:Str}(hg:Gl X x)(hx:C.gname g=some x)(hd:okName x=true):PE X (.Name x pos) (gE X XR W (pr.cxe n) (.glb g)):=by
 unfold okName at hd
 simp only [Bool.and_eq_true,Bool.not_eq_true'] at hd
 refine ⟨fun pins s σ H Q I h=>?_⟩
 obtain ⟨F,B,env,st,o,h⟩:=h
 unfold evE at h
 obtain ⟨d,e⟩:=RE.some_of h
 obtain ⟨u,v,h1,h2,h3⟩:=G.gls g x d hx e
 exact (pe_glob hg h1 h2 hd.1).run pins s σ H Q I (RE.fin h e (Ext.refl F H) o.sr (h3 F B H))
theorem x_cst (d:D){v:V}(h:PE X p (tC v))(r:∀ F B H,Rep X.K X.w F B H v d):PE X p (gE X XR W cx (.cst d)):=by
 refine PE.of h fun σ H Q h=>?_
 obtain ⟨F,B,env,st,o,h⟩:=h
 unfold evE at h
 exact h v F H (Ext.refl F H) o.sr (r F B H) (fun z=>by cases z)
theorem x_bin (o:Bop)(ha:PE X p (gE X XR W cx a))(hb:PE X q (gE X XR W cx b)):PE X (.BinOp p (bopOf o) q pos) (gE X XR W cx (.bin o a b)):=by
 refine PE.of (pe_op (bin_R o) ha hb) fun σ H Q h=>?_
 obtain ⟨F,B,env,st,ok,h⟩:=h
 unfold evE at h
 refine tE.first ok h fun d1 st1 v1 F1 H1 x1 ok1 r1 h=>?_
 refine tE.first ok1 (h.shift x1) fun d2 st2 v2 F2 H2 x2 ok2 r2 h=>?_
 obtain ⟨d,e⟩:=RE.some_of h
 exact bin_ok e (r1.ext x2) r2 ok2.occ ok2.sr (RE.k1 h e x2)
theorem x_neg (ha:PE X p (gE X XR W cx a)):PE X (.UnaryOp .USub p pos) (gE X XR W cx (.neg a)):=by
 refine PE.of (pe_un un_neg ha) fun σ H Q h=>?_
 obtain ⟨F,B,env,st,ok,h⟩:=h
 unfold evE at h
 refine tE.first ok h fun d1 st1 v1 F1 H1 x1 ok1 r1 h=>?_
 cases d1 with
 | int i =>
  cases r1
  exact ⟨i,rfl,h _ F1 H1 x1 ok1.sr (.int _) (fun z=>by cases z)⟩
 | _=>exact h.elim
def rCop (K:PySem.W.Frag)(w:World):Cop→R2
 | .eq=>rEqA K
 | .ne=>rNeA K
 | .lt=>rI0 fun i j=>V.bl (decide (i<j))
 | .le=>rI0 fun i j=>V.bl (decide (i≤j))
 | .gt=>rI0 fun i j=>V.bl (decide (j<i))
 | .ge=>rI0 fun i j=>V.bl (decide (j≤i))
 | .inn=>rInA K w false
 | .nin=>rInA K w true
theorem cop_R (hu:X.A.units+65<cLine):∀ o:Cop,OpR X (compareOp (copOf o)) (rCop X.K X.w o)
 | .eq=>op_eq.or (op_eqD (by omega))
 | .ne=>op_ne.or (op_neD (by omega))
 | .lt=>op_lt
 | .le=>op_le
 | .gt=>op_gt
 | .ge=>op_ge
 | .inn=>in_R hu
 | .nin=>notin_R hu
theorem cop_ok {K : PySem.W.Frag}{w : World}{F : Foot}{B : Addr → Prop}{H : Hp}{v u : V}{d1 d2 : D}{Q : VK}{o : Cop}{t : Bool}(e : cop o d1 d2 = some t)(r1 : Rep K w F B H v d1)(r2 : Rep K w F B H u d2)(q : Q (.bl t) H) : rCop K w o v u H Q := by
  cases o with
  | eq => exact eq_ok e r1 r2 q
  | ne =>
    obtain ⟨t', e1, rfl⟩ := Option.map_eq_some_iff.mp e
    exact ne_ok e1 r1 r2 q
  | lt => cases d1 <;> cases d2 <;> simp only [cop, Option.some.injEq] at e <;> try (cases e; done)
          subst e; cases r1; cases r2; exact ⟨_, _, rfl, rfl, q⟩
  | le => cases d1 <;> cases d2 <;> simp only [cop, Option.some.injEq] at e <;> try (cases e; done)
          subst e; cases r1; cases r2; exact ⟨_, _, rfl, rfl, q⟩
  | gt => cases d1 <;> cases d2 <;> simp only [cop, Option.some.injEq] at e <;> try (cases e; done)
          subst e; cases r1; cases r2; exact ⟨_, _, rfl, rfl, q⟩
  | ge => cases d1 <;> cases d2 <;> simp only [cop, Option.some.injEq] at e <;> try (cases e; done)
          subst e; cases r1; cases r2; exact ⟨_, _, rfl, rfl, q⟩
  | inn => exact in_ok false e r1 r2 q
  | nin =>
    obtain ⟨t', e1, rfl⟩ := Option.map_eq_some_iff.mp e
    exact in_ok true e1 r1 r2 q
theorem cmp_in (o:Cop){σ:L2.St}{H:Hp}{Q:VK}(h:gE X XR W cx (.cmp o a b) σ H Q):tOp (rCop X.K X.w o) (gE X XR W cx a) (gE X XR W cx b) σ H Q:=by
 obtain ⟨F,B,env,st,ok,h⟩:=h
 unfold evE at h
 refine tE.first ok h fun d1 st1 v1 F1 H1 x1 ok1 r1 h=>?_
 refine tE.first ok1 (h.shift x1) fun d2 st2 v2 F2 H2 x2 ok2 r2 h=>?_
 obtain ⟨d,e⟩:=RE.some_of h
 obtain ⟨t,e1,e2⟩:=Option.map_eq_some_iff.mp e
 subst e2
 exact cop_ok e1 (r1.ext x2) r2 ((RE.k1 h e x2).same ok2.sr (.bl t))
theorem x_cmp (hu:X.A.units+65<cLine)(o:Cop)(ha:PE X p (gE X XR W cx a))(hb:PE X q (gE X XR W cx b))(hm:behindInMarks (copOf o) q=false):PE X (.Compare p [copOf o] [q] pos) (gE X XR W cx (.cmp o a b)) :=
 PE.of (pe_cmpR (cop_R hu o) ha hb hm) fun σ H Q h=>cmp_in o h
theorem isN_v {F:Foot}{B:Addr→Prop}{H:Hp}{K:PySem.W.Frag}{w:World}{v:V}{d:D}(r:Rep K w F B H v d):decide (v=.non)=d.isN:=by
 cases r<;>first|rfl|(simp;done)
theorem x_isn {j pos'}(ha:PE X p (gE X XR W cx a)):PE X (.Compare p [.Is] [.Constant .none j pos'] pos) (gE X XR W cx (.isn a)):=by
 refine PE.of (pe_cmp (pc_isN ha) rfl) fun σ H Q h=>?_
 obtain ⟨F,B,env,st,ok,h⟩:=h
 unfold evE at h
 refine tE.first ok h fun d1 st1 v1 F1 H1 x1 ok1 r1 h=>?_
 rw [isN_v r1]
 exact h _ F1 H1 x1 ok1.sr (.bl _) (fun z=>by cases z)
theorem x_isnn {j pos'}(ha:PE X p (gE X XR W cx a)):PE X (.Compare p [.IsNot] [.Constant .none j pos'] pos) (gE X XR W cx (.isnn a)):=by
 refine PE.of (pe_cmp (pc_notN ha) rfl) fun σ H Q h=>?_
 obtain ⟨F,B,env,st,ok,h⟩:=h
 unfold evE at h
 refine tE.first ok h fun d1 st1 v1 F1 H1 x1 ok1 r1 h=>?_
 rw [isN_v r1]
 exact h _ F1 H1 x1 ok1.sr (.bl _) (fun z=>by cases z)
theorem x_and {rest:List Expr}(ha:PE X p (gE X XR W cx a))(hb:PE X (.BoolOp .And (q::rest) pos) (gE X XR W cx b)):PE X (.BoolOp .And (p::q::rest) pos) (gE X XR W cx (.and a b)):=by
 refine PE.of (pe_andT ha hb) fun σ H Q h=>?_
 obtain ⟨F,B,env,st,ok,h⟩:=h
 unfold evE at h
 refine tE.first ok h fun d1 st1 v1 F1 H1 x1 ok1 r1 h=>?_
 cases e:d1.truth with
 | none=>rw [e] at h;exact h.elim
 | some t =>
  rw [e,R.lift_some,R.bind_ok] at h
  refine ⟨t,tru_of r1 e,?_⟩
  cases t with
  | true=>simp only [if_true] at h ⊢;exact tE.last ok1 (h.shift x1)
  | false=>simp only [Bool.false_eq_true,if_false] at h ⊢;exact h _ F1 H1 x1 ok1.sr r1 (fun z=>by cases z)
theorem x_or {rest:List Expr}(ha:PE X p (gE X XR W cx a))(hb:PE X (.BoolOp .Or (q::rest) pos) (gE X XR W cx b)):PE X (.BoolOp .Or (p::q::rest) pos) (gE X XR W cx (.or a b)):=by
 refine PE.of (pe_orT ha hb) fun σ H Q h=>?_
 obtain ⟨F,B,env,st,ok,h⟩:=h
 unfold evE at h
 refine tE.first ok h fun d1 st1 v1 F1 H1 x1 ok1 r1 h=>?_
 cases e:d1.truth with
 | none=>rw [e] at h;exact h.elim
 | some t =>
  rw [e,R.lift_some,R.bind_ok] at h
  refine ⟨t,tru_of r1 e,?_⟩
  cases t with
  | true=>simp only [if_true] at h ⊢;exact h _ F1 H1 x1 ok1.sr r1 (fun z=>by cases z)
  | false=>simp only [Bool.false_eq_true,if_false] at h ⊢;exact tE.last ok1 (h.shift x1)
theorem x_not (ha:PE X p (gE X XR W cx a)):PE X (.UnaryOp .Not p pos) (gE X XR W cx (.not a)):=by
 refine PE.of (pe_notT ha) fun σ H Q h=>?_
 obtain ⟨F,B,env,st,ok,h⟩:=h
 unfold evE at h
 refine tE.first ok h fun d1 st1 v1 F1 H1 x1 ok1 r1 h=>?_
 cases e:d1.truth with
 | none=>rw [e] at h;exact h.elim
 | some t =>
  rw [e,R.lift_some,R.bind_ok] at h
  exact ⟨t,tru_of r1 e,h _ F1 H1 x1 ok1.sr (.bl _) (fun z=>by cases z)⟩
theorem x_ifx (hc:PT X r (gT X XR W cx c))(ha:PE X p (gE X XR W cx a))(hb:PE X q (gE X XR W cx b)):PE X (.IfExp r p q pos) (gE X XR W cx (.ifx c a b)):=by
 refine PE.of (pe_ifExp hc ha hb) fun σ H Q h=>?_
 obtain ⟨F,B,env,st,ok,h⟩:=h
 unfold evE at h
 refine tT.first ok h fun t st1 F1 H1 x1 ok1 h=>?_
 cases t with
 | true=>simp only [if_true] at h ⊢;exact tE.last ok1 (h.shift x1)
 | false=>simp only [Bool.false_eq_true,if_false] at h ⊢;exact tE.last ok1 (h.shift x1)
end
end PL
end
section
namespace PL
open PySem PySem.Spec PyProof.Rows L2
theorem star_ns {e:Expr}(h:isStar e=false)(es:List Expr)(env:PySem.Env):starEach (e::es) env=(false,eval e env)::starEach es env:=by
 cases e<;>first|rfl|(simp [isStar] at h)
theorem back_any (pos:Pos):∀ (ps:List Expr) (env:PySem.Env),(ps.all fun p=>!isStar p)=true→(backTo pos (starEach ps env)).any (·.1)=false
 | [],env,_=>rfl
 | p::ps,env,h=>by
  simp only [List.all_cons,Bool.and_eq_true,Bool.not_eq_true'] at h
  rw [star_ns h.1]
  show (false || (backTo pos (starEach ps env)).any (·.1))=false
  rw [back_any pos ps env h.2]
  rfl
section
variable {X:Cx}{pr:Prog}{XR:XRel}{C:SC}{n:Nat}{W:WX}{cx:Ctx}
variable {p q r:Expr}{ps:List Expr}{a b c:E}{es:Es}{pos:Pos}
theorem a_nil:PA X [] (gEs X XR W cx .nil):=PA.of pa_nil fun σ H Q h=>by
 obtain ⟨F,B,env,st,ok,h⟩:=h
 unfold evEs at h
 exact h [] F H (Ext.refl F H) ok.sr .nil
theorem tE.firstS {K:PySem.W.Frag}{w:World}{F:Foot}{B:Addr→Prop}{σ:L2.St}{H:Hp}{env:Env}{st:St}(o:OkE K w F B σ H env st){e:E}{f:D→St→R (List D)}{Q:List V→Hp→Prop}{Q':VK}
  (h:REs K w XR W F B σ H ((evE cx e env st).bind f) Q)
  (k:∀ d st' v F' H',Ext F H F' H'→OkE K w F' B σ H' env st'→Rep K w F' B H' v d→REs K w XR W F B σ H (f d st') Q→Q' v H'):tE K w XR W cx e σ H Q':=by
 refine ⟨F,B,env,st,o,?_⟩
 cases q:evE cx e env st with
 | ok d st' =>
  rw [q,R.bind_ok] at h
  intro v F' H' x s r _
  exact k d st' v F' H' x (o.ext x s) r h
 | exc c fs st'=>rw [q,R.bind_exc] at h;exact h
 | no=>rw [q,R.bind_no] at h;exact h
theorem tEs.firstS {K:PySem.W.Frag}{w:World}{F:Foot}{B:Addr→Prop}{σ:L2.St}{H:Hp}{env:Env}{st:St}(o:OkE K w F B σ H env st){es:Es}{f:List D→St→R (List D)}{Q Q':List V→Hp→Prop}
  (h:REs K w XR W F B σ H ((evEs cx es env st).bind f) Q)
  (k:∀ ds st' vs F' H',Ext F H F' H'→OkE K w F' B σ H' env st'→RepL K w F' B H' vs ds→REs K w XR W F B σ H (f ds st') Q→Q' vs H'):tEs K w XR W cx es σ H Q':=by
 refine ⟨F,B,env,st,o,?_⟩
 cases q:evEs cx es env st with
 | ok d st' =>
  rw [q,R.bind_ok] at h
  intro v F' H' x s r
  exact k d st' v F' H' x (o.ext x s) r h
 | exc c fs st'=>rw [q,R.bind_exc] at h;exact h
 | no=>rw [q,R.bind_no] at h;exact h
theorem REs.shift {K:PySem.W.Frag}{w:World}{F:Foot}{B:Addr→Prop}{σ:L2.St}{H:Hp}{F1:Foot}{H1:Hp}(x:Ext F H F1 H1){r:R (List D)}{Q:List V→Hp→Prop}(h:REs K w XR W F B σ H r Q):REs K w XR W F1 B σ H1 r Q:=by
 cases r with
 | ok d st'=>exact fun v F' H' y s r=>h v F' H' (x.trans y) s r
 | exc c fs st'=>exact fun cls dx F' H' y s r=>h cls dx F' H' (x.trans y) s r
 | no=>exact h
theorem a_cons (hp:isStar p=false)(ha:PE X p (gE X XR W cx a))(hr:PA X ps (gEs X XR W cx es)):PA X (p::ps) (gEs X XR W cx (.cons a es)):=by
 refine PA.of (pa_cons ha hr (star_ns hp ps _)) fun σ H Q h=>?_
 obtain ⟨F,B,env,st,ok,h⟩:=h
 unfold evEs at h
 refine tE.firstS ok h fun d1 st1 v1 F1 H1 x1 ok1 r1 h=>?_
 refine tEs.firstS ok1 (h.shift x1) fun ds st2 vs F2 H2 x2 ok2 r2 h=>?_
 exact h _ F2 H2 x2 ok2.sr (.cons (r1.ext x2) r2)
theorem a_star {p2:Pos}(ha:PE X p (gE X XR W cx a))(hr:PA X ps (gEs X XR W cx es)):PA X (.Starred p p2::ps) (gEs X XR W cx (.star a es)):=by
 refine PA.of (StX.pa_star ha hr) fun σ H Q h=>?_
 obtain ⟨F,B,env,st,ok,h⟩:=h
 unfold evEs at h
 refine tE.firstS ok h fun d1 st1 v1 F1 H1 x1 ok1 r1 h=>?_
 have go:∀ (ys:List D) (a:Addr) (xs:List V),v1=.ref a→(SqT X.K H1 a xs∨SqL X.K H1 a xs)→RepL X.K X.w F1 B H1 xs ys→d1.items=some ys→∃ a xs,v1=.ref a∧(SqT X.K H1 a xs∨SqL X.K H1 a xs)∧gEs X XR W cx es σ H1 fun vs H2=>Q (xs++vs) H2:=by
  intro ys a xs e1 hq rl e2
  refine ⟨a,xs,e1,hq,?_⟩
  rw [e2,R.lift_some,R.bind_ok] at h
  refine tEs.firstS ok1 (h.shift x1) fun ds st2 vs F2 H2 x2 ok2 r2 h=>?_
  exact h _ F2 H2 x2 ok2.sr ((rl.ext x2).append r2)
 cases d1 with
 | tup ys =>
  obtain ⟨a,xs,e1,h1,l1⟩:=r1.isT
  exact go ys a xs e1 (.inl h1) l1 rfl
 | lst ys =>
  obtain ⟨a,xs,e1,h1,l1⟩:=r1.isL
  exact go ys a xs e1 (.inr (.of h1)) l1 rfl
 | _=>exact h.elim
theorem x_tup {k}(h:PA X ps (gEs X XR W cx es)):PE X (.Tuple ps k pos) (gE X XR W cx (.tup es)):=by
 refine PE.of (pe_tup h) fun σ H Q h=>?_
 obtain ⟨F,B,env,st,ok,h⟩:=h
 unfold evE at h
 refine tEs.first ok h fun ds st1 vs F1 H1 x1 ok1 r1 h=>?_
 split at h
 ·rename_i hz
  refine ⟨by rw [r1.length,← lineEq];exact hz,fun p hp=>?_⟩
  exact h _ F1 _ (x1.trans (Ext.new hp)) (ok1.sr.new hp) (Rep.newT hp ok1.sr ok1.occ r1) (fun z=>by cases z)
 ·exact h.elim
theorem freshL {K:PySem.W.Frag}{w:World}{F F1:Foot}{B:Addr→Prop}{H H1:Hp}{st1:St}{vs:List V}{ds:List D}{p:Addr}(x1:Ext F H F1 H1)(sr:SR st1 F1 H1)(hp:H1 p=none)(r1:RepL K w F1 B H1 vs ds) :
  Fresh K w B H F1 (upd H1 p (.lst vs)) (.ref p) (.lst ds):=by
 refine ⟨p,vs,ds,rfl,rfl,?_,upd_same,fun f=>sr.occ p f hp,r1.move (fun a f b hn=>⟨upd_ne fun e=>hn (by rw [e];exact hp),f,fun z=>?_⟩) fun _ e=>e⟩
 ·cases e:H p with
  | none=>rfl
  | some o=>exact absurd hp (x1.occ p (by rw [e];simp))
 ·rcases z with z|z
  ·exact b z
  ·exact hn (by rw [z];exact hp)
theorem x_lst (h:PA X ps (gEs X XR W cx es)):PE X (.List ps pos) (gE X XR W cx (.lst es)):=by
 refine PE.of (pe_lst h) fun σ H Q h=>?_
 obtain ⟨F,B,env,st,ok,h⟩:=h
 unfold evE at h
 refine tEs.first ok h fun ds st1 vs F1 H1 x1 ok1 r1 h=>?_
 split at h
 ·rename_i hz
  refine ⟨by rw [r1.length,← lineEq];exact hz,fun p hp=>?_⟩
  exact h _ F1 _ (x1.trans (Ext.new hp)) (ok1.sr.new hp) (Rep.newL hp ok1.sr ok1.occ r1) fun _=>freshL x1 ok1.sr hp r1
 ·exact h.elim
theorem x_bi (G:Good X pr XR C n)(bi:Bi)(hcal:C.cal=true∨hotB bi=true){x:Str}{pp:Pos}(hg:Gl X x)(hx:x=biName bi)(hs:isStar p=false)(hss:(ps.all fun p=>!isStar p)=true)(ha:PA X (p::ps) (gEs X XR W (pr.cxe n) es)) :
  PE X (.Call (.Name x pp) (p::ps) [] pos) (gE X XR W (pr.cxe n) (.bi bi es)):=by
 have hR:CallR X (biF bi) (rBi X.K X.w bi):=bi_R (by have:=G.un;omega) G.gd bi (hcal.imp G.calm id)
 have i:∀ σ H Q,gE X XR W (pr.cxe n) (.bi bi es) σ H Q→tCB (rBi X.K X.w bi) (gEs X XR W (pr.cxe n) es) σ H Q:=by
  intro σ H Q h
  obtain ⟨F,B,env,st,ok,h⟩:=h
  unfold evE at h
  refine tEs.first ok h fun ds st1 vs F1 H1 x1 ok1 r1 h=>?_
  obtain ⟨d,e⟩:=RE.some_of h
  have e':biD shownD bi ds=some d:=by rw [← e];show _=biD pr.shown bi ds;rw [G.shown]
  exact ⟨F1,B,st1,ds,d,ok1.occ,ok1.sr,r1,e',RE.k1 h e x1⟩
 have he:=star_ns hs ps X.env
 have hb:=back_any pos ps X.env hss
 subst hx
 cases bi
 case len=>exact PE.of (pe_callB hR hg (G.blt _ (by decide)) (by decide +kernel) ha (by decide) (by decide) he hb) i
 case abs=>exact PE.of (pe_callB hR hg (G.blt _ (by decide)) (by decide +kernel) ha (by decide) (by decide) he hb) i
 case max2=>exact PE.of (pe_callB hR hg (G.blt _ (by decide)) (by decide +kernel) ha (by decide) (by decide) he hb) i
 case min2=>exact PE.of (pe_callB hR hg (G.blt _ (by decide)) (by decide +kernel) ha (by decide) (by decide) he hb) i
 case maxL=>exact PE.of (pe_callB hR hg (G.blt _ (by decide)) (by decide +kernel) ha (by decide) (by decide) he hb) i
 case minL=>exact PE.of (pe_callB hR hg (G.blt _ (by decide)) (by decide +kernel) ha (by decide) (by decide) he hb) i
 case sum=>exact PE.of (pe_callB hR hg (G.blt _ (by decide)) (by decide +kernel) ha (by decide) (by decide) he hb) i
 case int=>exact PE.of (pe_callTy hR hg (G.blt _ (by decide)) (by decide +kernel) ha (by decide) (by decide) he hb) i
 case bool=>exact PE.of (pe_callTy hR hg (G.blt _ (by decide)) (by decide +kernel) ha (by decide) (by decide) he hb) i
 case repr=>exact PE.of (pe_callB hR hg (G.blt _ (by decide)) (by decide +kernel) ha (by decide) (by decide) he hb) i
 case sorted=>exact PE.of (pe_callB hR hg (G.blt _ (by decide)) (by decide +kernel) ha (by decide) (by decide) he hb) i
 case any=>exact PE.of (pe_callB hR hg (G.blt _ (by decide)) (by decide +kernel) ha (by decide) (by decide) he hb) i
 case all=>exact PE.of (pe_callB hR hg (G.blt _ (by decide)) (by decide +kernel) ha (by decide) (by decide) he hb) i
 case divmod=>exact PE.of (pe_callB hR hg (G.blt _ (by decide)) (by decide +kernel) ha (by decide) (by decide) he hb) i
 case str=>exact PE.of (pe_callTy hR hg (G.blt _ (by decide)) (by decide +kernel) ha (by decide) (by decide) he hb) i
theorem x_call (G:Good X pr XR C n)(hcal:C.cal=true)(tk:Takes X W){f:Nat}{x:Str}{pp:Pos}(hg:Gl X x)(hx:C.fname f=some x)(hd:okName x=true)(hs:isStar p=false)(hss:(ps.all fun p=>!isStar p)=true)(ha:PA X (p::ps) (gEs X XR W (pr.cxe n) es)) :
  PE X (.Call (.Name x pp) (p::ps) [] pos) (gE X XR W (pr.cxe n) (.call f es)):=by
 unfold okName at hd
 simp only [Bool.and_eq_true,Bool.not_eq_true'] at hd
 obtain ⟨fa,fd,par,h1,h2,h3,hl,h4⟩:=G.fns f x hx
 refine ⟨fun pins s σ H Q I h=>?_⟩
 refine wpAny_Call_Name_kw (ld_glob I hg h1 ?_ hd.1)
 have h':gEs X XR W (pr.cxe n) es σ H fun vs H1=>spG X.K X.w XR pr n f par.length vs H1 Q (WE W σ):=by
  obtain ⟨F,B,env,st,ok,h⟩:=h
  unfold evE at h
  refine tEs.first ok h fun ds st1 vs F1 H1 x1 ok1 r1 h=>?_
  refine ⟨F1,B,st1,ds,?_,ok1.occ,ok1.sr,r1,?_⟩
  ·rw [r1.length]
   refine hl ds st1 fun e=>?_
   have h2:RE X.K X.w XR W F B σ H (fresh (.call f es)) (run pr n f ds st1) Q:=h
   rw [e] at h2
   exact h2
  ·have h2:RE X.K X.w XR W F1 B σ H1 false (run pr n f ds st1) Q:=RE.shift x1 h
   generalize run pr n f ds st1=rr at h2
   cases rr with
   | ok d st2=>exact fun v F' H' x s r=>h2 v F' H' x s r (fun z=>by cases z)
   | exc c fs st2=>exact fun cls dx F' H' x s r=>h2 cls dx F' H' x s r
   | no=>exact h2
 refine PySem.W.callWith_K (h₀:=X.base) I.ok.mod.kin h2 (thn (ha.run pos pins s σ H _ I h') fun us s1 ⟨vs,H1,I1,r,q⟩=>⟨I1.kIn,?_⟩) (star_ns hs ps _) (back_any pos ps _ hss)
 have hln:us.length=par.length:=by rw [← r.length];exact h4.len _ _ _ _ q
 have bb:=h3 s1 us I1.kIn (by rw [List.append_nil];exact hln)
 rw [List.append_nil] at bb
 refine wpAny_call (codeAny_mono (h4.run X.A X.stack s1 H1 ⟨us,[]⟩ us vs Q (WE W σ) (G.room hcal) G.gd I1.env0 bb r q) fun r s' hq=>?_)
 cases r with
 | error e=>exact tk e s' (XE.of_call I1 (fun _ _ _ h=>h) hq)
 | ok fl =>
  cases fl with
  | ret u=>exact I1.after hq
  | next=>exact False.elim hq
  | brk=>exact False.elim hq
  | cont=>exact False.elim hq
end
end PL
end
section
namespace PL
open PySem PySem.Spec PyProof.Rows L2
section
variable {X:Cx}{pr:Prog}{XR:XRel}{C:SC}{n:Nat}{W:WX}{cx:Ctx}
variable {p q r:Expr}{ps:List Expr}{a b c:E}{es:Es}{pos:Pos}
theorem lookup_mem {β:Type}:∀ {l:List (Nat × β)} {k:Nat} {v:β},l.lookup k=some v→(k,v)∈l
 | [],_,_,h=>by simp [List.lookup] at h
 | (a,b)::r,k,v,h=>by
  by_cases e:k=a
  ·subst e
   simp [List.lookup] at h
   subst h
   exact List.mem_cons_self
  ·have hb:(k==a)=false:=by simpa using e
   simp only [List.lookup,hb] at h
   exact List.mem_cons_of_mem _ (lookup_mem h)
theorem says_at {T:XT}{cs:List Nat}{xs:List Str}(h:T.says cs xs=true){c:Nat}{nm:Str}{anc:List Str}(hl:T.cls.lookup c=some (nm,anc)):cs.contains c=xs.any anc.contains∧∀ x∈xs,x∈T.nms:=by
 unfold XT.says at h
 simp only [Bool.and_eq_true,List.all_eq_true] at h
 refine ⟨eq_of_beq (h.2 _ (lookup_mem hl)),fun x hx=>?_⟩
 have:=h.1 x hx
 simpa using this
def rIsH (K:PySem.W.Frag)(D k:Addr)(dx:Option Addr):List V→Hp→VK→Prop:=fun xs H Q=>(∀ d,dx=some d→∃ kvs,H d=some (HO.xd kvs))∧((∃ (E:Addr) (b:Bool),xs=[.ref k,.ref E]∧PySem.W.kitOne K (.ref D) (.ref E)=some b∧Q (.bl b) H) ∨
 ∃ (tp:Addr) (es:List Addr) (b:Bool),xs=[.ref k,.ref tp]∧H tp=some (.tup (es.map V.ref))∧PySem.W.kitAny K (.ref D) (es.map Value.ref)=some b∧Q (.bl b) H)
theorem vals_refs:∀ {es:List Addr} {us:List Value},Vals (es.map V.ref) us→us=es.map Value.ref
 | [],_,.nil=>rfl
 | _::_,_,.cons r t=>by
  rw [vals_refs t]
  exact congrArg (· :: _) r
theorem excC_cl {K:PySem.W.Frag}{D:Addr}(C:ExcC K D):(PySem.W.clsIn K D).isSome=true:=by
 obtain ⟨cd,hc,_⟩:=PySem.W.any_some C.hd
 rw [hc];rfl
theorem call_held {k D : Addr}{oe : Obj}{dx : Option Addr}(Cx : ExcC X.K D)(hz : Zc (.ref D) dx oe)(hf : ∃ vs, oe.data = .fields vs)(hm : (k, oe) ∈ X.pn) : CallR X (.builtin "isinstance") (rIsH X.K D k dx) := by
 intro pins s σ H xs us Q I r h
 obtain ⟨hget,_⟩:=I.pin (k,oe) (List.mem_append.mpr (.inl hm))
 obtain ⟨vs,hv⟩:=hf
 obtain ⟨hdx,h⟩:=h
 obtain ⟨dd,J⟩:∃ dd,PySem.W.InstAt s.heap k oe D dd:=by
  obtain ⟨oc,od,oda,osl⟩:=oe
  obtain ⟨h1,h2⟩:=hz
  dsimp only at h1 h2 hv
  subst h1 h2 hv
  cases od with
  | none=>exact ⟨none,hget,rfl,rfl,trivial⟩
  | some d =>
   obtain ⟨kvs,hk⟩:=hdx d rfl
   obtain ⟨mA,hns,hr⟩:=(show ObjOk X.prog X.w H s.heap d (.xd kvs) from I.hok d _ hk)
   obtain ⟨od,ho,hl⟩:=lookIn_ns hns
   exact ⟨some od,hget,rfl,rfl,ho⟩
 rcases h with ⟨E,b,rfl,e,q⟩|⟨tp,es,b,rfl,hT,e,q⟩
 ·cases r with
  | cons rx rr =>
   cases rr with
   | cons rt rr =>
    cases rr
    cases rx
    cases rt
    exact PySem.W.kia_one (PySem.W.kitx_exc (excC_cl Cx) Cx.hg Cx.hk Cx.hs Cx.ha Cx.hn Cx.ht Cx.hm) I.kIn J e (fun z=>nomatch z) fun tk=>⟨.bl b,H,I.kept (t':=tk) fun _ _ z=>z,rfl,q⟩
 ·cases r with
  | cons rx rr =>
   cases rr with
   | cons rt rr =>
    cases rr
    cases rx
    cases rt
    obtain ⟨_,its,rv,o,h1,h2,n,h3⟩:=(show ObjOk X.prog X.w H s.heap tp (.tup (es.map V.ref)) from I.hok tp _ hT)
    have e3:=vals_refs rv
    subst e3
    obtain ⟨oc,od,dt,sl⟩:=o
    simp only at h2 h3
    subst h2 h3
    exact PySem.W.kia_tup (PySem.W.kitx_exc (excC_cl Cx) Cx.hg Cx.hk Cx.hs Cx.ha Cx.hn Cx.ht Cx.hm) I.kIn J h1 e (fun z=>nomatch z) fun tk=>⟨.bl b,H,I.kept (t':=tk) fun _ _ z=>z,rfl,q⟩
def HeldD (k d:Nat)(ns:List (List Nat))(x:D):Prop:=(ns=[]∧x=.ob 2 [.int (k:Nat)])∨(ns≠[]∧∃ nd fs,x=.ob 2 (.int (k:Nat)::.int (d:Nat)::nd::fs))
theorem isE_ok {er:Option (Nat × Nat × Nat × List (List Nat))}{cs:List Nat}{x:D}{z:D}(e:isED er cs x=some z):∃ (c k d:Nat) (ns:List (List Nat)),er=some (c,k,d,ns)∧HeldD k d ns x∧z=.bl (cs.contains c):=by
 unfold isED at e
 split at e
 ·split at e
  ·rename_i hk
   cases e
   rw [hk]
   exact ⟨_,_,_,_,rfl,.inl ⟨rfl,rfl⟩,rfl⟩
  ·cases e
 ·split at e
  ·rename_i hk
   cases e
   rw [hk.1,hk.2]
   exact ⟨_,_,_,_,rfl,.inr ⟨by simp,_,_,rfl⟩,rfl⟩
  ·cases e
 ·cases e
theorem ok_debug {x : Str}(hd : okName x = true) : (x == ("__debug__" : Str)) = false := by
 unfold okName at hd
 simp only [Bool.and_eq_true,Bool.not_eq_true'] at hd
 exact hd.1
theorem Rep.isErr {K:PySem.W.Frag}{w:World}{F:Foot}{B:Addr→Prop}{H:Hp}{v:V}{k d:Nat}{ns:List (List Nat)}{x:D}(r:Rep K w F B H v x)(hx:HeldD k d ns x):v=.ref k∧(ns≠[]→∃ kvs,H d=some (.xd kvs)):=by
 rcases hx with ⟨rfl,hd⟩|⟨hn,nd,fs,hd⟩
 ·cases r<;>simp at hd
  ·exact ⟨congrArg V.ref (Int.ofNat.inj hd),fun z=>absurd rfl z⟩
 ·cases r<;>simp at hd
  ·rename_i a d' kvs ns' ds h f b e r'
   obtain ⟨h1,h2,_⟩:=hd
   obtain rfl:=Int.ofNat.inj h1
   obtain rfl:=Int.ofNat.inj h2
   exact ⟨rfl,fun _=>⟨_,h⟩⟩
theorem held_dx {dx:Option Addr}{d:Nat}{ns:List (List Nat)}{H:Hp}{p:Prop}(h0:ns=[]→dx=none)(h1:ns≠[]→dx=some d∧p)(r:ns≠[]→∃ kvs,H d=some (.xd kvs)):∀ d',dx=some d'→∃ kvs,H d'=some (HO.xd kvs):=fun d' e=>by
 by_cases z:ns=[]
 ·rw [h0 z] at e;cases e
 ·rw [(h1 z).1] at e
  cases e
  exact r z
theorem held_of (G:Good X pr XR C n)(hc:C.cal=false){i:Nat}{cs:List Nat}{σ:L2.St}{H:Hp}{Q:VK}(h:gE X XR W (pr.cxe n) (.isE (.loc i) cs) σ H Q):∃ c k d ns,pr.er=some (c,k,d,ns)∧Held X C.xt c k d ns:=by
 obtain ⟨F,B,env,st,ok,h⟩:=h
 unfold evE at h
 unfold evE at h
 cases q:env.get i with
 | none=>rw [q] at h;exact h.elim
 | some d =>
  rw [q] at h
  obtain ⟨z,e⟩:=RE.some_of (show RE X.K X.w XR W F B σ H _ (R.lift (isED pr.er cs d) st) Q from h)
  obtain ⟨c,k,d',ns,e1,_⟩:=isE_ok e
  exact ⟨c,k,d',ns,e1,G.held c k d' ns e1 hc⟩
theorem x_isE1 (G : Good X pr XR C n)(hc : C.cal = false){cs : List Nat}{i : Nat}{pp pp2 : Pos}{y : Str}(hg : Gl X "isinstance")(hy : Gl X y ∧ okName y = true)(hs : C.xt.says cs [y] = true)(hp : isStar p = false)(ha : PE X p (gE X XR W (pr.cxe n) (.loc i))) :
  PE X (.Call (.Name "isinstance" pp) [p, .Name y pp2] [] pos) (gE X XR W (pr.cxe n) (.isE (.loc i) cs)) := by
 have he:=star_ns hp [.Name y pp2] X.env
 refine ⟨fun pins s σ H Q I h=>?_⟩
 obtain ⟨c,k,dd,ns,er,D,nm,anc,oe,dx,hl,cx,hz,hf,hm,hd0,hd1⟩:=held_of G hc h
 obtain ⟨s1,s2⟩:=says_at hs hl
 obtain ⟨E,m1,m2,m3⟩:=cx.sub nm anc hl y (s2 y (by simp))
 have yy:PE X (.Name y pp2) (tC (.ref E)):=pe_glob hy.1 m1 rfl (ok_debug hy.2)
 refine (PE.of (t':=gE X XR W (pr.cxe n) (.isE (.loc i) cs)) (pe_callB (call_held cx.exc hz hf hm) hg (G.blt _ (by decide)) (by decide +kernel) (pa_cons ha (pa_cons yy pa_nil) he) (by decide) (by decide) he rfl) ?_).run pins s σ H Q I h
 intro σ H Q h
 obtain ⟨F,B,env,st,ok,h⟩:=h
 unfold evE at h
 refine tE.first ok h fun d1 st1 v1 F1 H1 x1 ok1 r1 h=>?_
 obtain ⟨d,e⟩:=RE.some_of h
 obtain ⟨c',k',d',ns',e1,hx,rfl⟩:=isE_ok e
 have e1':pr.er=some (c',k',d',ns'):=e1
 rw [er] at e1'
 cases e1'
 obtain ⟨rv,rd⟩:=r1.isErr hx
 refine ⟨held_dx hd0 hd1 rd,.inl ⟨E,_,by rw [rv],m2,?_⟩⟩
 have:=RE.fin h e x1 ok1.sr (.bl (cs.contains c))
 rw [s1] at this
 simpa using this
theorem names_of {D:Addr}{T:XT}{c:Nat}{nm:Str}{anc:List Str}(cx:ClsX X.K X.mg T c D)(hl:T.cls.lookup c=some (nm,anc)):∀ {es:List Expr},(∀ e∈es,∃ y p,e=.Name y p∧Gl X y∧okName y=true∧y∈T.nms) →
  ∃ ws:List Addr,PA X es (fun σ H Q=>Q (ws.map V.ref) H)∧ws.length=es.length∧PySem.W.kitAny X.K (.ref D) (ws.map Value.ref)=some ((es.filterMap nameOf).any anc.contains)
 | [],_=>⟨[],pa_nil,rfl,rfl⟩
 | e::r,h=>by
  obtain ⟨y,p,rfl,g1,g2,g3⟩:=h _ List.mem_cons_self
  obtain ⟨ws,a1,a2,a3⟩:=names_of cx hl (es:=r) fun e he=>h e (List.mem_cons_of_mem _ he)
  obtain ⟨E,m1,m2,m3⟩:=cx.sub nm anc hl y g3
  refine ⟨E::ws,PA.of (pa_cons (pe_glob (v:=.ref E) g1 m1 rfl (ok_debug g2)) a1) (fun σ H Q q=>q),by simp [a2],?_⟩
  rw [List.map_cons,List.filterMap_cons]
  show _=some (((y::r.filterMap nameOf)).any anc.contains)
  refine kitAny_cons m2 (fun z=>?_) fun z=>?_
  ·rw [a3,List.any_cons,z,Bool.false_or]
  ·rw [List.any_cons,z,Bool.true_or]
theorem x_isE2 (G : Good X pr XR C n)(hc : C.cal = false){cs : List Nat}{i k : Nat}{pp pp2 : Pos}{es : List Expr}(hg : Gl X "isinstance")(hy : es.length ≤ 15 ∧ ∀ e ∈ es, ∃ y p, e = .Name y p ∧ Gl X y ∧ okName y = true)(hs : C.xt.says cs (es.filterMap nameOf) = true)(hp : isStar p = false)(ha : PE X p (gE X XR W (pr.cxe n) (.loc i))) :
  PE X (.Call (.Name "isinstance" pp) [p, .Tuple es k pp2] [] pos) (gE X XR W (pr.cxe n) (.isE (.loc i) cs)) := by
 have he:=star_ns hp [.Tuple es k pp2] X.env
 refine ⟨fun pins s σ H Q I h=>?_⟩
 obtain ⟨c,k,dd,ns,er,D,nm,anc,oe,dx,hl,cx,hz,hf,hm,hd0,hd1⟩:=held_of G hc h
 obtain ⟨s1,s2⟩:=says_at hs hl
 obtain ⟨ws,a1,a2,a3⟩:=names_of cx hl (es:=es) fun e he=>by
  obtain ⟨y,p,rfl,g1,g2⟩:=hy.2 e he
  exact ⟨y,p,rfl,g1,g2,s2 y (List.mem_filterMap.mpr ⟨_,he,rfl⟩)⟩
 refine (PE.of (t':=gE X XR W (pr.cxe n) (.isE (.loc i) cs)) (pe_callB (call_held cx.exc hz hf hm) hg (G.blt _ (by decide)) (by decide +kernel) (pa_cons ha (pa_cons (pe_tup a1) pa_nil) he) (by decide) (by decide) he rfl) ?_).run pins s σ H Q I h
 intro σ H Q h
 obtain ⟨F,B,env,st,ok,h⟩:=h
 unfold evE at h
 refine tE.first ok h fun d1 st1 v1 F1 H1 x1 ok1 r1 h=>?_
 obtain ⟨d,e⟩:=RE.some_of h
 obtain ⟨c',k',d',ns',e1,hx,rfl⟩:=isE_ok e
 have e1':pr.er=some (c',k',d',ns'):=e1
 rw [er] at e1'
 cases e1'
 obtain ⟨rv,rd⟩:=r1.isErr hx
 refine ⟨by rw [List.length_map,a2,sizeLine_eq];omega,fun tp htp=>?_⟩
 refine ⟨held_dx hd0 hd1 fun z=>?_,.inr ⟨tp,ws,_,by rw [rv],upd_same,a3,?_⟩⟩
 ·obtain ⟨kvs,hk⟩:=rd z
  exact ⟨kvs,by rw [upd_ne fun q=>by rw [q,htp] at hk;cases hk];exact hk⟩
 rw [← s1]
 exact RE.fin h e (x1.trans (Ext.new htp)) (ok1.sr.new htp) (.bl (cs.contains c))
theorem x_sub (G:Good X pr XR C n)(hs:isSlice q=false)(ha:PE X p (gE X XR W cx a))(hb:PE X q (gE X XR W cx b)):PE X (.Subscript p q pos) (gE X XR W cx (.sub a b)):=by
 have hp:PlainIx q:=by
  intro o i
  cases q<;>first|rfl|(simp [isSlice] at hs)
 refine PE.of (pe_ix (sub_R (by have:=G.un;omega)) ha hb hp) fun σ H Q h=>?_
 obtain ⟨F,B,env,st,ok,h⟩:=h
 unfold evE at h
 refine tE.first ok h fun d1 st1 v1 F1 H1 x1 ok1 r1 h=>?_
 refine tE.first ok1 (h.shift x1) fun d2 st2 v2 F2 H2 x2 ok2 r2 h=>?_
 obtain ⟨d,e⟩:=RE.some_of h
 exact sub_ok e (r1.ext x2) r2 ok2.sr (RE.k1 h e x2)
def tO (K:PySem.W.Frag)(w:World)(XR:XRel)(W:WX)(cx:Ctx)(o:Eo):TO:=fun σ H Q =>
 ∃ F B env st,OkE K w F B σ H env st∧match evO cx o env st with
  | .ok i st'=>∀ F' H',Ext F H F' H'→SR st' F' H'→Q i H'
  | .exc c fs st'=>∀ cls dx F' H',Ext F H F' H'→SR st' F' H'→XR c fs cls dx F' B H'→W cls dx σ H'
  | .no=>False
abbrev gO (X:Cx)(XR:XRel)(W:WX)(cx:Ctx)(o:Eo):TO:=tO X.K X.w XR W cx o
theorem PO.of {e:Option Expr}{t t':TO}(h:PO X e t)(i:∀ σ H Q,t' σ H Q→t σ H Q):PO X e t':=⟨fun pins s σ H Q I q=>h.run pins s σ H Q I (i _ _ _ q)⟩
theorem o_no:PO X none (gO X XR W cx .no):=PO.of po_none fun σ H Q h=>by
 obtain ⟨F,B,env,st,ok,h⟩:=h
 unfold evO at h
 exact h F H (Ext.refl F H) ok.sr
theorem po_any {te:TE}(h:PE X p te):PO X (some p) (fun σ H Q=>te σ H fun x H1=>(∃ i,x=.int i∧Q (some i) H1)∨(x=.non∧Q none H1)):=by
 refine ⟨fun pins s σ H Q I hw=>?_⟩
 rw [evalPart_some]
 refine thn (h.run pins s σ H _ I hw) fun u s1 ⟨x,H1,I1,r1,q1⟩=>?_
 rcases q1 with ⟨i,rfl,q⟩|⟨rfl,q⟩
 ·obtain ⟨t,rfl⟩:=r1
  exact ⟨some i,H1,I1,.int i t,q⟩
 ·cases r1
  exact ⟨none,H1,I1,.none,q⟩
theorem o_so (ha:PE X p (gE X XR W cx a)):PO X (some p) (gO X XR W cx (.so a)):=PO.of (po_any ha) fun σ H Q h=>by
 obtain ⟨F,B,env,st,ok,h⟩:=h
 unfold evO at h
 refine ⟨F,B,env,st,ok,?_⟩
 cases e:evE cx a env st with
 | ok d st' =>
  rw [e,R.bind_ok] at h
  intro v F' H' x s r _
  cases r<;>simp only [D.part,R.lift_some,R.lift_none] at h
  case non=>exact .inr ⟨rfl,h F' H' x s⟩
  case int i _=>exact .inl ⟨_,rfl,h F' H' x s⟩
 | exc c fs st'=>rw [e,R.bind_exc] at h;exact h
 | no=>rw [e,R.bind_no] at h;exact h
theorem tO.first {K:PySem.W.Frag}{w:World}{F:Foot}{B:Addr→Prop}{σ:L2.St}{H:Hp}{env:Env}{st:St}(o:OkE K w F B σ H env st){e:Eo}{f:Option Int→St→R D}{Q:VK}{fr:Bool}{Q':Option Int→Hp→Prop}
  (h:RE K w XR W F B σ H fr ((evO cx e env st).bind f) Q)
  (k:∀ i st' F' H',Ext F H F' H'→OkE K w F' B σ H' env st'→RE K w XR W F B σ H fr (f i st') Q→Q' i H'):tO K w XR W cx e σ H Q':=by
 refine ⟨F,B,env,st,o,?_⟩
 cases q:evO cx e env st with
 | ok d st' =>
  rw [q,R.bind_ok] at h
  intro F' H' x s
  exact k d st' F' H' x (o.ext x s) h
 | exc c fs st'=>rw [q,R.bind_exc] at h;exact h
 | no=>rw [q,R.bind_no] at h;exact h
def rCut (K:PySem.W.Frag):V→Option Int→Option Int→Hp→VK→Prop:=fun x lo hi H Q=>rSlL K x lo hi H Q∨(rSlA K x lo hi H Q∨rSlS x lo hi H Q)
theorem cut_gen {α:Type}(vs:List α)(lo hi:Option Int):(vs.drop (HT.sIx vs.length 0 lo)).take (HT.sIx vs.length vs.length hi-HT.sIx vs.length 0 lo)=cut vs lo hi:=by
 unfold cut
 rw [clamp_eq,clamp_eq,List.take_drop]
 generalize endI vs.length 0 lo=a
 generalize endI vs.length vs.length hi=b
 by_cases h:a≤b
 ·rw [Nat.add_sub_cancel' h]
 ·rw [show a+(b-a)=a by omega,List.drop_of_length_le (by simp;omega),List.drop_of_length_le (by simp;omega)]
theorem cut_whole {α:Type}(ds:List α)(lo hi:Option Int)(h1:HT.sIx ds.length 0 lo=0)(h2:HT.sIx ds.length ds.length hi=ds.length):cut ds lo hi=ds:=by
 rw [← cut_gen,h1,h2]
 simp
theorem cutS_of (x:Str)(lo hi:Option Int):(cutS x lo hi).cps.toList=cut x.cps.toList lo hi:=by
 rw [← cut_gen]
 unfold cutS
 rw [strLen]
theorem x_slc (G:Good X pr XR C n){lo hi:Eo}{l h:Option Expr}{p2:Pos}(ha:PE X p (gE X XR W cx a))(hl:PO X l (gO X XR W cx lo))(hh:PO X h (gO X XR W cx hi)):PE X (.Subscript p (.Slice l h none p2) pos) (gE X XR W cx (.slc a lo hi)):=by
 refine PE.of (pe_slice (r:=rCut X.K) (sl_list.or (sl_tupA.or sl_str)) ha hl hh) fun σ H Q h=>?_
 obtain ⟨F,B,env,st,ok,h⟩:=h
 unfold evE at h
 refine tE.first ok h fun d1 st1 v1 F1 H1 x1 ok1 r1 h=>?_
 refine tO.first ok1 (h.shift x1) fun i2 st2 F2 H2 x2 ok2 h=>?_
 refine tO.first ok2 (h.shift x2) fun i3 st3 F3 H3 x3 ok3 h=>?_
 obtain ⟨d,e⟩:=RE.some_of h
 have r3:=(r1.ext x2).ext x3
 have k:=RE.k1 h e x3
 unfold cutD at e
 split at e
 ·cases e
  obtain ⟨a1,xs,rfl,h1,l1⟩:=r3.isT
  refine .inr (.inl ⟨a1,xs,rfl,h1,fun z=>?_,fun _=>k.newT ok3.sr ok3.occ (repL_cut l1 i2 i3)⟩)
  have e3:=cut_whole _ i2 i3 (by rw [← l1.length];exact z.1) (by rw [← l1.length];exact z.2)
  rw [e3] at k
  exact k.same ok3.sr r3
 ·cases e
  obtain ⟨a1,xs,rfl,h1,l1⟩:=r3.isL
  exact .inl ⟨a1,xs,rfl,.of h1,k.newL ok3.sr ok3.occ (repL_cut l1 i2 i3)⟩
 ·split at e
  ·rename_i hz
   cases e
   cases r3 with
   | str x _ ex =>
    subst ex
    exact .inr (.inr ⟨x,rfl,by rw [strLen,← lineEq];exact hz,k.same ok3.sr (.str _ _ (cutS_of x i2 i3))⟩)
  ·cases e
 ·cases e
end
end PL
end
section
namespace PL
open PySem PySem.Spec PyProof.Rows L2
section
variable {X:Cx}{pr:Prog}{XR:XRel}{C:SC}{n:Nat}{W:WX}{cx:Ctx}
variable {p q r:Expr}{ps:List Expr}{a b c:E}{es:Es}{pos:Pos}
theorem x_tof (G : Good X pr XR C n){pp : Pos}(hg : Gl X "tuple")(hs : isStar p = false)(ha : PE X p (gE X XR W cx a)) : PE X (.Call (.Name "tuple" pp) [p] [] pos) (gE X XR W cx (.tof a)) := by
 refine PE.of (pe_tupleOf hg (G.blt _ (by decide)) ha (star_ns hs [] X.env)) fun σ H Q h=>?_
 obtain ⟨F,B,env,st,ok,h⟩:=h
 unfold evE at h
 refine tE.first ok h fun d1 st1 v1 F1 H1 x1 ok1 r1 h=>?_
 cases d1 with
 | tup ys =>
  obtain ⟨a,xs,rfl,h1,l1⟩:=r1.isT
  exact .inr ⟨a,xs,rfl,h1,h _ F1 H1 x1 ok1.sr r1 (fun z=>by cases z)⟩
 | lst ys =>
  obtain ⟨a,xs,rfl,h1,l1⟩:=r1.isL
  exact .inl ⟨a,xs,rfl,.of h1,(RE.k1 (d:=.tup ys) h rfl x1).newT ok1.sr ok1.occ l1⟩
 | _=>exact h.elim
theorem rg_rep {K:PySem.W.Frag}{w:World}{F:Foot}{B:Addr→Prop}{H:Hp}(a b:Int):RepL K w F B H (rgV a b) (rngI a b):=by
 unfold rgV rngI
 generalize (List.range (b-a).toNat)=l
 induction l with
 | nil=>exact .nil
 | cons x r ih=>exact .cons (.int _) ih
theorem okR_iff {a:Int}:okR a=true↔-(2^62)≤a∧a<2^62:=by unfold okR;simp
end
end PL
end
section
namespace PL
open PySem PySem.Spec PyProof.Rows L2
section
variable {X:Cx}{pr:Prog}{XR:XRel}{C:SC}{n:Nat}{W:WX}{cx:Ctx}
variable {p q r:Expr}{ps:List Expr}{a b c:E}{es:Es}{pos:Pos}
inductive PEs (X:Cx) (XR:XRel) (W:WX) (cx:Ctx):Es→List Expr→Prop
 | nil:PEs X XR W cx .nil []
 | cons {a:E} {es:Es} {p:Expr} {ps:List Expr} (hs:isStar p=false) (ha:PE X p (gE X XR W cx a)) (t:PEs X XR W cx es ps):PEs X XR W cx (.cons a es) (p::ps)
 | star {a:E} {es:Es} {p:Expr} {pp:Pos} {ps:List Expr} (ha:PE X p (gE X XR W cx a)) (t:PEs X XR W cx es ps):PEs X XR W cx (.star a es) (.Starred p pp::ps)
theorem PEs.pa:∀ {es:Es} {ps:List Expr},PEs X XR W cx es ps→PA X ps (gEs X XR W cx es)
 | _,_,.nil=>a_nil
 | _,_,.cons hs ha t=>a_cons hs ha t.pa
 | _,_,.star ha t=>a_star ha t.pa
theorem OkE.mark {K:PySem.W.Frag}{w:World}{F:Foot}{B:Addr→Prop}{σ:L2.St}{H:Hp}{env:Env}{st:St}(ok:OkE K w F B σ H env st){p:Addr}{o:HO}(hp:H p=none):OkE K w F (fun b=>B b∨b=p) σ (upd H p o) env st:=by
 have mv:∀ {v:V} {d:D},Rep K w F B H v d→Rep K w F (fun b=>B b∨b=p) (upd H p o) v d:=fun r=>r.move (fun a f b hn=>⟨upd_ne fun e=>hn (by rw [e];exact hp),f,fun z=>z.elim b fun e=>hn (by rw [e];exact hp)⟩) fun _ e=>e
 have mvl:∀ {v:List V} {d:List D},RepL K w F B H v d→RepL K w F (fun b=>B b∨b=p) (upd H p o) v d:=fun r=>r.move (fun a f b hn=>⟨upd_ne fun e=>hn (by rw [e];exact hp),f,fun z=>z.elim b fun e=>hn (by rw [e];exact hp)⟩) fun _ e=>e
 refine ⟨ok.len,fun i d e=>?_,fun i s os e=>?_,ok.apart,fun b hb=>?_,ok.sr.new hp⟩
 ·obtain ⟨v,h1,h2⟩:=ok.val i d e
  exact ⟨v,h1,mv h2⟩
 ·obtain ⟨a,h1,h2,h4,h5⟩:=ok.own i s os e
  exact ⟨a,h1,h2.move mvl (upd_ne fun e=>h2.occ (by rw [e];exact hp)),.inl h4,h5⟩
 ·rcases hb with hb|rfl
  ·exact upd_occ (ok.occ b hb)
  ·rw [upd_same];simp
end
end PL
end
section
namespace PL
open PySem PySem.Spec PyProof.Rows L2
section
end
end PL
end
section
namespace PL
open PySem PySem.Spec PyProof.Rows L2
section
end
end PL
end
section
namespace PL
open PySem PySem.Spec PyProof.Rows L2
structure Lat (F:Foot)(B:Addr→Prop)(H:Hp)(F':Foot)(B':Addr→Prop)(H':Hp):Prop where
 keep:∀ a,¬ F.inn a→¬ B a→H a≠none→H' a=H a∧¬ F'.inn a∧¬ B' a
 at_:∀ a,F.at_=some a→F'.at_=some a
theorem Lat.refl {F:Foot}{B:Addr→Prop}{H:Hp}:Lat F B H F B H:=⟨fun _ f b _=>⟨rfl,f,b⟩,fun _ e=>e⟩
theorem Lat.trans {F F1 F2:Foot}{B B1 B2:Addr→Prop}{H H1 H2:Hp}(x:Lat F B H F1 B1 H1)(y:Lat F1 B1 H1 F2 B2 H2):Lat F B H F2 B2 H2 :=
 ⟨fun a f b h=>by
  obtain ⟨e1,f1,b1⟩:=x.keep a f b h
  obtain ⟨e2,f2,b2⟩:=y.keep a f1 b1 (by rw [e1];exact h)
  exact ⟨e2.trans e1,f2,b2⟩,fun a e=>y.at_ a (x.at_ a e)⟩
theorem Ext.lat {F F':Foot}{B:Addr→Prop}{H H':Hp}(x:Ext F H F' H'):Lat F B H F' B H':=⟨fun a f b h=>⟨(x.keep a f h).1,(x.keep a f h).2,b⟩,x.at_⟩
section
variable {K:PySem.W.Frag}{w:World}{F F':Foot}{B B':Addr→Prop}{H H':Hp}
theorem Rep.lat {v:V}{d:D}(r:Rep K w F B H v d)(x:Lat F B H F' B' H'):Rep K w F' B' H' v d:=r.move x.keep x.at_
theorem RepL.lat {v:List V}{d:List D}(r:RepL K w F B H v d)(x:Lat F B H F' B' H'):RepL K w F' B' H' v d:=r.move x.keep x.at_
end
def Yields (K:PySem.W.Frag)(w:World)(F:Foot)(B:Addr→Prop)(H:Hp)(J:L2.It)(ds:List D):Prop :=
 ∀ F2 B2 H2,Lat F B H F2 B2 H2→∀ i,(∀ d,ds[i]?=some d→J.go i H2∧∀ x H3,J.yld i H2 x H3→(∀ b,F2.inn b→H2 b≠none)→(∀ b,B2 b→H2 b≠none)→Ext F2 H2 F2 H3∧(∀ b,F2.inn b→H3 b=H2 b)∧Rep K w F2 B2 H3 x d)∧(i=ds.length→J.stop i H2)
def tI (K:PySem.W.Frag)(w:World)(XR:XRel)(W:WX)(cx:Ctx)(it:It):TI:=fun σ H R =>
 ∃ F B env st,OkE K w F B σ H env st∧match evI cx it env st with
  | .ok ds st'=>∀ J F' H',Ext F H F' H'→SR st' F' H'→Yields K w F' B H' J ds→R J H'
  | .exc c fs st'=>∀ cls dx F' H',Ext F H F' H'→SR st' F' H'→XR c fs cls dx F' B H'→W cls dx σ H'
  | .no=>False
abbrev gI (X:Cx)(XR:XRel)(W:WX)(cx:Ctx)(it:It):TI:=tI X.K X.w XR W cx it
theorem PI.of {X:Cx}{tg e:Expr}{t t':TI}(h:PI X tg e t)(i:∀ σ H R,t' σ H R→t σ H R):PI X tg e t':=⟨fun pins s σ H R I q=>h.run pins s σ H R I (i _ _ _ q)⟩
section
variable {K:PySem.W.Frag}{w:World}{F:Foot}{B:Addr→Prop}{H:Hp}{v:V}
theorem yields_same {J:L2.It}{ds:List D}{xs:List V}(r:RepL K w F B H xs ds)(g:∀ F2 B2 H2,Lat F B H F2 B2 H2→∀ i,(∀ x,xs[i]?=some x→J.go i H2∧∀ y H3,J.yld i H2 y H3→H3=H2∧y=x)∧(xs.length≤i→J.stop i H2)):Yields K w F B H J ds:=by
 intro F2 B2 H2 l i
 obtain ⟨g1,g2⟩:=g F2 B2 H2 l i
 refine ⟨fun d e=>?_,fun e=>g2 ?_⟩
 ·obtain ⟨x,h1,h2⟩:=r.get e
  obtain ⟨g3,g4⟩:=g1 x h1
  refine ⟨g3,fun y H3 hy _ _=>?_⟩
  obtain ⟨rfl,rfl⟩:=g4 y H3 hy
  exact ⟨Ext.refl _ _,fun _ _=>rfl,h2.lat l⟩
 ·rw [r.length,e]
  exact Nat.le_refl _
theorem yields_lst {a:Addr}{ds:List D}(r:Rep K w F B H (.ref a) (.lst ds)):(∃ xs,SqL K H a xs)∧Yields K w F B H (Itl K a) ds:=by
 cases r with
 | lst h f b r =>
  rename_i xs
  refine ⟨⟨xs,.of h⟩,yields_same r fun F2 B2 H2 l i=>?_⟩
  have e:H2 a=some (.lst xs):=by rw [(l.keep a f b (by rw [h];simp)).1];exact h
  exact ⟨fun x hx=>⟨⟨xs,x,.of e,hx⟩,fun y H3 ⟨e3,hy⟩=>⟨e3,by have:=hy xs (.of e);rw [hx] at this;exact (Option.some.inj this).symm⟩⟩,fun hx=>⟨xs,.of e,hx⟩⟩
theorem yields_tup {a:Addr}{ds:List D}(r:Rep K w F B H (.ref a) (.tup ds)):(∃ xs,SqT K H a xs)∧Yields K w F B H (Itt K a) ds:=by
 cases r with
 | tup h f b r =>
  rename_i xs
  refine ⟨⟨xs,.of h⟩,yields_same r fun F2 B2 H2 l i=>?_⟩
  have e:H2 a=some (.tup xs):=by rw [(l.keep a f b (by rw [h];simp)).1];exact h
  exact ⟨fun x hx=>⟨⟨xs,x,.of e,hx⟩,fun y H3 ⟨e3,hy⟩=>⟨e3,by have:=hy xs (.of e);rw [hx] at this;exact (Option.some.inj this).symm⟩⟩,fun hx=>⟨xs,.of e,hx⟩⟩
 | tupW lk c d z vv r =>
  rename_i xs o its n
  have e:∀ H2,SqT K H2 a xs:=fun H2=>.inr ⟨_,_,_,lk,c,d,z,vv⟩
  refine ⟨⟨xs,e H⟩,yields_same r fun F2 B2 H2 l i=>?_⟩
  exact ⟨fun x hx=>⟨⟨xs,x,e H2,hx⟩,fun y H3 ⟨e3,hy⟩=>⟨e3,by have:=hy xs (e H2);rw [hx] at this;exact (Option.some.inj this).symm⟩⟩,fun hx=>⟨xs,e H2,hx⟩⟩
end
section
variable {K:PySem.W.Frag}{w:World}{F:Foot}{B:Addr→Prop}{H:Hp}
theorem yields_scr {a:Addr}{ds:List D}(r:Rep K w F B H (.ref a) (.ob 1 ds)):(∃ xs,SqL K H a xs)∧Yields K w F B H (Itl K a) ds:=by
 obtain ⟨a0,l,e0,h0,rfl⟩:=r.isScr
 cases e0
 refine ⟨⟨_,h0⟩,yields_same (RepL.of_ints l) fun F2 B2 H2 lt i=>?_⟩
 have q:SqL K H2 a (l.map V.int):=by
  obtain ⟨a1,l1,e1,h1,e2⟩:=(r.lat lt).isScr
  cases e1
  have:l=l1:=by
   have:=congrArg D.ints e2
   simpa using this
  rw [this]
  exact h1
 have uniq:∀ xs,SqL K H2 a xs→∀ x,(l.map V.int)[i]?=some x→(xs[i]?=some x)→True:=fun _ _ _ _ _=>trivial
 exact ⟨fun x hx=>⟨⟨_,x,q,hx⟩,fun y H3 ⟨e3,hy⟩=>⟨e3,by have:=hy _ q;rw [hx] at this;exact (Option.some.inj this).symm⟩⟩,fun hx=>⟨_,q,hx⟩⟩
end
section
variable {X:Cx}{tg:Expr}
theorem pi_seq {l:Expr}{tl:TE}(hl:PE X l tl):PI X tg l (fun σ H R=>tl σ H fun x H1=>∃ a,x=.ref a∧(((∃ xs,SqL X.K H1 a xs)∧R (Itl X.K a) H1)∨((∃ xs,SqT X.K H1 a xs)∧R (Itt X.K a) H1))):=by
 refine ⟨fun pins s σ H R I h=>?_⟩
 refine thn (hl.run pins s σ H _ I h) fun v s1 ⟨x,H1,I1,r1,q1⟩=>?_
 obtain ⟨a,e,q⟩:=q1
 subst e
 cases r1
 rcases q with ⟨⟨xs,hq⟩,q⟩|⟨⟨xs,hq⟩,q⟩
 ·obtain ⟨its,rv,p,hz⟩:=I1.list hq
  refine wpAny_pyIter_list p.isList ?_
  refine ⟨s1.heap.objs.size,[s1.heap.objs.size],_,_,H1,rfl,I1.kept (t':=s1.toks) fun b o e=>Heap.get?_push_of_some _ e,turn_list a _,⟨_,Heap.get?_push_size _ rfl,rfl,rfl⟩,fun b hb=>?_,q⟩
  have e:b=s1.heap.objs.size:=by simpa using hb
  subst e
  exact I1.fpOk (Nat.le_refl _) (I1.hok.fresh (Nat.le_refl _))
 ·obtain ⟨its,rv,p,hz⟩:=I1.tuple hq
  refine wpAny_pyIter_tuple (show s1.heap.IsTuple a its.toArray from p) ?_
  refine ⟨s1.heap.objs.size,[s1.heap.objs.size],_,_,H1,rfl,I1.kept (t':=s1.toks) fun b o e=>Heap.get?_push_of_some _ e,turn_tuple a _,⟨_,Heap.get?_push_size _ rfl,rfl,rfl⟩,fun b hb=>?_,q⟩
  have e:b=s1.heap.objs.size:=by simpa using hb
  subst e
  exact I1.fpOk (Nat.le_refl _) (I1.hok.fresh (Nat.le_refl _))
end
section
variable {K:PySem.W.Frag}{w:World}{XR:XRel}{W:WX}{cx:Ctx}{F:Foot}{B:Addr→Prop}{σ:L2.St}{H:Hp}{env:Env}{st:St}
def RI (K:PySem.W.Frag)(w:World)(XR:XRel)(W:WX)(F:Foot)(B:Addr→Prop)(σ:L2.St)(H:Hp)(r:R (List D))(Q:L2.It→Hp→Prop):Prop :=
 match r with
 | .ok ds st'=>∀ J F' H',Ext F H F' H'→SR st' F' H'→Yields K w F' B H' J ds→Q J H'
 | .exc c fs st'=>∀ cls dx F' H',Ext F H F' H'→SR st' F' H'→XR c fs cls dx F' B H'→W cls dx σ H'
 | .no=>False
theorem RI.shift {F1:Foot}{H1:Hp}(x:Ext F H F1 H1){r:R (List D)}{Q:L2.It→Hp→Prop}(h:RI K w XR W F B σ H r Q):RI K w XR W F1 B σ H1 r Q:=by
 cases r with
 | ok d st'=>exact fun v F' H' y s r=>h v F' H' (x.trans y) s r
 | exc c fs st'=>exact fun cls dx F' H' y s r=>h cls dx F' H' (x.trans y) s r
 | no=>exact h
theorem tE.firstI (o:OkE K w F B σ H env st){e:E}{f:D→St→R (List D)}{Q:L2.It→Hp→Prop}{Q':VK}
  (h:RI K w XR W F B σ H ((evE cx e env st).bind f) Q)
  (k:∀ d st' v F' H',Ext F H F' H'→OkE K w F' B σ H' env st'→Rep K w F' B H' v d→RI K w XR W F B σ H (f d st') Q→Q' v H'):tE K w XR W cx e σ H Q':=by
 refine ⟨F,B,env,st,o,?_⟩
 cases q:evE cx e env st with
 | ok d st' =>
  rw [q,R.bind_ok] at h
  intro v F' H' x s r _
  exact k d st' v F' H' x (o.ext x s) r h
 | exc c fs st'=>rw [q,R.bind_exc] at h;exact h
 | no=>rw [q,R.bind_no] at h;exact h
theorem yields_rng (i j:Int):Yields K w F B H (Itr i (j-i).toNat) (rngI i j):=by
 refine yields_same (rg_rep i j) fun F2 B2 H2 l k=>?_
 have hl:(rgV i j).length=(j-i).toNat:=by simp [rgV]
 refine ⟨fun x hx=>?_,fun hx=>by rw [hl] at hx;exact hx⟩
 have hk:k<(rgV i j).length:=(List.getElem?_eq_some_iff.mp hx).1
 refine ⟨by rw [hl] at hk;exact hk,fun y H3 ⟨e3,e4⟩=>⟨e3,?_⟩⟩
 rw [e4]
 unfold rgV at hx
 rw [List.getElem?_map,List.getElem?_range (by rw [hl] at hk;exact hk)] at hx
 simpa using hx
end
section
variable {X:Cx}{pr:Prog}{XR:XRel}{C:SC}{n:Nat}{W:WX}{cx:Ctx}
variable {p q r tg:Expr}{ps:List Expr}{a b c:E}{es:Es}{pos:Pos}
theorem i_seq (ha:PE X p (gE X XR W cx a)):PI X tg p (gI X XR W cx (.seq a)):=by
 refine PI.of (pi_seq ha) fun σ H Q h=>?_
 obtain ⟨F,B,env,st,ok,h⟩:=h
 unfold evI at h
 refine tE.firstI ok h fun d1 st1 v1 F1 H1 x1 ok1 r1 h=>?_
 cases d1 with
 | tup ys =>
  obtain ⟨a,xs,rfl,h1,l1⟩:=r1.isT
  obtain ⟨z1,z2⟩:=yields_tup r1
  exact ⟨a,rfl,.inr ⟨z1,h _ F1 H1 x1 ok1.sr z2⟩⟩
 | lst ys =>
  obtain ⟨a,xs,rfl,h1,l1⟩:=r1.isL
  obtain ⟨z1,z2⟩:=yields_lst r1
  exact ⟨a,rfl,.inl ⟨z1,h _ F1 H1 x1 ok1.sr z2⟩⟩
 | ob t ys =>
  by_cases ht:t=1
  ·subst ht
   obtain ⟨a,l,rfl,h1,_⟩:=r1.isScr
   obtain ⟨z1,z2⟩:=yields_scr r1
   exact ⟨a,rfl,.inl ⟨z1,h _ F1 H1 x1 ok1.sr z2⟩⟩
  ·have hw:D.walk (.ob t ys)=none:=by
    unfold D.walk
    split
    ·rename_i e;cases e
    ·rename_i e;cases e
    ·rename_i e;cases e;exact absurd rfl ht
    ·rfl
   rw [hw] at h
   exact h.elim
 | _=>exact h.elim
theorem i_rng1 (G : Good X pr XR C n){pp : Pos}(hg : Gl X "range")(hs : isStar p = false)(ha : PE X p (gE X XR W cx a)) : PI X tg (.Call (.Name "range" pp) [p] [] pos) (gI X XR W cx (.rng1 a)) := by
 have he:=star_ns hs [] X.env
 refine PI.of (pi_range1 hg (G.blt _ (by decide)) (pa_cons ha pa_nil he) he) fun σ H Q h=>?_
 obtain ⟨F,B,env,st,ok,h⟩:=h
 unfold evI at h
 refine tE.firstI ok h fun d1 st1 v1 F1 H1 x1 ok1 r1 h=>?_
 cases d1 with
 | int j =>
  cases r1
  have h2:RI X.K X.w XR W F B σ H (R.lift (if (okR 0&&okR j)=true then some (rngI 0 j) else none) st1) Q:=h
  split at h2
  ·rename_i hz
   simp only [Bool.and_eq_true] at hz
   obtain ⟨h3,h4⟩:=okR_iff.mp hz.2
   refine ⟨j,rfl,h3,h4,?_⟩
   have:=h2 _ F1 H1 x1 ok1.sr (yields_rng 0 j)
   rw [Int.sub_zero] at this
   exact this
  ·exact h2.elim
 | _=>exact h.elim
theorem i_rng2 (G : Good X pr XR C n){pp : Pos}(hg : Gl X "range")(hs : isStar p = false)(hs2 : isStar q = false)(ha : PE X p (gE X XR W cx a))(hb : PE X q (gE X XR W cx b)) :
  PI X tg (.Call (.Name "range" pp) [p, q] [] pos) (gI X XR W cx (.rng2 a b)) := by
 have he:=star_ns hs [q] X.env
 have he2:=star_ns hs2 [] X.env
 refine PI.of (pi_range2 hg (G.blt _ (by decide)) (pa_cons ha (pa_cons hb pa_nil he2) he) (by rw [he,he2];rfl) he2) fun σ H Q h=>?_
 obtain ⟨F,B,env,st,ok,h⟩:=h
 unfold evI at h
 refine tE.firstI ok h fun d1 st1 v1 F1 H1 x1 ok1 r1 h=>?_
 refine tE.firstI ok1 (h.shift x1) fun d2 st2 v2 F2 H2 x2 ok2 r2 h=>?_
 cases d1 with
 | int i =>
  cases d2 with
  | int j =>
   cases r1
   cases r2
   have h2:RI X.K X.w XR W F1 B σ H1 (R.lift (if (okR i&&okR j)=true then some (rngI i j) else none) st2) Q:=h
   split at h2
   ·rename_i hz
    simp only [Bool.and_eq_true] at hz
    obtain ⟨h3,h4⟩:=okR_iff.mp hz.1
    obtain ⟨h5,h6⟩:=okR_iff.mp hz.2
    exact ⟨i,j,rfl,⟨h3,h4,h5,h6⟩,h2 _ F2 H2 x2 ok2.sr (yields_rng i j)⟩
   ·exact h2.elim
  | _=>exact h.elim
 | _=>cases d2<;>exact h.elim
end
end PL
end
section
namespace PL
open PySem PySem.Spec PyProof.Rows L2
section
variable {K:PySem.W.Frag}{w:World}{F:Foot}{B:Addr→Prop}{σ:L2.St}{H:Hp}{env:Env}{st:St}
theorem get_set {α:Type}{l:List α}{i j:Nat}{a s:α}(h:(l.set i a)[j]?=some s):(i=j∧s=a∧i<l.length)∨(i≠j∧l[j]?=some s):=by
 by_cases e:i=j
 ·subst e
  by_cases hl:i<l.length
  ·rw [List.getElem?_set_self hl] at h
   exact .inl ⟨rfl,(Option.some.inj h).symm,hl⟩
  ·rw [List.getElem?_eq_none (by simp;omega)] at h
   cases h
 ·rw [List.getElem?_set_ne e] at h
  exact .inr ⟨e,h⟩
theorem OkE.setV (ok:OkE K w F B σ H env st){i:Nat}{v:V}{d:D}(r:Rep K w F B H v d):OkE K w F B (σ.set i (some v)) H (env.set i (.val d)) st:=by
 have hlen:=ok.len
 refine ⟨by simp [hlen],fun j d' e=>?_,fun j s os e=>?_,fun j k s t a os ot e1 e2 e3 e4=>?_,ok.occ,ok.sr⟩
 ·rcases get_set e with ⟨rfl,e2,hl⟩|⟨ne,e2⟩
  ·cases e2
   exact ⟨v,by rw [List.getElem?_set_self (by omega)],r⟩
  ·obtain ⟨u,h1,h2⟩:=ok.val j d' e2
   exact ⟨u,by rw [List.getElem?_set_ne ne];exact h1,h2⟩
 ·rcases get_set e with ⟨rfl,e2,hl⟩|⟨ne,e2⟩
  ·subst e2;cases os
  ·obtain ⟨a,h1,h2⟩:=ok.own j s os e2
   exact ⟨a,by rw [List.getElem?_set_ne ne];exact h1,h2⟩
 ·rcases get_set e1 with ⟨_,e5,_⟩|⟨ne1,e5⟩
  ·subst e5;cases os
  rcases get_set e2 with ⟨_,e6,_⟩|⟨ne2,e6⟩
  ·subst e6;cases ot
  rw [List.getElem?_set_ne ne1] at e3
  rw [List.getElem?_set_ne ne2] at e4
  exact ok.apart j k s t a os ot e5 e6 e3 e4
theorem wipeE_some {i:Nat}{s:Slot}:∀ {vs:List Nat} {env:Env},(wipeE env vs)[i]?=some s→s≠.un→env[i]?=some s∧i∉vs
 | [],env,h,_=>⟨h,by simp⟩
 | v::vs,env,h,hs=>by
  unfold wipeE at h
  rcases get_set h with ⟨rfl,e2,hl⟩|⟨ne,e2⟩
  ·exact absurd e2 hs
  ·obtain ⟨h1,h2⟩:=wipeE_some e2 hs
   exact ⟨h1,by simp [h2];exact fun e=>ne e.symm⟩
theorem wipeE_length (env:Env):∀ vs:List Nat,(wipeE env vs).length=env.length
 | []=>rfl
 | v::vs=>by unfold wipeE;rw [List.length_set,wipeE_length env vs]
theorem wipe_out {i:Nat}:∀ {vs:List Nat} {σ:L2.St},i∉vs→(wipe σ vs)[i]?=σ[i]?
 | [],_,_=>rfl
 | v::vs,σ,h=>by
  unfold wipe
  simp only [List.mem_cons,not_or] at h
  rw [List.getElem?_set_ne (fun e=>h.1 e.symm),wipe_out h.2]
theorem OkE.wiped (ok:OkE K w F B σ H env st)(vs:List Nat):OkE K w F B (wipe σ vs) H (wipeE env vs) st:=by
 refine ⟨by rw [wipeE_length,wipe_length,ok.len],fun j d' e=>?_,fun j s os e=>?_,fun j k s t a os ot e1 e2 e3 e4=>?_,ok.occ,ok.sr⟩
 ·obtain ⟨h1,h2⟩:=wipeE_some e (fun z=>by cases z)
  rw [wipe_out h2]
  exact ok.val j d' h1
 ·obtain ⟨h1,h2⟩:=wipeE_some e (fun z=>by subst z;cases os)
  rw [wipe_out h2]
  exact ok.own j s os h1
 ·obtain ⟨h1,h2⟩:=wipeE_some e1 (fun z=>by subst z;cases os)
  obtain ⟨h3,h4⟩:=wipeE_some e2 (fun z=>by subst z;cases ot)
  rw [wipe_out h2] at e3
  rw [wipe_out h4] at e4
  exact ok.apart j k s t a os ot h1 h3 e3 e4
theorem wipe_set {i:Nat}{x:Option V}:∀ {vs:List Nat} {σ:L2.St},i∈vs→wipe (σ.set i x) vs=wipe σ vs
 | [],_,h=>by simp at h
 | v::vs,σ,h=>by
  unfold wipe
  by_cases e:i∈vs
  ·rw [wipe_set e]
  ·have e2:i=v:=by simpa [e] using h
   subst e2
   refine List.ext_getElem? fun j=>?_
   by_cases hj:i=j
   ·subst hj
    simp [List.getElem?_set,wipe_length]
   ·rw [List.getElem?_set_ne hj,List.getElem?_set_ne hj]
    clear h
    revert σ
    induction vs with
    | nil=>intro σ;unfold wipe;rw [List.getElem?_set_ne hj]
    | cons u us ih =>
     intro σ
     unfold wipe
     simp only [List.mem_cons,not_or] at e
     by_cases hu:u=j
     ·subst hu
      simp [List.getElem?_set,wipe_length]
     ·rw [List.getElem?_set_ne hu,List.getElem?_set_ne hu]
      exact ih e.2 _
end
def tG (K:PySem.W.Frag)(w:World)(tg:Tg):TG:=fun v σ H Q=>∃ F B env st d env',OkE K w F B σ H env st∧Rep K w F B H v d∧putT tg d env=some env' ∧
 ∀ σ',OkE K w F B σ' H env' st→(∀ vs,tgIn vs tg=true→wipe σ' vs=wipe σ vs)→(∀ vs,tgIn vs tg=true→∀ i,i∉vs→env'[i]?=env[i]?∧σ'[i]?=σ[i]?)→(∀ (j:Nat) (s:Slot) (a:Addr),s.isOwn=true→env'[j]?=some s→σ'[j]?=some (some (V.ref a))→env[j]?=some s∧σ[j]?=some (some (V.ref a)))→Q σ' H
def tGs (K:PySem.W.Frag)(w:World)(ts:Tgs):TGs:=fun us σ H Q=>∃ F B env st ds env',OkE K w F B σ H env st∧RepL K w F B H us ds∧putTs ts ds env=some env' ∧
 ∀ σ',OkE K w F B σ' H env' st→(∀ vs,tgsIn vs ts=true→wipe σ' vs=wipe σ vs)→(∀ vs,tgsIn vs ts=true→∀ i,i∉vs→env'[i]?=env[i]?∧σ'[i]?=σ[i]?)→(∀ (j:Nat) (s:Slot) (a:Addr),s.isOwn=true→env'[j]?=some s→σ'[j]?=some (some (V.ref a))→env[j]?=some s∧σ[j]?=some (some (V.ref a)))→Q σ' H
theorem PG.of {X:Cx}{e:Expr}{t t':TG}(h:PG X e t)(i:∀ v σ H Q,t' v σ H Q→t v σ H Q):PG X e t':=⟨fun pins s σ H v u Q I r q=>h.run pins s σ H v u Q I r (i _ _ _ _ q)⟩
theorem PGs.of {X:Cx}{es:List Expr}{t t':TGs}(h:PGs X es t)(i:∀ v σ H Q,t' v σ H Q→t v σ H Q):PGs X es t':=⟨fun pins s σ H v u Q I r q=>h.run pins s σ H v u Q I r (i _ _ _ _ q)⟩
theorem pg_seq {X:Cx}{es:List Expr}{k:Nat}{t:TGs}{pos:Pos}(hc:X.calm=true)(h:PGs X es t)
  (hn:(assignEach es X.env).length=es.length) (hst:(assignEach es X.env).findIdx? (·.1)=none):PG X (.Tuple es k pos) (fun v σ H Q=>gTup X.K es.length t v σ H Q∨gLst X.K es.length t v σ H Q) :=
 ⟨fun pins s σ H v u Q I r q=>q.elim (fun q=>(pg_tup hc h hn hst).run pins s σ H v u Q I r q) fun q=>(pg_lst hc h hn hst).run pins s σ H v u Q I r q⟩
theorem each_ns {C:SC}:∀ {ts:Tgs} {es:List Expr},chkTs C ts es=true→∀ env:PySem.Env,(assignEach es env).length=es.length∧(assignEach es env).findIdx? (·.1)=none
 | .nil,[],_,env=>⟨rfl,rfl⟩
 | .cons t r,e::es,h,env=>by
  simp only [chkTs,Bool.and_eq_true] at h
  obtain ⟨h1,h2⟩:=each_ns h.2 env
  have z:assignEach (e::es) env=(false,assign e env)::assignEach es env:=by
   cases t<;>cases e<;>first|rfl|(simp [chkT] at h)
  rw [z]
  refine ⟨by simp [h1],?_⟩
  rw [List.findIdx?_cons]
  simp [h2]
 | .nil,_::_,h,_=>by simp [chkTs] at h
 | .cons _ _,[],h,_=>by simp [chkTs] at h
theorem putTs_len {C:SC}:∀ {ts:Tgs} {es:List Expr} {ds:List D} {env env':Env},chkTs C ts es=true→putTs ts ds env=some env'→ds.length=es.length
 | .nil,[],[],_,_,_,_=>rfl
 | .nil,[],_::_,_,_,_,e=>by simp [putTs] at e
 | .nil,_::_,_,_,_,h,_=>by simp [chkTs] at h
 | .cons _ _,[],_,_,_,h,_=>by simp [chkTs] at h
 | .cons _ _,_::_,[],_,_,_,e=>by simp [putTs] at e
 | .cons t r,_::es,_::ds,_,_,h,e=>by
  simp only [chkTs,Bool.and_eq_true] at h
  unfold putTs at e
  obtain ⟨_,_,e2⟩:=Option.bind_eq_some_iff.mp e
  simp [putTs_len h.2 e2]
section
variable {X:Cx}{pr:Prog}{XR:XRel}{C:SC}{n:Nat}
mutual
theorem g_ok (G:Good X pr XR C n):∀ {tg:Tg} {e:Expr},chkT C tg e=true→PG X e (tG X.K X.w tg)
 | .nm i,e,h=>by
  cases e<;>simp only [chkT,Bool.false_eq_true] at h
  rename_i x pos
  simp only [Bool.and_eq_true,decide_eq_true_eq] at h
  obtain ⟨h1,h2⟩:=h
  obtain ⟨l,f⟩:=G.st x h2
  refine PG.of (pg_name (i:=i) G.nd (by rw [G.N];exact h1) l f) fun v σ H Q h=>?_
  obtain ⟨F,B,env,st,d,env',ok,r,e,q⟩:=h
  unfold putT at e
  cases e
  refine q _ (ok.setV r) (fun vs hv=>wipe_set ?_) (fun vs hv j hj=>?_) fun j s a os e1 e2=>?_
  ·simpa [tgIn] using hv
  ·have hij:i≠j:=fun e=>hj (by rw [← e];simpa [tgIn] using hv)
   rw [List.getElem?_set_ne hij,List.getElem?_set_ne hij]
   exact ⟨rfl,rfl⟩
  ·rcases get_set e1 with ⟨_,e3,_⟩|⟨ne,e3⟩
   ·subst e3;cases os
   ·rw [List.getElem?_set_ne ne] at e2
    exact ⟨e3,e2⟩
 | .tp ts,e,h=>by
  cases e<;>simp only [chkT,Bool.false_eq_true] at h
  rename_i es k pos
  rw [Bool.and_eq_true] at h
  obtain ⟨hcal,h⟩:=h
  obtain ⟨z1,z2⟩:=each_ns h X.env
  refine PG.of (pg_seq (G.calm hcal) (gs_ok G h) z1 z2) fun v σ H Q h=>?_
  obtain ⟨F,B,env,st,d,env',ok,r,e,q⟩:=h
  cases d with
  | tup xs =>
   unfold putT at e
   obtain ⟨a,us,rfl,h1,l1⟩:=r.isT
   exact .inl ⟨a,us,rfl,h1,by rw [l1.length];exact putTs_len h e,F,B,env,st,xs,env',ok,l1,e,q⟩
  | lst xs =>
   unfold putT at e
   obtain ⟨a,us,rfl,h1,l1⟩:=r.isL
   exact .inr ⟨a,us,rfl,.of h1,by rw [l1.length];exact putTs_len h e,F,B,env,st,xs,env',ok,l1,e,q⟩
  | _=>simp [putT] at e
theorem gs_ok (G:Good X pr XR C n):∀ {ts:Tgs} {es:List Expr},chkTs C ts es=true→PGs X es (tGs X.K X.w ts)
 | .nil,[],_=>PGs.of pgs_nil fun us σ H Q h=>by
  obtain ⟨F,B,env,st,ds,env',ok,r,e,q⟩:=h
  cases r with
  | nil =>
   unfold putTs at e
   cases e
   exact ⟨rfl,q σ ok (fun _ _=>rfl) (fun _ _ _ _=>⟨rfl,rfl⟩) fun _ _ _ _ e1 e2=>⟨e1,e2⟩⟩
  | cons _ _=>simp [putTs] at e
 | .cons t r,e::es,h=>by
  have h':=h
  simp only [chkTs,Bool.and_eq_true] at h
  have z:assignEach (e::es) X.env=(false,assign e X.env)::assignEach es X.env:=by
   cases t<;>cases e<;>first|rfl|(simp [chkT] at h)
  refine PGs.of (pgs_cons (g_ok G h.1) (gs_ok G h.2) (by rw [z];rfl)) fun us σ H Q h=>?_
  obtain ⟨F,B,env,st,ds,env',ok,rr,e,q⟩:=h
  cases rr with
  | nil=>simp [putTs] at e
  | cons r1 l1 =>
   unfold putTs at e
   obtain ⟨env1,e1,e2⟩:=Option.bind_eq_some_iff.mp e
   refine ⟨_,_,rfl,F,B,env,st,_,env1,ok,r1,e1,fun σ1 ok1 w1 k1 o1=>?_⟩
   refine ⟨F,B,env1,st,_,env',ok1,l1,e2,fun σ2 ok2 w2 k2 o2=>q σ2 ok2 (fun vs hv=>?_) (fun vs hv i hi=>?_) fun j s a os e3 e4=>?_⟩
   ·simp only [tgsIn,Bool.and_eq_true] at hv
    rw [w2 vs hv.2,w1 vs hv.1]
   ·simp only [tgsIn,Bool.and_eq_true] at hv
    rw [(k2 vs hv.2 i hi).1,(k2 vs hv.2 i hi).2]
    exact k1 vs hv.1 i hi
   ·obtain ⟨e5,e6⟩:=o2 j s a os e3 e4
    exact o1 j s a os e5 e6
 | .nil,_::_,h=>by simp [chkTs] at h
 | .cons _ _,[],h=>by simp [chkTs] at h
end
end
end PL
end
section
namespace PL
open PySem PySem.Spec PyProof.Rows L2
def WF:WX:=fun _ _ _ _=>False
def tBo (K:PySem.W.Frag)(w:World)(XR:XRel)(W:WX)(cx:Ctx)(c:Eo):TT:=fun σ H Q=>∃ F B env st,OkE K w F B σ H env st∧RB XR W F B σ H (evB cx c env st) Q
theorem ownN_snd:∀ {N:List Str} {own:List Nat},own.length=(ownN N own).length→(ownN N own).map (·.2)=own
 | N,[],_=>rfl
 | N,i::r,h=>by
  have le:∀ r:List Nat,(ownN N r).length≤r.length:=by
   intro r
   induction r with
   | nil=>simp [ownN]
   | cons a t ih=>unfold ownN;split<;>simp<;>omega
  unfold ownN at h ⊢
  split at h
  ·rename_i x e
   rw [List.map_cons,ownN_snd (by simpa using h)]
  ·have:=le r
   simp only [List.length_cons] at h
   omega
mutual
theorem putT_noown (own:List Nat):∀ {tg:Tg} {d:D} {env env':Env},putT tg d env=some env'→(∀ j∈own,∀ s,s.isOwn=true→env[j]?≠some s)→∀ j∈own,∀ s,s.isOwn=true→env'[j]?≠some s
 | .nm i,d,env,env',e,h,j,hj,s,os=>by
  unfold putT at e
  cases e
  intro z
  rcases get_set z with ⟨_,e2,_⟩|⟨_,e2⟩
  ·subst e2;cases os
  ·exact h j hj s os e2
 | .tp ts,d,env,env',e,h,j,hj,s,os=>by
  cases d<;>simp only [putT,reduceCtorEq] at e
  ·exact putTs_noown own e h j hj s os
  ·exact putTs_noown own e h j hj s os
theorem putTs_noown (own:List Nat):∀ {ts:Tgs} {ds:List D} {env env':Env},putTs ts ds env=some env'→(∀ j∈own,∀ s,s.isOwn=true→env[j]?≠some s)→∀ j∈own,∀ s,s.isOwn=true→env'[j]?≠some s
 | .nil,[],_,_,e,h,j,hj,s,os=>by unfold putTs at e;cases e;exact h j hj s os
 | .nil,_::_,_,_,e,_,_,_,_,_=>by simp [putTs] at e
 | .cons _ _,[],_,_,e,_,_,_,_,_=>by simp [putTs] at e
 | .cons t r,d::ds,env,env',e,h,j,hj,s,os=>by
  unfold putTs at e
  obtain ⟨env1,e1,e2⟩:=Option.bind_eq_some_iff.mp e
  exact putTs_noown own e2 (putT_noown own e1 h) j hj s os
end
section
variable {X:Cx}{pr:Prog}{XR:XRel}{C:SC}{n:Nat}{W:WX}{cx:Ctx}
theorem Good.blk (G:Good X pr XR C n)(hcal:C.cal=true){scope:Scope}(hk:scope.kind=.function)(s:Shared)(H:Hp)(cl:List (Str × Addr))(Ca:Addr)(fp:List Addr):Good (X.blk s H scope (compEnvC scope cl Ca X.env) fp) pr XR (C.blk scope) n where
 sc:=by
  show L2.relS scope X.env.scope=L2.relS scope C.sc
  rw [G.sc]
 kind:=hk
 N:=G.N
 nd:=G.nd
 st:=fun x h=>by
  have h':isLoc scope x=true:=h
  unfold isLoc at h'
  split at h'
  ·rename_i e
   have:(L2.relS scope X.env.scope).names.lookup x=some .local:=lookup_relS_keep (by decide) e
   exact ⟨.inl this,.inr this⟩
  ·rename_i e
   have:(L2.relS scope X.env.scope).names.lookup x=some .cell:=lookup_relS_keep (by decide) e
   exact ⟨.inr this,.inl (by show (scope.names.lookup x==some .cell)=true;rw [e];rfl)⟩
  ·cases h'
 calm:=fun _=>G.calm hcal
 made:=G.made
 err:=G.err
 nms:=G.nms
 anti:=G.anti
 madeF:=G.madeF
 held:=fun _ _ _ _ _ z=>absurd (hcal.symm.trans z) (by decide)
 room:=fun _=>G.room hcal
 un:=G.un
 gd:=G.gd
 fns:=G.fns
 gls:=G.gls
 blt:=G.blt
 shown:=G.shown
theorem Takes.wf {X:Cx}:Takes X WF:=fun u s' ⟨a,B,sI,pins,σ,H,cls,d,e,I,nb,up,sky,na,os,ag,w⟩=>w.elim
theorem wipe_sub {vs:List Nat}(σ:L2.St):∀ l:List Nat,(∀ i∈l,i∈vs)→wipe (wipe σ l) vs=wipe σ vs
 | [],_=>rfl
 | v::l,h=>by
  show wipe ((wipe σ l).set v none) vs=_
  rw [wipe_set (h v List.mem_cons_self)]
  exact wipe_sub σ l fun i hi=>h i (List.mem_cons_of_mem _ hi)
theorem OkE.touch {K:PySem.W.Frag}{w:World}{F:Foot}{B:Addr→Prop}{L:Addr}{σ:L2.St}{H:Hp}{env:Env}{st:St}{o:HO}(ok:OkE K w F (fun b=>B b∨b=L) σ H env st)(hL:H L≠none)(fL:¬ F.inn L)
  (no:∀ (i:Nat) (s:Slot),s.isOwn=true→env[i]?=some s→σ[i]?≠some (some (V.ref L))):OkE K w F (fun b=>B b∨b=L) σ (upd H L o) env st:=by
 have mv:∀ {v:V} {d:D},Rep K w F (fun b=>B b∨b=L) H v d→Rep K w F (fun b=>B b∨b=L) (upd H L o) v d:=fun r=>r.move (fun a f b hn=>⟨upd_ne fun e=>b (.inr e),f,b⟩) fun _ e=>e
 have mvl:∀ {v:List V} {d:List D},RepL K w F (fun b=>B b∨b=L) H v d→RepL K w F (fun b=>B b∨b=L) (upd H L o) v d:=fun r=>r.move (fun a f b hn=>⟨upd_ne fun e=>b (.inr e),f,b⟩) fun _ e=>e
 refine ⟨ok.len,fun i d e=>?_,fun i s os e=>?_,ok.apart,fun b hb=>upd_occ (ok.occ b hb),ok.sr.keep fun b hb=>upd_ne fun e=>fL (by rw [← e];exact hb)⟩
 ·obtain ⟨v,h1,h2⟩:=ok.val i d e
  exact ⟨v,h1,mv h2⟩
 ·obtain ⟨a,h1,h2,h4,h5⟩:=ok.own i s os e
  exact ⟨a,h1,h2.move mvl (upd_ne fun e2=>no i s os e (by rw [h1,e2])),h4,h5⟩
theorem lc_in (G : Good X pr XR C n){e : E}{tg : Tg}{it : It}{c : Eo}{own : List Nat}(htg : tgIn own tg = true){σ : L2.St}{H : Hp}{Q : VK}(h : gE X XR W cx (.lc e tg it c own) σ H Q) :
    tLc (gI X XR W cx it) (tG X.K X.w tg) (tBo X.K X.w XR WF cx c) (tE X.K X.w XR WF cx e) own σ H Q := by
  obtain ⟨F, B, env, st, ok, h⟩ := h
  unfold evE at h
  generalize hf : lcStep (evE cx e) (evB cx c) tg own env = f at h
  have fe : ∀ d st, f d st = R.opt (putT tg d (wipeE env own)) fun env' => (evB cx c env' st).bind fun t st => if t then (evE cx e env' st).bind fun y st => .ok (some y) st else .ok none st := fun d st => by rw [← hf]; rfl
  refine ⟨F, B, env, st, ok, ?_⟩
  cases q1 : evI cx it env st with
  | no => rw [q1] at h; exact h.elim
  | exc c fs st' => rw [q1] at h; exact h.elim
  | ok ds st1 =>
    rw [q1, R.bind_ok] at h
    intro J F1 H1 x1 sr1 yl L hL
    cases q2 : mapR f ds st1 with
    | no => rw [q2] at h; exact h.elim
    | exc c fs st' => rw [q2] at h; exact h.elim
    | ok ys st2 =>
      rw [q2] at h
      change RE X.K X.w XR W F B σ H _ (if ys.length ≤ line then .ok (.lst ys) st2 else .no) Q at h
      split at h
      case isFalse => exact h.elim
      rename_i hz
      have ok1 := ok.ext x1 sr1
      have nBL : ¬ B L := fun b => ok1.occ L b hL
      have nFL : ¬ F1.inn L := fun b => sr1.occ L b hL
      -- one turn's state
      let T : Nat → Hp → Prop := fun i H2 => ∃ (F2 : Foot) (st : St) (acc : List V) (ad rest : List D), OkE X.K X.w F2 (fun b => B b ∨ b = L) (wipe σ own) H2 (wipeE env own) st ∧
        (∀ a, ¬ F1.inn a → H1 a ≠ none → H2 a = H1 a ∧ ¬ F2.inn a) ∧ (∀ b, H1 b ≠ none → H2 b ≠ none) ∧ (∀ a, F1.at_ = some a → F2.at_ = some a) ∧
        H2 L = some (.lst acc) ∧ ¬ F2.inn L ∧ RepL X.K X.w F2 (fun b => B b ∨ b = L) H2 acc ad ∧ mapR f (ds.drop i) st = .ok rest st2 ∧ ad ++ rest = ys
      have noL : ∀ (i : Nat) (s : Slot), s.isOwn = true → (wipeE env own)[i]? = some s → (wipe σ own)[i]? ≠ some (some (V.ref L)) := by
        intro i s os e z
        obtain ⟨a, h1, h2, h4, h5⟩ := (ok1.wiped own).own i s os e
        rw [h1] at z
        cases z
        exact nBL h4
      refine ⟨fun i m H2 => m = ds.length - i ∧ i ≤ ds.length ∧ T i H2, ⟨ds.length, by simp, Nat.zero_le _, ?_⟩, ?_⟩
      · refine ⟨F1, st1, [], [], ys, (ok1.wiped own).mark hL, fun a fa ha => ⟨upd_ne fun e => ha (by rw [e]; exact hL), fa⟩, fun b hb => upd_occ hb, fun _ e => e, upd_same, nFL, .nil, by rw [List.drop_zero]; exact q2, rfl⟩
      · rintro i m H2 ⟨rfl, hi2, F2, st3, acc, ad, rest, ok2, k2, oc2, at2, hL2, fL2, racc, hm, hy⟩
        have lat : Lat F1 B H1 F2 (fun b => B b ∨ b = L) H2 := ⟨fun a fa ba ha => ⟨(k2 a fa ha).1, (k2 a fa ha).2, fun z => z.elim ba fun e => ha (by rw [e]; exact hL)⟩, at2⟩
        obtain ⟨go, stop⟩ := yl F2 _ H2 lat i
        by_cases hlt : i < ds.length
        · have hdi : ds[i]? = some ds[i] := List.getElem?_eq_getElem hlt
          obtain ⟨go1, go2⟩ := go _ hdi
          refine .inr ⟨go1, T (i + 1), fun H' t => ⟨ds.length - (i + 1), by omega, rfl, hlt, t⟩, fun x H3 hx => ?_⟩
          obtain ⟨x3, s3, rx⟩ := go2 x H3 hx ok2.sr.occ ok2.occ
          have ok3 := ok2.ext x3 (ok2.sr.keep s3)
          have hd : ds.drop i = ds[i] :: ds.drop (i + 1) := List.drop_eq_getElem_cons hlt
          rw [hd] at hm
          unfold mapR at hm
          have hm' : (f ds[i] st3).bind (fun y st => (mapR f (ds.drop (i + 1)) st).bind fun ys st => .ok (match y with | some y => y :: ys | none => ys) st) = .ok rest st2 := hm
          have hm := hm'
          rw [fe] at hm
          cases q3 : putT tg ds[i] (wipeE env own) with
          | none => rw [q3] at hm; cases hm
          | some env' =>
            rw [q3, R.opt_some] at hm
            refine ⟨F2, _, _, st3, _, env', ok3, rx, q3, fun σ2 okg wg kg _ => ⟨(wg own htg).trans (wipe_sub σ own fun _ h => h), ?_⟩⟩
            have noL2 : ∀ (j : Nat) (s : Slot), s.isOwn = true → env'[j]? = some s → σ2[j]? ≠ some (some (V.ref L)) := by
              intro j s os e z
              obtain ⟨a, h1, h2, h4, h5⟩ := okg.own j s os e
              by_cases hj : j ∈ own
              · -- a slot of the block holds a value
                refine putT_noown own q3 (fun j hj s os e => ?_) j hj s os e
                exact (wipeE_some e (fun z => by subst z; cases os)).2 hj
              · have := kg own htg j hj
                rw [this.1] at e
                rw [this.2] at z
                exact noL j s os e z
            have hL3 : H3 L = some (.lst acc) ∧ ¬ F2.inn L := by
              have := x3.keep L fL2 (by rw [hL2]; simp)
              exact ⟨by rw [this.1]; exact hL2, fL2⟩
            -- the test
            refine ⟨F2, _, env', st3, okg, ?_⟩
            cases q4 : evB cx c env' st3 with
            | no => rw [q4] at hm; cases hm
            | exc c fs st' => rw [q4] at hm; cases hm
            | ok t st4 =>
              rw [q4, R.bind_ok] at hm
              intro F4 H4 x4 s4
              have ok4 := okg.ext x4 s4
              have back : ∀ {F5 : Foot} {H5 : Hp} {st5 : St}, Ext F2 H3 F5 H5 → SR st5 F5 H5 → OkE X.K X.w F5 (fun b => B b ∨ b = L) (wipe σ own) H5 (wipeE env own) st5 := fun x s => ok3.ext x s
              have keep : ∀ {F5 : Foot} {H5 : Hp}, Ext F2 H3 F5 H5 → (∀ a, ¬ F1.inn a → H1 a ≠ none → H5 a = H1 a ∧ ¬ F5.inn a) ∧ (∀ b, H1 b ≠ none → H5 b ≠ none) ∧ (∀ a, F1.at_ = some a → F5.at_ = some a) ∧ H5 L = some (.lst acc) ∧ ¬ F5.inn L := by
                intro F5 H5 x
                refine ⟨fun a fa ha => ?_, fun b hb => x.occ b (x3.occ b (oc2 b hb)), fun a e => x.at_ a (at2 a e), ?_, ?_⟩
                · obtain ⟨e1, f1⟩ := k2 a fa ha
                  obtain ⟨e2, f2⟩ := x3.keep a f1 (by rw [e1]; exact ha)
                  obtain ⟨e3, f3⟩ := x.keep a f2 (by rw [e2, e1]; exact ha)
                  exact ⟨by rw [e3, e2, e1], f3⟩
                · rw [(x.keep L hL3.2 (by rw [hL3.1]; simp)).1]; exact hL3.1
                · exact (x.keep L hL3.2 (by rw [hL3.1]; simp)).2
              cases t with
              | false =>
                simp only [Bool.false_eq_true, if_false, R.bind_ok] at hm ⊢
                obtain ⟨k5, o5, a5, L5, f5⟩ := keep x4
                cases q5 : mapR f (ds.drop (i + 1)) st4 with
                | no => rw [q5] at hm; cases hm
                | exc c fs st' => rw [q5] at hm; cases hm
                | ok rest' st' =>
                  rw [q5] at hm
                  simp only [R.bind_ok, R.ok.injEq] at hm
                  obtain ⟨rfl, rfl⟩ := hm
                  exact ⟨F4, st4, acc, ad, _, back x4 s4, k5, o5, a5, L5, f5, ((racc.ext x3).ext x4), q5, hy⟩
              | true =>
                simp only [if_true] at hm ⊢
                refine ⟨F4, _, env', st4, ok4, ?_⟩
                cases q5 : evE cx e env' st4 with
                | no => rw [q5] at hm; cases hm
                | exc c fs st' => rw [q5] at hm; cases hm
                | ok y st5 =>
                  rw [q5, R.bind_ok, R.bind_ok] at hm
                  intro yv F5 H5 x5 s5 ry _
                  cases q6 : mapR f (ds.drop (i + 1)) st5 with
                  | no => rw [q6] at hm; cases hm
                  | exc c fs st' => rw [q6] at hm; cases hm
                  | ok rest' st' =>
                    rw [q6] at hm
                    simp only [R.bind_ok, R.ok.injEq] at hm
                    obtain ⟨rfl, rfl⟩ := hm
                    obtain ⟨k5, o5, a5, L5, f5⟩ := keep (x4.trans x5)
                    have racc5 := ((racc.ext x3).ext x4).ext x5
                    refine ⟨acc, L5, ?_, F5, st5, acc ++ [yv], ad ++ [y], rest', (back (x4.trans x5) s5).touch (by rw [L5]; simp) f5 noL, fun a fa ha => ?_, fun b hb => upd_occ (o5 b hb), a5, upd_same, f5, ?_, q6, by simpa using hy⟩
                    · have := racc5.length
                      have h3 : (ad ++ y :: rest').length ≤ line := by rw [hy]; exact hz
                      rw [← lineEq]
                      simp only [List.length_append, List.length_cons] at h3
                      omega
                    · rw [upd_ne fun e => ha (by rw [e]; exact hL)]
                      exact k5 a fa ha
                    · exact (racc5.append (.cons ry .nil)).move (fun a f b _ => ⟨upd_ne fun e => b (.inr e), f, b⟩) fun _ e => e
        · have hii : i = ds.length := by omega
          subst hii
          refine .inl ⟨stop rfl, ?_⟩
          rw [List.drop_length] at hm
          unfold mapR at hm
          cases hm
          rw [List.append_nil] at hy
          subst hy
          have hx : Ext F H F2 H2 := by
            constructor
            · intro a fa ha
              obtain ⟨e1, f1⟩ := x1.keep a fa ha
              obtain ⟨e2, f2⟩ := k2 a f1 (by rw [e1]; exact ha)
              exact ⟨by rw [e2, e1], f2⟩
            · exact fun b hb => oc2 b (x1.occ b hb)
            · exact fun a e => at2 a (x1.at_ a e)
          refine h (.ref L) F2 H2 hx ok2.sr (.lst hL2 fL2 nBL (racc.anti fun a b => .inl b)) fun _ => ⟨L, acc, _, rfl, rfl, ?_, hL2, fL2, racc⟩
          cases e : H L with
          | none => rfl
          | some o => exact absurd hL (x1.occ L (by rw [e]; simp))
theorem x_lc (G:Good X pr XR C n)(hcal:C.cal=true){e:E}{tg:Tg}{it:It}{c:Eo}{own:List Nat}{pe ptg pit:Expr}{ifs:List Expr}{scope:Scope}{pos:Pos}
  (hi:PI X ptg pit (gI X XR W cx it)) (bok:BlkOk X.N X.env.scope scope (ownN C.N own)) (hown:(ownN C.N own).map (·.2)=own) (htg:tgIn own tg=true)
  (hg:∀ (s:Shared) (H:Hp) (Ca:Addr) (cl:List (Str × Addr)) (fp:List Addr),PG (X.blk s H scope (compEnvC scope cl Ca X.env) fp) ptg (tG X.K X.w tg))
  (ht:∀ (s:Shared) (H:Hp) (Ca:Addr) (cl:List (Str × Addr)) (fp:List Addr),PTs (X.blk s H scope (compEnvC scope cl Ca X.env) fp) ifs (tBo X.K X.w XR WF cx c))
  (he:∀ (s:Shared) (H:Hp) (Ca:Addr) (cl:List (Str × Addr)) (fp:List Addr),PE (X.blk s H scope (compEnvC scope cl Ca X.env) fp) pe (tE X.K X.w XR WF cx e))
  (hs:∀ x,foldedSetIterable pit X.env x=pure x):PE X (.ListComp pe [⟨ptg,pit,ifs,0⟩] scope pos) (gE X XR W cx (.lc e tg it c own)) :=
 PE.of (pe_lc (G.calm hcal) G.nd hi bok hg ht he hs) fun σ H Q h=>by rw [hown];exact lc_in G htg h
end
end PL
end
section
namespace PL
open PySem PySem.Spec PyProof.Rows L2
section
variable {X:Cx}{pr:Prog}{XR:XRel}{C:SC}{n:Nat}{W:WX}{cx:Ctx}
theorem lc2_in (G:Good X pr XR C n){e:E}{tg tg1:Tg}{it it1:PL.It}{own own1:List Nat}(htg:tgIn own tg=true)(htg1:tgIn own1 tg1=true)(hsub:∀ i∈own1,i∈own){σ:L2.St}{H:Hp}{Q:VK}(h:gE X XR W cx (.lc2 e tg it tg1 it1 own own1) σ H Q) :
  tLc2 (gI X XR W cx it) (tG X.K X.w tg) (tBo X.K X.w XR WF cx .no) (tI X.K X.w XR WF cx it1) (tG X.K X.w tg1) (tBo X.K X.w XR WF cx .no) (tE X.K X.w XR WF cx e) own own1 σ H Q:=by
 obtain ⟨F,B,env,st,ok,h⟩:=h
 unfold evE at h
 generalize hf:lc2Step (evI cx it1) (evE cx e) tg tg1 own own1 env=f at h
 have fe:∀ d st,f d st=R.opt (putT tg d (wipeE env own)) fun env1=>(evI cx it1 env1 st).bind fun ds st=>mapR (lcStep (evE cx e) (fun _ st=>.ok true st) tg1 own1 env1) ds st:=fun d st=>by rw [← hf];rfl
 refine ⟨F,B,env,st,ok,?_⟩
 cases q1:evI cx it env st with
 | no=>rw [q1] at h;exact h.elim
 | exc c fs st'=>rw [q1] at h;exact h.elim
 | ok ds st1 =>
  rw [q1,R.bind_ok] at h
  intro J F1 H1 x1 sr1 yl L hL
  cases q2:catR f ds st1 with
  | no=>rw [q2] at h;exact h.elim
  | exc c fs st'=>rw [q2] at h;exact h.elim
  | ok ys st2 =>
   rw [q2] at h
   change RE X.K X.w XR W F B σ H _ (if ys.length≤line then .ok (.lst ys) st2 else .no) Q at h
   split at h
   case isFalse=>exact h.elim
   rename_i hz
   have ok1:=ok.ext x1 sr1
   have nBL:¬ B L:=fun b=>ok1.occ L b hL
   have nFL:¬ F1.inn L:=fun b=>sr1.occ L b hL
   -- what keeps
   let KP:Foot→Hp→Prop:=fun F2 H2=>(∀ a,¬ F1.inn a→H1 a≠none→H2 a=H1 a∧¬ F2.inn a)∧(∀ b,H1 b≠none→H2 b≠none)∧(∀ a,F1.at_=some a→F2.at_=some a)
   have kpx:∀ {F2 H2 F3 H3},KP F2 H2→Ext F2 H2 F3 H3→KP F3 H3:=fun {F2 H2 F3 H3} k x=>⟨fun a fa ha=>by
    obtain ⟨e1,f1⟩:=k.1 a fa ha
    obtain ⟨e2,f2⟩:=x.keep a f1 (by rw [e1];exact ha)
    exact ⟨by rw [e2,e1],f2⟩,fun b hb=>x.occ b (k.2.1 b hb),fun a e=>x.at_ a (k.2.2 a e)⟩
   have kpu:∀ {F2 H2 o},KP F2 H2→KP F2 (upd H2 L o):=fun {F2 H2 o} k=>⟨fun a fa ha=>by
    rw [upd_ne fun e=>ha (by rw [e];exact hL)]
    exact k.1 a fa ha,fun b hb=>upd_occ (k.2.1 b hb),k.2.2⟩
   -- one turn's state
   let T:Nat→Hp→Prop:=fun i H2=>∃ (F2:Foot) (st:St) (acc:List V) (ad rest:List D),OkE X.K X.w F2 (fun b=>B b∨b=L) (wipe σ own) H2 (wipeE env own) st∧KP F2 H2 ∧
    H2 L=some (.lst acc)∧¬ F2.inn L∧RepL X.K X.w F2 (fun b=>B b∨b=L) H2 acc ad∧catR f (ds.drop i) st=.ok rest st2∧ad++rest=ys
   have noL:∀ (i:Nat) (s:Slot),s.isOwn=true→(wipeE env own)[i]?=some s→(wipe σ own)[i]?≠some (some (V.ref L)):=by
    intro i s os e z
    obtain ⟨a,h1,h2,h4,h5⟩:=(ok1.wiped own).own i s os e
    rw [h1] at z
    cases z
    exact nBL h4
   refine ⟨fun i m H2=>m=ds.length-i∧i≤ds.length∧T i H2,⟨ds.length,by simp,Nat.zero_le _,?_⟩,?_⟩
   ·exact ⟨F1,st1,[],[],ys,(ok1.wiped own).mark hL,⟨fun a fa ha=>⟨upd_ne fun e=>ha (by rw [e];exact hL),fa⟩,fun b hb=>upd_occ hb,fun _ e=>e⟩,upd_same,nFL,.nil,by rw [List.drop_zero];exact q2,rfl⟩
   ·rintro i m H2 ⟨rfl,hi2,F2,st3,acc,ad,rest,ok2,kp2,hL2,fL2,racc,hm,hy⟩
    have lat:Lat F1 B H1 F2 (fun b=>B b∨b=L) H2:=⟨fun a fa ba ha=>⟨(kp2.1 a fa ha).1,(kp2.1 a fa ha).2,fun z=>z.elim ba fun e=>ha (by rw [e];exact hL)⟩,kp2.2.2⟩
    obtain ⟨go,stop⟩:=yl F2 _ H2 lat i
    by_cases hlt:i<ds.length
    ·have hdi:ds[i]?=some ds[i]:=List.getElem?_eq_getElem hlt
     obtain ⟨go1,go2⟩:=go _ hdi
     refine .inr ⟨go1,T (i+1),fun H' t=>⟨ds.length-(i+1),by omega,rfl,hlt,t⟩,fun x H3 hx=>?_⟩
     obtain ⟨x3,s3,rx⟩:=go2 x H3 hx ok2.sr.occ ok2.occ
     have ok3:=ok2.ext x3 (ok2.sr.keep s3)
     have hd:ds.drop i=ds[i]::ds.drop (i+1):=List.drop_eq_getElem_cons hlt
     rw [hd] at hm
     unfold catR at hm
     have hm:(f ds[i] st3).bind (fun ys st=>(catR f (ds.drop (i+1)) st).bind fun zs st=>.ok (ys++zs) st)=.ok rest st2:=hm
     rw [fe] at hm
     cases q3:putT tg ds[i] (wipeE env own) with
     | none=>rw [q3] at hm;cases hm
     | some env' =>
      rw [q3,R.opt_some] at hm
      generalize hf1:lcStep (evE cx e) (fun _ st=>.ok true st) tg1 own1 env'=f1 at hm
      have fe1:∀ d st,f1 d st=R.opt (putT tg1 d (wipeE env' own1)) fun env2=>(evE cx e env2 st).bind fun y st=>.ok (some y) st:=fun d st=>by
       rw [← hf1]
       unfold lcStep
       cases putT tg1 d (wipeE env' own1) with
       | none=>rfl
       | some env2=>rfl
      refine ⟨F2,_,_,st3,_,env',ok3,rx,q3,fun σ2 okg wg kg _=>⟨(wg own htg).trans (wipe_sub σ own fun _ h=>h),?_⟩⟩
      have noL2:∀ (j:Nat) (s:Slot),s.isOwn=true→env'[j]?=some s→σ2[j]?≠some (some (V.ref L)):=by
       intro j s os e z
       by_cases hj:j∈own
       ·refine putT_noown own q3 (fun j hj s os e=>?_) j hj s os e
        exact (wipeE_some e (fun z=>by subst z;cases os)).2 hj
       ·have:=kg own htg j hj
        rw [this.1] at e
        rw [this.2] at z
        exact noL j s os e z
      have noL3:∀ (j:Nat) (s:Slot),s.isOwn=true→(wipeE env' own1)[j]?=some s→(wipe σ2 own1)[j]?≠some (some (V.ref L)):=by
       intro j s os e z
       obtain ⟨e1,e2⟩:=wipeE_some e (fun z=>by subst z;cases os)
       rw [wipe_out e2] at z
       exact noL2 j s os e1 z
      refine ⟨F2,_,env',st3,okg,?_⟩
      show RB XR WF F2 _ σ2 H3 (.ok true st3) _
      intro F4 H4 x4 s4
      simp only [if_true]
      refine ⟨F4,_,env',st3,okg.ext x4 s4,?_⟩
      cases q5:evI cx it1 env' st3 with
      | no=>rw [q5] at hm;cases hm
      | exc c fs st'=>rw [q5] at hm;cases hm
      | ok ds1 st5 =>
       rw [q5,R.bind_ok] at hm
       intro J1 F6 H6 x6 s6 yl1
       cases q6:mapR f1 ds1 st5 with
       | no=>rw [q6] at hm;cases hm
       | exc c fs st'=>rw [q6] at hm;cases hm
       | ok ys1 st6 =>
        rw [q6,R.bind_ok] at hm
        cases q7:catR f (ds.drop (i+1)) st6 with
        | no=>rw [q7] at hm;cases hm
        | exc c fs st'=>rw [q7] at hm;cases hm
        | ok zs st' =>
         rw [q7,R.bind_ok] at hm
         simp only [R.ok.injEq] at hm
         obtain ⟨rfl,rfl⟩:=hm
         have xx:=x3.trans (x4.trans x6)
         have hL6:H6 L=some (.lst acc)∧¬ F6.inn L:=by
          have:=xx.keep L fL2 (by rw [hL2];simp)
          exact ⟨by rw [this.1];exact hL2,this.2⟩
         let T1:Nat→Hp→Prop:=fun j H7=>∃ (F7:Foot) (st7:St) (acc7:List V) (ad7 rest7:List D),OkE X.K X.w F7 (fun b=>B b∨b=L) (wipe σ own) H7 (wipeE env own) st7∧OkE X.K X.w F7 (fun b=>B b∨b=L) (wipe σ2 own1) H7 (wipeE env' own1) st7∧KP F7 H7 ∧
          Lat F6 (fun b=>B b∨b=L) H6 F7 (fun b=>B b∨b=L) H7∧H7 L=some (.lst acc7)∧¬ F7.inn L∧RepL X.K X.w F7 (fun b=>B b∨b=L) H7 acc7 ad7∧mapR f1 (ds1.drop j) st7=.ok rest7 st6∧ad7++rest7=ad++ys1
         refine ⟨fun j k H7=>k=ds1.length-j∧j≤ds1.length∧T1 j H7,⟨ds1.length,by simp,Nat.zero_le _,?_⟩,?_⟩
         ·exact ⟨F6,st5,acc,ad,ys1,ok3.ext (x4.trans x6) s6,(okg.ext (x4.trans x6) s6).wiped own1,kpx kp2 xx,Lat.refl,hL6.1,hL6.2,racc.ext xx,by rw [List.drop_zero];exact q6,rfl⟩
         ·rintro j k H7 ⟨rfl,hj2,F7,st7,acc7,ad7,rest7,oko,oki,kp7,lat7,hL7,fL7,racc7,hm7,hy7⟩
          obtain ⟨goI,stopI⟩:=yl1 F7 _ H7 lat7 j
          by_cases hlt1:j<ds1.length
          ·have hdj:ds1[j]?=some ds1[j]:=List.getElem?_eq_getElem hlt1
           obtain ⟨goI1,goI2⟩:=goI _ hdj
           refine .inr ⟨goI1,T1 (j+1),fun H' t=>⟨ds1.length-(j+1),by omega,rfl,hlt1,t⟩,fun xv H8 hx8=>?_⟩
           obtain ⟨x8,s8,rx8⟩:=goI2 xv H8 hx8 oki.sr.occ oki.occ
           have oko8:=oko.ext x8 (oko.sr.keep s8)
           have oki8:=oki.ext x8 (oki.sr.keep s8)
           rw [List.drop_eq_getElem_cons hlt1] at hm7
           unfold mapR at hm7
           have hm7:(f1 ds1[j] st7).bind (fun y st=>(mapR f1 (ds1.drop (j+1)) st).bind fun ys st=>.ok (match y with|some y=>y::ys|none=>ys) st)=.ok rest7 st6:=hm7
           rw [fe1] at hm7
           cases q9:putT tg1 ds1[j] (wipeE env' own1) with
           | none=>rw [q9] at hm7;cases hm7
           | some env2 =>
            rw [q9,R.opt_some] at hm7
            refine ⟨F7,_,_,st7,_,env2,oki8,rx8,q9,fun σ3 okg3 wg3 kg3 _=>⟨(wg3 own1 htg1).trans (wipe_sub σ2 own1 fun _ h=>h),?_⟩⟩
            refine ⟨F7,_,env2,st7,okg3,?_⟩
            show RB XR WF F7 _ σ3 H8 (.ok true st7) _
            intro F9 H9 x9 s9
            simp only [if_true]
            refine ⟨F9,_,env2,st7,okg3.ext x9 s9,?_⟩
            cases q10:evE cx e env2 st7 with
            | no=>rw [q10] at hm7;cases hm7
            | exc c fs st'=>rw [q10] at hm7;cases hm7
            | ok y st8 =>
             rw [q10,R.bind_ok,R.bind_ok] at hm7
             intro yv F10 H10 x10 s10 ry _
             cases q11:mapR f1 (ds1.drop (j+1)) st8 with
             | no=>rw [q11] at hm7;cases hm7
             | exc c fs st'=>rw [q11] at hm7;cases hm7
             | ok rest' st' =>
              rw [q11] at hm7
              simp only [R.bind_ok,R.ok.injEq] at hm7
              obtain ⟨rfl,rfl⟩:=hm7
              have xz:=x8.trans (x9.trans x10)
              have hL10:H10 L=some (.lst acc7)∧¬ F10.inn L:=by
               have:=xz.keep L fL7 (by rw [hL7];simp)
               exact ⟨by rw [this.1];exact hL7,this.2⟩
              have racc10:=racc7.ext xz
              have tl:Lat F10 (fun b=>B b∨b=L) H10 F10 (fun b=>B b∨b=L) (upd H10 L (.lst (acc7++[yv]))):=⟨fun a f b h=>⟨upd_ne fun e=>b (.inr e),f,b⟩,fun _ e=>e⟩
              refine ⟨acc7,hL10.1,?_,F10,st8,acc7++[yv],ad7++[y],rest',(oko.ext xz s10).touch (by rw [hL10.1];simp) hL10.2 noL,(oki.ext xz s10).touch (by rw [hL10.1];simp) hL10.2 noL3,kpu (kpx kp7 xz),(lat7.trans xz.lat).trans tl,upd_same,hL10.2,?_,q11,by simpa using hy7⟩
              ·have h1:=racc10.length
               have h3:(ad7++y::rest').length≤line:=by
                rw [hy7]
                have:(ad++(ys1++zs)).length≤line:=by rw [hy];exact hz
                simp only [List.length_append] at this ⊢
                omega
               rw [← lineEq]
               simp only [List.length_append,List.length_cons] at h3
               omega
              ·exact (racc10.append (.cons ry .nil)).move (fun a f b _=>⟨upd_ne fun e=>b (.inr e),f,b⟩) fun _ e=>e
          ·have hjj:j=ds1.length:=by omega
           subst hjj
           refine .inl ⟨stopI rfl,?_⟩
           rw [List.drop_length] at hm7
           unfold mapR at hm7
           cases hm7
           rw [List.append_nil] at hy7
           subst hy7
           exact ⟨F7,st6,acc7,ad++ys1,zs,oko,kp7,hL7,fL7,racc7,q7,by rw [List.append_assoc];exact hy⟩
    ·have hii:i=ds.length:=by omega
     subst hii
     refine .inl ⟨stop rfl,?_⟩
     rw [List.drop_length] at hm
     unfold catR at hm
     cases hm
     rw [List.append_nil] at hy
     subst hy
     have hx:Ext F H F2 H2:=by
      constructor
      ·intro a fa ha
       obtain ⟨e1,f1⟩:=x1.keep a fa ha
       obtain ⟨e2,f2⟩:=kp2.1 a f1 (by rw [e1];exact ha)
       exact ⟨by rw [e2,e1],f2⟩
      ·exact fun b hb=>kp2.2.1 b (x1.occ b hb)
      ·exact fun a e=>kp2.2.2 a (x1.at_ a e)
     refine h (.ref L) F2 H2 hx ok2.sr (.lst hL2 fL2 nBL (racc.anti fun a b=>.inl b)) fun _=>⟨L,acc,_,rfl,rfl,?_,hL2,fL2,racc⟩
     cases e:H L with
     | none=>rfl
     | some o=>exact absurd hL (x1.occ L (by rw [e];simp))
theorem no_test {XR:XRel}{W:WX}{cx:Ctx}{X:Cx}:PTs X [] (tBo X.K X.w XR W cx .no) :=
 ⟨fun pins s σ H Q I h=>pts_nil.run pins s σ H Q I (by
  obtain ⟨F,B,env,st,ok,h⟩:=h
  unfold evB at h
  exact h F H (Ext.refl F H) ok.sr)⟩
theorem x_lc2 (G:Good X pr XR C n)(hcal:C.cal=true){e:E}{tg tg1:Tg}{it it1:PL.It}{own own1:List Nat}{pe ptg pit ptg1 pit1:Expr}{scope:Scope}{pos:Pos}
  (hi:PI X ptg pit (gI X XR W cx it)) (bok:BlkOk X.N X.env.scope scope (ownN C.N own)) (hown:(ownN C.N own).map (·.2)=own) (htg:tgIn own tg=true) (htg1:tgIn own1 tg1=true) (hsub:∀ i∈own1,i∈own)
  (hg:∀ (s:Shared) (H:Hp) (Ca:Addr) (cl:List (Str × Addr)) (fp:List Addr),PG (X.blk s H scope (compEnvC scope cl Ca X.env) fp) ptg (tG X.K X.w tg))
  (ht:∀ (s:Shared) (H:Hp) (Ca:Addr) (cl:List (Str × Addr)) (fp:List Addr),PTs (X.blk s H scope (compEnvC scope cl Ca X.env) fp) [] (tBo X.K X.w XR WF cx .no))
  (hi1:∀ (s:Shared) (H:Hp) (Ca:Addr) (cl:List (Str × Addr)) (fp:List Addr),PI (X.blk s H scope (compEnvC scope cl Ca X.env) fp) ptg1 pit1 (tI X.K X.w XR WF cx it1))
  (hg1:∀ (s:Shared) (H:Hp) (Ca:Addr) (cl:List (Str × Addr)) (fp:List Addr),PG (X.blk s H scope (compEnvC scope cl Ca X.env) fp) ptg1 (tG X.K X.w tg1))
  (he:∀ (s:Shared) (H:Hp) (Ca:Addr) (cl:List (Str × Addr)) (fp:List Addr),PE (X.blk s H scope (compEnvC scope cl Ca X.env) fp) pe (tE X.K X.w XR WF cx e))
  (hs:∀ x,foldedSetIterable pit X.env x=pure x) (hs1:∀ env x,foldedSetIterable pit1 env x=pure x):PE X (.ListComp pe [⟨ptg,pit,[],0⟩,⟨ptg1,pit1,[],0⟩] scope pos) (gE X XR W cx (.lc2 e tg it tg1 it1 own own1)) :=
 PE.of (pe_lc2 (vs1:=own1) (G.calm hcal) G.nd hi bok (fun i hi=>by rw [hown];exact hsub i hi) hg ht hi1 hg1 ht he hs hs1) fun σ H Q h=>by rw [hown];exact lc2_in G htg htg1 hsub h
end
end PL
end
section
namespace PLZ
open PySem PySem.Spec PyProof.Rows L2
section
end
section
end
end PLZ
end
section
namespace PL
open PySem PySem.Spec PyProof.Rows L2
section
variable {X:Cx}{J:L2.It}{ty:String}{fp:List Addr}{it S:Addr}{tn:Nat→Heap→Prop}{pins:List (Addr × Obj)}{σ:L2.St}
variable {F:Foot}{B:Addr→Prop}{H:Hp}{ds:List D}
structure Fill (X:Cx)(F:Foot)(B:Addr→Prop)(S:Addr)(pins:List (Addr × Obj))(σ:L2.St)(H:Hp)(ds:List D)(fp:List Addr)(tn:Nat→Heap→Prop)(i:Nat)(s:Shared)(H2:Hp)(vs:List V):Prop where
 inv:Inv X pins σ H2 s
 foot:∀ b∈fp,FpOk X pins H2 b
 st:tn i s.heap
 ext:Ext F H F H2
 inn:∀ b,F.inn b→H2 b=H b
 own:H2 S=some (.lst vs)
 rep:RepL X.K X.w F (fun b=>B b∨b=S) H2 vs (ds.take i)
 le:i≤ds.length
theorem Fill.lat {i:Nat}{s:Shared}{H2:Hp}{vs:List V}(f:Fill X F B S pins σ H ds fp tn i s H2 vs)(hS:H S=none):Lat F B H F (fun b=>B b∨b=S) H2 :=
 ⟨fun a fa ba ha=>⟨(f.ext.keep a fa ha).1,fa,fun z=>z.elim ba fun e=>ha (by rw [e];exact hS)⟩,fun _ e=>e⟩
end
end PL
end
section
namespace PL
open PySem PySem.Spec PyProof.Rows L2
section
end
end PL
end
section
namespace PL
open PySem PySem.Spec PyProof.Rows L2
section
end
section
end
end PL
end
section
namespace PLZ
open PySem PySem.Spec PyProof.Rows L2
section
end
section
end
end PLZ
end
section
namespace PL
open PySem PySem.Spec PyProof.Rows L2 PLZ
end PL
end
section
namespace PL
open PySem PySem.Spec PyProof.Rows L2
theorem kOf_inj' {a b:K0}(h:kOf a=kOf b):a=b:=by
 cases a with
 | i n =>
  cases b with
  | i m=>simp [kOf] at h;rw [h]
  | s y=>simp [kOf] at h
 | s x =>
  cases b with
  | i m=>simp [kOf] at h
  | s y=>simp [kOf] at h;rw [h]
theorem putK_keys (k:K0)(v:V):∀ {kvs:List (Key × V)} {ks:List K0},(ks.Nodup)→kvs.map (·.1)=ks.map kOf→(putK kvs (kOf k) v).map (·.1)=(putKs k ks).map kOf:=by
 intro kvs ks _ e
 have key:∀ {kvs:List (Key × V)} {ks:List K0},kvs.map (·.1)=ks.map kOf→((kvs.any fun kv=>decide (kv.1=kOf k))=true→(putKs k ks)=ks)∧((kvs.any fun kv=>decide (kv.1=kOf k))=false→putKs k ks=ks++[k]):=by
  intro kvs
  induction kvs with
  | nil =>
   intro ks e
   cases ks with
   | nil=>exact ⟨fun h=>by simp at h,fun _=>rfl⟩
   | cons a t=>simp at e
  | cons p t ih =>
   intro ks e
   cases ks with
   | nil=>simp at e
   | cons a r =>
    simp only [List.map_cons,List.cons.injEq] at e
    obtain ⟨i1,i2⟩:=ih e.2
    by_cases h:a=k
    ·have:decide (p.1=kOf k)=true:=by rw [e.1,h];simp
     refine ⟨fun _=>by simp [putKs,h],fun z=>?_⟩
     simp [this] at z
    ·have:decide (p.1=kOf k)=false:=by
      rw [e.1]
      exact decide_eq_false fun z=>h (kOf_inj' z)
     refine ⟨fun z=>?_,fun z=>?_⟩
     ·rw [List.any_cons,this,Bool.false_or] at z
      simp [putKs,h,i1 z]
     ·rw [List.any_cons,this,Bool.false_or] at z
      simp [putKs,h,i2 z]
 obtain ⟨k1,k2⟩:=key e
 unfold putK
 split
 ·rename_i z
  rw [k1 z,← e,List.map_map]
  refine List.map_congr_left fun p hp=>?_
  simp only [Function.comp]
  split<;>rfl
 ·rename_i z
  rw [k2 ((Bool.not_eq_true _).mp z),List.map_append,List.map_append,e]
  rfl
theorem putKs_mem {k x:K0}:∀ {ks:List K0},x∈putKs k ks→x=k∨x∈ks
 | [],h=>by simp [putKs] at h;exact .inl h
 | a::ks,h=>by
  unfold putKs at h
  split at h
  ·exact .inr h
  ·rcases List.mem_cons.1 h with h|h
   ·exact .inr (by simp [h])
   ·exact (putKs_mem h).imp id fun h=>by simp [h]
theorem putKs_nodup {k:K0}:∀ {ks:List K0},ks.Nodup→(putKs k ks).Nodup
 | [],_=>by simp [putKs]
 | a::ks,h=>by
  rw [List.nodup_cons] at h
  unfold putKs
  split
  ·exact List.nodup_cons.2 h
  ·rename_i hne
   rw [List.nodup_cons]
   exact ⟨fun z=>(putKs_mem z).elim hne h.1,putKs_nodup h.2⟩
theorem putK_vals {K:PySem.W.Frag}{w:World}{F:Foot}{B:Addr→Prop}{H:Hp}(k:K0){v:V}{d:D}(r:Rep K w F B H v d):∀ {kvs:List (Key × V)} {ks:List K0} {ds:List D},ks.Nodup→kvs.map (·.1)=ks.map kOf→RepL K w F B H (kvs.map (·.2)) ds→RepL K w F B H ((putK kvs (kOf k) v).map (·.2)) (putVs k d ks ds):=by
 intro kvs ks ds nd e rl
 have key:∀ {kvs:List (Key × V)} {ks:List K0} {ds:List D},ks.Nodup→kvs.map (·.1)=ks.map kOf→RepL K w F B H (kvs.map (·.2)) ds →
   ((kvs.any fun kv=>decide (kv.1=kOf k))=true→RepL K w F B H ((kvs.map fun kv=>if kv.1=kOf k then (kv.1,v) else kv).map (·.2)) (putVs k d ks ds)) ∧
   ((kvs.any fun kv=>decide (kv.1=kOf k))=false→RepL K w F B H ((kvs++[(kOf k,v)]).map (·.2)) (putVs k d ks ds)∧(kvs.map fun kv=>if kv.1=kOf k then (kv.1,v) else kv)=kvs):=by
  intro kvs
  induction kvs with
  | nil =>
   intro ks ds _ e rl
   cases ks with
   | cons a t=>simp at e
   | nil =>
    cases rl with
    | nil=>exact ⟨fun h=>by simp at h,fun _=>⟨.cons r .nil,rfl⟩⟩
  | cons p t ih =>
   intro ks ds nd e rl
   cases ks with
   | nil=>simp at e
   | cons a q =>
    simp only [List.map_cons,List.cons.injEq] at e
    rw [List.nodup_cons] at nd
    cases rl with
    | cons r1 rt =>
     obtain ⟨i1,i2⟩:=ih nd.2 e.2 rt
     by_cases h:a=k
     ·have hp:p.1=kOf k:=by rw [e.1,h]
      have hno:(t.any fun kv=>decide (kv.1=kOf k))=false:=by
       rw [List.any_eq_false]
       intro x hx
       have:x.1∈q.map kOf:=by rw [← e.2];exact List.mem_map_of_mem hx
       obtain ⟨y,hy,e3⟩:=List.mem_map.1 this
       simp only [decide_eq_true_eq]
       intro z
       rw [z] at e3
       have:=kOf_inj' e3
       exact nd.1 (by rw [h,← this];exact hy)
      obtain ⟨_,i3⟩:=i2 hno
      refine ⟨fun _=>?_,fun z=>?_⟩
      ·rw [List.map_cons,List.map_cons,i3]
       simp only [hp,if_true,putVs,h]
       exact .cons r rt
      ·simp [hp] at z
     ·have hp:¬ p.1=kOf k:=by rw [e.1];exact fun z=>h (kOf_inj' z)
      refine ⟨fun z=>?_,fun z=>?_⟩
      ·have z':(t.any fun kv=>decide (kv.1=kOf k))=true:=by simpa [hp] using z
       rw [List.map_cons,List.map_cons]
       simp only [hp,if_false,putVs,h]
       exact .cons r1 (i1 z')
      ·have z':(t.any fun kv=>decide (kv.1=kOf k))=false:=by
        rw [List.any_cons] at z
        exact (Bool.or_eq_false_iff.1 z).2
       obtain ⟨j1,j2⟩:=i2 z'
       refine ⟨?_,?_⟩
       ·rw [List.cons_append,List.map_cons]
        simp only [putVs,h,if_false]
        exact .cons r1 j1
       ·rw [List.map_cons,j2]
        simp only [hp,if_false]
 obtain ⟨k1,k2⟩:=key nd e rl
 unfold putK
 split
 ·rename_i z;exact k1 z
 ·rename_i z;exact (k2 ((Bool.not_eq_true _).mp z)).1
end PL
end
section
namespace PL
open PySem PySem.Spec PyProof.Rows L2
theorem dctL_len:∀ (ys:List D) (ks:List K0) (ds:List D) (d:D),dctL ks ds ys=some d→∀ k v r,ys=.tup [k,v]::r→∃ kk,k.key=some kk∧ks.length<line∧dctL (putKs kk ks) (putVs kk v ks ds) r=some d:=by
 intro ys ks ds d h k v r e
 subst e
 unfold dctL at h
 cases q:k.key with
 | none=>rw [q] at h;cases h
 | some kk =>
  rw [q,Option.bind_some] at h
  split at h
  ·exact ⟨kk,rfl,by assumption,h⟩
  ·cases h
theorem key_rep {K:PySem.W.Frag}{w:World}{F:Foot}{B:Addr→Prop}{H:Hp}{u:V}{d:D}{kk:K0}(r:Rep K w F B H u d)(h:d.key=some kk):u=kV (kOf kk):=by
 cases d with
 | int m=>cases r;cases h;rfl
 | str s =>
  cases r with
  | str y _ ey =>
   cases h
   subst ey
   rfl
 | _=>cases h
section
variable {X:Cx}{pr:Prog}{XR:XRel}{C:SC}{n:Nat}{W:WX}{cx:Ctx}
theorem dc_in (G:Good X pr XR C n){ek ev:E}{tg:Tg}{it:It}{c:Eo}{own:List Nat}(htg:tgIn own tg=true){σ:L2.St}{H:Hp}{Q:VK}(h:gE X XR W cx (.dc ek ev tg it c own) σ H Q) :
  tDc (gI X XR W cx it) (tG X.K X.w tg) (tBo X.K X.w XR WF cx c) (tE X.K X.w XR WF cx ek) (tE X.K X.w XR WF cx ev) own σ H Q:=by
 obtain ⟨F,B,env,st,ok,h⟩:=h
 unfold evE at h
 generalize hf:lcStep (pairE (evE cx ek) (evE cx ev)) (evB cx c) tg own env=f at h
 have fe:∀ d st,f d st=R.opt (putT tg d (wipeE env own)) fun env'=>(evB cx c env' st).bind fun t st=>if t then ((evE cx ek env' st).bind fun k st=>(evE cx ev env' st).bind fun v st=>.ok (.tup [k,v]) st).bind fun y st=>.ok (some y) st else .ok none st:=fun d st=>by rw [← hf];rfl
 refine ⟨F,B,env,st,ok,?_⟩
 cases q1:evI cx it env st with
 | no=>rw [q1] at h;exact h.elim
 | exc c fs st'=>rw [q1] at h;exact h.elim
 | ok ds st1 =>
  rw [q1,R.bind_ok] at h
  intro J F1 H1 x1 sr1 yl L hL
  cases q2:mapR f ds st1 with
  | no=>rw [q2] at h;exact h.elim
  | exc c fs st'=>rw [q2] at h;exact h.elim
  | ok ys st2 =>
   rw [q2] at h
   change RE X.K X.w XR W F B σ H _ (R.lift (dctL [] [] ys) st2) Q at h
   cases qd:dctL [] [] ys with
   | none=>rw [qd] at h;exact h.elim
   | some dd =>
   rw [qd,R.lift_some] at h
   have ok1:=ok.ext x1 sr1
   have nBL:¬ B L:=fun b=>ok1.occ L b hL
   have nFL:¬ F1.inn L:=fun b=>sr1.occ L b hL
   -- one turn's state
   let T:Nat→Hp→Prop:=fun i H2=>∃ (F2:Foot) (st:St) (kvs:List (Key × V)) (ks:List K0) (ad rest:List D),OkE X.K X.w F2 (fun b=>B b∨b=L) (wipe σ own) H2 (wipeE env own) st ∧
    (∀ a,¬ F1.inn a→H1 a≠none→H2 a=H1 a∧¬ F2.inn a)∧(∀ b,H1 b≠none→H2 b≠none)∧(∀ a,F1.at_=some a→F2.at_=some a) ∧
    H2 L=some (.dK kvs)∧¬ F2.inn L∧(kvs.map (·.1)=ks.map kOf∧ks.Nodup)∧RepL X.K X.w F2 (fun b=>B b∨b=L) H2 (kvs.map (·.2)) ad∧mapR f (ds.drop i) st=.ok rest st2∧dctL ks ad rest=some dd
   have noL:∀ (i:Nat) (s:Slot),s.isOwn=true→(wipeE env own)[i]?=some s→(wipe σ own)[i]?≠some (some (V.ref L)):=by
    intro i s os e z
    obtain ⟨a,h1,h2,h4,h5⟩:=(ok1.wiped own).own i s os e
    rw [h1] at z
    cases z
    exact nBL h4
   refine ⟨fun i m H2=>m=ds.length-i∧i≤ds.length∧T i H2,⟨ds.length,by simp,Nat.zero_le _,?_⟩,?_⟩
   ·refine ⟨F1,st1,[],[],[],ys,(ok1.wiped own).mark hL,fun a fa ha=>⟨upd_ne fun e=>ha (by rw [e];exact hL),fa⟩,fun b hb=>upd_occ hb,fun _ e=>e,upd_same,nFL,⟨rfl,.nil⟩,.nil,by rw [List.drop_zero];exact q2,qd⟩
   ·rintro i m H2 ⟨rfl,hi2,F2,st3,kvs,ks,ad,rest,ok2,k2,oc2,at2,hL2,fL2,hks,racc,hm,hy⟩
    have lat:Lat F1 B H1 F2 (fun b=>B b∨b=L) H2:=⟨fun a fa ba ha=>⟨(k2 a fa ha).1,(k2 a fa ha).2,fun z=>z.elim ba fun e=>ha (by rw [e];exact hL)⟩,at2⟩
    obtain ⟨go,stop⟩:=yl F2 _ H2 lat i
    by_cases hlt:i<ds.length
    ·have hdi:ds[i]?=some ds[i]:=List.getElem?_eq_getElem hlt
     obtain ⟨go1,go2⟩:=go _ hdi
     refine .inr ⟨go1,T (i+1),fun H' t=>⟨ds.length-(i+1),by omega,rfl,hlt,t⟩,fun x H3 hx=>?_⟩
     obtain ⟨x3,s3,rx⟩:=go2 x H3 hx ok2.sr.occ ok2.occ
     have ok3:=ok2.ext x3 (ok2.sr.keep s3)
     have hd:ds.drop i=ds[i]::ds.drop (i+1):=List.drop_eq_getElem_cons hlt
     rw [hd] at hm
     unfold mapR at hm
     have hm:(f ds[i] st3).bind (fun y st=>(mapR f (ds.drop (i+1)) st).bind fun ys st=>.ok (match y with|some y=>y::ys|none=>ys) st)=.ok rest st2:=hm
     rw [fe] at hm
     cases q3:putT tg ds[i] (wipeE env own) with
     | none=>rw [q3] at hm;cases hm
     | some env' =>
      rw [q3,R.opt_some] at hm
      refine ⟨F2,_,_,st3,_,env',ok3,rx,q3,fun σ2 okg wg kg _=>⟨(wg own htg).trans (wipe_sub σ own fun _ h=>h),?_⟩⟩
      have hL3:H3 L=some (.dK kvs)∧¬ F2.inn L:=by
       have:=x3.keep L fL2 (by rw [hL2];simp)
       exact ⟨by rw [this.1];exact hL2,fL2⟩
      -- the test
      refine ⟨F2,_,env',st3,okg,?_⟩
      cases q4:evB cx c env' st3 with
      | no=>rw [q4] at hm;cases hm
      | exc c fs st'=>rw [q4] at hm;cases hm
      | ok t st4 =>
       rw [q4,R.bind_ok] at hm
       intro F4 H4 x4 s4
       have ok4:=okg.ext x4 s4
       have back:∀ {F5:Foot} {H5:Hp} {st5:St},Ext F2 H3 F5 H5→SR st5 F5 H5→OkE X.K X.w F5 (fun b=>B b∨b=L) (wipe σ own) H5 (wipeE env own) st5:=fun x s=>ok3.ext x s
       have keep:∀ {F5:Foot} {H5:Hp},Ext F2 H3 F5 H5→(∀ a,¬ F1.inn a→H1 a≠none→H5 a=H1 a∧¬ F5.inn a)∧(∀ b,H1 b≠none→H5 b≠none)∧(∀ a,F1.at_=some a→F5.at_=some a)∧H5 L=some (.dK kvs)∧¬ F5.inn L:=by
        intro F5 H5 x
        refine ⟨fun a fa ha=>?_,fun b hb=>x.occ b (x3.occ b (oc2 b hb)),fun a e=>x.at_ a (at2 a e),?_,?_⟩
        ·obtain ⟨e1,f1⟩:=k2 a fa ha
         obtain ⟨e2,f2⟩:=x3.keep a f1 (by rw [e1];exact ha)
         obtain ⟨e3,f3⟩:=x.keep a f2 (by rw [e2,e1];exact ha)
         exact ⟨by rw [e3,e2,e1],f3⟩
        ·rw [(x.keep L hL3.2 (by rw [hL3.1];simp)).1];exact hL3.1
        ·exact (x.keep L hL3.2 (by rw [hL3.1];simp)).2
       cases t with
       | false =>
        simp only [Bool.false_eq_true,if_false,R.bind_ok] at hm ⊢
        obtain ⟨k5,o5,a5,L5,f5⟩:=keep x4
        cases q5:mapR f (ds.drop (i+1)) st4 with
        | no=>rw [q5] at hm;cases hm
        | exc c fs st'=>rw [q5] at hm;cases hm
        | ok rest' st' =>
         rw [q5] at hm
         simp only [R.bind_ok,R.ok.injEq] at hm
         obtain ⟨rfl,rfl⟩:=hm
         exact ⟨F4,st4,kvs,ks,ad,_,back x4 s4,k5,o5,a5,L5,f5,hks,((racc.ext x3).ext x4),q5,hy⟩
       | true =>
        simp only [if_true] at hm ⊢
        refine ⟨F4,_,env',st4,ok4,?_⟩
        cases q5:evE cx ek env' st4 with
        | no=>rw [q5] at hm;cases hm
        | exc c fs st'=>rw [q5] at hm;cases hm
        | ok yk st5 =>
         rw [q5,R.bind_ok] at hm
         intro kv F5 H5 x5 s5 rk _
         have ok5:=ok4.ext x5 s5
         refine ⟨F5,_,env',st5,ok5,?_⟩
         cases q6:evE cx ev env' st5 with
         | no=>rw [q6] at hm;cases hm
         | exc c fs st'=>rw [q6] at hm;cases hm
         | ok y st6 =>
          rw [q6,R.bind_ok,R.bind_ok,R.bind_ok] at hm
          intro yv F6 H6 x6 s6 ry _
          cases q7:mapR f (ds.drop (i+1)) st6 with
          | no=>rw [q7] at hm;cases hm
          | exc c fs st'=>rw [q7] at hm;cases hm
          | ok rest' st' =>
           rw [q7] at hm
           simp only [R.bind_ok,R.ok.injEq] at hm
           obtain ⟨rfl,rfl⟩:=hm
           have x46:=x4.trans (x5.trans x6)
           obtain ⟨k5,o5,a5,L5,f5⟩:=keep x46
           have racc6:=(((racc.ext x3).ext x4).ext x5).ext x6
           obtain ⟨kk,hkk,hln,hnx⟩:=dctL_len _ _ _ _ hy yk y rest' rfl
           have hkl:kvs.length=ks.length:=by
            have:=congrArg List.length hks.1
            simpa using this
           refine ⟨kvs,kOf kk,key_rep rk hkk,L5,by rw [← lineEq,hkl];exact hln,F6,st6,putK kvs (kOf kk) yv,putKs kk ks,putVs kk y ks ad,rest',(back x46 s6).touch (by rw [L5];simp) f5 noL,fun a fa ha=>?_,fun b hb=>upd_occ (o5 b hb),a5,upd_same,f5,⟨putK_keys kk yv hks.2 hks.1,putKs_nodup hks.2⟩,?_,q7,hnx⟩
           ·rw [upd_ne fun e=>ha (by rw [e];exact hL)]
            exact k5 a fa ha
           ·exact (putK_vals kk ry hks.2 hks.1 racc6).move (fun a f b _=>⟨upd_ne fun e=>b (.inr e),f,b⟩) fun _ e=>e
    ·have hii:i=ds.length:=by omega
     subst hii
     refine .inl ⟨stop rfl,?_⟩
     rw [List.drop_length] at hm
     unfold mapR at hm
     cases hm
     unfold dctL at hy
     cases hy
     have hx:Ext F H F2 H2:=by
      constructor
      ·intro a fa ha
       obtain ⟨e1,f1⟩:=x1.keep a fa ha
       obtain ⟨e2,f2⟩:=k2 a f1 (by rw [e1];exact ha)
       exact ⟨by rw [e2,e1],f2⟩
      ·exact fun b hb=>oc2 b (x1.occ b hb)
      ·exact fun a e=>at2 a (x1.at_ a e)
     exact h (.ref L) F2 H2 hx ok2.sr (.dct hL2 fL2 nBL hks.1 (racc.anti fun a b=>.inl b)) fun z=>absurd z (by show ¬ false=true;decide)
theorem x_dc (G:Good X pr XR C n)(hcal:C.cal=true){ek ev:E}{tg:Tg}{it:It}{c:Eo}{own:List Nat}{pk pv ptg pit:Expr}{ifs:List Expr}{scope:Scope}{pos:Pos}
  (hi:PI X ptg pit (gI X XR W cx it)) (bok:BlkOk X.N X.env.scope scope (ownN C.N own)) (hown:(ownN C.N own).map (·.2)=own) (htg:tgIn own tg=true)
  (hg:∀ (s:Shared) (H:Hp) (Ca:Addr) (cl:List (Str × Addr)) (fp:List Addr),PG (X.blk s H scope (compEnvC scope cl Ca X.env) fp) ptg (tG X.K X.w tg))
  (ht:∀ (s:Shared) (H:Hp) (Ca:Addr) (cl:List (Str × Addr)) (fp:List Addr),PTs (X.blk s H scope (compEnvC scope cl Ca X.env) fp) ifs (tBo X.K X.w XR WF cx c))
  (hk:∀ (s:Shared) (H:Hp) (Ca:Addr) (cl:List (Str × Addr)) (fp:List Addr),PE (X.blk s H scope (compEnvC scope cl Ca X.env) fp) pk (tE X.K X.w XR WF cx ek))
  (he:∀ (s:Shared) (H:Hp) (Ca:Addr) (cl:List (Str × Addr)) (fp:List Addr),PE (X.blk s H scope (compEnvC scope cl Ca X.env) fp) pv (tE X.K X.w XR WF cx ev))
  (hs:∀ x,foldedSetIterable pit X.env x=pure x):PE X (.DictComp pk pv [⟨ptg,pit,ifs,0⟩] scope pos) (gE X XR W cx (.dc ek ev tg it c own)) :=
 PE.of (pe_dc (G.calm hcal) G.nd hi bok hg ht hk he hs) fun σ H Q h=>by rw [hown];exact dc_in G htg h
end
end PL
end
section
namespace PLS
open PySem PySem.Spec PyProof.Rows L2
section
variable {P:Program}{w:World}{A:Around}{E:Value→Shared→Prop}{s:Shared}
abbrev emptyS (w : World) : Obj := { cls := .type "set", dict := none, data := .set #[] 0 (.fresh 0 0 (!w.params.followText "set-order")) }
def SetMade (w:World)(s:Shared)(ns:List Int)(r:Value)(s₂:Shared):Prop :=
 r=.none∧∃ h' tk c,s₂={ s with heap:=h',toks:=tk }∧SetR w h' s.heap.objs.size (fun j=>decide (j∈ns)) c∧c≤ns.length∧∀ b o,s.heap.get? b=some o→h'.get? b=some o
theorem init_setL {l:Addr}{items:Array Value}{ns:List Int}(hh:A.handled=none)(hl:s.heap.IsList l items)(hit:IntsAre items.toList ns)(hb:ns.length+1<scanBound) :
  wpAny (model P w) A.in1 (Builtin.«set.__init__» ⟨[.ref s.heap.objs.size,.ref l],[]⟩) (fun fin s'=>match fin with
   | .done f=>wants (SetMade w s ns) E (.ok f) s'
   | .again c'=>c'.quiet=true∧codeAny (model P w) A c' (wants (SetMade w s ns) E) s') (fun e s'=>wants (SetMade w s ns) E (.error e) s') { s with heap:=s.heap.push (emptyS w) }:=by
 have sz:items.size=ns.length:=(Array.length_toList (xs:=items)).symm.trans (IntsAre.length hit)
 have new:(s.heap.push (emptyS w)).get? s.heap.objs.size=some (emptyS w):=Heap.get?_push_size _ rfl
 have up:(s.heap.push (emptyS w)).objs.size=s.heap.objs.size+1:=Heap.size_push ..
 obtain ⟨⟨ocls,odict,odata,oslots⟩,hol,hcl,nl,hdl⟩:=hl
 simp only at hcl hdl
 subst hcl hdl
 have hll:l<s.heap.objs.size:=Heap.lt_size hol
 have hol' : (s.heap.push (emptyS w)).get? l = some { cls := .type "list", dict := odict, data := .seq items nl, slots := oslots } := Heap.get?_push_of_some _ hol
 have hl1:(s.heap.push (emptyS w)).IsList l items:=⟨_,hol',rfl,nl,rfl⟩
 have k1:=F.sub_list_set
 have k2:=F.sub_list_frozenset
 have k3 : (Value.type "list" == Value.type "dict") = false := by decide
 unfold Builtin.«set.__init__» noKeywords Builtin.Frozenset.updateFrom
 generalize hPI:pyIter=PI
 wp_walk
 subst hPI
 refine wpAny_pyIter_list hl1 (wpAny_bind (wpAny_runValue ?_))
 have ne1:l≠(s.heap.push (emptyS w)).objs.size:=by rw [up];exact Nat.ne_of_lt (Nat.lt_succ_of_lt hll)
 have ne2:s.heap.objs.size∉[(s.heap.push (emptyS w)).objs.size,l]:=by
  rw [up]
  intro z
  rcases List.mem_cons.mp z with z|z
  ·exact absurd z (Nat.ne_of_lt (Nat.lt_succ_self _))
  ·exact absurd (List.mem_singleton.mp z) (Nat.ne_of_gt hll)
 have hh':A.in1.in1.handled=none:=by simp [hh]
 refine set_update_ints ((Walks.list hh' _ l ne1 items).toS) s.heap.objs.size ne2 ns sz hb (fun i v hv=>?_) (items.size-0) 0 _ (by omega) (Nat.zero_le _) ⟨⟨_,Heap.get?_push_size _ rfl,rfl,rfl⟩,hl1.push _⟩ ⟨0,Nat.le_refl 0,setR_new_at (Heap.get?_push_of_some _ new)⟩ fun s' c' hm hc' hS'=>?_
 ·have hi:i<ns.length:=by rw [← sz];exact (Array.getElem?_eq_some_iff.mp hv).1
  obtain ⟨t,e⟩:=PyProof.Rows.IntsAre.int_at hit i v (by rw [Array.getElem?_toList];exact hv)
  exact ⟨ns[i],t,List.getElem?_eq_getElem hi,by rw [e,List.getD_eq_getElem?_getD,List.getElem?_eq_getElem hi]<;>rfl⟩
 ·obtain ⟨h',g2,d',tk',os'⟩:=s'
  have eg:g2=s.gens:=hm.gens
  have ed:d'=s.drawn:=hm.drawn
  have eo:os'=s.os:=hm.os
  subst eg ed eo
  rw [sz] at hc'
  refine wpAny_pure (wpAny_pure ⟨rfl,h',tk',c',rfl,hS',hc',fun b o e=>?_⟩)
  have hb0:b<s.heap.objs.size:=Heap.lt_size e
  have out:b∉s.heap.objs.size::[(s.heap.push (emptyS w)).objs.size]:=by
   rw [up]
   intro z
   rcases List.mem_cons.mp z with z|z
   ·exact absurd z (Nat.ne_of_lt hb0)
   ·exact absurd (List.mem_singleton.mp z) (Nat.ne_of_lt (Nat.lt_succ_of_lt hb0))
  exact hm.heap b o out (Heap.get?_push_of_some _ (Heap.get?_push_of_some _ e))
theorem call_setL {l:Addr}{items:Array Value}{ns:List Int}{Q:Value→Shared→Prop}(hh:A.handled=none)(hl:s.heap.IsList l items)(hit:IntsAre items.toList ns)(hb:ns.length+1<scanBound)
  (h:∀ (h':Heap) (tk c:Nat),SetR w h' s.heap.objs.size (fun j=>decide (j∈ns)) c→c≤ns.length→(∀ b o,s.heap.get? b=some o→h'.get? b=some o)→Q (.ref s.heap.objs.size) { s with heap:=h',toks:=tk }) :
  wpAny (model P w) A (call (.type "set") [.ref l]) Q E s := by
 have new:(s.heap.push (emptyS w)).get? s.heap.objs.size=some (emptyS w):=Heap.get?_push_size _ rfl
 have hT : Shared.TypeIs { s with heap := s.heap.push (emptyS w) } (.ref s.heap.objs.size) "set" := ⟨_, new, rfl⟩
 obtain ⟨c,tl,hmro⟩:=F.called_set.mro
 have a1:=F.called_set.made
 have a2:=F.called_set.sub
 have a3:=F.called_set.notType
 have a4:=F.called_set.canCreate
 have a5:=F.typeCall_set_1 (.ref l)
 have a6:=F.called_set.init.lookup
 have a7:=F.called_set.init.bind (.ref s.heap.objs.size)
 refine wpAny_call (codeAny_of_tree ?_)
 show wpAny _ _ (callAny (.type "set") _) _ _ _
 refine wpAny_pure ⟨Code.quiet_builtin _ (by decide +kernel),codeAny_builtin F.entry_type_call ?_⟩
 rw [Around.under_plain (weight_type_call_type "set" [.ref l] []) rfl]
 repeat (any_goals (first|assumption|wp_step))
 refine codeAny_mono (code_set_led1 (.ref l) (E:=E) (Q₁:=fun obj s₁=>obj=.ref s.heap.objs.size∧s₁={ s with heap:=s.heap.push (emptyS w) }) ⟨rfl,rfl⟩) fun r s₁ hr=>?_
 cases r with
 | error e=>exact hr
 | ok fl =>
  cases fl with
  | ret obj =>
   obtain ⟨rfl,rfl⟩:=hr
   repeat (any_goals (first|assumption|wp_step))
   refine codeAny_mono (codeAny_call_builtin (R:=wants (SetMade w s ns) E) F.called_set.init.plain F.entry_set_init (check_set_init_1 hT (init_setL ?hA hl hit hb))) fun r₂ s₂ hr₂=>?_
   case hA=>simp [hh]
   cases r₂ with
   | error e=>exact hr₂
   | ok fl₂ =>
    cases fl₂ with
    | ret r =>
     obtain ⟨rfl,h',tk,c',rfl,hS',hc',hk'⟩:=hr₂
     repeat (any_goals (first|assumption|wp_step))
     exact h _ _ _ hS' hc' hk'
    | _=>exact hr₂.elim
  | _=>exact hr.elim
end
end PLS
end
section
namespace PL
open PySem PySem.Spec PyProof.Rows L2
section
variable {X:Cx}{pr:Prog}{XR:XRel}{C:SC}{n:Nat}{W:WX}{cx:Ctx}
variable {p q r:Expr}{ps:List Expr}{a b c e:E}{es:Es}{pos:Pos}
structure SE (X:Cx)(XR:XRel)(W:WX)(cx:Ctx)(e:E)(p:Expr):Prop where
 v:PE X p (gE X XR W cx e)
 t:PT X p (gT X XR W cx e)
 w:∀ op l pos,p=.BoolOp op l pos→PW X p (gT X XR W cx e)
def okPlain:Expr→Bool
 | .UnaryOp .Not _ _=>false
 | .BoolOp _ _ _=>false
 | .IfExp _ _ _ _=>false
 | .Compare _ _ _ _=>false
 | _=>true
theorem plain_isTrue (h:okPlain p=true)(env:PySem.Env)(whole:Sem Value):isTrue p env whole=(do let v ← whole;standAt p.pos;holding [v] (truthy v)):=by
 cases p<;>first|rfl|(simp [okPlain] at h;done)|skip
 rename_i op a pos
 cases op<;>first|rfl|(simp [okPlain] at h)
theorem SE.plain (h:okPlain p=true)(hv:PE X p (gE X XR W cx e)):SE X XR W cx e p where
 v:=hv
 t:=PT.of (pt_truth hv (plain_isTrue h X.env)) fun σ H Q h=>by
  obtain ⟨F,B,env,st,ok,h⟩:=h
  refine ⟨F,B,env,st,ok,?_⟩
  unfold evT at h
  cases q:evE cx e env st with
  | ok d st' =>
   rw [q,R.bind_ok] at h
   intro v F' H' x s r _
   cases e:d.truth with
   | none=>rw [e] at h;exact h.elim
   | some t=>rw [e] at h;exact ⟨t,tru_of r e,h F' H' x s⟩
  | exc c fs st'=>rw [q,R.bind_exc] at h;exact h
  | no=>rw [q,R.bind_no] at h;exact h
 w:=fun op l pos e=>by subst e;simp [okPlain] at h
theorem tT_bl (hb:∀ env st d st',evE cx e env st=.ok d st'→∃ b,d=.bl b){σ:L2.St}{H:Hp}{Q:Bool→Hp→Prop}(h:gT X XR W cx e σ H Q):gE X XR W cx e σ H fun z H=>∃ k,z=.bl k∧Q k H:=by
 obtain ⟨F,B,env,st,ok,h⟩:=h
 refine ⟨F,B,env,st,ok,?_⟩
 unfold evT at h
 cases q:evE cx e env st with
 | ok d st' =>
  rw [q,R.bind_ok] at h
  obtain ⟨b,rfl⟩:=hb env st d st' q
  intro v F' H' x s r _
  cases r
  exact ⟨b,rfl,h F' H' x s⟩
 | exc c fs st'=>rw [q,R.bind_exc] at h;exact h
 | no=>rw [q,R.bind_no] at h;exact h
theorem bind_ok_of {α β:Type}{r:R α}{f:α→St→R β}{b:β}{st':St}(h:r.bind f=.ok b st'):∃ a st,r=.ok a st∧f a st=.ok b st':=by
 cases r with
 | ok a st=>exact ⟨a,st,rfl,h⟩
 | exc c fs st=>cases h
 | no=>cases h
theorem lift_ok_of {α:Type}{o:Option α}{st st':St}{a:α}(h:R.lift o st=.ok a st'):o=some a∧st=st':=by
 cases o with
 | none=>cases h
 | some b=>cases h;exact ⟨rfl,rfl⟩
theorem se_cmp (hu:X.A.units+65<cLine)(o:Cop)(ha:PE X p (gE X XR W cx a))(hb:PE X q (gE X XR W cx b))(hm:behindInMarks (copOf o) q=false):SE X XR W cx (.cmp o a b) (.Compare p [copOf o] [q] pos) where
 v:=x_cmp hu o ha hb hm
 t:=PT.of (pt_cmpR (cop_R hu o) ha hb hm) fun σ H Q h=>cmp_in o (tT_bl (fun env st d st' e=>by
  unfold evE at e
  obtain ⟨_,_,_,e⟩:=bind_ok_of e
  obtain ⟨_,_,_,e⟩:=bind_ok_of e
  obtain ⟨e,_⟩:=lift_ok_of e
  obtain ⟨b,_,rfl⟩:=Option.map_eq_some_iff.mp e
  exact ⟨b,rfl⟩) h)
 w:=fun op l pos e=>by cases e
theorem se_isn {j pos'}(ha:PE X p (gE X XR W cx a)):SE X XR W cx (.isn a) (.Compare p [.Is] [.Constant .none j pos'] pos) where
 v:=x_isn ha
 t:=PT.of (pt_cmp (pc_isN ha) rfl) fun σ H Q h=>by
  obtain ⟨F,B,env,st,ok,h⟩:=h
  refine ⟨F,B,env,st,ok,?_⟩
  unfold evT at h
  unfold evE at h
  cases q:evE cx a env st with
  | ok d st' =>
   rw [q] at h
   intro v F' H' x s r _
   exact ⟨_,rfl,by rw [isN_v r];exact h F' H' x s⟩
  | exc c fs st'=>rw [q] at h;exact h
  | no=>rw [q] at h;exact h
 w:=fun op l pos e=>by cases e
theorem se_isnn {j pos'}(ha:PE X p (gE X XR W cx a)):SE X XR W cx (.isnn a) (.Compare p [.IsNot] [.Constant .none j pos'] pos) where
 v:=x_isnn ha
 t:=PT.of (pt_cmp (pc_notN ha) rfl) fun σ H Q h=>by
  obtain ⟨F,B,env,st,ok,h⟩:=h
  refine ⟨F,B,env,st,ok,?_⟩
  unfold evT at h
  unfold evE at h
  cases q:evE cx a env st with
  | ok d st' =>
   rw [q] at h
   intro v F' H' x s r _
   exact ⟨_,rfl,by rw [isN_v r];exact h F' H' x s⟩
  | exc c fs st'=>rw [q] at h;exact h
  | no=>rw [q] at h;exact h
 w:=fun op l pos e=>by cases e
theorem tT.firstB {K:PySem.W.Frag}{w:World}{F:Foot}{B:Addr→Prop}{σ:L2.St}{H:Hp}{env:Env}{st:St}(o:OkE K w F B σ H env st){e:E}{f:Bool→St→R Bool}{Q:Bool→Hp→Prop}{Q':Bool→Hp→Prop}
  (h:RB XR W F B σ H ((evT cx e env st).bind f) Q)
  (k:∀ t st' F' H',Ext F H F' H'→OkE K w F' B σ H' env st'→RB XR W F B σ H (f t st') Q→Q' t H'):tT K w XR W cx e σ H Q':=by
 refine ⟨F,B,env,st,o,?_⟩
 cases q:evT cx e env st with
 | ok d st' =>
  rw [q,R.bind_ok] at h
  intro F' H' x s
  exact k d st' F' H' x (o.ext x s) h
 | exc c fs st'=>rw [q,R.bind_exc] at h;exact h
 | no=>rw [q,R.bind_no] at h;exact h
theorem RB.shift {F F1:Foot}{B:Addr→Prop}{σ:L2.St}{H H1:Hp}(x:Ext F H F1 H1){r:R Bool}{Q:Bool→Hp→Prop}(h:RB XR W F B σ H r Q):RB XR W F1 B σ H1 r Q:=by
 cases r with
 | ok d st'=>exact fun F' H' y s=>h F' H' (x.trans y) s
 | exc c fs st'=>exact fun cls dx F' H' y s r=>h cls dx F' H' (x.trans y) s r
 | no=>exact h
theorem evT_not (env:Env)(st:St):evT cx (.not a) env st=(evT cx a env st).bind fun t st=>.ok (!t) st:=by
 unfold evT
 rw [evE]
 cases evE cx a env st with
 | ok d st' =>
  simp only [R.bind_ok]
  cases d.truth<;>rfl
 | exc c fs st'=>rfl
 | no=>rfl
theorem evT_and (env:Env)(st:St):evT cx (.and a b) env st=(evT cx a env st).bind fun t st=>if t then evT cx b env st else .ok false st:=by
 unfold evT
 rw [evE]
 cases evE cx a env st with
 | ok d st' =>
  simp only [R.bind_ok]
  cases e:d.truth with
  | none=>rfl
  | some t =>
   simp only [R.lift_some,R.bind_ok]
   cases t with
   | true=>rfl
   | false=>simp only [Bool.false_eq_true,if_false,R.bind_ok,e,R.lift_some]
 | exc c fs st'=>rfl
 | no=>rfl
theorem evT_or (env:Env)(st:St):evT cx (.or a b) env st=(evT cx a env st).bind fun t st=>if t then .ok true st else evT cx b env st:=by
 unfold evT
 rw [evE]
 cases evE cx a env st with
 | ok d st' =>
  simp only [R.bind_ok]
  cases e:d.truth with
  | none=>rfl
  | some t =>
   simp only [R.lift_some,R.bind_ok]
   cases t with
   | true=>simp only [if_true,R.bind_ok,e,R.lift_some]
   | false=>rfl
 | exc c fs st'=>rfl
 | no=>rfl
theorem evT_ifx (env:Env)(st:St):evT cx (.ifx c a b) env st=(evT cx c env st).bind fun t st=>if t then evT cx a env st else evT cx b env st:=by
 unfold evT
 rw [evE]
 cases evE cx c env st with
 | ok d st' =>
  simp only [R.bind_ok]
  cases e:d.truth with
  | none=>rfl
  | some t =>
   simp only [R.lift_some,R.bind_ok]
   cases t<;>rfl
 | exc c fs st'=>rfl
 | no=>rfl
theorem se_not (ha:SE X XR W cx a p):SE X XR W cx (.not a) (.UnaryOp .Not p pos) where
 v:=x_not ha.v
 t:=PT.of (pt_not ha.t) fun σ H Q h=>by
  obtain ⟨F,B,env,st,ok,h⟩:=h
  rw [evT_not] at h
  exact tT.firstB ok h fun t st1 F1 H1 x1 ok1 h=>h F1 H1 x1 ok1.sr
 w:=fun op l pos e=>by cases e
theorem and_in {σ:L2.St}{H:Hp}{Q:Bool→Hp→Prop}(h:gT X XR W cx (.and a b) σ H Q):tAnd (gT X XR W cx a) (gT X XR W cx b) σ H Q:=by
 obtain ⟨F,B,env,st,ok,h⟩:=h
 rw [evT_and] at h
 refine tT.firstB ok h fun t st1 F1 H1 x1 ok1 h=>?_
 cases t with
 | true=>simp only [if_true] at h ⊢;exact ⟨F1,B,env,st1,ok1,h.shift x1⟩
 | false=>simp only [Bool.false_eq_true,if_false] at h ⊢;exact h F1 H1 x1 ok1.sr
theorem or_in {σ:L2.St}{H:Hp}{Q:Bool→Hp→Prop}(h:gT X XR W cx (.or a b) σ H Q):tOr (gT X XR W cx a) (gT X XR W cx b) σ H Q:=by
 obtain ⟨F,B,env,st,ok,h⟩:=h
 rw [evT_or] at h
 refine tT.firstB ok h fun t st1 F1 H1 x1 ok1 h=>?_
 cases t with
 | true=>simp only [if_true] at h ⊢;exact h F1 H1 x1 ok1.sr
 | false=>simp only [Bool.false_eq_true,if_false] at h ⊢;exact ⟨F1,B,env,st1,ok1,h.shift x1⟩
theorem PW.of {X:Cx}{e:Expr}{t t':TT}(h:PW X e t)(i:∀ σ H Q,t' σ H Q→t σ H Q):PW X e t':=⟨fun wh pins s σ H Q I q=>h.run wh pins s σ H Q I (i _ _ _ q)⟩
abbrev tailB (op:BoolOp)(q:Expr)(r:List Expr)(pos:Pos):Expr:=match r with|[]=>q|_::_=>.BoolOp op (q::r) pos
theorem se_and {r:List Expr}(ha:SE X XR W cx a p)(hb:SE X XR W cx b (tailB .And q r pos)):SE X XR W cx (.and a b) (.BoolOp .And (p::q::r) pos):=by
 have hv:PE X (.BoolOp .And (q::r) pos) (gE X XR W cx b):=by
  cases r with
  | nil=>exact pe_one hb.v
  | cons _ _=>exact hb.v
 have hw:PW X (.BoolOp .And (q::r) pos) (gT X XR W cx b):=by
  cases r with
  | nil=>exact pw_and1 hb.t
  | cons _ _=>exact hb.w _ _ _ rfl
 have w:PW X (.BoolOp .And (p::q::r) pos) (gT X XR W cx (.and a b)):=PW.of (pw_and ha.t hw) fun σ H Q h=>and_in h
 exact ⟨x_and ha.v hv,w.pt,fun _ _ _ _=>w⟩
theorem se_or {r:List Expr}(ha:SE X XR W cx a p)(hb:SE X XR W cx b (tailB .Or q r pos)):SE X XR W cx (.or a b) (.BoolOp .Or (p::q::r) pos):=by
 have hv:PE X (.BoolOp .Or (q::r) pos) (gE X XR W cx b):=by
  cases r with
  | nil=>exact pe_one hb.v
  | cons _ _=>exact hb.v
 have hw:PW X (.BoolOp .Or (q::r) pos) (gT X XR W cx b):=by
  cases r with
  | nil=>exact pw_or1 hb.t
  | cons _ _=>exact hb.w _ _ _ rfl
 have w:PW X (.BoolOp .Or (p::q::r) pos) (gT X XR W cx (.or a b)):=PW.of (pw_or ha.t hw) fun σ H Q h=>or_in h
 exact ⟨x_or ha.v hv,w.pt,fun _ _ _ _=>w⟩
theorem se_ifx (hc:SE X XR W cx c r)(ha:SE X XR W cx a p)(hb:SE X XR W cx b q):SE X XR W cx (.ifx c a b) (.IfExp r p q pos) where
 v:=x_ifx hc.t ha.v hb.v
 t:=⟨fun pins s σ H Q I h=>by
  have h':gT X XR W cx c σ H fun t H1=>if t=true then gT X XR W cx a σ H1 Q else gT X XR W cx b σ H1 Q:=by
   obtain ⟨F,B,env,st,ok,h⟩:=h
   rw [evT_ifx] at h
   refine tT.firstB ok h fun t st1 F1 H1 x1 ok1 h=>?_
   cases t with
   | true=>simp only [if_true] at h ⊢;exact ⟨F1,B,env,st1,ok1,h.shift x1⟩
   | false=>simp only [Bool.false_eq_true,if_false] at h ⊢;exact ⟨F1,B,env,st1,ok1,h.shift x1⟩
  show wpAny (model X.prog X.w) X.A (do if ← isTrue r X.env (eval r X.env) then isTrue p X.env (eval p X.env) else isTrue q X.env (eval q X.env)) _ _ _
  refine wpAny_bind (thn (hc.t.run pins s σ H _ I h') fun t s1 ⟨H1,I1,q1⟩=>?_)
  cases t with
  | true=>exact ha.t.run pins s1 σ H1 Q I1 q1
  | false=>exact hb.t.run pins s1 σ H1 Q I1 q1⟩
 w:=fun op l pos e=>by cases e
end
end PL
end
section
namespace PL
open PySem PySem.Spec PyProof.Rows L2
section
variable {K:PySem.W.Frag}{w:World}{F:Foot}{B:Addr→Prop}{σ:L2.St}{H:Hp}{env:Env}{st:St}
structure StrIs (F:Foot)(H:Hp)(s:Strm)(a0 a1 a2:Addr):Prop where
 at_:F.at_=some a0
 inn:∀ b,F.inn b↔b=a0∨b=a1∨b=a2
 n1:a0≠a1
 n2:a0≠a2
 n3:a1≠a2
 h0:H a0=some (.lst [.ref a1,.ref a2,.int s.turn])
 h1:H a1=some (.lst (s.big.map V.int))
 h2:H a2=some (.lst (s.cells.map V.int))
 ne:s.cells≠[]
theorem StrIs.of {s:Strm}(h:SR (some s) F H):∃ a0 a1 a2,StrIs F H s a0 a1 a2:=by
 obtain ⟨a0,a1,a2,e,i,n1,n2,n3,h0,h1,h2,c⟩:=h
 exact ⟨a0,a1,a2,e,i,n1,n2,n3,h0,h1,h2,c⟩
theorem StrIs.sr {s:Strm}{a0 a1 a2:Addr}(h:StrIs F H s a0 a1 a2):SR (some s) F H:=⟨a0,a1,a2,h.at_,h.inn,h.n1,h.n2,h.n3,h.h0,h.h1,h.h2,h.ne⟩
theorem str_at {i:Nat}{s:Strm}(ok:OkE K w F B σ H env st)(e:strAt env i st=some s):st=some s∧∃ a0 a1 a2,σ[i]?=some (some (.ref a0))∧StrIs F H s a0 a1 a2:=by
 cases st with
 | none=>cases e
 | some s' =>
  have key:env.get i=some (.ob 0 [])∧s'=s:=by
   unfold strAt at e
   dsimp only at e
   split at e
   ·cases e
    exact ⟨by assumption,rfl⟩
   ·cases e
  obtain ⟨e2,rfl⟩:=key
  obtain ⟨v,h1,h2⟩:=ok.get e2
  cases h2 with
  | ob0 h =>
   obtain ⟨a0,a1,a2,S⟩:=StrIs.of ok.sr
   rw [S.at_] at h
   cases h
   exact ⟨rfl,_,_,_,h1,S⟩
abbrev F0:Foot:=⟨none,fun _=>False⟩
theorem ints_plain (l:List Int):D.plains (l.map D.int)=true∧D.depths (l.map D.int)=0:=by
 induction l with
 | nil=>exact ⟨rfl,rfl⟩
 | cons a r ih=>simp [D.plains,D.plain,D.depths,D.depth,ih.1,ih.2]
theorem ints_shaped (l:List Int):(D.lst (l.map D.int)).shaped=true:=by
 unfold D.shaped
 simp [D.plain,D.depth,ints_plain l]
theorem at0 {x:V}{r:List V}:atI (x::r) 0=some x:=by
 refine ix_at (i:=0) ?_
 simp [ix]
theorem ix3 {x y z:V}:atI [x,y,z] 0=some x∧atI [x,y,z] 1=some y∧atI [x,y,z] 2=some z:=by
 refine ⟨ix_at ?_,ix_at ?_,ix_at ?_⟩<;>simp [ix]
end
section
variable {X:Cx}{pr:Prog}{XR:XRel}{C:SC}{n:Nat}{W:WX}{cx:Ctx}
theorem nm_pe (Gd:Good X pr XR C n){i:Nat}{x:Str}{p:Pos}(h1:okName x=true)(h2:Vis X.env.scope x)(h3:C.N[i]?=some x):PE X (.Name x p) (tVar i):=by
 unfold okName at h1
 simp only [Bool.and_eq_true,Bool.not_eq_true'] at h1
 exact pe_var (by rw [Gd.N];exact h3) h2 h1.1 h1.2.1
theorem plainC {c:Const}{j:Nat}{p:Pos}:PlainIx (.Constant c j p):=fun _ _=>rfl
theorem sub_pe (Gd:Good X pr XR C n){i:Nat}{x:Str}{p p2 p3:Pos}{k:Int}{j:Nat}(h1:okName x=true)(h2:Vis X.env.scope x)(h3:C.N[i]?=some x) :
  PE X (.Subscript (.Name x p) (.Constant (.int k) j p2) p3) (tOp (rIxL X.K) (tVar i) (tC (.int k))):=pe_ix ix_list (nm_pe Gd h1 h2 h3) pe_int plainC
theorem has_in {i:Nat}{σ:L2.St}{H:Hp}{Q:VK}(h:gE X XR W cx (.sHas i) σ H Q):tOp (rCop X.K X.w .ne) (tOp (rIxL X.K) (tVar i) (tC (.int 0))) (tLst tNil) σ H Q:=by
 obtain ⟨F,B,env,st,ok,h⟩:=h
 unfold evE at h
 obtain ⟨d,e⟩:=RE.some_of h
 obtain ⟨s,e1,rfl⟩:=Option.map_eq_some_iff.mp e
 obtain ⟨rfl,a0,a1,a2,h1,S⟩:=str_at ok e1
 refine ⟨_,h1,a0,_,0,_,rfl,rfl,.of S.h0,ix3.1,?_⟩
 refine ⟨Nat.zero_le _,fun p hp=>?_⟩
 have hne:a1≠p:=fun e=>by have:=S.h1;rw [e,hp] at this;cases this
 refine ne_ok (F:=F0) (B:=fun _=>False) (K:=X.K) (w:=X.w) (d1:=.lst (s.big.map D.int)) (d2:=.lst []) (b:=s.big.isEmpty) ?_ (.lst (xs:=s.big.map V.int) (by rw [upd_ne hne];exact S.h1) (fun z=>z) (fun z=>z) (RepL.of_ints _)) (.lst (xs:=[]) upd_same (fun z=>z) (fun z=>z) .nil) ?_
 ·show (if (D.lst (s.big.map D.int)).shaped&&(D.lst []).shaped then some (D.eqv (.lst (s.big.map D.int)) (.lst [])) else none)=_
  rw [ints_shaped]
  have:(D.lst []).shaped=true:=ints_shaped []
  rw [this]
  cases s.big<;>rfl
 ·exact RE.fin h e (Ext.new hp) (ok.sr.new hp) (.bl _)
theorem se_has (Gd:Good X pr XR C n){i:Nat}{x:Str}{p p2 p3 p4 p5:Pos}{j:Nat}(h1:okName x=true)(h2:Vis X.env.scope x)(h3:C.N[i]?=some x) :
  SE X XR W cx (.sHas i) (.Compare (.Subscript (.Name x p) (.Constant (.int 0) j p2) p3) [.NotEq] [.List [] p4] p5) where
 v:=PE.of (pe_cmpR (cop_R (by have:=Gd.un;omega) .ne) (sub_pe Gd h1 h2 h3) (pe_lst pa_nil) rfl) fun σ H Q h=>has_in h
 t:=PT.of (pt_cmpR (cop_R (by have:=Gd.un;omega) .ne) (sub_pe Gd h1 h2 h3) (pe_lst pa_nil) rfl) fun σ H Q h=>has_in (tT_bl (fun env st d st' e=>by
  unfold evE at e
  obtain ⟨e,_⟩:=lift_ok_of e
  obtain ⟨s,_,rfl⟩:=Option.map_eq_some_iff.mp e
  exact ⟨_,rfl⟩) h)
 w:=fun op l pos e=>by cases e
theorem x_sBig (Gd:Good X pr XR C n){i:Nat}{x:Str}{p p2 p3 p4 p5:Pos}{j j2:Nat}(h1:okName x=true)(h2:Vis X.env.scope x)(h3:C.N[i]?=some x) :
  PE X (.Subscript (.Subscript (.Name x p) (.Constant (.int 0) j p2) p3) (.Constant (.int 0) j2 p4) p5) (gE X XR W cx (.sBig i)):=by
 refine PE.of (pe_ix ix_list (sub_pe Gd h1 h2 h3) pe_int plainC) fun σ H Q h=>?_
 obtain ⟨F,B,env,st,ok,h⟩:=h
 unfold evE at h
 obtain ⟨d,e⟩:=RE.some_of h
 obtain ⟨s,e1,e2⟩:=Option.bind_eq_some_iff.mp e
 obtain ⟨b,e3,rfl⟩:=Option.map_eq_some_iff.mp e2
 obtain ⟨rfl,a0,a1,a2,k1,S⟩:=str_at ok e1
 refine ⟨_,k1,a0,_,0,_,rfl,rfl,.of S.h0,ix3.1,?_⟩
 refine ⟨a1,_,0,.int b,rfl,rfl,.of S.h1,?_,RE.fin h e (Ext.refl F H) ok.sr (.int b)⟩
 cases hb:s.big with
 | nil=>rw [hb] at e3;cases e3
 | cons z r =>
  rw [hb] at e3
  cases e3
  exact at0
theorem x_sTurn (Gd:Good X pr XR C n){i:Nat}{x:Str}{p p2 p3:Pos}{j:Nat}(h1:okName x=true)(h2:Vis X.env.scope x)(h3:C.N[i]?=some x) :
  PE X (.Subscript (.Name x p) (.Constant (.int 2) j p2) p3) (gE X XR W cx (.sTurn i)):=by
 refine PE.of (sub_pe Gd h1 h2 h3) fun σ H Q h=>?_
 obtain ⟨F,B,env,st,ok,h⟩:=h
 unfold evE at h
 obtain ⟨d,e⟩:=RE.some_of h
 obtain ⟨s,e1,rfl⟩:=Option.map_eq_some_iff.mp e
 obtain ⟨rfl,a0,a1,a2,k1,S⟩:=str_at ok e1
 exact ⟨_,k1,a0,_,2,_,rfl,rfl,.of S.h0,ix3.2.2,RE.fin h e (Ext.refl F H) ok.sr (.int _)⟩
theorem x_sCell (Gd : Good X pr XR C n){i l : Nat}{x y : Str}{p p2 p3 q1 q2 q3 q4 q5 q6 q7 q8 : Pos}{j j2 : Nat}(h1 : okName x = true)(h2 : Vis X.env.scope x)(h3 : C.N[i]? = some x)(y1 : okName y = true)(y2 : Vis X.env.scope y)(y3 : C.N[l]? = some y)(hg : Gl X "len") :
  PE X (.Subscript (.Subscript (.Name x p) (.Constant (.int 1) j p2) p3) (.BinOp (.Name y q1) .Mod (.Call (.Name "len" q2) [.Subscript (.Name x q3) (.Constant (.int 1) j2 q4) q5] [] q6) q7) q8) (gE X XR W cx (.sCell i l)) := by
 refine PE.of (pe_ix ix_list (sub_pe Gd h1 h2 h3) (pe_op op_modN (nm_pe Gd y1 y2 y3) (pe_callB call_len_seq hg (Gd.blt _ (by decide)) (by decide +kernel) (pa_cons (sub_pe Gd h1 h2 h3) pa_nil rfl))) fun _ _=>rfl) fun σ H Q h=>?_
 obtain ⟨F,B,env,st,ok,h⟩:=h
 unfold evE at h
 obtain ⟨d,e⟩:=RE.some_of h
 obtain ⟨s,e1,e2⟩:=Option.bind_eq_some_iff.mp e
 obtain ⟨dt,e3,e4⟩:=Option.bind_eq_some_iff.mp e2
 obtain ⟨rfl,a0,a1,a2,k1,S⟩:=str_at ok e1
 obtain ⟨vt,k2,k3⟩:=ok.get e3
 cases dt with
 | int t =>
  cases k3
  simp only [cellD,Option.some.injEq] at e4
  subst e4
  have hl:0<s.cells.length:=List.length_pos_iff.mpr S.ne
  refine ⟨_,k1,a0,_,1,_,rfl,rfl,.of S.h0,ix3.2.1,?_⟩
  refine ⟨_,k2,_,k1,a0,_,1,_,rfl,rfl,.of S.h0,ix3.2.1,?_⟩
  refine ⟨a2,_,rfl,.inl (.of S.h2),?_⟩
  rw [List.length_map]
  refine ⟨t,_,rfl,rfl,by omega,?_⟩
  have hm:t.fmod (s.cells.length:Int)=t%(s.cells.length:Int):=Int.fmod_eq_emod_of_nonneg t (by omega)
  have m1:=Int.emod_nonneg t (show (s.cells.length:Int)≠0 by omega)
  have m2:=Int.emod_lt_of_pos t (show 0<(s.cells.length:Int) by omega)
  refine ⟨a2,_,_,.int (s.cells.getD (t%s.cells.length).toNat 0),rfl,rfl,.of S.h2,ix_at ?_,RE.fin h e (Ext.refl F H) ok.sr (.int _)⟩
  rw [hm]
  unfold ix
  rw [if_pos m1,List.getElem?_map]
  have hi:(t%(s.cells.length:Int)).toNat<s.cells.length:=by omega
  rw [List.getElem?_eq_getElem hi,List.getD_eq_getElem?_getD,List.getElem?_eq_getElem hi]
  rfl
 | _=>cases e4
end
end PL
end
section
namespace L2
open PySem PySem.Spec PyProof.Rows
section
end
section
end
end L2
end
section
namespace PL
open PySem PySem.Spec PyProof.Rows L2
theorem insU_mem (a:Int):∀ (l:List Int) (k:Int),k∈insU a l↔k=a∨k∈l
 | [],k=>by simp [insU]
 | b::r,k=>by
  unfold insU
  split
  ·simp
  ·split
   ·rename_i h;subst h;simp
   ·simp only [List.mem_cons,insU_mem a r k]
    constructor
    ·rintro (h|h|h)<;>simp [h]
    ·rintro (h|h|h)<;>simp [h]
theorem insU_asc (a:Int):∀ (l:List Int),l.Pairwise (· < ·)→(insU a l).Pairwise (· < ·)
 | [],_=>by simp [insU]
 | b::r,h=>by
  obtain ⟨h1,h2⟩:=List.pairwise_cons.mp h
  unfold insU
  split
  ·rename_i hab
   refine List.pairwise_cons.mpr ⟨fun k hk=>?_,h⟩
   rcases List.mem_cons.mp hk with e|e
   ·rw [e];exact hab
   ·exact Int.lt_trans hab (h1 k e)
  ·split
   ·exact h
   ·rename_i h3 h4
    refine List.pairwise_cons.mpr ⟨fun k hk=>?_,insU_asc a r h2⟩
    rcases (insU_mem a r k).mp hk with e|e
    ·rw [e];omega
    ·exact h1 k e
theorem sortU_mem:∀ (l:List Int) (k:Int),k∈sortU l↔k∈l
 | [],k=>by simp [sortU]
 | a::r,k=>by rw [sortU,insU_mem,sortU_mem r k,List.mem_cons]
theorem sortU_asc:∀ (l:List Int),(sortU l).Pairwise (· < ·)
 | []=>by simp [sortU]
 | a::r=>insU_asc a _ (sortU_asc r)
theorem asc_uniq:∀ (l m:List Int),l.Pairwise (· < ·)→m.Pairwise (· < ·)→(∀ k,k∈l↔k∈m)→l=m
 | [],[],_,_,_=>rfl
 | [],b::m,_,_,h=>absurd ((h b).mpr (by simp)) (by simp)
 | a::l,[],_,_,h=>absurd ((h a).mp (by simp)) (by simp)
 | a::l,b::m,hl,hm,h=>by
  obtain ⟨h1,h2⟩:=List.pairwise_cons.mp hl
  obtain ⟨h3,h4⟩:=List.pairwise_cons.mp hm
  have e:a=b:=by
   rcases List.mem_cons.mp ((h a).mp (by simp)) with e|e
   ·exact e
   ·rcases List.mem_cons.mp ((h b).mpr (by simp)) with e2|e2
    ·exact e2.symm
    ·have:=h1 b e2
     have:=h3 a e
     omega
  subst e
  congr 1
  refine asc_uniq l m h2 h4 fun k=>⟨fun hk=>?_,fun hk=>?_⟩
  ·rcases List.mem_cons.mp ((h k).mp (by simp [hk])) with e|e
   ·have:=h1 k hk;omega
   ·exact e
  ·rcases List.mem_cons.mp ((h k).mpr (by simp [hk])) with e|e
   ·have:=h3 k hk;omega
   ·exact e
section
variable {X:Cx}
def rSetOf (K:PySem.W.Frag)(w:World):List V→Hp→VK→Prop:=fun vs H Q=>∃ (l:Addr) (ns:List Int),vs=[V.ref l]∧SqL K H l (ns.map V.int)∧ns.length<64 ∧
 ∀ p n,H p=none→n≤ns.length→Q (.ref p) (upd H p (SetO w p (fun j=>decide (j∈ns)) n))
theorem cr_setOf (hc : X.calm = true) : CallR X (.type "set") (rSetOf X.K X.w) := by
 intro pins s σ H vs us Q I r h
 obtain ⟨l,ns,rfl,hq,hn,q⟩:=h
 rw [Vals.ref1 r]
 obtain ⟨its,rv,pl,hz⟩:=I.list hq
 refine PLS.call_setL (I.ok.hd hc) pl.isList (ns:=ns) (by simpa using rv.ints) (by unfold scanBound;omega) fun h' tk c R hc' k=>?_
 exact ⟨.ref s.heap.objs.size,_,I.laid (t':=tk) (o:=SetO X.w s.heap.objs.size (fun j=>decide (j∈ns)) c) k (Nat.le_refl _) (setO_new R),rfl,q _ _ (I.hok.fresh (Nat.le_refl _)) hc'⟩
end
section
variable {X:Cx}{pr:Prog}{XR:XRel}{C:SC}{n:Nat}{W:WX}{cx:Ctx}
variable {p q r:Expr}{ps:List Expr}{a b c e:E}{es:Es}{pos:Pos}
theorem x_sst (G : Good X pr XR C n)(hcal : C.cal = true){pp p2 pos2 : Pos}(hg : Gl X "sorted")(hg2 : Gl X "set")(hs : isStar p = false)(ha : PE X p (gE X XR W cx a)) :
  PE X (.Call (.Name "sorted" pp) [.Call (.Name "set" p2) [p] [] pos2] [] pos) (gE X XR W cx (.sst a)) := by
 have hc:=G.calm hcal
 have he:=star_ns hs [] X.env
 have he2 := star_ns (e := .Call (.Name "set" p2) [p] [] pos2) rfl [] X.env
 refine PE.of (pe_callB (cr_sortedSet hc) hg (G.blt _ (by decide)) (by decide +kernel) (pa_cons (pe_callTy (cr_setOf hc) hg2 (G.blt _ (by decide)) (by decide +kernel) (pa_cons ha pa_nil he) (by decide) (by decide) he rfl) pa_nil he2) (by decide) (by decide) he2 rfl) fun σ H Q h=>?_
 obtain ⟨F,B,env,st,ok,h⟩:=h
 unfold evE at h
 refine tE.first ok h fun d1 st1 v1 F1 H1 x1 ok1 r1 h=>?_
 obtain ⟨d,e⟩:=RE.some_of h
 cases d1 with
 | lst xs =>
  obtain ⟨l,e1,e2⟩:=Option.bind_eq_some_iff.mp e
  split at e2
  ·rename_i hz
   obtain ⟨a',us,rfl,h1,l1⟩:=r1.isL
   have hu:=l1.ints e1
   subst hu
   refine ⟨a',l,rfl,.of h1,hz,fun p0 n0 hp0 hn0=>?_⟩
   refine ⟨p0,_,n0,rfl,upd_same,by omega,fun ns p1 as mm ln hp1=>?_⟩
   have en:ns=sortU l:=asc_uniq _ _ as (sortU_asc l) fun k=>by rw [mm k,sortU_mem];simp
   subst en
   cases e2
   exact (RE.k1 h e (x1.trans (Ext.new hp0))).newL (ok1.sr.new hp0) (fun b hb=>upd_occ (ok1.occ b hb)) (RepL.of_ints _) p1 hp1
  ·cases e2
 | _=>cases e
end
end PL
end
section
namespace PL
open PySem PySem.Spec PyProof.Rows L2
section
end
section
end
end PL
end
section
namespace PL
open PySem PySem.Spec PyProof.Rows L2
abbrev dcX (kE vE ga ia gb ib:Expr)(fa fb:List Expr)(sc:Scope)(ps:Pos):Expr:=.DictComp kE vE [⟨ga,ia,fa,0⟩,⟨gb,ib,fb,0⟩] sc ps
theorem dTurnA (kE vE ga ia gb ib:Expr)(fa fb:List Expr)(sc:Scope)(ps:Pos)(it acc:Value)(en:PySem.Env):compTurn (dcX kE vE ga ia gb ib fa fb sc ps) 0 it acc en=(do
   standAt ia.pos
   match ← pyNext it with
   | none=>pure (.done .next)
   | some u =>
    letOwnedTupleGo ga it u
    assign ga en u
    let mut good:=true
    for c in fa do
     if good then good ← isTrue c en (eval c en)
    if good then
     let y ← eval ib en
     standAt ib.pos
     let y ← foldedSetIterable ib en y
     let _ ← runOwn (.compStart (dcX kE vE ga ia gb ib fa fb sc ps) 1 (← holding [y] (pyIter y)) acc en) en
    again (.compLoop (dcX kE vE ga ia gb ib fa fb sc ps) 0 it acc en)):=by rfl
theorem dTurnB (kE vE ga ia gb ib:Expr)(fa fb:List Expr)(sc:Scope)(ps:Pos)(it:Value)(D:Addr)(en:PySem.Env):compTurn (dcX kE vE ga ia gb ib fa fb sc ps) 1 it (.ref D) en=(do
   standAt ib.pos
   match ← pyNext it with
   | none=>pure (.done .next)
   | some u =>
    letOwnedTupleGo gb it u
    assign gb en u
    let mut good:=true
    for c in fb do
     if good then good ← isTrue c en (eval c en)
    if good then
     (do
      let a ← eval kE en
      let b ← holding [a] (eval vE en)
      standAt { kE.pos with endLine:=vE.pos.endLine,endCol:=vE.pos.endCol }
      holding [a,b] (dictSet D a b))
    again (.compLoop (dcX kE vE ga ia gb ib fa fb sc ps) 1 it (.ref D) en)):=by rfl
section
variable {prog:Program}{w:World}{A:Around}{R:Result→Shared→Prop}{s:Shared}{kE vE ga ia gb ib:Expr}{fa fb:List Expr}{sc:Scope}{ps:Pos}{it acc:Value}{en:PySem.Env}
abbrev er (prog:Program)(w:World)(A:Around)(en:PySem.Env)(R:Result→Shared→Prop):Value→Shared→Prop:=notedBy (model prog w) A en fun e s'=>R (.error e) s'
abbrev tests (fs:List Expr)(en:PySem.Env):Sem Bool:=forIn fs true fun c r=>if r=true then do let g ← isTrue c en (eval c en);pure (ForInStep.yield g) else pure (ForInStep.yield r)
theorem loopA (hs:∀ x,foldedSetIterable ib en x=pure x)(I:Nat→Shared→Prop)
  (turn:∀ n s,I n s→wpAny (model prog w) A (pyNext it) (fun r s1=>match r with
   | none=>R (.ok .next) s1
   | some u=>wpAny (model prog w) A (letOwnedTupleGo ga it u) (fun _ s2=>wpAny (model prog w) A (assign ga en u) (fun _ s3=>wpAny (model prog w) A (tests fa en) (fun g s4 =>
     if g=true then wpAny (model prog w) A (eval ib en) (fun y s5=>wpAny (model prog w) A (pyIter y) (fun jt s6 =>
       codeAny (model prog w) A (.compStart (dcX kE vE ga ia gb ib fa fb sc ps) 1 jt acc en) (fun r s'=>match r with
        | .ok _=>∃ m,m<n∧I m s'
        | .error _=>False) s6) (er prog w A en R) s5) (er prog w A en R) s4
     else ∃ m,m<n∧I m s4) (er prog w A en R) s3) (er prog w A en R) s2) (er prog w A en R) s1) (er prog w A en R) s)
  (n:Nat) (h:I n s):codeAny (model prog w) A (.compLoop (dcX kE vE ga ia gb ib fa fb sc ps) 0 it acc en) R s:=by
 refine codeAny_loop rfl I (fun n s hI=>?_) n h
 refine wpAny_noted (m:=compTurn (dcX kE vE ga ia gb ib fa fb sc ps) 0 it acc en) ?_
 rw [dTurnA]
 have up:∀ {α:Type} {P:α→Shared→Prop} {m:Sem α} {Q:α→Shared→Prop} {s:Shared},wpAny (model prog w) A m P (er prog w A en R) s→(∀ a s',P a s'→Q a s')→wpAny (model prog w) A m Q (er prog w A en R) s:=fun h k=>wpAny_mono h k fun _ _ z=>z
 refine wpAny_bind (wpAny_standAt (wpAny_bind (up (turn n s hI) fun r s1 h1=>?_)))
 match r,h1 with
 | none,h1=>exact wpAny_pure h1
 | some u,h1 =>
  refine wpAny_bind (up h1 fun _ s2 h2=>wpAny_bind (up h2 fun _ s3 h3=>wpAny_bind (up h3 fun g s4 h4=>?_)))
  match g,h4 with
  | false,h4=>exact wpAny_pure ⟨rfl,h4⟩
  | true,h4 =>
   refine wpAny_bind (up h4 fun y s5 h5=>wpAny_bind (wpAny_standAt (wpAny_bind (wpAny_of_eq (hs y) (wpAny_bind (wpAny_holding (up h5 fun jt s6 h6=>?_)))))))
   refine wpAny_bind (wpAny_runOwn ?_)
   rw [Around.mark_none]
   refine codeAny_mono h6 fun r s' hr=>?_
   match r,hr with
   | .ok f,hr=>first|exact wpAny_pure ⟨rfl,hr⟩|exact wpAny_bind (wpAny_pure (wpAny_pure ⟨rfl,hr⟩))
   | .error e,hr=>exact hr.elim
theorem loopB {D:Addr}(I:Nat→Shared→Prop)
  (turn:∀ n s,I n s→wpAny (model prog w) A (pyNext it) (fun r s1=>match r with
   | none=>R (.ok .next) s1
   | some u=>wpAny (model prog w) A (letOwnedTupleGo gb it u) (fun _ s2=>wpAny (model prog w) A (assign gb en u) (fun _ s3=>wpAny (model prog w) A (tests fb en) (fun g s4 =>
     if g=true then wpAny (model prog w) A (eval kE en) (fun a s5=>wpAny (model prog w) A (eval vE en) (fun b s6 =>
       wpAny (model prog w) A (dictSet D a b) (fun _ s7=>∃ m,m<n∧I m s7) (er prog w A en R) s6) (er prog w A en R) s5) (er prog w A en R) s4
     else ∃ m,m<n∧I m s4) (er prog w A en R) s3) (er prog w A en R) s2) (er prog w A en R) s1) (er prog w A en R) s)
  (n:Nat) (h:I n s):codeAny (model prog w) A (.compLoop (dcX kE vE ga ia gb ib fa fb sc ps) 1 it (.ref D) en) R s:=by
 refine codeAny_loop rfl I (fun n s hI=>?_) n h
 refine wpAny_noted (m:=compTurn (dcX kE vE ga ia gb ib fa fb sc ps) 1 it (.ref D) en) ?_
 rw [dTurnB]
 have up:∀ {α:Type} {P:α→Shared→Prop} {m:Sem α} {Q:α→Shared→Prop} {s:Shared},wpAny (model prog w) A m P (er prog w A en R) s→(∀ a s',P a s'→Q a s')→wpAny (model prog w) A m Q (er prog w A en R) s:=fun h k=>wpAny_mono h k fun _ _ z=>z
 refine wpAny_bind (wpAny_standAt (wpAny_bind (up (turn n s hI) fun r s1 h1=>?_)))
 match r,h1 with
 | none,h1=>exact wpAny_pure h1
 | some u,h1 =>
  refine wpAny_bind (up h1 fun _ s2 h2=>wpAny_bind (up h2 fun _ s3 h3=>wpAny_bind (up h3 fun g s4 h4=>?_)))
  match g,h4 with
  | false,h4=>exact wpAny_pure ⟨rfl,h4⟩
  | true,h4 =>
   exact wpAny_bind (wpAny_bind (up h4 fun a s5 h5=>wpAny_bind (wpAny_holding (up h5 fun b s6 h6=>wpAny_bind (wpAny_standAt (wpAny_holding (up h6 fun _ s7 h7=>wpAny_pure ⟨rfl,h7⟩)))))))
theorem startB (h0:codeAny (model prog w) A (.compLoop (dcX kE vE ga ia gb ib fa fb sc ps) 1 it acc en) R s)
  (h:wpAny (model prog w) A (pyIter it) (fun jt s'=>codeAny (model prog w) A (.compLoop (dcX kE vE ga ia gb ib fa fb sc ps) 1 jt acc en) R s') (er prog w A en R) s) :
  codeAny (model prog w) A (.compStart (dcX kE vE ga ia gb ib fa fb sc ps) 1 it acc en) R s:=by
 refine codeAny_of_tree ?_
 refine wpAny_notedAt (m:=compStart (dcX kE vE ga ia gb ib fa fb sc ps) 1 it acc en) ?_
 unfold compStart
 refine wpAny_bind (m:=ask) ?_
 refine wpAny_askSetting (wpAny_ite ?_)
 split
 ·first|exact wpAny_bind (wpAny_pure (wpAny_pure (And.intro rfl h0)))|exact wpAny_pure (And.intro rfl h0)
 ·refine wpAny_bind (wpAny_rule ?_)
  refine wpAny_bind (m:=standAt ib.pos) (wpAny_standAt (wpAny_bind (wpAny_mono h (fun jt s' z=>?_) fun _ _ z=>z)))
  exact wpAny_pure (And.intro rfl z)
end
section
variable {X:Cx}
def tDc2 (wi:TI)(g:TG)(wi1:TI)(g1:TG)(tk tv:TE)(vs vs1:List Nat):TE:=fun σ H Q=>wi σ H fun J Ha=>∀ D,Ha D=none →
 ∃ W:Nat→Nat→Hp→Prop,(∃ m,W 0 m (upd Ha D (.dK [])))∧∀ i m Hb,W i m Hb →
  (J.stop i Hb∧Q (.ref D) Hb)∨(J.go i Hb∧∃ Nx:Hp→Prop,(∀ Hc,Nx Hc→∃ m',m'<m∧W (i+1) m' Hc) ∧
   ∀ x Hc,J.yld i Hb x Hc→g x (wipe σ vs) Hc fun σ2 Hd=>wipe σ2 vs=wipe σ vs∧wi1 σ2 Hd fun J1 He =>
    ∃ W1:Nat→Nat→Hp→Prop,(∃ m,W1 0 m He)∧∀ j k Hf,W1 j k Hf →
     (J1.stop j Hf∧Nx Hf)∨(J1.go j Hf∧∃ Ny:Hp→Prop,(∀ Hg,Ny Hg→∃ k',k'<k∧W1 (j+1) k' Hg) ∧
      ∀ x Hg,J1.yld j Hf x Hg→g1 x (wipe σ2 vs1) Hg fun σ3 Hh=>wipe σ3 vs1=wipe σ2 vs1 ∧
       tk σ3 Hh fun y Hi=>tv σ3 Hi fun z Hj=>∃ kvs k,y=kV k∧Hj D=some (.dK kvs)∧kvs.length<sizeLine∧Ny (upd Hj D (.dK (putK kvs k z)))))
theorem dc2_core {pn:List (Addr × Obj)}{s:Shared}{σ:L2.St}{H:Hp}{Q:VK}{kE vE ga ia gb ib:Expr}{sc:Scope}{ow:List (Str × Nat)}{vs1:List Nat}{ps qs:Pos}{wi wi1:TI}{g g1:TG}{tk tv:TE}{use:Option (Value→Sem Unit)}{Qf:Value→Shared→Prop}
  (hc:X.calm=true) (hN:X.N.Nodup) (I:Inv X pn σ H s) (hi:PI X ga ia wi) (ok:BlkOk X.N X.env.scope sc ow) (hv:∀ i∈vs1,i∈ow.map (·.2))
  (hg:∀ (s:Shared) (H:Hp) (Ca:Addr) (cl:List (Str × Addr)) (fp:List Addr),PG (X.blk s H sc (compEnvC sc cl Ca X.env) fp) ga g)
  (hib:∀ (s:Shared) (H:Hp) (Ca:Addr) (cl:List (Str × Addr)) (fp:List Addr),PI (X.blk s H sc (compEnvC sc cl Ca X.env) fp) gb ib wi1)
  (hgb:∀ (s:Shared) (H:Hp) (Ca:Addr) (cl:List (Str × Addr)) (fp:List Addr),PG (X.blk s H sc (compEnvC sc cl Ca X.env) fp) gb g1)
  (hk:∀ (s:Shared) (H:Hp) (Ca:Addr) (cl:List (Str × Addr)) (fp:List Addr),PE (X.blk s H sc (compEnvC sc cl Ca X.env) fp) kE tk)
  (hw:∀ (s:Shared) (H:Hp) (Ca:Addr) (cl:List (Str × Addr)) (fp:List Addr),PE (X.blk s H sc (compEnvC sc cl Ca X.env) fp) vE tv)
  (hs:∀ x,foldedSetIterable ia X.env x=pure x) (hsb:∀ env x,foldedSetIterable ib env x=pure x)
  (h:tDc2 wi g wi1 g1 tk tv (ow.map (·.2)) vs1 σ H Q)
  (done:∀ D Ca s' m H',Inv X pn σ H' s'→Q (.ref D) H'→s'.heap.Ns Ca m→FpOk X pn H' Ca→compPost (model X.prog X.w) X.A X.xe use Qf (.ref D) Ca (.ok .next) s') :
  wpAny (model X.prog X.w) X.A (comprehension (dcX kE vE ga ia gb ib [] [] sc ps) sc X.env qs newDict false (eval ia X.env) use) Qf X.xe s:=by
 have nofree:∀ y∈sc.names,y.2=.free→∃ c,X.env.cells.lookup y.1=some c:=fun y hy e=>(ok.free y hy e).elim (fun k=>I.ok.has _ (.inl k)) fun k=>I.ok.has _ (.inr k)
 refine wpAny_comprehension_free (use:=use) rfl hs (closure_ok nofree) ok.kind (fun y hy e=>by rw [ok.uniq y hy,e]) (thn (hi.run pn s σ H _ I h) fun xv sA hx=>thn hx fun itv sB hB=>?_)
 obtain ⟨it,fp,tn,J,HB,rfl,IB,T,tB,fB,q⟩:=hB
 refine wpAny_newObj_type (newEnv_comp ?_)
 obtain ⟨D,hD⟩:∃ D,D=sB.heap.objs.size:=⟨_,rfl⟩
 obtain ⟨W,⟨m0,w0⟩,turn⟩:=q D (IB.hok.fresh (Nat.le_of_eq hD.symm))
 obtain ⟨sC, hC⟩ : ∃ sC : Shared, sC = { sB with heap := sB.heap.push { cls := .type "dict", data := .dict #[] } } := ⟨_, rfl⟩
 have hpC : sC.heap = sB.heap.push { cls := .type "dict", data := .dict #[] } := by rw [hC]
 have IC:Inv X pn σ (upd HB D (.dK [])) sC:=by
  rw [hC]
  refine IB.laid (t':=sB.toks) (fun b o e=>Heap.get?_push_of_some _ e) (Nat.le_of_eq hD.symm) ?_
  rw [hD]
  exact dk_empty sB.heap IB.big
 have inB:∀ b∈fp,b<sB.heap.objs.size:=fun b hb=>let ⟨o,e,_⟩:=T.obj _ _ tB b hb;Heap.lt_size e
 have fC:∀ b∈fp,FpOk X pn (upd HB D (.dK [])) b∧b<sC.heap.objs.size:=fun b hb=>by
  have lt:=inB b hb
  refine ⟨⟨?_,(fB b hb).2⟩,by rw [hpC,Heap.size_push];exact Nat.lt_succ_of_lt lt⟩
  rw [upd_ne (by rw [hD];exact Nat.ne_of_lt lt)]
  exact (fB b hb).1
 have tC:tn 0 sC.heap:=T.keep _ _ _ tB fun b _ o e=>by rw [hpC];exact Heap.get?_push_of_some _ e
 have ID:=block_start IC ok hN fC
 have gA:=hg sC (upd HB D (.dK [])) sC.heap.objs.size (cellsFrom (sC.heap.objs.size+1) sc.names (cloFrom X.env.cells sc.names [])) fp
 have gI:=hib sC (upd HB D (.dK [])) sC.heap.objs.size (cellsFrom (sC.heap.objs.size+1) sc.names (cloFrom X.env.cells sc.names [])) fp
 have gB:=hgb sC (upd HB D (.dK [])) sC.heap.objs.size (cellsFrom (sC.heap.objs.size+1) sc.names (cloFrom X.env.cells sc.names [])) fp
 have gK:=hk sC (upd HB D (.dK [])) sC.heap.objs.size (cellsFrom (sC.heap.objs.size+1) sc.names (cloFrom X.env.cells sc.names [])) fp
 have gV:=hw sC (upd HB D (.dK [])) sC.heap.objs.size (cellsFrom (sC.heap.objs.size+1) sc.names (cloFrom X.env.cells sc.names [])) fp
 rw [← hD,← hC]
 show codeAny _ _ (.compStart (dcX kE vE ga ia gb ib [] [] sc ps) 0 (.ref it) (.ref D) (compEnvC sc (cellsFrom (sC.heap.objs.size + 1) sc.names (cloFrom X.env.cells sc.names [])) sC.heap.objs.size X.env)) (compPost (model X.prog X.w) X.A X.xe use Qf (.ref D) sC.heap.objs.size) { sC with heap := pushCells (sC.heap.push { cls := .type "dict", data := .dict #[] }) sc.names }
 have none0:∀ b∈fp,(upd HB D (.dK [])) b=none:=fun b hb=>(fC b hb).1.1
 obtain ⟨en,hen⟩:∃ en,en=compEnvC sc (cellsFrom (sC.heap.objs.size+1) sc.names (cloFrom X.env.cells sc.names [])) sC.heap.objs.size X.env:=⟨_,rfl⟩
 have enL:en.locals=sC.heap.objs.size:=by rw [hen];rfl
 rw [← hen] at ID gA gI gB gK gV ⊢
 obtain ⟨HC,hHC⟩:∃ HC,HC=upd HB D (.dK []):=⟨_,rfl⟩
 rw [← hHC] at IC ID gA gI gB gK gV w0 none0 fC
 obtain ⟨sD, hsD⟩ : ∃ sD : Shared, sD = { sC with heap := pushCells (sC.heap.push { cls := .type "dict", data := .dict #[] }) sc.names } := ⟨_, rfl⟩
 rw [← hsD] at ID ⊢
 have tD:tn 0 sD.heap:=T.keep _ _ _ tC fun b _ o e=>by rw [hsD];exact pushCells_keeps _ _ _ _ (Heap.get?_push_of_some _ e)
 have still:∀ {σ':L2.St} {H':Hp} {s':Shared},Inv (X.blk sC HC sc en fp) [] σ' H' s'→(∀ b∈fp,H' b=none)→∀ b∈fp,FpOk (X.blk sC HC sc en fp) [] H' b:=fun {σ' H' s'} I' hn b hb =>
  ⟨hn b hb,(I'.ok.exf b hb).1,I'.ok.exfs b hb,.inl hb,fun x c e=>(I'.ok.exf b hb).2 x c e,fun p hp=>absurd (show p∈([]:List (Addr × Obj))++[] from hp) (by simp)⟩
 -- the invariant between two turns of the first clause
 let B0:Nat→Shared→Prop:=fun n s'=>∃ i H',Inv (X.blk sC HC sc en fp) [] (wipe σ (ow.map (·.2))) H' s'∧tn i s'.heap∧(∀ b∈fp,H' b=none)∧W i n H'
 have loop:codeAny (model X.prog X.w) X.A (.compLoop (dcX kE vE ga ia gb ib [] [] sc ps) 0 (.ref it) (.ref D) en) (compPost (model X.prog X.w) X.A X.xe use Qf (.ref D) sC.heap.objs.size) sD:=by
  refine loopA (hsb en) B0 ?_ m0 ⟨0,HC,ID,tD,none0,w0⟩
  rintro n s5 ⟨i,H5,I5,t5,n5,w5⟩
  rcases turn i n H5 w5 with ⟨stop,qq⟩|⟨go,Nx,hNx,step⟩
  ·refine thnF (T.done (X.blk sC HC sc en fp) rfl rfl rfl hc i [] s5 _ H5 (fun _ _=>False) I5 (still I5 n5) t5 stop) fun r s6 hr=>?_
   obtain ⟨rfl,I6⟩:=hr
   have I7:Inv X pn σ H5 s6:=IC.call' (ch:=fp) I6.os I6.base I6.hok I6.bare fun b hb=>⟨(fC b hb).1.2.2.2.1,(fC b hb).1.2.1,(fC b hb).1.2.2.2.2.1,(fC b hb).1.2.2.2.2.2⟩
   have none5:H5 sC.heap.objs.size=none:=by have z:H5 en.locals=none:=I6.free;rwa [enL] at z
   obtain ⟨m,hn,_⟩:=I6.loc
   have hn:s6.heap.Ns en.locals m:=hn
   rw [enL] at hn
   exact done D sC.heap.objs.size s6 m H5 I7 qq hn (IC.fpOk (Nat.le_refl _) none5)
  ·refine thnF (T.item (X.blk sC HC sc en fp) rfl rfl rfl hc i [] s5 _ H5 (fun _ _=>False) I5 (still I5 n5) t5 go) fun r s6 hr=>?_
   obtain ⟨u,rfl,h6⟩:=hr
   refine thnF h6 fun _ s7 ⟨x,H7,I7,r7,y7,t7,n7⟩=>?_
   have I7p:=I7.pinned (still I7 n7) (T.obj _ _ t7)
   refine thnF (gA.run _ s7 _ H7 x u _ I7p r7 (step x H7 y7)) fun _ s8 ⟨σ8,H8,I8,e8,q8⟩=>?_
   refine thnF ((pts_nil (X:=X.blk sC HC sc en fp)).run _ s8 σ8 H8 (fun b H9=>b=true∧H9=H8) I8 ⟨rfl,rfl⟩) fun b s9 hb9=>?_
   obtain ⟨H9,I9,rfl,rfl⟩:=hb9
   -- the turn's end
   have fin:∀ {σ9:L2.St} {s':Shared} {H':Hp},Inv (X.blk sC HC sc en fp) ([]++pinsAt fp s7.heap) σ9 H' s'→(wipe σ (ow.map (·.2))).length=σ9.length→(∀ (j:Nat) v,(wipe σ (ow.map (·.2)))[j]?=some (some v)→σ9[j]?=some (some v))→Nx H'→∃ m,m<n∧B0 m s':=fun {σ9 s' H'} I' hl hk nx=>by
    obtain ⟨m',lt,w'⟩:=hNx H' nx
    have pin':∀ b∈fp,∀ o,s7.heap.get? b=some o→s'.heap.get? b=some o∧H' b=none:=fun b hb o e=>let z:=I'.pin (b,o) (List.mem_append_right _ (List.mem_append_right _ (mem_pinsAt hb e)));⟨z.1,z.2.1⟩
    exact ⟨m',lt,i+1,H',(I'.unpinned (pins:=[])).weak hl hk,T.keep _ _ _ t7 fun b hb o e=>(pin' b hb o e).1,fun b hb=>let ⟨o,e,_⟩:=T.obj _ _ t7 b hb;(pin' b hb o e).2,w'⟩
   have len8:(wipe σ (ow.map (·.2))).length=(wipe σ8 vs1).length:=by rw [← e8,wipe_length,wipe_length]
   have kept8:∀ (j:Nat) v,(wipe σ (ow.map (·.2)))[j]?=some (some v)→(wipe σ8 vs1)[j]?=some (some v):=fun j v e=>by
    rw [← e8] at e
    obtain ⟨z1,z2⟩:=wipe_some e
    rw [wipe_out fun z=>z2 (hv j z)]
    exact z1
   simp only [if_true]
   refine thnF (gI.run _ s9 σ8 H9 _ I9 q8) fun yv sE hE=>thnF hE fun jv sF hF=>?_
   obtain ⟨jt,fq,un,J1,HF,rfl,IF,T1,tF,fF,W1,⟨m1,w1⟩,turn1⟩:=hF
   have still1:∀ {H':Hp},(∀ b∈fq,H' b=none)→∀ b∈fq,FpOk (X.blk sC HC sc en fp) ([]++pinsAt fp s7.heap) H' b:=fun hn b hb=>⟨hn b hb,(fF b hb).2⟩
   let B1:Nat→Shared→Prop:=fun k s'=>∃ j H',Inv (X.blk sC HC sc en fp) ([]++pinsAt fp s7.heap) (wipe σ8 vs1) H' s'∧un j s'.heap∧(∀ b∈fq,H' b=none)∧W1 j k H'
   have inner:codeAny (model X.prog X.w) X.A (.compLoop (dcX kE vE ga ia gb ib [] [] sc ps) 1 (.ref jt) (.ref D) en) (fun r s'=>match r with
     | .ok _=>∃ m,m<n∧B0 m s'
     | .error _=>False) sF:=by
    refine loopB B1 ?_ m1 ⟨0,HF,IF.weak (wipe_length _ _) (fun j v e=>(wipe_some e).1),tF,fun b hb=>(fF b hb).1,w1⟩
    rintro k sG ⟨j,HG,IG,tG,nG,wG⟩
    rcases turn1 j k HG wG with ⟨stop1,nx1⟩|⟨go1,Ny,hNy,step1⟩
    ·refine thnF (T1.done (X.blk sC HC sc en fp) rfl rfl rfl hc j _ sG (wipe σ8 vs1) HG (fun _ _=>False) IG (still1 nG) tG stop1) fun r sK hr=>?_
     obtain ⟨rfl,IK⟩:=hr
     exact fin IK len8 kept8 nx1
    ·refine thnF (T1.item (X.blk sC HC sc en fp) rfl rfl rfl hc j _ sG (wipe σ8 vs1) HG (fun _ _=>False) IG (still1 nG) tG go1) fun r sK hr=>?_
     obtain ⟨u1,rfl,hK⟩:=hr
     refine thnF hK fun _ sL ⟨x1,HL,IL,rL,yL,tL,nL⟩=>?_
     have ILp:=IL.pinned (still1 nL) (T1.obj _ _ tL)
     refine thnF (gB.run _ sL (wipe σ8 vs1) HL x1 u1 _ ILp rL (step1 x1 HL yL)) fun _ sM ⟨σM,HM,IM,eM,qM⟩=>?_
     refine thnF ((pts_nil (X:=X.blk sC HC sc en fp)).run _ sM σM HM (fun b H9=>b=true∧H9=HM) IM ⟨rfl,rfl⟩) fun b sN hbN=>?_
     obtain ⟨HN,IN,rfl,rfl⟩:=hbN
     have fin1:∀ {s':Shared} {H':Hp},Inv (X.blk sC HC sc en fp) (([]++pinsAt fp s7.heap)++pinsAt fq sL.heap) σM H' s'→Ny H'→∃ m,m<k∧B1 m s':=fun {s' H'} I' nx=>by
      obtain ⟨m',lt,w'⟩:=hNy H' nx
      have pin':∀ b∈fq,∀ o,sL.heap.get? b=some o→s'.heap.get? b=some o∧H' b=none:=fun b hb o e=>let z:=I'.pin (b,o) (List.mem_append_right _ (List.mem_append_right _ (mem_pinsAt hb e)));⟨z.1,z.2.1⟩
      exact ⟨m',lt,j+1,H',I'.unpinned.weak (by rw [← eM,wipe_length]) (fun j v e=>by rw [← eM] at e;exact (wipe_some e).1),T1.keep _ _ _ tL fun b hb o e=>(pin' b hb o e).1,fun b hb=>let ⟨o,e,_⟩:=T1.obj _ _ tL b hb;(pin' b hb o e).2,w'⟩
     simp only [if_true]
     refine thnF (gK.run _ sN σM HN _ IN qM) fun ku sO ⟨yk,HO_,IO,rO,qO⟩=>?_
     refine thnF (gV.run _ sO σM HO_ _ IO qO) fun vu sP ⟨yv,HP,IP,rP,kvs,kk,ek,hDP,ltP,nx⟩=>?_
     subst ek
     exact d_dictSet (X:=X.blk sC HC sc en fp) IP hDP ltP rO rP fun sQ IQ=>fin1 IQ nx
   exact startB inner (T1.self X.A 0 _ _ _ tF inner)
 exact codeAny_compStart_dict loop (T.self X.A 0 _ _ _ tD loop)
theorem pe_dc2 {kE vE ga ia gb ib:Expr}{sc:Scope}{ow:List (Str × Nat)}{vs1:List Nat}{ps:Pos}{wi wi1:TI}{g g1:TG}{tk tv:TE}(hc:X.calm=true)(hN:X.N.Nodup)(hi:PI X ga ia wi)(ok:BlkOk X.N X.env.scope sc ow)(hv:∀ i∈vs1,i∈ow.map (·.2))
  (hg:∀ (s:Shared) (H:Hp) (Ca:Addr) (cl:List (Str × Addr)) (fp:List Addr),PG (X.blk s H sc (compEnvC sc cl Ca X.env) fp) ga g)
  (hib:∀ (s:Shared) (H:Hp) (Ca:Addr) (cl:List (Str × Addr)) (fp:List Addr),PI (X.blk s H sc (compEnvC sc cl Ca X.env) fp) gb ib wi1)
  (hgb:∀ (s:Shared) (H:Hp) (Ca:Addr) (cl:List (Str × Addr)) (fp:List Addr),PG (X.blk s H sc (compEnvC sc cl Ca X.env) fp) gb g1)
  (hk:∀ (s:Shared) (H:Hp) (Ca:Addr) (cl:List (Str × Addr)) (fp:List Addr),PE (X.blk s H sc (compEnvC sc cl Ca X.env) fp) kE tk)
  (hw:∀ (s:Shared) (H:Hp) (Ca:Addr) (cl:List (Str × Addr)) (fp:List Addr),PE (X.blk s H sc (compEnvC sc cl Ca X.env) fp) vE tv)
  (hs:∀ x,foldedSetIterable ia X.env x=pure x) (hsb:∀ env x,foldedSetIterable ib env x=pure x):PE X (dcX kE vE ga ia gb ib [] [] sc ps) (tDc2 wi g wi1 g1 tk tv (ow.map (·.2)) vs1):=by
 refine ⟨fun pins s σ H Q I h=>?_⟩
 rw [arm_eval_DictComp]
 refine dc2_core hc hN I hi ok hv hg hib hgb hk hw hs hsb h fun D Ca s' m H' I' q hn f=>⟨m,hn,fun hp sb=>?_⟩
 exact ⟨.ref D,H',I'.turned (t':=s'.toks) (fun b o hb e=>(sb.2 b hb).trans e) f.1 f.2.1 f.2.2.2.1 f.2.2.2.2.1 f.2.2.2.2.2,rfl,q⟩
end
section
variable {X:Cx}{pr:Prog}{XR:XRel}{C:SC}{n:Nat}{W:WX}{cx:Ctx}
theorem dc2_in (G:Good X pr XR C n){ek ev:E}{tg tg1:Tg}{it it1:PL.It}{own own1:List Nat}(htg:tgIn own tg=true)(htg1:tgIn own1 tg1=true)(hsub:∀ i∈own1,i∈own){σ:L2.St}{H:Hp}{Q:VK}(h:gE X XR W cx (.dc2 ek ev tg it tg1 it1 own own1) σ H Q) :
  tDc2 (gI X XR W cx it) (tG X.K X.w tg) (tI X.K X.w XR WF cx it1) (tG X.K X.w tg1) (tE X.K X.w XR WF cx ek) (tE X.K X.w XR WF cx ev) own own1 σ H Q:=by
 obtain ⟨F,B,env,st,ok,h⟩:=h
 unfold evE at h
 generalize hf:lc2Step (evI cx it1) (pairE (evE cx ek) (evE cx ev)) tg tg1 own own1 env=f at h
 have fe:∀ d st,f d st=R.opt (putT tg d (wipeE env own)) fun env1=>(evI cx it1 env1 st).bind fun ds st=>mapR (lcStep (pairE (evE cx ek) (evE cx ev)) (fun _ st=>.ok true st) tg1 own1 env1) ds st:=fun d st=>by rw [← hf];rfl
 refine ⟨F,B,env,st,ok,?_⟩
 cases q1:evI cx it env st with
 | no=>rw [q1] at h;exact h.elim
 | exc c fs st'=>rw [q1] at h;exact h.elim
 | ok ds st1 =>
  rw [q1,R.bind_ok] at h
  intro J F1 H1 x1 sr1 yl L hL
  cases q2:catR f ds st1 with
  | no=>rw [q2] at h;exact h.elim
  | exc c fs st'=>rw [q2] at h;exact h.elim
  | ok ys st2 =>
   rw [q2] at h
   change RE X.K X.w XR W F B σ H _ (R.lift (dctL [] [] ys) st2) Q at h
   cases qd:dctL [] [] ys with
   | none=>rw [qd] at h;exact h.elim
   | some dd =>
   rw [qd,R.lift_some] at h
   have ok1:=ok.ext x1 sr1
   have nBL:¬ B L:=fun b=>ok1.occ L b hL
   have nFL:¬ F1.inn L:=fun b=>sr1.occ L b hL
   -- what keeps
   let KP:Foot→Hp→Prop:=fun F2 H2=>(∀ a,¬ F1.inn a→H1 a≠none→H2 a=H1 a∧¬ F2.inn a)∧(∀ b,H1 b≠none→H2 b≠none)∧(∀ a,F1.at_=some a→F2.at_=some a)
   have kpx:∀ {F2 H2 F3 H3},KP F2 H2→Ext F2 H2 F3 H3→KP F3 H3:=fun {F2 H2 F3 H3} k x=>⟨fun a fa ha=>by
    obtain ⟨e1,f1⟩:=k.1 a fa ha
    obtain ⟨e2,f2⟩:=x.keep a f1 (by rw [e1];exact ha)
    exact ⟨by rw [e2,e1],f2⟩,fun b hb=>x.occ b (k.2.1 b hb),fun a e=>x.at_ a (k.2.2 a e)⟩
   have kpu:∀ {F2 H2 o},KP F2 H2→KP F2 (upd H2 L o):=fun {F2 H2 o} k=>⟨fun a fa ha=>by
    rw [upd_ne fun e=>ha (by rw [e];exact hL)]
    exact k.1 a fa ha,fun b hb=>upd_occ (k.2.1 b hb),k.2.2⟩
   -- one turn's state
   let T:Nat→Hp→Prop:=fun i H2=>∃ (F2:Foot) (st:St) (kvs:List (Key × V)) (ks:List K0) (ad rest:List D),OkE X.K X.w F2 (fun b=>B b∨b=L) (wipe σ own) H2 (wipeE env own) st∧KP F2 H2 ∧
    H2 L=some (.dK kvs)∧¬ F2.inn L∧(kvs.map (·.1)=ks.map kOf∧ks.Nodup)∧RepL X.K X.w F2 (fun b=>B b∨b=L) H2 (kvs.map (·.2)) ad∧catR f (ds.drop i) st=.ok rest st2∧dctL ks ad rest=some dd
   have noL:∀ (i:Nat) (s:Slot),s.isOwn=true→(wipeE env own)[i]?=some s→(wipe σ own)[i]?≠some (some (V.ref L)):=by
    intro i s os e z
    obtain ⟨a,h1,h2,h4,h5⟩:=(ok1.wiped own).own i s os e
    rw [h1] at z
    cases z
    exact nBL h4
   refine ⟨fun i m H2=>m=ds.length-i∧i≤ds.length∧T i H2,⟨ds.length,by simp,Nat.zero_le _,?_⟩,?_⟩
   ·exact ⟨F1,st1,[],[],[],ys,(ok1.wiped own).mark hL,⟨fun a fa ha=>⟨upd_ne fun e=>ha (by rw [e];exact hL),fa⟩,fun b hb=>upd_occ hb,fun _ e=>e⟩,upd_same,nFL,⟨rfl,.nil⟩,.nil,by rw [List.drop_zero];exact q2,qd⟩
   ·rintro i m H2 ⟨rfl,hi2,F2,st3,kvs,ks,ad,rest,ok2,kp2,hL2,fL2,hks,racc,hm,hy⟩
    have lat:Lat F1 B H1 F2 (fun b=>B b∨b=L) H2:=⟨fun a fa ba ha=>⟨(kp2.1 a fa ha).1,(kp2.1 a fa ha).2,fun z=>z.elim ba fun e=>ha (by rw [e];exact hL)⟩,kp2.2.2⟩
    obtain ⟨go,stop⟩:=yl F2 _ H2 lat i
    by_cases hlt:i<ds.length
    ·have hdi:ds[i]?=some ds[i]:=List.getElem?_eq_getElem hlt
     obtain ⟨go1,go2⟩:=go _ hdi
     refine .inr ⟨go1,T (i+1),fun H' t=>⟨ds.length-(i+1),by omega,rfl,hlt,t⟩,fun x H3 hx=>?_⟩
     obtain ⟨x3,s3,rx⟩:=go2 x H3 hx ok2.sr.occ ok2.occ
     have ok3:=ok2.ext x3 (ok2.sr.keep s3)
     have hd:ds.drop i=ds[i]::ds.drop (i+1):=List.drop_eq_getElem_cons hlt
     rw [hd] at hm
     unfold catR at hm
     have hm:(f ds[i] st3).bind (fun ys st=>(catR f (ds.drop (i+1)) st).bind fun zs st=>.ok (ys++zs) st)=.ok rest st2:=hm
     rw [fe] at hm
     cases q3:putT tg ds[i] (wipeE env own) with
     | none=>rw [q3] at hm;cases hm
     | some env' =>
      rw [q3,R.opt_some] at hm
      generalize hf1:lcStep (pairE (evE cx ek) (evE cx ev)) (fun _ st=>.ok true st) tg1 own1 env'=f1 at hm
      have fe1:∀ d st,f1 d st=R.opt (putT tg1 d (wipeE env' own1)) fun env2=>((evE cx ek env2 st).bind fun k st=>(evE cx ev env2 st).bind fun v st=>.ok (.tup [k,v]) st).bind fun y st=>.ok (some y) st:=fun d st=>by
       rw [← hf1]
       unfold lcStep
       cases putT tg1 d (wipeE env' own1) with
       | none=>rfl
       | some env2=>rfl
      refine ⟨F2,_,_,st3,_,env',ok3,rx,q3,fun σ2 okg wg kg _=>⟨(wg own htg).trans (wipe_sub σ own fun _ h=>h),?_⟩⟩
      have noL2:∀ (j:Nat) (s:Slot),s.isOwn=true→env'[j]?=some s→σ2[j]?≠some (some (V.ref L)):=by
       intro j s os e z
       by_cases hj:j∈own
       ·refine putT_noown own q3 (fun j hj s os e=>?_) j hj s os e
        exact (wipeE_some e (fun z=>by subst z;cases os)).2 hj
       ·have:=kg own htg j hj
        rw [this.1] at e
        rw [this.2] at z
        exact noL j s os e z
      have noL3:∀ (j:Nat) (s:Slot),s.isOwn=true→(wipeE env' own1)[j]?=some s→(wipe σ2 own1)[j]?≠some (some (V.ref L)):=by
       intro j s os e z
       obtain ⟨e1,e2⟩:=wipeE_some e (fun z=>by subst z;cases os)
       rw [wipe_out e2] at z
       exact noL2 j s os e1 z
      refine ⟨F2,_,env',st3,okg,?_⟩
      cases q5:evI cx it1 env' st3 with
      | no=>rw [q5] at hm;cases hm
      | exc c fs st'=>rw [q5] at hm;cases hm
      | ok ds1 st5 =>
       rw [q5,R.bind_ok] at hm
       intro J1 F6 H6 x6 s6 yl1
       cases q6:mapR f1 ds1 st5 with
       | no=>rw [q6] at hm;cases hm
       | exc c fs st'=>rw [q6] at hm;cases hm
       | ok ys1 st6 =>
        rw [q6,R.bind_ok] at hm
        cases q7:catR f (ds.drop (i+1)) st6 with
        | no=>rw [q7] at hm;cases hm
        | exc c fs st'=>rw [q7] at hm;cases hm
        | ok zs st' =>
         rw [q7,R.bind_ok] at hm
         simp only [R.ok.injEq] at hm
         obtain ⟨rfl,rfl⟩:=hm
         have xx:=x3.trans x6
         have hL6:H6 L=some (.dK kvs)∧¬ F6.inn L:=by
          have:=xx.keep L fL2 (by rw [hL2];simp)
          exact ⟨by rw [this.1];exact hL2,this.2⟩
         let T1:Nat→Hp→Prop:=fun j H7=>∃ (F7:Foot) (st7:St) (kvs7:List (Key × V)) (ks7:List K0) (ad7 rest7:List D),OkE X.K X.w F7 (fun b=>B b∨b=L) (wipe σ own) H7 (wipeE env own) st7∧OkE X.K X.w F7 (fun b=>B b∨b=L) (wipe σ2 own1) H7 (wipeE env' own1) st7∧KP F7 H7 ∧
          Lat F6 (fun b=>B b∨b=L) H6 F7 (fun b=>B b∨b=L) H7∧H7 L=some (.dK kvs7)∧¬ F7.inn L∧(kvs7.map (·.1)=ks7.map kOf∧ks7.Nodup)∧RepL X.K X.w F7 (fun b=>B b∨b=L) H7 (kvs7.map (·.2)) ad7∧mapR f1 (ds1.drop j) st7=.ok rest7 st6∧dctL ks7 ad7 (rest7++zs)=some dd
         refine ⟨fun j k H7=>k=ds1.length-j∧j≤ds1.length∧T1 j H7,⟨ds1.length,by simp,Nat.zero_le _,?_⟩,?_⟩
         ·exact ⟨F6,st5,kvs,ks,ad,ys1,ok3.ext x6 s6,(okg.ext x6 s6).wiped own1,kpx kp2 xx,Lat.refl,hL6.1,hL6.2,hks,racc.ext xx,by rw [List.drop_zero];exact q6,hy⟩
         ·rintro j k H7 ⟨rfl,hj2,F7,st7,kvs7,ks7,ad7,rest7,oko,oki,kp7,lat7,hL7,fL7,hks7,racc7,hm7,hy7⟩
          obtain ⟨goI,stopI⟩:=yl1 F7 _ H7 lat7 j
          by_cases hlt1:j<ds1.length
          ·have hdj:ds1[j]?=some ds1[j]:=List.getElem?_eq_getElem hlt1
           obtain ⟨goI1,goI2⟩:=goI _ hdj
           refine .inr ⟨goI1,T1 (j+1),fun H' t=>⟨ds1.length-(j+1),by omega,rfl,hlt1,t⟩,fun xv H8 hx8=>?_⟩
           obtain ⟨x8,s8,rx8⟩:=goI2 xv H8 hx8 oki.sr.occ oki.occ
           have oko8:=oko.ext x8 (oko.sr.keep s8)
           have oki8:=oki.ext x8 (oki.sr.keep s8)
           rw [List.drop_eq_getElem_cons hlt1] at hm7
           unfold mapR at hm7
           have hm7:(f1 ds1[j] st7).bind (fun y st=>(mapR f1 (ds1.drop (j+1)) st).bind fun ys st=>.ok (match y with|some y=>y::ys|none=>ys) st)=.ok rest7 st6:=hm7
           rw [fe1] at hm7
           cases q9:putT tg1 ds1[j] (wipeE env' own1) with
           | none=>rw [q9] at hm7;cases hm7
           | some env2 =>
            rw [q9,R.opt_some] at hm7
            refine ⟨F7,_,_,st7,_,env2,oki8,rx8,q9,fun σ3 okg3 wg3 kg3 _=>⟨(wg3 own1 htg1).trans (wipe_sub σ2 own1 fun _ h=>h),?_⟩⟩
            refine ⟨F7,_,env2,st7,okg3,?_⟩
            cases q10:evE cx ek env2 st7 with
            | no=>rw [q10] at hm7;cases hm7
            | exc c fs st'=>rw [q10] at hm7;cases hm7
            | ok yk st8 =>
             rw [q10,R.bind_ok] at hm7
             intro kv F9 H9 x9 s9 rk _
             refine ⟨F9,_,env2,st8,okg3.ext x9 s9,?_⟩
             cases q12:evE cx ev env2 st8 with
             | no=>rw [q12] at hm7;cases hm7
             | exc c fs st'=>rw [q12] at hm7;cases hm7
             | ok y st9 =>
             rw [q12,R.bind_ok,R.bind_ok,R.bind_ok] at hm7
             intro yv F10 H10 x10 s10 ry _
             cases q11:mapR f1 (ds1.drop (j+1)) st9 with
             | no=>rw [q11] at hm7;cases hm7
             | exc c fs st'=>rw [q11] at hm7;cases hm7
             | ok rest' st' =>
              rw [q11] at hm7
              simp only [R.bind_ok,R.ok.injEq] at hm7
              obtain ⟨rfl,rfl⟩:=hm7
              have xz:=x8.trans (x9.trans x10)
              have hL10:H10 L=some (.dK kvs7)∧¬ F10.inn L:=by
               have:=xz.keep L fL7 (by rw [hL7];simp)
               exact ⟨by rw [this.1];exact hL7,this.2⟩
              have racc10:=racc7.ext xz
              obtain ⟨kk,hkk,hln,hnx⟩:=dctL_len _ _ _ _ hy7 yk y (rest'++zs) rfl
              have hkl:kvs7.length=ks7.length:=by
               have:=congrArg List.length hks7.1
               simpa using this
              have tl:∀ o,Lat F10 (fun b=>B b∨b=L) H10 F10 (fun b=>B b∨b=L) (upd H10 L o):=fun o=>⟨fun a f b h=>⟨upd_ne fun e=>b (.inr e),f,b⟩,fun _ e=>e⟩
              refine ⟨kvs7,kOf kk,key_rep rk hkk,hL10.1,by rw [← lineEq,hkl];exact hln,F10,st9,putK kvs7 (kOf kk) yv,putKs kk ks7,putVs kk y ks7 ad7,rest',(oko.ext xz s10).touch (by rw [hL10.1];simp) hL10.2 noL,(oki.ext xz s10).touch (by rw [hL10.1];simp) hL10.2 noL3,kpu (kpx kp7 xz),(lat7.trans xz.lat).trans (tl _),upd_same,hL10.2,⟨putK_keys kk yv hks7.2 hks7.1,putKs_nodup hks7.2⟩,?_,q11,hnx⟩
              exact (putK_vals kk ry hks7.2 hks7.1 racc10).move (fun a f b _=>⟨upd_ne fun e=>b (.inr e),f,b⟩) fun _ e=>e
          ·have hjj:j=ds1.length:=by omega
           subst hjj
           refine .inl ⟨stopI rfl,?_⟩
           rw [List.drop_length] at hm7
           unfold mapR at hm7
           cases hm7
           exact ⟨F7,st6,kvs7,ks7,ad7,zs,oko,kp7,hL7,fL7,hks7,racc7,q7,hy7⟩
    ·have hii:i=ds.length:=by omega
     subst hii
     refine .inl ⟨stop rfl,?_⟩
     rw [List.drop_length] at hm
     unfold catR at hm
     cases hm
     unfold dctL at hy
     cases hy
     have hx:Ext F H F2 H2:=by
      constructor
      ·intro a fa ha
       obtain ⟨e1,f1⟩:=x1.keep a fa ha
       obtain ⟨e2,f2⟩:=kp2.1 a f1 (by rw [e1];exact ha)
       exact ⟨by rw [e2,e1],f2⟩
      ·exact fun b hb=>kp2.2.1 b (x1.occ b hb)
      ·exact fun a e=>kp2.2.2 a (x1.at_ a e)
     exact h (.ref L) F2 H2 hx ok2.sr (.dct hL2 fL2 nBL hks.1 (racc.anti fun a b=>.inl b)) fun z=>absurd z (by show ¬ false=true;decide)
theorem x_dc2 (G:Good X pr XR C n)(hcal:C.cal=true){ek ev:E}{tg tg1:Tg}{it it1:PL.It}{own own1:List Nat}{pk pv ptg pit ptg1 pit1:Expr}{scope:Scope}{pos:Pos}
  (hi:PI X ptg pit (gI X XR W cx it)) (bok:BlkOk X.N X.env.scope scope (ownN C.N own)) (hown:(ownN C.N own).map (·.2)=own) (htg:tgIn own tg=true) (htg1:tgIn own1 tg1=true) (hsub:∀ i∈own1,i∈own)
  (hg:∀ (s:Shared) (H:Hp) (Ca:Addr) (cl:List (Str × Addr)) (fp:List Addr),PG (X.blk s H scope (compEnvC scope cl Ca X.env) fp) ptg (tG X.K X.w tg))
  (hi1:∀ (s:Shared) (H:Hp) (Ca:Addr) (cl:List (Str × Addr)) (fp:List Addr),PI (X.blk s H scope (compEnvC scope cl Ca X.env) fp) ptg1 pit1 (tI X.K X.w XR WF cx it1))
  (hg1:∀ (s:Shared) (H:Hp) (Ca:Addr) (cl:List (Str × Addr)) (fp:List Addr),PG (X.blk s H scope (compEnvC scope cl Ca X.env) fp) ptg1 (tG X.K X.w tg1))
  (hk:∀ (s:Shared) (H:Hp) (Ca:Addr) (cl:List (Str × Addr)) (fp:List Addr),PE (X.blk s H scope (compEnvC scope cl Ca X.env) fp) pk (tE X.K X.w XR WF cx ek))
  (he:∀ (s:Shared) (H:Hp) (Ca:Addr) (cl:List (Str × Addr)) (fp:List Addr),PE (X.blk s H scope (compEnvC scope cl Ca X.env) fp) pv (tE X.K X.w XR WF cx ev))
  (hs:∀ x,foldedSetIterable pit X.env x=pure x) (hs1:∀ env x,foldedSetIterable pit1 env x=pure x):PE X (.DictComp pk pv [⟨ptg,pit,[],0⟩,⟨ptg1,pit1,[],0⟩] scope pos) (gE X XR W cx (.dc2 ek ev tg it tg1 it1 own own1)) :=
 PE.of (pe_dc2 (vs1:=own1) (G.calm hcal) G.nd hi bok (fun i hi=>by rw [hown];exact hsub i hi) hg hi1 hg1 hk he hs hs1) fun σ H Q h=>by rw [hown];exact dc2_in G htg htg1 hsub h
end
end PL
end
section
namespace PL
open PySem
section
variable {C:SC}{p:Expr}{a b c d:E}{es:Es}
theorem inv_loc {i:Nat}(h:chkE C (.loc i) p=true):∃ x pos,p=.Name x pos∧(okName x=true∧visB C.sc x=true)∧C.N[i]?=some x:=by
 cases p with
 | Name v1 v2 =>
  try replace h:=show (_&&_)=true from h
  try simp only [Bool.and_eq_true,decide_eq_true_eq,Bool.not_eq_true'] at h
  exact ⟨_,_,rfl,h⟩
 | _=>exact (Bool.false_ne_true h).elim
theorem inv_glb {g:Nat}(h:chkE C (.glb g) p=true):∃ x pos,p=.Name x pos∧globB C.sc x=true∧C.gname g=some x:=by
 cases p with
 | Name v3 v4 =>
  try replace h:=show (_&&_)=true from h
  try simp only [Bool.and_eq_true,decide_eq_true_eq,Bool.not_eq_true'] at h
  exact ⟨_,_,rfl,h⟩
 | _=>exact (Bool.false_ne_true h).elim
theorem inv_bin {o:Bop}(h:chkE C (.bin o a b) p=true):∃ p1 op q pos,p=.BinOp p1 op q pos∧op=bopOf o∧chkE C a p1=true∧chkE C b q=true:=by
 cases p with
 | BinOp v5 v6 v7 v8 =>
  try replace h:=show (_&&_)=true from h
  try simp only [Bool.and_eq_true,decide_eq_true_eq,Bool.not_eq_true'] at h
  exact ⟨_,_,_,_,rfl,h⟩
 | _=>exact (Bool.false_ne_true h).elim
theorem inv_neg (h:chkE C (.neg a) p=true):∃ p1 pos,p=.UnaryOp .USub p1 pos∧chkE C a p1=true:=by
 cases p with
 | UnaryOp v9 v10 v11 =>
  cases v9 with
  | USub =>
   try replace h:=show (_&&_)=true from h
   try simp only [Bool.and_eq_true,decide_eq_true_eq,Bool.not_eq_true'] at h
   exact ⟨_,_,rfl,h⟩
  | _=>exact (Bool.false_ne_true h).elim
 | _=>exact (Bool.false_ne_true h).elim
theorem inv_cmp {o:Cop}(h:chkE C (.cmp o a b) p=true):∃ p1 op q pos,p=.Compare p1 [op] [q] pos∧op=copOf o∧behindInMarks op q=false∧chkE C a p1=true∧chkE C b q=true:=by
 cases p with
 | Compare v12 v13 v14 v15 =>
  cases v13 with
  | cons v16 v17 =>
   cases v17 with
   | nil =>
    cases v14 with
    | cons v18 v19 =>
     cases v19 with
     | nil =>
      try replace h:=show (_&&_)=true from h
      try simp only [Bool.and_eq_true,decide_eq_true_eq,Bool.not_eq_true'] at h
      exact ⟨_,_,_,_,rfl,h⟩
     | _=>exact (Bool.false_ne_true h).elim
    | _=>exact (Bool.false_ne_true h).elim
   | _=>exact (Bool.false_ne_true h).elim
  | _=>exact (Bool.false_ne_true h).elim
 | _=>exact (Bool.false_ne_true h).elim
theorem inv_isn (h:chkE C (.isn a) p=true):∃ p1 j pos2 pos,p=.Compare p1 [.Is] [.Constant .none j pos2] pos∧chkE C a p1=true:=by
 cases p with
 | Compare v32 v33 v34 v35 =>
  cases v33 with
  | cons v36 v37 =>
   cases v36 with
   | Is =>
    cases v37 with
    | nil =>
     cases v34 with
     | cons v38 v39 =>
      cases v38 with
      | Constant v40 v41 v42 =>
       cases v40 with
       | none =>
        cases v39 with
        | nil =>
         try replace h:=show (_&&_)=true from h
         try simp only [Bool.and_eq_true,decide_eq_true_eq,Bool.not_eq_true'] at h
         exact ⟨_,_,_,_,rfl,h⟩
        | _=>exact (Bool.false_ne_true h).elim
       | _=>exact (Bool.false_ne_true h).elim
      | _=>exact (Bool.false_ne_true h).elim
     | _=>exact (Bool.false_ne_true h).elim
    | _=>exact (Bool.false_ne_true h).elim
   | _=>exact (Bool.false_ne_true h).elim
  | _=>exact (Bool.false_ne_true h).elim
 | _=>exact (Bool.false_ne_true h).elim
theorem inv_isnn (h:chkE C (.isnn a) p=true):∃ p1 j pos2 pos,p=.Compare p1 [.IsNot] [.Constant .none j pos2] pos∧chkE C a p1=true:=by
 cases p with
 | Compare v43 v44 v45 v46 =>
  cases v44 with
  | cons v47 v48 =>
   cases v47 with
   | IsNot =>
    cases v48 with
    | nil =>
     cases v45 with
     | cons v49 v50 =>
      cases v49 with
      | Constant v51 v52 v53 =>
       cases v51 with
       | none =>
        cases v50 with
        | nil =>
         try replace h:=show (_&&_)=true from h
         try simp only [Bool.and_eq_true,decide_eq_true_eq,Bool.not_eq_true'] at h
         exact ⟨_,_,_,_,rfl,h⟩
        | _=>exact (Bool.false_ne_true h).elim
       | _=>exact (Bool.false_ne_true h).elim
      | _=>exact (Bool.false_ne_true h).elim
     | _=>exact (Bool.false_ne_true h).elim
    | _=>exact (Bool.false_ne_true h).elim
   | _=>exact (Bool.false_ne_true h).elim
  | _=>exact (Bool.false_ne_true h).elim
 | _=>exact (Bool.false_ne_true h).elim
theorem inv_and (h:chkE C (.and a b) p=true):∃ p1 q r pos,p=.BoolOp .And (p1::q::r) pos∧chkE C a p1=true∧chkE C b (tailB .And q r pos)=true:=by
 cases p with
 | BoolOp v54 v55 v56 =>
  cases v54 with
  | And =>
   cases v55 with
   | cons v57 v58 =>
    cases v58 with
    | cons v59 v60 =>
     try replace h:=show (_&&_)=true from h
     try simp only [Bool.and_eq_true,decide_eq_true_eq,Bool.not_eq_true'] at h
     exact ⟨_,_,_,_,rfl,h⟩
    | _=>exact (Bool.false_ne_true h).elim
   | _=>exact (Bool.false_ne_true h).elim
  | _=>exact (Bool.false_ne_true h).elim
 | _=>exact (Bool.false_ne_true h).elim
theorem inv_or (h:chkE C (.or a b) p=true):∃ p1 q r pos,p=.BoolOp .Or (p1::q::r) pos∧chkE C a p1=true∧chkE C b (tailB .Or q r pos)=true:=by
 cases p with
 | BoolOp v61 v62 v63 =>
  cases v61 with
  | Or =>
   cases v62 with
   | cons v64 v65 =>
    cases v65 with
    | cons v66 v67 =>
     try replace h:=show (_&&_)=true from h
     try simp only [Bool.and_eq_true,decide_eq_true_eq,Bool.not_eq_true'] at h
     exact ⟨_,_,_,_,rfl,h⟩
    | _=>exact (Bool.false_ne_true h).elim
   | _=>exact (Bool.false_ne_true h).elim
  | _=>exact (Bool.false_ne_true h).elim
 | _=>exact (Bool.false_ne_true h).elim
theorem inv_not (h:chkE C (.not a) p=true):∃ p1 pos,p=.UnaryOp .Not p1 pos∧chkE C a p1=true:=by
 cases p with
 | UnaryOp v68 v69 v70 =>
  cases v68 with
  | Not =>
   try replace h:=show (_&&_)=true from h
   try simp only [Bool.and_eq_true,decide_eq_true_eq,Bool.not_eq_true'] at h
   exact ⟨_,_,rfl,h⟩
  | _=>exact (Bool.false_ne_true h).elim
 | _=>exact (Bool.false_ne_true h).elim
theorem inv_ifx (h:chkE C (.ifx c a b) p=true):∃ t p1 q pos,p=.IfExp t p1 q pos∧chkE C c t=true∧chkE C a p1=true∧chkE C b q=true:=by
 cases p with
 | IfExp v71 v72 v73 v74 =>
  try replace h:=show (_&&_)=true from h
  try simp only [Bool.and_eq_true,decide_eq_true_eq,Bool.not_eq_true'] at h
  exact ⟨_,_,_,_,rfl,h⟩
 | _=>exact (Bool.false_ne_true h).elim
theorem inv_call {f:Nat}(h:chkE C (.call f es) p=true):(∃ x pp p1 ps pos,p=.Call (.Name x pp) (p1::ps) [] pos∧C.cal=true∧globB C.sc x=true∧C.fname f=some x∧isStar p1=false∧(ps.all fun p=>!isStar p)=true∧chkEs C es (p1::ps)=true) ∨
  ∃ x pp pos,p=.Call (.Name x pp) [] [] pos∧C.cal=true∧globB C.sc x=true∧C.fname f=some x∧es=.nil:=by
 cases p with
 | Call v75 v76 v77 v78 =>
  cases v75 with
  | Name v79 v80 =>
   cases v76 with
   | cons v81 v82 =>
    cases v77 with
    | nil =>
     try replace h:=show (_&&_)=true from h
     try simp only [Bool.and_eq_true,decide_eq_true_eq,Bool.not_eq_true'] at h
     exact .inl ⟨_,_,_,_,_,rfl,h⟩
    | _=>exact (Bool.false_ne_true h).elim
   | nil =>
    cases v77 with
    | nil =>
     replace h:=show (_&&_)=true from h
     simp only [Bool.and_eq_true,decide_eq_true_eq] at h
     refine .inr ⟨_,_,_,rfl,h.1,h.2.1,h.2.2.1,?_⟩
     cases es with
     | nil=>rfl
     | _=>exact (Bool.false_ne_true h.2.2.2).elim
    | _=>exact (Bool.false_ne_true h).elim
  | _=>exact (Bool.false_ne_true h).elim
 | _=>exact (Bool.false_ne_true h).elim
theorem inv_bi {bi:Bi}(h:chkE C (.bi bi es) p=true):∃ x pp p1 ps pos,p=.Call (.Name x pp) (p1::ps) [] pos∧(C.cal=true∨hotB bi=true)∧globB C.sc x=true∧x=biName bi∧isStar p1=false∧(ps.all fun p=>!isStar p)=true∧chkEs C es (p1::ps)=true:=by
 cases p with
 | Call v83 v84 v85 v86 =>
  cases v83 with
  | Name v87 v88 =>
   cases v84 with
   | cons v89 v90 =>
    cases v85 with
    | nil =>
     try replace h:=show (_&&_)=true from h
     try simp only [Bool.and_eq_true,Bool.or_eq_true,decide_eq_true_eq,Bool.not_eq_true'] at h
     exact ⟨_,_,_,_,_,rfl,h⟩
    | _=>exact (Bool.false_ne_true h).elim
   | _=>exact (Bool.false_ne_true h).elim
  | _=>exact (Bool.false_ne_true h).elim
 | _=>exact (Bool.false_ne_true h).elim
theorem inv_isE {cs : List Nat}(h : chkE C (.isE a cs) p = true) : ∃ i, a = .loc i ∧ ((∃ x pp p1 y pp2 pos, p = .Call (.Name x pp) [p1, .Name y pp2] [] pos ∧ C.cal = false ∧ globB C.sc x = true ∧ globB C.sc y = true ∧ x = "isinstance" ∧ C.xt.says cs [y] = true ∧ isStar p1 = false ∧ chkE C a p1 = true) ∨
  ∃ x pp p1 es k pp2 pos, p = .Call (.Name x pp) [p1, .Tuple es k pp2] [] pos ∧ C.cal = false ∧ globB C.sc x = true ∧ x = "isinstance" ∧ (es.length ≤ 15 ∧ (es.all fun e => (nameOf e).any (globB C.sc)) = true) ∧ C.xt.says cs (es.filterMap nameOf) = true ∧ isStar p1 = false ∧ chkE C a p1 = true) := by
 cases a with
 | loc i =>
  cases p with
  | Call f as ks pos =>
   cases f with
   | Name x pp =>
    cases as with
    | nil=>exact (Bool.false_ne_true h).elim
    | cons p1 as =>
     cases as with
     | nil=>exact (Bool.false_ne_true h).elim
     | cons q as =>
      cases as with
      | cons _ _=>cases q<;>exact (Bool.false_ne_true h).elim
      | nil =>
       cases ks with
       | cons _ _=>cases q<;>exact (Bool.false_ne_true h).elim
       | nil =>
        cases q with
        | Name y pp2 =>
         replace h:=show (_&&_)=true from h
         simp only [Bool.and_eq_true,decide_eq_true_eq,Bool.not_eq_true'] at h
         exact ⟨_,rfl,.inl ⟨_,_,_,_,_,_,rfl,h⟩⟩
        | Tuple es k pp2 =>
         replace h:=show (_&&_)=true from h
         simp only [Bool.and_eq_true,decide_eq_true_eq,Bool.not_eq_true'] at h
         exact ⟨_,rfl,.inr ⟨_,_,_,_,_,_,_,rfl,h⟩⟩
        | _=>exact (Bool.false_ne_true h).elim
   | _=>exact (Bool.false_ne_true h).elim
  | _=>exact (Bool.false_ne_true h).elim
 | _=>cases p<;>exact (Bool.false_ne_true h).elim
theorem inv_tup (h:chkE C (.tup es) p=true):∃ ps k pos,p=.Tuple ps k pos∧chkEs C es ps=true:=by
 cases p with
 | Tuple v103 v104 v105 =>
  try replace h:=show (_&&_)=true from h
  try simp only [Bool.and_eq_true,decide_eq_true_eq,Bool.not_eq_true'] at h
  exact ⟨_,_,_,rfl,h⟩
 | _=>exact (Bool.false_ne_true h).elim
theorem inv_lst (h:chkE C (.lst es) p=true):∃ ps pos,p=.List ps pos∧chkEs C es ps=true:=by
 cases p with
 | List v106 v107 =>
  try replace h:=show (_&&_)=true from h
  try simp only [Bool.and_eq_true,decide_eq_true_eq,Bool.not_eq_true'] at h
  exact ⟨_,_,rfl,h⟩
 | _=>exact (Bool.false_ne_true h).elim
theorem inv_sub (h:chkE C (.sub a b) p=true):∃ p1 q pos,p=.Subscript p1 q pos∧isSlice q=false∧chkE C a p1=true∧chkE C b q=true:=by
 cases p with
 | Subscript v111 v112 v113 =>
  try replace h:=show (_&&_)=true from h
  try simp only [Bool.and_eq_true,decide_eq_true_eq,Bool.not_eq_true'] at h
  exact ⟨_,_,_,rfl,h⟩
 | _=>exact (Bool.false_ne_true h).elim
theorem inv_slc {lo hi:Eo}(h:chkE C (.slc a lo hi) p=true):∃ p1 l h p2 pos,p=.Subscript p1 (.Slice l h none p2) pos∧chkE C a p1=true∧chkO C lo l=true∧chkO C hi h=true:=by
 cases p with
 | Subscript v114 v115 v116 =>
  cases v115 with
  | Slice v117 v118 v119 v120 =>
   cases v119 with
   | none =>
    try replace h:=show (_&&_)=true from h
    try simp only [Bool.and_eq_true,decide_eq_true_eq,Bool.not_eq_true'] at h
    exact ⟨_,_,_,_,_,rfl,h⟩
   | _=>exact (Bool.false_ne_true h).elim
  | _=>exact (Bool.false_ne_true h).elim
 | _=>exact (Bool.false_ne_true h).elim
theorem inv_tof (h : chkE C (.tof a) p = true) : ∃ x pp p1 pos, p = .Call (.Name x pp) [p1] [] pos ∧ globB C.sc x = true ∧ x = "tuple" ∧ isStar p1 = false ∧ chkE C a p1 = true := by
 cases p with
 | Call v150 v151 v152 v153 =>
  cases v150 with
  | Name v154 v155 =>
   cases v151 with
   | cons v156 v157 =>
    cases v157 with
    | nil =>
     cases v152 with
     | nil =>
      try replace h:=show (_&&_)=true from h
      try simp only [Bool.and_eq_true,decide_eq_true_eq,Bool.not_eq_true'] at h
      exact ⟨_,_,_,_,rfl,h⟩
     | _=>exact (Bool.false_ne_true h).elim
    | _=>exact (Bool.false_ne_true h).elim
   | _=>exact (Bool.false_ne_true h).elim
  | _=>exact (Bool.false_ne_true h).elim
 | _=>exact (Bool.false_ne_true h).elim
theorem inv_cst {k:D}(h:chkE C (.cst k) p=true):(∃ j pos,p=.Constant .none j pos∧k=.non)∨(∃ v j pos,p=.Constant (.bool v) j pos∧k=.bl v)∨(∃ v j pos,p=.Constant (.int v) j pos∧k=.int v)∨(∃ x j pos,p=.Constant (.str x) j pos∧k=.str x.cps.toList):=by
 cases k with
 | non =>
  cases p with
  | Constant c j pos =>
   cases c with
   | none=>exact .inl ⟨_,_,rfl,rfl⟩
   | _=>exact (Bool.false_ne_true h).elim
  | _=>exact (Bool.false_ne_true h).elim
 | bl b =>
  cases p with
  | Constant c j pos =>
   cases c with
   | bool v=>exact .inr (.inl ⟨_,_,_,rfl,by rw [eq_of_beq (show (_==_)=true from h)]⟩)
   | _=>exact (Bool.false_ne_true h).elim
  | _=>exact (Bool.false_ne_true h).elim
 | int i =>
  cases p with
  | Constant c j pos =>
   cases c with
   | int v=>exact .inr (.inr (.inl ⟨_,_,_,rfl,by rw [eq_of_beq (show (_==_)=true from h)]⟩))
   | _=>exact (Bool.false_ne_true h).elim
  | _=>exact (Bool.false_ne_true h).elim
 | str s =>
  cases p with
  | Constant c j pos =>
   cases c with
   | str v=>exact .inr (.inr (.inr ⟨_,_,_,rfl,by rw [of_decide_eq_true (show decide _=true from h)]⟩))
   | _=>exact (Bool.false_ne_true h).elim
  | _=>exact (Bool.false_ne_true h).elim
 | _=>cases p<;>exact (Bool.false_ne_true h).elim
theorem inv_sHas {i:Nat}(h:chkE C (.sHas i) p=true):∃ x p1 j p2 p3 p4 p5,p=.Compare (.Subscript (.Name x p1) (.Constant (.int 0) j p2) p3) [.NotEq] [.List [] p4] p5∧okName x=true∧visB C.sc x=true∧C.N[i]?=some x:=by
 cases p with
 | Compare v166 v167 v168 v169 =>
  cases v166 with
  | Subscript v170 v171 v172 =>
   cases v170 with
   | Name v173 v174 =>
    cases v171 with
    | Constant v175 v176 v177 =>
     cases v175 with
     | int v178 =>
      cases v167 with
      | cons v179 v180 =>
       cases v179 with
       | NotEq =>
        cases v180 with
        | nil =>
         cases v168 with
         | cons v181 v182 =>
          cases v181 with
          | List v183 v184 =>
           cases v183 with
           | nil =>
            cases v182 with
            | nil =>
             try replace h:=show (_&&_)=true from h
             simp only [Bool.and_eq_true,decide_eq_true_eq] at h
             obtain ⟨rfl,h⟩:=h
             exact ⟨_,_,_,_,_,_,_,rfl,h⟩
            | _=>exact (Bool.false_ne_true h).elim
           | _=>exact (Bool.false_ne_true h).elim
          | _=>exact (Bool.false_ne_true h).elim
         | _=>exact (Bool.false_ne_true h).elim
        | _=>exact (Bool.false_ne_true h).elim
       | _=>exact (Bool.false_ne_true h).elim
      | _=>exact (Bool.false_ne_true h).elim
     | _=>exact (Bool.false_ne_true h).elim
    | _=>exact (Bool.false_ne_true h).elim
   | _=>exact (Bool.false_ne_true h).elim
  | _=>exact (Bool.false_ne_true h).elim
 | _=>exact (Bool.false_ne_true h).elim
theorem inv_sBig {i:Nat}(h:chkE C (.sBig i) p=true):∃ x p1 j p2 p3 j2 p4 p5,p=.Subscript (.Subscript (.Name x p1) (.Constant (.int 0) j p2) p3) (.Constant (.int 0) j2 p4) p5∧okName x=true∧visB C.sc x=true∧C.N[i]?=some x:=by
 cases p with
 | Subscript v185 v186 v187 =>
  cases v185 with
  | Subscript v188 v189 v190 =>
   cases v188 with
   | Name v191 v192 =>
    cases v189 with
    | Constant v193 v194 v195 =>
     cases v193 with
     | int v196 =>
      cases v186 with
      | Constant v197 v198 v199 =>
       cases v197 with
       | int v200 =>
        try replace h:=show (_&&_)=true from h
        simp only [Bool.and_eq_true,decide_eq_true_eq] at h
        obtain ⟨rfl,rfl,h⟩:=h
        exact ⟨_,_,_,_,_,_,_,_,rfl,h⟩
       | _=>exact (Bool.false_ne_true h).elim
      | _=>exact (Bool.false_ne_true h).elim
     | _=>exact (Bool.false_ne_true h).elim
    | _=>exact (Bool.false_ne_true h).elim
   | _=>exact (Bool.false_ne_true h).elim
  | _=>exact (Bool.false_ne_true h).elim
 | _=>exact (Bool.false_ne_true h).elim
theorem inv_sTurn {i:Nat}(h:chkE C (.sTurn i) p=true):∃ x p1 j p2 p3,p=.Subscript (.Name x p1) (.Constant (.int 2) j p2) p3∧okName x=true∧visB C.sc x=true∧C.N[i]?=some x:=by
 cases p with
 | Subscript v201 v202 v203 =>
  cases v201 with
  | Name v204 v205 =>
   cases v202 with
   | Constant v206 v207 v208 =>
    cases v206 with
    | int v209 =>
     try replace h:=show (_&&_)=true from h
     simp only [Bool.and_eq_true,decide_eq_true_eq] at h
     obtain ⟨rfl,h⟩:=h
     exact ⟨_,_,_,_,_,rfl,h⟩
    | _=>exact (Bool.false_ne_true h).elim
   | _=>exact (Bool.false_ne_true h).elim
  | _=>exact (Bool.false_ne_true h).elim
 | _=>exact (Bool.false_ne_true h).elim
theorem inv_sCell {i l : Nat}(h : chkE C (.sCell i l) p = true) : ∃ x y p1 j p2 p3 q1 q2 q3 j2 q4 q5 q6 q7 q8, p = .Subscript (.Subscript (.Name x p1) (.Constant (.int 1) j p2) p3) (.BinOp (.Name y q1) .Mod (.Call (.Name "len" q2) [.Subscript (.Name x q3) (.Constant (.int 1) j2 q4) q5] [] q6) q7) q8 ∧
  okName x = true ∧ visB C.sc x = true ∧ C.N[i]? = some x ∧ okName y = true ∧ visB C.sc y = true ∧ C.N[l]? = some y ∧ globB C.sc "len" = true := by
 cases p with
 | Subscript v210 v211 v212 =>
  cases v210 with
  | Subscript v213 v214 v215 =>
   cases v213 with
   | Name v216 v217 =>
    cases v214 with
    | Constant v218 v219 v220 =>
     cases v218 with
     | int v221 =>
      cases v211 with
      | BinOp v222 v223 v224 v225 =>
       cases v222 with
       | Name v226 v227 =>
        cases v223 with
        | Mod =>
         cases v224 with
         | Call v228 v229 v230 v231 =>
          cases v228 with
          | Name v232 v233 =>
           cases v229 with
           | cons v234 v235 =>
            cases v234 with
            | Subscript v236 v237 v238 =>
             cases v236 with
             | Name v239 v240 =>
              cases v237 with
              | Constant v241 v242 v243 =>
               cases v241 with
               | int v244 =>
                cases v235 with
                | nil =>
                 cases v230 with
                 | nil =>
                  try replace h:=show (_&&_)=true from h
                  simp only [Bool.and_eq_true,decide_eq_true_eq] at h
                  obtain ⟨rfl,rfl,rfl,h1,h2,h3,h4,h5,h6,h7,rfl⟩:=h
                  exact ⟨_,_,_,_,_,_,_,_,_,_,_,_,_,_,_,rfl,h1,h2,h3,h4,h5,h6,h7⟩
                 | _=>exact (Bool.false_ne_true h).elim
                | _=>exact (Bool.false_ne_true h).elim
               | _=>exact (Bool.false_ne_true h).elim
              | _=>exact (Bool.false_ne_true h).elim
             | _=>exact (Bool.false_ne_true h).elim
            | _=>exact (Bool.false_ne_true h).elim
           | _=>exact (Bool.false_ne_true h).elim
          | _=>exact (Bool.false_ne_true h).elim
         | _=>exact (Bool.false_ne_true h).elim
        | _=>exact (Bool.false_ne_true h).elim
       | _=>exact (Bool.false_ne_true h).elim
      | _=>exact (Bool.false_ne_true h).elim
     | _=>exact (Bool.false_ne_true h).elim
    | _=>exact (Bool.false_ne_true h).elim
   | _=>exact (Bool.false_ne_true h).elim
  | _=>exact (Bool.false_ne_true h).elim
 | _=>exact (Bool.false_ne_true h).elim
theorem inv_lc {e:E}{tg:Tg}{it:It}{c:Eo}{own:List Nat}(h:chkE C (.lc e tg it c own) p=true):∃ pe ptg pit ifs scope pos,p=.ListComp pe [⟨ptg,pit,ifs,0⟩] scope pos∧C.cal=true ∧
  own.length=(ownN C.N own).length∧L2.blkC C.N C.sc scope (ownN C.N own)=true∧itOk it ptg=true∧tgIn own tg=true∧chkI C it pit=true∧chkT (C.blk scope) tg ptg=true ∧
   chkE (C.blk scope) e pe=true∧((c=.no∧ifs=[])∨∃ c' p',c=.so c'∧ifs=[p']∧chkE (C.blk scope) c' p'=true):=by
 cases p with
 | ListComp v245 v246 v247 v248 =>
  cases v246 with
  | cons v249 v250 =>
   cases v249 with
   | mk v251 v252 v253 v254 =>
    cases v250 with
    | nil =>
     cases c with
     | no =>
      cases v253 with
      | nil =>
       replace h:=show (_&&_)=true from h
       simp only [Bool.and_eq_true,decide_eq_true_eq] at h
       obtain ⟨h0,rfl,h1,h2,h3,h4,h5,h6,h7,h8⟩:=h
       exact ⟨_,_,_,_,_,_,rfl,h0,h1,h2,h3,h4,h5,h6,h7,.inl ⟨rfl,rfl⟩⟩
      | cons _ _ =>
       replace h:=show (_&&_)=true from h
       simp only [Bool.and_eq_true,decide_eq_true_eq] at h
       obtain ⟨h0,rfl,h1,h2,h3,h4,h5,h6,h7,h8⟩:=h
       exact (Bool.false_ne_true h8).elim
     | so c' =>
      cases v253 with
      | nil =>
       replace h:=show (_&&_)=true from h
       simp only [Bool.and_eq_true,decide_eq_true_eq] at h
       obtain ⟨h0,rfl,h1,h2,h3,h4,h5,h6,h7,h8⟩:=h
       exact (Bool.false_ne_true h8).elim
      | cons p' r =>
       cases r with
       | nil =>
        replace h:=show (_&&_)=true from h
        simp only [Bool.and_eq_true,decide_eq_true_eq] at h
        obtain ⟨h0,rfl,h1,h2,h3,h4,h5,h6,h7,h8⟩:=h
        exact ⟨_,_,_,_,_,_,rfl,h0,h1,h2,h3,h4,h5,h6,h7,.inr ⟨_,_,rfl,rfl,h8⟩⟩
       | cons _ _ =>
        replace h:=show (_&&_)=true from h
        simp only [Bool.and_eq_true,decide_eq_true_eq] at h
        obtain ⟨h0,rfl,h1,h2,h3,h4,h5,h6,h7,h8⟩:=h
        exact (Bool.false_ne_true h8).elim
    | _=>exact (Bool.false_ne_true h).elim
  | _=>exact (Bool.false_ne_true h).elim
 | _=>exact (Bool.false_ne_true h).elim
theorem inv_dc {k v:E}{tg:Tg}{it:It}{c:Eo}{own:List Nat}(h:chkE C (.dc k v tg it c own) p=true):∃ pk pv ptg pit ifs scope pos,p=.DictComp pk pv [⟨ptg,pit,ifs,0⟩] scope pos∧C.cal=true ∧
  own.length=(ownN C.N own).length∧L2.blkC C.N C.sc scope (ownN C.N own)=true∧itOk it ptg=true∧tgIn own tg=true∧chkI C it pit=true∧chkT (C.blk scope) tg ptg=true ∧
   chkE (C.blk scope) k pk=true∧chkE (C.blk scope) v pv=true∧((c=.no∧ifs=[])∨∃ c' p',c=.so c'∧ifs=[p']∧chkE (C.blk scope) c' p'=true):=by
 cases p with
 | DictComp v255 v256 v257 v258 v259 =>
  cases v257 with
  | cons v260 v261 =>
   cases v260 with
   | mk v262 v263 v264 v265 =>
    cases v261 with
    | nil =>
     cases c with
     | no =>
      cases v264 with
      | nil =>
       replace h:=show (_&&_)=true from h
       simp only [Bool.and_eq_true,decide_eq_true_eq] at h
       obtain ⟨h0,rfl,h1,h2,h3,h4,h5,h6,h7,h7',h8⟩:=h
       exact ⟨_,_,_,_,_,_,_,rfl,h0,h1,h2,h3,h4,h5,h6,h7,h7',.inl ⟨rfl,rfl⟩⟩
      | cons _ _ =>
       replace h:=show (_&&_)=true from h
       simp only [Bool.and_eq_true,decide_eq_true_eq] at h
       obtain ⟨h0,rfl,h1,h2,h3,h4,h5,h6,h7,h7',h8⟩:=h
       exact (Bool.false_ne_true h8).elim
     | so c' =>
      cases v264 with
      | nil =>
       replace h:=show (_&&_)=true from h
       simp only [Bool.and_eq_true,decide_eq_true_eq] at h
       obtain ⟨h0,rfl,h1,h2,h3,h4,h5,h6,h7,h7',h8⟩:=h
       exact (Bool.false_ne_true h8).elim
      | cons p' r =>
       cases r with
       | nil =>
        replace h:=show (_&&_)=true from h
        simp only [Bool.and_eq_true,decide_eq_true_eq] at h
        obtain ⟨h0,rfl,h1,h2,h3,h4,h5,h6,h7,h7',h8⟩:=h
        exact ⟨_,_,_,_,_,_,_,rfl,h0,h1,h2,h3,h4,h5,h6,h7,h7',.inr ⟨_,_,rfl,rfl,h8⟩⟩
       | cons _ _ =>
        replace h:=show (_&&_)=true from h
        simp only [Bool.and_eq_true,decide_eq_true_eq] at h
        obtain ⟨h0,rfl,h1,h2,h3,h4,h5,h6,h7,h7',h8⟩:=h
        exact (Bool.false_ne_true h8).elim
    | _=>exact (Bool.false_ne_true h).elim
  | _=>exact (Bool.false_ne_true h).elim
 | _=>exact (Bool.false_ne_true h).elim
theorem inv_dc2 {k v:E}{tg tg1:Tg}{it it1:It}{own own1:List Nat}(h:chkE C (.dc2 k v tg it tg1 it1 own own1) p=true):∃ pk pv ptg pit ptg1 pit1 scope pos,p=.DictComp pk pv [⟨ptg,pit,[],0⟩,⟨ptg1,pit1,[],0⟩] scope pos∧C.cal=true ∧
  own.length=(ownN C.N own).length∧L2.blkC C.N C.sc scope (ownN C.N own)=true∧(own1.all (fun i=>own.contains i))=true∧itOk it ptg=true∧tgIn own tg=true∧tgIn own1 tg1=true∧chkI C it pit=true∧chkT (C.blk scope) tg ptg=true ∧
   itOk it1 ptg1=true∧chkI (C.blk scope) it1 pit1=true∧chkT (C.blk scope) tg1 ptg1=true∧chkE (C.blk scope) k pk=true∧chkE (C.blk scope) v pv=true:=by
 cases p with
 | DictComp v266 v267 v268 v269 v270 =>
  cases v268 with
  | cons v271 v272 =>
   cases v271 with
   | mk v273 v274 v275 v276 =>
    cases v275 with
    | nil =>
     cases v272 with
     | cons v277 v278 =>
      cases v277 with
      | mk v279 v280 v281 v282 =>
       cases v281 with
       | nil =>
        cases v278 with
        | nil =>
         try replace h:=show (_&&_)=true from h
         simp only [Bool.and_eq_true,decide_eq_true_eq] at h
         obtain ⟨h0,rfl,rfl,h1,h2,h3,h4,h5,h6,h7,h8,h9,h10,h11,h12,h13⟩:=h
         exact ⟨_,_,_,_,_,_,_,_,rfl,h0,h1,h2,h3,h4,h5,h6,h7,h8,h9,h10,h11,h12,h13⟩
        | _=>exact (Bool.false_ne_true h).elim
       | _=>exact (Bool.false_ne_true h).elim
     | _=>exact (Bool.false_ne_true h).elim
    | _=>exact (Bool.false_ne_true h).elim
  | _=>exact (Bool.false_ne_true h).elim
 | _=>exact (Bool.false_ne_true h).elim
theorem inv_lc2 {e:E}{tg tg1:Tg}{it it1:It}{own own1:List Nat}(h:chkE C (.lc2 e tg it tg1 it1 own own1) p=true):∃ pe ptg pit ptg1 pit1 scope pos,p=.ListComp pe [⟨ptg,pit,[],0⟩,⟨ptg1,pit1,[],0⟩] scope pos∧C.cal=true ∧
  own.length=(ownN C.N own).length∧L2.blkC C.N C.sc scope (ownN C.N own)=true∧(own1.all (fun i=>own.contains i))=true∧itOk it ptg=true∧tgIn own tg=true∧tgIn own1 tg1=true∧chkI C it pit=true∧chkT (C.blk scope) tg ptg=true ∧
   itOk it1 ptg1=true∧chkI (C.blk scope) it1 pit1=true∧chkT (C.blk scope) tg1 ptg1=true∧chkE (C.blk scope) e pe=true:=by
 cases p with
 | ListComp v283 v284 v285 v286 =>
  cases v284 with
  | cons v287 v288 =>
   cases v287 with
   | mk v289 v290 v291 v292 =>
    cases v291 with
    | nil =>
     cases v288 with
     | cons v293 v294 =>
      cases v293 with
      | mk v295 v296 v297 v298 =>
       cases v297 with
       | nil =>
        cases v294 with
        | nil =>
         try replace h:=show (_&&_)=true from h
         simp only [Bool.and_eq_true,decide_eq_true_eq] at h
         obtain ⟨h0,rfl,rfl,h1,h2,h3,h4,h5,h6,h7,h8,h9,h10,h11,h12⟩:=h
         exact ⟨_,_,_,_,_,_,_,rfl,h0,h1,h2,h3,h4,h5,h6,h7,h8,h9,h10,h11,h12⟩
        | _=>exact (Bool.false_ne_true h).elim
       | _=>exact (Bool.false_ne_true h).elim
     | _=>exact (Bool.false_ne_true h).elim
    | _=>exact (Bool.false_ne_true h).elim
  | _=>exact (Bool.false_ne_true h).elim
 | _=>exact (Bool.false_ne_true h).elim
theorem inv_sst (h : chkE C (.sst a) p = true) : ∃ x pp y p2 p1 pos2 pos, p = .Call (.Name x pp) [.Call (.Name y p2) [p1] [] pos2] [] pos ∧ C.cal = true ∧ globB C.sc x = true ∧ globB C.sc y = true ∧ x = "sorted" ∧ y = "set" ∧ isStar p1 = false ∧ chkE C a p1 = true := by
 cases p with
 | Call v299 v300 v301 v302 =>
  cases v299 with
  | Name v303 v304 =>
   cases v300 with
   | cons v305 v306 =>
    cases v305 with
    | Call v307 v308 v309 v310 =>
     cases v307 with
     | Name v311 v312 =>
      cases v308 with
      | cons v313 v314 =>
       cases v314 with
       | nil =>
        cases v309 with
        | nil =>
         cases v306 with
         | nil =>
          cases v301 with
          | nil =>
           try replace h:=show (_&&_)=true from h
           try simp only [Bool.and_eq_true,decide_eq_true_eq,Bool.not_eq_true'] at h
           obtain ⟨h1,h2,h3,h4,h5,h6,h7⟩:=h
           exact ⟨_,_,_,_,_,_,_,rfl,h1,h2,h3,h4,h5,h6,h7⟩
          | _=>exact (Bool.false_ne_true h).elim
         | _=>exact (Bool.false_ne_true h).elim
        | _=>exact (Bool.false_ne_true h).elim
       | _=>exact (Bool.false_ne_true h).elim
      | _=>exact (Bool.false_ne_true h).elim
     | _=>exact (Bool.false_ne_true h).elim
    | _=>exact (Bool.false_ne_true h).elim
   | _=>exact (Bool.false_ne_true h).elim
  | _=>exact (Bool.false_ne_true h).elim
 | _=>exact (Bool.false_ne_true h).elim
end
end PL
end
section
namespace PL
open PySem PySem.Spec PyProof.Rows L2
section
end
end PL
end
section
namespace PL
open PySem PySem.Spec PyProof.Rows L2
section
variable {X:Cx}{pr:Prog}{XR:XRel}{C:SC}{n:Nat}{W:WX}{cx:Ctx}
theorem x_call0 (G:Good X pr XR C n)(hcal:C.cal=true)(tk:Takes X W){f:Nat}{x:Str}{pp pos:Pos}(hg:Gl X x)(hx:C.fname f=some x)(hd:okName x=true):PE X (.Call (.Name x pp) [] [] pos) (gE X XR W (pr.cxe n) (.call f .nil)):=by
 unfold okName at hd
 simp only [Bool.and_eq_true,Bool.not_eq_true'] at hd
 obtain ⟨fa,fd,par,h1,h2,h3,hl,h4⟩:=G.fns f x hx
 refine ⟨fun pins s σ H Q I h=>?_⟩
 refine wpAny_Call_Name_kw (ld_glob I hg h1 ?_ hd.1)
 refine PySem.W.callWith_K0 I.kIn h2 ?_
 show wpAny _ _ (call (.ref fa) []) _ _ _
 obtain ⟨F,B,env,st,ok,h⟩:=h
 unfold evE evEs at h
 rw [R.bind_ok] at h
 have h2:RE X.K X.w XR W F B σ H (fresh (.call f .nil)) (run pr n f [] st) Q:=h
 have hl0:([]:List D).length=par.length:=hl [] st fun e=>by
  rw [e] at h2
  exact h2
 have q:spG X.K X.w XR pr n f par.length [] H Q (WE W σ):=by
  refine ⟨F,B,st,[],hl0,ok.occ,ok.sr,.nil,?_⟩
  generalize run pr n f [] st=rr at h2
  cases rr with
  | ok d st2=>exact fun v F' H' x s r=>h2 v F' H' x s r (fun z=>by cases z)
  | exc c fs st2=>exact fun cls dx F' H' x s r=>h2 cls dx F' H' x s r
  | no=>exact h2
 have bb:=h3 s [] I.kIn (by rw [List.append_nil];exact hl0)
 rw [List.append_nil] at bb
 refine wpAny_call (codeAny_mono (h4.run X.A X.stack s H ⟨[],[]⟩ [] [] Q (WE W σ) (G.room hcal) G.gd I.env0 bb .nil q) fun r s' hq=>?_)
 cases r with
 | error e=>exact tk e s' (XE.of_call I (fun _ _ _ h=>h) hq)
 | ok fl =>
  cases fl with
  | ret u=>exact I.after hq
  | next=>exact False.elim hq
  | brk=>exact False.elim hq
  | cont=>exact False.elim hq
end
end PL
end
section
namespace PL
open PySem PySem.Spec PyProof.Rows L2
section
variable {pr:Prog}{XR:XRel}{n:Nat}
theorem vis_of {X:Cx}{C:SC}{x:Str}(G:Good X pr XR C n)(h:visB C.sc x=true):Vis X.env.scope x:=by
 rw [G.sc]
 unfold visB at h
 split at h
 ·exact .inl (by assumption)
 ·exact .inr (.inl (by assumption))
 ·exact .inr (.inr (by assumption))
 ·cases h
theorem glob_of {X:Cx}{C:SC}{x:Str}(G:Good X pr XR C n)(h:globB C.sc x=true):Gl X x∧okName x=true:=by
 unfold globB at h
 split at h
 ·rename_i e
  exact ⟨by show X.env.scope.names.lookup x=_;rw [G.sc];exact e,h⟩
 ·cases h
theorem names_glob {X:Cx}{C:SC}{e:Expr}(G:Good X pr XR C n)(h:(nameOf e).any (globB C.sc)=true):∃ y p,e=.Name y p∧Gl X y∧okName y=true:=by
 cases e<;>first|(simp [nameOf] at h;done)|skip
 rename_i y p
 exact ⟨y,p,rfl,glob_of G (by simpa [nameOf] using h)⟩
theorem foldOk {C:SC}{it:It}{p:Expr}(h:chkI C it p=true)(env:PySem.Env):∀ x,foldedSetIterable p env x=pure x:=by
 intro x
 cases p<;>first|rfl|skip
 cases it<;>simp [chkI] at h
theorem units_of {X:Cx}{C:SC}(G:Good X pr XR C n):X.A.units+65<cLine:=by have:=G.un;omega
mutual
theorem sE:∀ (e:E) {X:Cx} {C:SC} {W:WX} {p:Expr},Good X pr XR C n→Takes X W→chkE C e p=true→SE X XR W (pr.cxe n) e p
 | .loc i,X,C,W,p,G,tk,h=>by
  obtain ⟨x,pos,rfl,⟨h1,h2⟩,h3⟩:=inv_loc h
  exact .plain rfl (x_loc (by rw [G.N];exact h3) (vis_of G h2) h1)
 | .cst d,X,C,W,p,G,tk,h=>by
  rcases inv_cst h with ⟨j,pos,rfl,rfl⟩|⟨v,j,pos,rfl,rfl⟩|⟨v,j,pos,rfl,rfl⟩|⟨x,j,pos,rfl,rfl⟩
  ·exact .plain rfl (x_cst _ pe_non fun _ _ _=>.non)
  ·exact .plain rfl (x_cst _ pe_bl fun _ _ _=>.bl _)
  ·exact .plain rfl (x_cst _ pe_int fun _ _ _=>.int _)
  ·exact .plain rfl (x_cst _ pe_str fun _ _ _=>.str _ _ rfl)
 | .glb g,X,C,W,p,G,tk,h=>by
  obtain ⟨x,pos,rfl,h1,h2⟩:=inv_glb h
  obtain ⟨g1,g2⟩:=glob_of G h1
  exact .plain rfl (x_glb G g1 h2 g2)
 | .bin o a b,X,C,W,p,G,tk,h=>by
  obtain ⟨p1,op,q,pos,rfl,rfl,h1,h2⟩:=inv_bin h
  exact .plain rfl (x_bin o (sE a G tk h1).v (sE b G tk h2).v)
 | .cat a b,X,C,W,p,G,tk,h=>(Bool.false_ne_true h).elim
 | .neg a,X,C,W,p,G,tk,h=>by
  obtain ⟨p1,pos,rfl,h1⟩:=inv_neg h
  exact .plain rfl (x_neg (sE a G tk h1).v)
 | .cmp o a b,X,C,W,p,G,tk,h=>by
  obtain ⟨p1,op,q,pos,rfl,rfl,h0,h1,h2⟩:=inv_cmp h
  exact se_cmp (units_of G) o (sE a G tk h1).v (sE b G tk h2).v h0
 | .chn o1 o2 a b c,X,C,W,p,G,tk,h=>(Bool.false_ne_true h).elim
 | .isn a,X,C,W,p,G,tk,h=>by
  obtain ⟨p1,j,p2,pos,rfl,h1⟩:=inv_isn h
  exact se_isn (sE a G tk h1).v
 | .isnn a,X,C,W,p,G,tk,h=>by
  obtain ⟨p1,j,p2,pos,rfl,h1⟩:=inv_isnn h
  exact se_isnn (sE a G tk h1).v
 | .and a b,X,C,W,p,G,tk,h=>by
  obtain ⟨p1,q,r,pos,rfl,h1,h2⟩:=inv_and h
  exact se_and (sE a G tk h1) (sE b G tk h2)
 | .or a b,X,C,W,p,G,tk,h=>by
  obtain ⟨p1,q,r,pos,rfl,h1,h2⟩:=inv_or h
  exact se_or (sE a G tk h1) (sE b G tk h2)
 | .not a,X,C,W,p,G,tk,h=>by
  obtain ⟨p1,pos,rfl,h1⟩:=inv_not h
  exact se_not (sE a G tk h1)
 | .ifx c a b,X,C,W,p,G,tk,h=>by
  obtain ⟨t,p1,q,pos,rfl,h0,h1,h2⟩:=inv_ifx h
  exact se_ifx (sE c G tk h0) (sE a G tk h1) (sE b G tk h2)
 | .call f es,X,C,W,p,G,tk,h=>by
  rcases inv_call h with ⟨x,pp,p1,ps,pos,rfl,h0,h1,h2,h3,h4,h5⟩|⟨x,pp,pos,rfl,h0,h1,h2,rfl⟩
  ·obtain ⟨g1,g2⟩:=glob_of G h1
   exact .plain rfl (x_call G h0 tk g1 h2 g2 h3 h4 (sEs es G tk h5).pa)
  ·obtain ⟨g1,g2⟩:=glob_of G h1
   exact .plain rfl (x_call0 G h0 tk g1 h2 g2)
 | .bi b es,X,C,W,p,G,tk,h=>by
  obtain ⟨x,pp,p1,ps,pos,rfl,h0,h1,h2,h3,h4,h5⟩:=inv_bi h
  obtain ⟨g1,g2⟩:=glob_of G h1
  exact .plain rfl (x_bi G b h0 g1 h2 h3 h4 (sEs es G tk h5).pa)
 | .isi a t,X,C,W,p,G,tk,h=>(Bool.false_ne_true h).elim
 | .tup es,X,C,W,p,G,tk,h=>by
  obtain ⟨ps,k,pos,rfl,h1⟩:=inv_tup h
  exact .plain rfl (x_tup (sEs es G tk h1).pa)
 | .lst es,X,C,W,p,G,tk,h=>by
  obtain ⟨ps,pos,rfl,h1⟩:=inv_lst h
  exact .plain rfl (x_lst (sEs es G tk h1).pa)
 | .dct ks es,X,C,W,p,G,tk,h=>(Bool.false_ne_true h).elim
 | .dct0,X,C,W,p,G,tk,h=>(Bool.false_ne_true h).elim
 | .sub a b,X,C,W,p,G,tk,h=>by
  obtain ⟨p1,q,pos,rfl,h0,h1,h2⟩:=inv_sub h
  exact .plain rfl (x_sub G h0 (sE a G tk h1).v (sE b G tk h2).v)
 | .slc a lo hi,X,C,W,p,G,tk,h=>by
  obtain ⟨p1,l,h',p2,pos,rfl,h0,h1,h2⟩:=inv_slc h
  exact .plain rfl (x_slc G (sE a G tk h0).v (sO lo G tk h1) (sO hi G tk h2))
 | .get a b d,X,C,W,p,G,tk,h=>(Bool.false_ne_true h).elim
 | .get1 a b,X,C,W,p,G,tk,h=>(Bool.false_ne_true h).elim
 | .tix ss b,X,C,W,p,G,tk,h=>(Bool.false_ne_true h).elim
 | .cnt a b,X,C,W,p,G,tk,h=>(Bool.false_ne_true h).elim
 | .tof a,X,C,W,p,G,tk,h=>by
  obtain ⟨x,pp,p1,pos,rfl,h1,rfl,h3,h4⟩:=inv_tof h
  exact .plain rfl (x_tof G (glob_of G h1).1 h3 (sE a G tk h4).v)
 | .lof (.seq a),X,C,W,p,G,tk,h=>(Bool.false_ne_true h).elim
 | .lof (.rng1 a),X,C,W,p,G,tk,h=>(Bool.false_ne_true h).elim
 | .lof (.rng2 a b),X,C,W,p,G,tk,h=>(Bool.false_ne_true h).elim
 | .lof (.rngL a b),X,C,W,p,G,tk,h=>(Bool.false_ne_true h).elim
 | .lof (.rng3 a b c),X,C,W,p,G,tk,h=>(Bool.false_ne_true h).elim
 | .lof (.enm a s),X,C,W,p,G,tk,h=>(Bool.false_ne_true h).elim
 | .lof (.zp a b),X,C,W,p,G,tk,h=>(Bool.false_ne_true h).elim
 | .lof (.zp3 a b c),X,C,W,p,G,tk,h=>(Bool.false_ne_true h).elim
 | .lof (.enmz a b s),X,C,W,p,G,tk,h=>(Bool.false_ne_true h).elim
 | .lc e tg it c own,X,C,W,p,G,tk,h=>by
  obtain ⟨pe,ptg,pit,ifs,scope,pos,rfl,h0,h1,h2,h3,h4,h5,h6,h7,h8⟩:=inv_lc h
  refine .plain rfl (x_lc G h0 (sI it G tk h5 h3) (by rw [G.N,G.sc];exact blkOk_by h2) (ownN_snd h1) h4 (fun s H Ca cl fp=>g_ok (G.blk h0 (blkOk_by h2).kind s H cl Ca fp) h6) (fun s H Ca cl fp=>?_) (fun s H Ca cl fp=>(sE e (G.blk h0 (blkOk_by h2).kind s H cl Ca fp) Takes.wf h7).v) (foldOk h5 X.env))
  refine sB c (G.blk h0 (blkOk_by h2).kind s H cl Ca fp) Takes.wf ?_
  rcases h8 with ⟨rfl,rfl⟩|⟨c',p',rfl,rfl,h9⟩
  ·trivial
  ·exact h9
 | .lc2 e tg it tg1 it1 own own1,X,C,W,p,G,tk,h=>by
  obtain ⟨pe,ptg,pit,ptg1,pit1,scope,pos,rfl,h0,h1,h2,hs,h3,h4,h4',h5,h6,h7,h8,h9,h10⟩:=inv_lc2 h
  refine .plain rfl (x_lc2 G h0 (sI it G tk h5 h3) (by rw [G.N,G.sc];exact blkOk_by h2) (ownN_snd h1) h4 h4' (fun i hi=>by
   have:=List.all_eq_true.mp hs i hi
   simpa using this) (fun s H Ca cl fp=>g_ok (G.blk h0 (blkOk_by h2).kind s H cl Ca fp) h6) (fun s H Ca cl fp=>no_test)
   (fun s H Ca cl fp=>sI it1 (G.blk h0 (blkOk_by h2).kind s H cl Ca fp) Takes.wf h8 h7) (fun s H Ca cl fp=>g_ok (G.blk h0 (blkOk_by h2).kind s H cl Ca fp) h9) (fun s H Ca cl fp=>(sE e (G.blk h0 (blkOk_by h2).kind s H cl Ca fp) Takes.wf h10).v) (foldOk h5 X.env) fun env=>foldOk h8 env)
 | .dc k v tg it c own,X,C,W,p,G,tk,h=>by
  obtain ⟨pk,pv,ptg,pit,ifs,scope,pos,rfl,h0,h1,h2,h3,h4,h5,h6,h7,h7',h8⟩:=inv_dc h
  refine .plain rfl (x_dc G h0 (sI it G tk h5 h3) (by rw [G.N,G.sc];exact blkOk_by h2) (ownN_snd h1) h4 (fun s H Ca cl fp=>g_ok (G.blk h0 (blkOk_by h2).kind s H cl Ca fp) h6) (fun s H Ca cl fp=>?_) (fun s H Ca cl fp=>(sE k (G.blk h0 (blkOk_by h2).kind s H cl Ca fp) Takes.wf h7).v) (fun s H Ca cl fp=>(sE v (G.blk h0 (blkOk_by h2).kind s H cl Ca fp) Takes.wf h7').v) (foldOk h5 X.env))
  refine sB c (G.blk h0 (blkOk_by h2).kind s H cl Ca fp) Takes.wf ?_
  rcases h8 with ⟨rfl,rfl⟩|⟨c',p',rfl,rfl,h9⟩
  ·trivial
  ·exact h9
 | .dc2 k v tg it tg1 it1 own own1,X,C,W,p,G,tk,h=>by
  obtain ⟨pk,pv,ptg,pit,ptg1,pit1,scope,pos,rfl,h0,h1,h2,hs,h3,h4,h4',h5,h6,h7,h8,h9,h10,h11⟩:=inv_dc2 h
  exact .plain rfl (x_dc2 G h0 (sI it G tk h5 h3) (by rw [G.N,G.sc];exact blkOk_by h2) (ownN_snd h1) h4 h4' (fun i hi=>by
   have:=List.all_eq_true.mp hs i hi
   simpa using this) (fun s H Ca cl fp=>g_ok (G.blk h0 (blkOk_by h2).kind s H cl Ca fp) h6)
   (fun s H Ca cl fp=>sI it1 (G.blk h0 (blkOk_by h2).kind s H cl Ca fp) Takes.wf h8 h7) (fun s H Ca cl fp=>g_ok (G.blk h0 (blkOk_by h2).kind s H cl Ca fp) h9) (fun s H Ca cl fp=>(sE k (G.blk h0 (blkOk_by h2).kind s H cl Ca fp) Takes.wf h10).v) (fun s H Ca cl fp=>(sE v (G.blk h0 (blkOk_by h2).kind s H cl Ca fp) Takes.wf h11).v) (foldOk h5 X.env) fun env=>foldOk h8 env)
 | .isE a cs,X,C,W,p,G,tk,h=>by
  obtain ⟨i,rfl,h⟩:=inv_isE h
  rcases h with ⟨x,pp,p1,y,pp2,pos,rfl,h0,h1,h2,rfl,h3,h4,h5⟩|⟨x,pp,p1,es,k,pp2,pos,rfl,h0,h1,rfl,h2,h3,h4,h5⟩
  ·exact .plain rfl (x_isE1 G h0 (glob_of G h1).1 (glob_of G h2) h3 h4 (sE (.loc i) G tk h5).v)
  ·exact .plain rfl (x_isE2 G h0 (glob_of G h1).1 ⟨h2.1,fun e he=>names_glob G (List.all_eq_true.mp h2.2 e he)⟩ h3 h4 (sE (.loc i) G tk h5).v)
 | .fldE i nm,X,C,W,p,G,tk,h=>(Bool.false_ne_true h).elim
 | .sst a,X,C,W,p,G,tk,h=>by
  obtain ⟨x,pp,y,p2,p1,pos2,pos,rfl,h0,h1,h2,rfl,rfl,h3,h4⟩:=inv_sst h
  exact .plain rfl (x_sst G h0 (glob_of G h1).1 (glob_of G h2).1 h3 (sE a G tk h4).v)
 | .rev a,X,C,W,p,G,tk,h=>(Bool.false_ne_true h).elim
 | .isB a b neg,X,C,W,p,G,tk,h=>(Bool.false_ne_true h).elim
 | .lsq a,X,C,W,p,G,tk,h=>(Bool.false_ne_true h).elim
 | .dpl a,X,C,W,p,G,tk,h=>(Bool.false_ne_true h).elim
 | .zl a b,X,C,W,p,G,tk,h=>(Bool.false_ne_true h).elim
 | .zls a,X,C,W,p,G,tk,h=>(Bool.false_ne_true h).elim
 | .sHas i,X,C,W,p,G,tk,h=>by
  obtain ⟨x,p1,j,p2,p3,p4,p5,rfl,h1,h2,h3⟩:=inv_sHas h
  exact se_has G h1 (vis_of G h2) h3
 | .sBig i,X,C,W,p,G,tk,h=>by
  obtain ⟨x,p1,j,p2,p3,j2,p4,p5,rfl,h1,h2,h3⟩:=inv_sBig h
  exact .plain rfl (x_sBig G h1 (vis_of G h2) h3)
 | .sTurn i,X,C,W,p,G,tk,h=>by
  obtain ⟨x,p1,j,p2,p3,rfl,h1,h2,h3⟩:=inv_sTurn h
  exact .plain rfl (x_sTurn G h1 (vis_of G h2) h3)
 | .sCell i l,X,C,W,p,G,tk,h=>by
  obtain ⟨x,y,p1,j,p2,p3,q1,q2,q3,j2,q4,q5,q6,q7,q8,rfl,h1,h2,h3,h4,h5,h6,h7⟩:=inv_sCell h
  exact .plain rfl (x_sCell G h1 (vis_of G h2) h3 h4 (vis_of G h5) h6 (glob_of G h7).1)
theorem sEs:∀ (es:Es) {X:Cx} {C:SC} {W:WX} {ps:List Expr},Good X pr XR C n→Takes X W→chkEs C es ps=true→PEs X XR W (pr.cxe n) es ps
 | .nil,X,C,W,ps,G,tk,h=>by
  cases ps with
  | nil=>exact .nil
  | cons _ _=>simp [chkEs] at h
 | .cons e r,X,C,W,ps,G,tk,h=>by
  cases ps with
  | nil=>simp [chkEs] at h
  | cons p ps =>
   simp only [chkEs,Bool.and_eq_true,Bool.not_eq_true'] at h
   exact .cons h.1 (sE e G tk h.2.1).v (sEs r G tk h.2.2)
 | .star e r,X,C,W,ps,G,tk,h=>by
  cases ps with
  | nil=>simp [chkEs] at h
  | cons p ps =>
   cases p<;>simp only [chkEs,Bool.false_eq_true] at h
   simp only [Bool.and_eq_true] at h
   exact .star (sE e G tk h.1).v (sEs r G tk h.2)
theorem sO:∀ (o:Eo) {X:Cx} {C:SC} {W:WX} {p:Option Expr},Good X pr XR C n→Takes X W→chkO C o p=true→PO X p (gO X XR W (pr.cxe n) o)
 | .no,X,C,W,p,G,tk,h=>by
  cases p with
  | none=>exact o_no
  | some _=>simp [chkO] at h
 | .so e,X,C,W,p,G,tk,h=>by
  cases p with
  | none=>simp [chkO] at h
  | some p =>
   simp only [chkO] at h
   exact o_so (sE e G tk h).v
theorem sB:∀ (o:Eo) {X:Cx} {C:SC} {W:WX} {ifs:List Expr},Good X pr XR C n→Takes X W→(match o,ifs with|.no,[]=>True|.so c,[p]=>chkE C c p=true|_,_=>False)→PTs X ifs (tBo X.K X.w XR W (pr.cxe n) o)
 | .no,X,C,W,ifs,G,tk,h=>by
  cases ifs with
  | cons _ _=>cases h
  | nil =>
   exact ⟨fun pins s σ H Q I h=>pts_nil.run pins s σ H Q I (by
    obtain ⟨F,B,env,st,ok,h⟩:=h
    unfold evB at h
    exact h F H (Ext.refl F H) ok.sr)⟩
 | .so e,X,C,W,ifs,G,tk,h=>by
  match ifs,h with
  | [p],h =>
   exact ⟨fun pins s σ H Q I h'=>(pts_one (sE e G tk h).t).run pins s σ H Q I (by
    obtain ⟨F,B,env,st,ok,h⟩:=h'
    unfold evB at h
    exact ⟨F,B,env,st,ok,h⟩)⟩
theorem sI:∀ (it:It) {X:Cx} {C:SC} {W:WX} {tg p:Expr},Good X pr XR C n→Takes X W→chkI C it p=true→itOk it tg=true→PI X tg p (gI X XR W (pr.cxe n) it)
 | .seq a,X,C,W,tg,p,G,tk,h,ht=>by
  simp only [chkI,Bool.and_eq_true] at h
  exact i_seq (sE a G tk h.2).v
 | .rng1 a,X,C,W,tg,p,G,tk,h,ht=>by
  unfold chkI at h
  split at h<;>try contradiction
  rename_i heq
  cases heq
  simp only [Bool.and_eq_true,decide_eq_true_eq,Bool.not_eq_true'] at h
  obtain ⟨z1,rfl,z2,z3⟩:=h
  exact i_rng1 G (glob_of G z1).1 z2 (sE a G tk z3).v
 | .rng2 a b,X,C,W,tg,p,G,tk,h,ht=>by
  unfold chkI at h
  split at h<;>try contradiction
  rename_i heq
  cases heq
  simp only [Bool.and_eq_true,decide_eq_true_eq,Bool.not_eq_true'] at h
  obtain ⟨z1,rfl,z2,z3,z4,z5⟩:=h
  exact i_rng2 G (glob_of G z1).1 z2 z3 (sE a G tk z4).v (sE b G tk z5).v
 | .rngL a b,X,C,W,tg,p,G,tk,h,ht=>(Bool.false_ne_true h).elim
 | .rng3 a b c,X,C,W,tg,p,G,tk,h,ht=>(Bool.false_ne_true h).elim
 | .enm a s,X,C,W,tg,p,G,tk,h,ht=>(Bool.false_ne_true h).elim
 | .zp a b,X,C,W,tg,p,G,tk,h,ht=>(Bool.false_ne_true h).elim
 | .zp3 a b c,X,C,W,tg,p,G,tk,h,ht=>(Bool.false_ne_true h).elim
 | .enmz a b s,X,C,W,tg,p,G,tk,h,ht=>(Bool.false_ne_true h).elim
end
end
end PL
end
section
namespace PL
open PySem PySem.Spec PyProof.Rows L2
structure OkS (K:PySem.W.Frag)(w:World)(F:Foot)(G B:Addr→Prop)(σ:L2.St)(H:Hp)(env:Env)(st:St):Prop where
 e:OkE K w F B σ H env st
 g:∀ b,G b→B b
 o:∀ (i:Nat) (s:Slot) (a:Addr),s.isOwn=true→env[i]?=some s→σ[i]?=some (some (V.ref a))→¬ G a
structure StepS (F:Foot)(G B:Addr→Prop)(H:Hp)(F':Foot)(B':Addr→Prop)(H':Hp):Prop where
 keep:∀ a,¬ F.inn a→(¬ B a∨G a)→H a≠none→H' a=H a∧¬ F'.inn a∧(¬ B a→¬ B' a)
 occ:∀ b,H b≠none→H' b≠none
 at_:∀ a,F.at_=some a→F'.at_=some a
section
variable {K:PySem.W.Frag}{w:World}{F F1 F2:Foot}{G B B1 B2:Addr→Prop}{σ:L2.St}{H H1 H2:Hp}{env:Env}{st st1:St}
theorem StepS.refl:StepS F G B H F B H:=⟨fun _ f _ _=>⟨rfl,f,fun z=>z⟩,fun _ h=>h,fun _ e=>e⟩
theorem StepS.trans (x:StepS F G B H F1 B1 H1)(y:StepS F1 G B1 H1 F2 B2 H2):StepS F G B H F2 B2 H2 :=
 ⟨fun a f b h=>by
  obtain ⟨e1,f1,b1⟩:=x.keep a f b h
  obtain ⟨e2,f2,b2⟩:=y.keep a f1 (b.imp b1 id) (by rw [e1];exact h)
  exact ⟨e2.trans e1,f2,fun z=>b2 (b1 z)⟩,fun b h=>y.occ b (x.occ b h),fun a e=>y.at_ a (x.at_ a e)⟩
theorem Ext.step (x:Ext F H F1 H1):StepS F G B H F1 B H1:=⟨fun a f _ h=>⟨(x.keep a f h).1,(x.keep a f h).2,fun z=>z⟩,x.occ,x.at_⟩
theorem StepS.lat (x:StepS F G B H F1 B1 H1):Lat F B H F1 B1 H1:=⟨fun a f b h=>⟨(x.keep a f (.inl b) h).1,(x.keep a f (.inl b) h).2.1,(x.keep a f (.inl b) h).2.2 b⟩,x.at_⟩
theorem StepS.less (h:∀ b,B1 b→B b):StepS F G B H F B1 H:=⟨fun _ f _ _=>⟨rfl,f,fun z q=>z (h _ q)⟩,fun _ h=>h,fun _ e=>e⟩
theorem OkS.ext (o:OkS K w F G B σ H env st)(x:Ext F H F1 H1)(s:SR st1 F1 H1):OkS K w F1 G B σ H1 env st1:=⟨o.e.ext x s,o.g,o.o⟩
theorem OkS.ren (o:OkS K w F G B σ H env st){σ':L2.St}{env':Env}(f:Nat→Nat)(hl:env'.length=σ'.length)
  (h:∀ (i:Nat) (s:Slot),env'[i]?=some s→s=.un∨(env[f i]?=some s∧σ'[i]?=σ[f i]?))
  (inj:∀ (i j:Nat) (s t:Slot),s.isOwn=true→t.isOwn=true→env'[i]?=some s→env'[j]?=some t→f i=f j→i=j):OkS K w F G B σ' H env' st:=by
 refine ⟨⟨hl,fun i d e=>?_,fun i s os e=>?_,fun i j s t a os ot e1 e2 e3 e4=>?_,o.e.occ,o.e.sr⟩,o.g,fun i s a os e1 e2=>?_⟩
 ·rcases h i _ e with z|⟨z1,z2⟩
  ·cases z
  ·rw [z2];exact o.e.val _ d z1
 ·rcases h i _ e with z|⟨z1,z2⟩
  ·subst z;cases os
  ·rw [z2];exact o.e.own _ s os z1
 ·rcases h i _ e1 with z|⟨z1,z2⟩
  ·subst z;cases os
  rcases h j _ e2 with z|⟨z3,z4⟩
  ·subst z;cases ot
  rw [z2] at e3
  rw [z4] at e4
  exact inj i j s t os ot e1 e2 (o.e.apart _ _ _ _ a os ot z1 z3 e3 e4)
 ·rcases h i _ e1 with z|⟨z1,z2⟩
  ·subst z;cases os
  rw [z2] at e2
  exact o.o _ s a os z1 e2
theorem get_app {α:Type}{l:List α}{x s:α}{i:Nat}(h:(l++[x])[i]?=some s):(l[i]?=some s∧i<l.length)∨(i=l.length∧s=x):=by
 by_cases hi:i<l.length
 ·rw [List.getElem?_append_left hi] at h
  exact .inl ⟨h,hi⟩
 ·rw [List.getElem?_append_right (by omega)] at h
  have:i-l.length=0:=by
   have:=(List.getElem?_eq_some_iff.mp h).1
   simp at this
   omega
  rw [this] at h
  exact .inr ⟨by omega,by simpa using h.symm⟩
theorem app_left {α:Type}{l m:List α}{i:Nat}(h:i<l.length):(l++m)[i]?=l[i]?:=List.getElem?_append_left h
theorem app_last {α:Type}{l:List α}{x:α}:(l++[x])[l.length]?=some x:=by simp
theorem OkS.pushV (o:OkS K w F G B σ H env st){v:V}{d:D}(r:Rep K w F B H v d):OkS K w F G B (σ++[some v]) H (env++[.val d]) st:=by
 have hl:=o.e.len
 refine ⟨⟨by simp [hl],fun i d' e=>?_,fun i s os e=>?_,fun i j s t a os ot e1 e2 e3 e4=>?_,o.e.occ,o.e.sr⟩,o.g,fun i s a os e1 e2=>?_⟩
 ·rcases get_app e with ⟨z1,z2⟩|⟨rfl,z⟩
  ·rw [app_left (by omega)];exact o.e.val i d' z1
  ·cases z
   exact ⟨v,by rw [hl];exact app_last,r⟩
 ·rcases get_app e with ⟨z1,z2⟩|⟨rfl,z⟩
  ·rw [app_left (by omega)];exact o.e.own i s os z1
  ·subst z;cases os
 ·rcases get_app e1 with ⟨z1,z2⟩|⟨rfl,z⟩
  ·rcases get_app e2 with ⟨z3,z4⟩|⟨rfl,z⟩
   ·rw [app_left (by omega)] at e3 e4
    exact o.e.apart i j s t a os ot z1 z3 e3 e4
   ·subst z;cases ot
  ·subst z;cases os
 ·rcases get_app e1 with ⟨z1,z2⟩|⟨rfl,z⟩
  ·rw [app_left (by omega)] at e2
   exact o.o i s a os z1 e2
  ·subst z;cases os
theorem OkS.pushO (o:OkS K w F G B σ H env st)(x:Ext F H F1 H1)(s:SR st1 F1 H1){a:Addr}{u:Slot}(ou:u.isOwn=true)(hn:H a=none)(ha:OwnR K w F1 (fun b=>B b∨b=a) H1 a u)(fa:¬ F1.inn a):∃ B1:Addr→Prop,OkS K w F1 G B1 (σ++[some (V.ref a)]) H1 (env++[u]) st1∧StepS F G B H F1 B1 H1:=by
 have hl:=o.e.len
 have lat:Lat F B H F1 (fun b=>B b∨b=a) H1:=⟨fun b fb bb hb=>⟨(x.keep b fb hb).1,(x.keep b fb hb).2,fun z=>z.elim bb fun e=>hb (by rw [e];exact hn)⟩,x.at_⟩
 refine ⟨fun b=>B b∨b=a,⟨⟨by simp [hl],fun i d' e=>?_,fun i t ot e=>?_,fun i j t t' a' ot ot' e1 e2 e3 e4=>?_,fun b hb=>?_,s⟩,fun b h=>.inl (o.g b h),fun i t a' ot e1 e2=>?_⟩,?_⟩
 ·rcases get_app e with ⟨z1,z2⟩|⟨rfl,z⟩
  ·obtain ⟨u,h1,h2⟩:=o.e.val i d' z1
   exact ⟨u,by rw [app_left (by omega)];exact h1,h2.lat lat⟩
  ·subst z;cases ou
 ·rcases get_app e with ⟨z1,z2⟩|⟨rfl,z⟩
  ·obtain ⟨a',h1,h2,h4,h5⟩:=o.e.own i t ot z1
   have q:=x.keep a' h5 h2.occ
   exact ⟨a',by rw [app_left (by omega)];exact h1,h2.move (fun r=>r.lat lat) q.1,.inl h4,q.2⟩
  ·subst z
   exact ⟨a,by rw [hl];exact app_last,ha,.inr rfl,fa⟩
 ·have old:∀ {i:Nat} {t:Slot},t.isOwn=true→env[i]?=some t→i<env.length→(σ++[some (V.ref a)])[i]?=some (some (V.ref a'))→a'≠a:=by
   intro i t ot z1 z2 e3 ea
   rw [app_left (by omega)] at e3
   obtain ⟨a2,h1,h2,_⟩:=o.e.own i t ot z1
   rw [e3] at h1
   cases h1
   exact h2.occ (by rw [ea];exact hn)
  have new:∀ {i:Nat},i=env.length→(σ++[some (V.ref a)])[i]?=some (some (V.ref a'))→a'=a:=by
   intro i hi e3
   rw [hi,hl,app_last] at e3
   cases e3
   rfl
  rcases get_app e1 with ⟨z1,z2⟩|⟨hi,_⟩
  ·rcases get_app e2 with ⟨z3,z4⟩|⟨hj,_⟩
   ·rw [app_left (by omega)] at e3 e4
    exact o.e.apart i j t t' a' ot ot' z1 z3 e3 e4
   ·exact absurd (new hj e4) (old ot z1 z2 e3)
  ·rcases get_app e2 with ⟨z3,z4⟩|⟨hj,_⟩
   ·exact absurd (new hi e3) (old ot' z3 z4 e4)
   ·rw [hi,hj]
 ·rcases hb with hb|rfl
  ·exact x.occ b (o.e.occ b hb)
  ·exact ha.occ
 ·rcases get_app e1 with ⟨z1,z2⟩|⟨rfl,z⟩
  ·rw [app_left (by omega)] at e2
   exact o.o i t a' ot z1 e2
  ·rw [hl,app_last] at e2
   cases e2
   exact fun g=>o.e.occ a (o.g a g) hn
 ·exact ⟨fun b fb bb hb=>⟨(x.keep b fb hb).1,(x.keep b fb hb).2,fun z q=>q.elim z fun e=>hb (by rw [e];exact hn)⟩,x.occ,x.at_⟩
theorem OkS.pushF (o:OkS K w F G B σ H env st)(x:Ext F H F1 H1)(s:SR st1 F1 H1){v:V}{ds:List D}(f:Fresh K w B H F1 H1 v (.lst ds)):∃ B1:Addr→Prop,OkS K w F1 G B1 (σ++[some v]) H1 (env++[.own ds]) st1∧StepS F G B H F1 B1 H1:=by
 obtain ⟨a,xs,ds',rfl,e0,hn,ha,fa,rl⟩:=f
 cases e0
 exact o.pushO x s rfl hn ⟨xs,ha,rl⟩ fa
theorem OkS.pop (o:OkS K w F G B (σ++[some v]) H (env++[s]) st)(hl:env.length=σ.length)(i:Nat):OkS K w F G B (σ.set i (some v)) H (env.set i s) st:=by
 refine o.ren (fun j=>if j=i then env.length else j) (by simp [hl]) (fun j t e=>?_) fun j k t t' ot ot' e1 e2 ef=>?_
 ·right
  rcases get_set e with ⟨rfl,rfl,hlt⟩|⟨ne,e2⟩
  ·simp only [if_true]
   refine ⟨app_last,?_⟩
   rw [hl,app_last,List.getElem?_set_self (by omega)]
  ·have:¬ j=i:=fun e=>ne e.symm
   simp only [this,if_false]
   have hj:=(List.getElem?_eq_some_iff.mp e2).1
   rw [app_left hj,app_left (by omega),List.getElem?_set_ne ne]
   exact ⟨e2,rfl⟩
 ·have hlt:∀ {j:Nat} {t:Slot},(env.set i s)[j]?=some t→j<env.length:=by
   intro j t e
   have:=(List.getElem?_eq_some_iff.mp e).1
   simpa using this
  have l1:=hlt e1
  have l2:=hlt e2
  by_cases h1:j=i<;>by_cases h2:k=i
  ·rw [h1,h2]
  ·simp only [h1,h2,if_true,if_false] at ef;omega
  ·simp only [h1,h2,if_true,if_false] at ef;omega
  ·simpa only [h1,h2,if_false] using ef
theorem OkS.base (o:OkS K w F G B (σ++[v]) H (env++[s]) st)(hl:env.length=σ.length):OkS K w F G B σ H env st:=by
 refine o.ren id hl (fun j t e=>?_) fun j k t t' ot ot' e1 e2 ef=>ef
 have hj:=(List.getElem?_eq_some_iff.mp e).1
 right
 refine ⟨by rw [id,app_left hj];exact e,by rw [id,app_left (by omega)]⟩
theorem OkS.setV (o:OkS K w F G B σ H env st){i:Nat}{v:V}{d:D}(r:Rep K w F B H v d):OkS K w F G B (σ.set i (some v)) H (env.set i (.val d)) st:=(o.pushV r).pop o.e.len i
theorem OkS.frzO (o:OkS K w F G B σ H env st){i:Nat}{s:Slot}(os:s.isOwn=true)(e:env[i]?=some s)
  (hd:∀ {a:Addr},OwnR K w F B H a s→∃ d,s.frz=.val d∧∀ {B':Addr→Prop},¬ F.inn a→¬ B' a→(∀ b,B' b→B b)→Rep K w F B' H (.ref a) d) :
  ∃ B1:Addr→Prop,OkS K w F G B1 σ H (env.set i s.frz) st∧(∀ b,B1 b→B b)∧∀ a,B a→¬ B1 a→¬ F.inn a∧Own H a:=by
 obtain ⟨a,h1,h2,h4,h5⟩:=o.e.own i s os e
 obtain ⟨d,hd1,hd2⟩:=hd h2
 rw [hd1]
 refine ⟨fun b=>B b∧b≠a,⟨⟨by simp [o.e.len],fun j d' ej=>?_,fun j t ot ej=>?_,fun j k t t' a' ot ot' e1 e2 e3 e4=>?_,fun b hb=>o.e.occ b hb.1,o.e.sr⟩,fun b hb=>⟨o.g b hb,fun z=>o.o i s a os e h1 (by rw [← z];exact hb)⟩,fun j t a' ot e1 e2=>?_⟩,fun b hb=>hb.1,fun b hb nb=>?_⟩
 ·rcases get_set ej with ⟨rfl,z,_⟩|⟨ne,z⟩
  ·cases z
   exact ⟨_,h1,hd2 h5 (fun z=>z.2 rfl) fun b hb=>hb.1⟩
  ·obtain ⟨u,k1,k2⟩:=o.e.val j d' z
   exact ⟨u,k1,k2.anti fun b hb=>hb.1⟩
 ·rcases get_set ej with ⟨rfl,z,_⟩|⟨ne,z⟩
  ·subst z;cases ot
  ·obtain ⟨a',k1,k2,k4,k5⟩:=o.e.own j t ot z
   exact ⟨a',k1,k2.move (fun r=>r.anti fun b hb=>hb.1) rfl,⟨k4,fun ea=>ne (o.e.apart i j s t a os ot e z h1 (by rw [← ea];exact k1))⟩,k5⟩
 ·rcases get_set e1 with ⟨_,z,_⟩|⟨ne1,z1⟩
  ·subst z;cases ot
  rcases get_set e2 with ⟨_,z,_⟩|⟨ne2,z2⟩
  ·subst z;cases ot'
  exact o.e.apart j k t t' a' ot ot' z1 z2 e3 e4
 ·rcases get_set e1 with ⟨_,z,_⟩|⟨ne1,z1⟩
  ·subst z;cases ot
  exact o.o j t a' ot z1 e2
 ·have e:b=a:=Classical.byContradiction fun ne=>nb ⟨hb,ne⟩
  subst e
  exact ⟨h5,h2.is⟩
theorem OkS.frz1 (o:OkS K w F G B σ H env st)(i:Nat):∃ B1:Addr→Prop,OkS K w F G B1 σ H (PL.frz1 env i) st∧(∀ b,B1 b→B b)∧∀ a,B a→¬ B1 a→¬ F.inn a∧Own H a:=by
 unfold PL.frz1
 split
 case h_2=>exact ⟨B,o,fun _ h=>h,fun _ h z=>absurd h z⟩
 rename_i s e
 cases s with
 | un =>
  have:env.set i (Slot.frz .un)=env:=List.ext_getElem? fun j=>by
   by_cases h:i=j
   ·subst h;rw [List.getElem?_set_self (List.getElem?_eq_some_iff.mp e).1];exact e.symm
   ·rw [List.getElem?_set_ne h]
  rw [this]
  exact ⟨B,o,fun _ h=>h,fun _ h z=>absurd h z⟩
 | val d =>
  have:env.set i (Slot.frz (.val d))=env:=List.ext_getElem? fun j=>by
   by_cases h:i=j
   ·subst h;rw [List.getElem?_set_self (List.getElem?_eq_some_iff.mp e).1];exact e.symm
   ·rw [List.getElem?_set_ne h]
  rw [this]
  exact ⟨B,o,fun _ h=>h,fun _ h z=>absurd h z⟩
 | own ds=>exact OkS.frzO o rfl e fun h=>⟨_,rfl,fun f b r=>let ⟨xs,h2,h3⟩:=h;.lst h2 f b (h3.anti r)⟩
 | dow ks ds=>exact OkS.frzO o rfl e fun h=>⟨_,rfl,fun f b r=>let ⟨kvs,h2,hq,h3⟩:=h;.dct h2 f b hq.1 (h3.anti r)⟩
theorem OkS.frzs:∀ (is:List Nat) {env:Env} {B:Addr→Prop},OkS K w F G B σ H env st→∃ B1:Addr→Prop,OkS K w F G B1 σ H (PL.freeze env is) st∧(∀ b,B1 b→B b)∧∀ a,B a→¬ B1 a→¬ F.inn a∧Own H a
 | [],env,B,o=>⟨B,o,fun _ h=>h,fun _ h z=>absurd h z⟩
 | i::r,env,B,o=>by
  obtain ⟨B1,o1,l1,k1⟩:=o.frz1 i
  obtain ⟨B2,o2,l2,k2⟩:=OkS.frzs r o1
  exact ⟨B2,o2,fun b h=>l1 b (l2 b h),fun a h z=>(Classical.em (B1 a)).elim (fun h1=>k2 a h1 z) (fun h1=>k1 a h h1)⟩
end
end PL
end
section
namespace PL
open PySem PySem.Spec PyProof.Rows L2
def RQ (K:PySem.W.Frag)(w:World)(XR:XRel)(W:WX)(F:Foot)(G B:Addr→Prop)(H:Hp)(q:PL.Q)(D:Ends):Prop :=
 match q with
 | .next env st=>∀ F' B' σ' H',StepS F G B H F' B' H'→OkS K w F' G B' σ' H' env st→D.nx σ' H'
 | .brk env st=>∀ F' B' σ' H',StepS F G B H F' B' H'→OkS K w F' G B' σ' H' env st→D.bk σ' H'
 | .cnt env st=>∀ F' B' σ' H',StepS F G B H F' B' H'→OkS K w F' G B' σ' H' env st→D.ct σ' H'
 | .ret d st=>∀ v F' B' H',StepS F G B H F' B' H'→(∀ b,G b→B' b)→SR st F' H'→Rep K w F' B' H' v d→D.rt v H'
 | .exc c fs env st=>∀ cls dx F' B' σ' H',StepS F G B H F' B' H'→OkS K w F' G B' σ' H' env st→XR c fs cls dx F' B' H'→W cls dx σ' H'
 | .no=>False
def tS (K:PySem.W.Frag)(w:World)(XR:XRel)(W:WX)(cx:Ctx)(s:S):TS:=fun D σ H=>∃ F G B env st,OkS K w F G B σ H env st∧RQ K w XR W F G B H (evS cx s env st) D
def tSs (K:PySem.W.Frag)(w:World)(XR:XRel)(W:WX)(cx:Ctx)(s:Ss):TS:=fun D σ H=>∃ F G B env st,OkS K w F G B σ H env st∧RQ K w XR W F G B H (evSs cx s env st) D
section
variable {K:PySem.W.Frag}{w:World}{XR:XRel}{W:WX}{cx:Ctx}{F F1:Foot}{G B B1:Addr→Prop}{σ:L2.St}{H H1:Hp}{env:Env}{st:St}{Z:Ends}
theorem RQ.shift {q:PL.Q}(h:RQ K w XR W F G B H q Z)(x:StepS F G B H F1 B1 H1):RQ K w XR W F1 G B1 H1 q Z:=by
 cases q with
 | next env st=>exact fun F' B' σ' H' y o=>h F' B' σ' H' (x.trans y) o
 | brk env st=>exact fun F' B' σ' H' y o=>h F' B' σ' H' (x.trans y) o
 | cnt env st=>exact fun F' B' σ' H' y o=>h F' B' σ' H' (x.trans y) o
 | ret d st=>exact fun v F' B' H' y g s r=>h v F' B' H' (x.trans y) g s r
 | exc c fs env st=>exact fun cls dx F' B' σ' H' y o r=>h cls dx F' B' σ' H' (x.trans y) o r
 | no=>exact h
theorem OkS.use (o:OkS K w F G B σ H env st){e:E}{f:D→St→PL.Q}{Q':VK}(h:RQ K w XR W F G B H ((evE cx e env st).use env f) Z)
  (k:∀ d st' v F' H',Ext F H F' H'→SR st' F' H'→OkS K w F' G B σ H' env st'→Rep K w F' B H' v d→(fresh e=true→Fresh K w B H F' H' v d)→RQ K w XR W F G B H (f d st') Z→Q' v H'):tE K w XR W cx e σ H Q':=by
 refine ⟨F,B,env,st,o.e,?_⟩
 cases q:evE cx e env st with
 | ok d st' =>
  rw [q,R.use_ok] at h
  intro v F' H' x s r fr
  exact k d st' v F' H' x s (o.ext x s) r fr h
 | exc c fs st' =>
  rw [q,R.use_exc] at h
  exact fun cls dx F' H' x s r=>h cls dx F' B σ H' x.step (o.ext x s) r
 | no=>rw [q,R.use_no] at h;exact h
theorem OkS.useF (o:OkS K w F G B σ H env st)(th:Thaw XR)(fz:List Nat){e:E}{f:D→St→PL.Q}{Q':VK}(h:RQ K w XR W F G B H ((R.thaw fz (evE cx e (freeze env fz) st)).use env f) Z)
  (k:∀ d st' v F' H',Ext F H F' H'→SR st' F' H'→OkS K w F' G B σ H' env st'→(d.nol=true∨fz=[]∨(fresh e=true∧d.nolL=true)→Rep K w F' B H' v d)→(∃ B1,Rep K w F' B1 H' v d∧∀ a,B a→¬ B1 a→Own H' a)→(fz=[]→fresh e=true→Fresh K w B H F' H' v d)→RQ K w XR W F G B H (f d st') Z→Q' v H'):tE K w XR W cx e σ H Q':=by
 by_cases hz:fz=[]
 ·subst hz
  exact o.use h fun d st' v F' H' x s o' r fr h=>k d st' v F' H' x s o' (fun _=>r) ⟨_,r,fun _ h z=>absurd h z⟩ (fun _=>fr) h
 ·obtain ⟨B1,o1,l1,k1⟩:=o.frzs fz
  have own':∀ {F':Foot} {H':Hp},Ext F H F' H'→∀ a,B a→¬ B1 a→Own H' a:=fun x a ha na=>by
   obtain ⟨z1,z2⟩:=k1 a ha na
   have hn:H a≠none:=by rcases z2 with ⟨_,e⟩|⟨_,e⟩<;>(rw [e];simp)
   have e:=(x.keep a z1 hn).1
   rcases z2 with ⟨xs,e2⟩|⟨xs,e2⟩
   ·exact .inl ⟨xs,e.trans e2⟩
   ·exact .inr ⟨xs,e.trans e2⟩
  refine ⟨F,B1,PL.freeze env fz,st,o1.e,?_⟩
  cases q:evE cx e (freeze env fz) st with
  | ok d st' =>
   rw [q,R.thaw_ok,R.use_ok] at h
   intro v F' H' x s r fr
   refine k d st' v F' H' x s (o.ext x s) (fun z=>?_) ⟨_,r,own' x⟩ (fun z=>absurd z hz) h
   rcases z with z|z|⟨z1,z2⟩
   ·exact r.nol (own' x) z
   ·exact absurd z hz
   ·obtain ⟨a,xs,ds,rfl,rfl,hn,hx,hf,rl⟩:=fr z1
    exact .lst hx hf (fun hb=>o.e.occ a hb hn) (rl.nol (fun b hb nb=>own' x b hb fun h1=>nb (.inl h1)) z2)
  | exc c fs st' =>
   rw [q] at h
   rcases R.thaw_exc (fz:=fz) (c:=c) (fs:=fs) (st:=st') (α:=PL.D) with ⟨e1,e2⟩|e1
   ·rw [e1,R.use_exc] at h
    exact fun cls dx F' H' x s r=>h cls dx F' B σ H' x.step (o.ext x s) (th _ _ _ _ _ _ _ _ (own' x) (.inl (e2.resolve_left hz)) r)
   ·rw [e1] at h;exact h.elim
  | no=>rw [q,R.thaw_no,R.use_no] at h;exact h
theorem OkS.useT (o:OkS K w F G B σ H env st)(th:Thaw XR)(fz:List Nat){e:E}{f:Bool→St→PL.Q}{Q':Bool→Hp→Prop}(h:RQ K w XR W F G B H ((R.thaw fz (evE cx e (freeze env fz) st)).use env fun x st=>(R.lift x.truth st).use env f) Z)
  (k:∀ t st' F' H',Ext F H F' H'→SR st' F' H'→OkS K w F' G B σ H' env st'→RQ K w XR W F G B H (f t st') Z→Q' t H'):tT K w XR W cx e σ H Q':=by
 obtain ⟨B1,o1,l1,k1,hB1⟩:∃ B1:Addr→Prop,OkS K w F G B1 σ H (PL.freeze env fz) st∧(∀ b,B1 b→B b)∧(∀ a,B a→¬ B1 a→¬ F.inn a∧Own H a)∧(fz=[]→B1=B):=by
  by_cases hz:fz=[]
  ·subst hz
   exact ⟨B,o,fun _ h=>h,fun _ h z=>absurd h z,fun _=>rfl⟩
  ·obtain ⟨B1,o1,l1,k1⟩:=o.frzs fz
   exact ⟨B1,o1,l1,k1,fun z=>absurd z hz⟩
 have own':∀ {F':Foot} {H':Hp},Ext F H F' H'→∀ a,B a→¬ B1 a→Own H' a:=fun x a ha na=>by
  obtain ⟨z1,z2⟩:=k1 a ha na
  have hn:H a≠none:=by rcases z2 with ⟨_,e⟩|⟨_,e⟩<;>(rw [e];simp)
  have e:=(x.keep a z1 hn).1
  rcases z2 with ⟨xs,e2⟩|⟨xs,e2⟩
  ·exact .inl ⟨xs,e.trans e2⟩
  ·exact .inr ⟨xs,e.trans e2⟩
 refine ⟨F,B1,PL.freeze env fz,st,o1.e,?_⟩
 unfold evT
 cases q:evE cx e (freeze env fz) st with
 | ok d st' =>
  rw [q,R.thaw_ok,R.use_ok] at h
  rw [R.bind_ok]
  cases t:d.truth with
  | none=>rw [t] at h;exact h
  | some b =>
   rw [t] at h
   intro F' H' x s
   exact k b st' F' H' x s (o.ext x s) h
 | exc c fs st' =>
  rw [q] at h
  rcases R.thaw_exc (fz:=fz) (c:=c) (fs:=fs) (st:=st') (α:=PL.D) with ⟨e1,e2⟩|e1
  ·rw [e1,R.use_exc] at h
   refine fun cls dx F' H' x s r=>h cls dx F' B σ H' x.step (o.ext x s) (th _ _ _ _ _ _ _ _ (own' x) ?_ r)
   rcases e2 with e2|e2
   ·exact .inr fun a ha=>by rw [hB1 e2];exact ha
   ·exact .inl e2
  ·rw [e1] at h;exact h.elim
 | no=>rw [q,R.thaw_no,R.use_no] at h;exact h
end
section
variable {X:Cx}{pr:Prog}{XR:XRel}{C:SC}{n:Nat}{W:WX}{cx:Ctx}
variable {p q r:Expr}{ps:List Expr}{a b c e:E}{es:Es}{pos:Pos}
abbrev gS (X:Cx)(XR:XRel)(W:WX)(cx:Ctx)(s:S):TS:=tS X.K X.w XR W cx s
abbrev gSs (X:Cx)(XR:XRel)(W:WX)(cx:Ctx)(s:Ss):TS:=tSs X.K X.w XR W cx s
theorem s_ret (he:PE X p (gE X XR W cx e)):PS X (.Return (some p) pos) (gS X XR W cx (.ret e)):=PS.of (ps_ret he) fun D σ H h=>by
 obtain ⟨F,G,B,env,st,ok,h⟩:=h
 unfold evS at h
 refine ok.use h fun d st' v F' H' x s o r fr h=>?_
 exact h v F' B H' x.step o.g s r
theorem swaps_no (hp:isLC p=false)(t:Option Expr)(l:Nat)(env:PySem.Env):swapsWith p t l env=pure false:=by
 cases p<;>first|rfl|(simp [isLC] at hp)
theorem swaps_tup (ts:List Expr)(k:Nat)(pt:Pos)(l:Nat)(env:PySem.Env):swapsWith p (some (.Tuple ts k pt)) l env=pure false:=by
 cases p<;>rfl
theorem s_exp (hp:isLC p=false)(he:PE X p (gE X XR W cx e)):PS X (.Expr p pos) (gS X XR W cx (.exp e)):=PS.of (ps_expr he (swaps_no hp _ _ _)) fun D σ H h=>by
 obtain ⟨F,G,B,env,st,ok,h⟩:=h
 unfold evS at h
 refine ok.use h fun d st' v F' H' x s o r fr h=>?_
 exact h F' B σ H' x.step o
theorem put_in {own:Bool}{i:Nat}(hf:own=true→fresh e=true){D:Ends}{σ:L2.St}{H:Hp}(h:gS X XR W cx (.asg own i e) D σ H):gE X XR W cx e σ H fun x H1=>gName i x σ H1 D.nx:=by
 obtain ⟨F,G,B,env,st,ok,h⟩:=h
 unfold evS at h
 refine ok.use h fun d st' v F' H' x s o r fr h=>?_
 have plain:mk own d=.val d→D.nx (σ.set i (some v)) H':=fun e=>by
  rw [e] at h
  exact h F' B _ H' x.step (o.setV r)
 cases own with
 | false=>exact plain rfl
 | true =>
  cases d with
  | lst ds =>
   obtain ⟨B1,o1,s1⟩:=ok.pushF x s (fr (hf rfl))
   exact h F' B1 _ H' s1 (o1.pop ok.e.len i)
  | _=>exact plain rfl
theorem s_asg {own:Bool}{i:Nat}{x:Str}{px:Pos}(hN:X.N.Nodup)(hi:X.N[i]?=some x)(hx:Loc X.env.scope x)(hfn:X.fn x=true∨X.env.scope.names.lookup x=some .local)(hf:own=true→fresh e=true)(hs:swapsWith p (some (.Name x px)) pos.line X.env=pure false)
  (he:PE X p (gE X XR W cx e)):PS X (.Assign [.Name x px] p pos) (gS X XR W cx (.asg own i e)) :=
 PS.of (ps_set hN hi hx he hs hfn) fun D σ H h=>put_in hf h
theorem s_ite (th:Thaw XR){fz:List Nat}{a b:Ss}{pa pb:List Stmt}(hc:PT X p (gT X XR W cx c))(ha:PSs X pa (gSs X XR W cx a))(hb:PSs X pb (gSs X XR W cx b)):PS X (.If p pa pb pos) (gS X XR W cx (.ite fz c a b)) :=
 PS.of (ps_if hc ha hb) fun D σ H h=>by
  obtain ⟨F,G,B,env,st,ok,h⟩:=h
  unfold evS at h
  refine ok.useT th fz h fun t st' F' H' x s o h=>?_
  cases t with
  | true=>simp only [if_true] at h ⊢;exact ⟨F',G,B,env,st',o,h.shift x.step⟩
  | false=>simp only [Bool.false_eq_true,if_false] at h ⊢;exact ⟨F',G,B,env,st',o,h.shift x.step⟩
theorem use_bind {fz:List Nat}{env:Env}{st:St}{f:Bool→St→PL.Q}:((R.thaw fz (evE cx c (freeze env fz) st)).bind fun x st=>R.lift x.truth st).use env f=(R.thaw fz (evE cx c (freeze env fz) st)).use env fun x st=>(R.lift x.truth st).use env f:=by
 cases R.thaw fz (evE cx c (freeze env fz) st)<;>rfl
theorem s_whl (th:Thaw XR)(hp:PassesOwn (model X.prog X.w) X.A X.env X.xe){fz:List Nat}{b:Ss}{pb:List Stmt}(hc:PT X p (gT X XR W cx c))(hb:PSs X pb (gSs X XR W cx b)):PS X (.While p pb [] pos) (gS X XR W cx (.whl fz c b)) :=
 PS.of (ps_while hp hc hb) fun D σ H h=>by
  obtain ⟨F,G,B,env,st,ok,h⟩:=h
  unfold evS at h
  generalize turns=m0 at h
  refine ⟨fun m σ H=>∃ F B env st,OkS X.K X.w F G B σ H env st∧RQ X.K X.w XR W F G B H (whlL (whlTest (evE cx c) fz) (evSs cx b) m env st) D,⟨m0,F,B,env,st,ok,h⟩,?_⟩
  clear h ok
  rintro m σ H ⟨F,B,env,st,ok,h⟩
  cases m with
  | zero=>exact h.elim
  | succ m =>
   unfold whlL whlTest at h
   rw [use_bind] at h
   refine ok.useT th fz h fun t st' F' H' x s o h=>?_
   cases t with
   | false=>simp only [Bool.false_eq_true,if_false] at h ⊢;exact h F' B σ H' x.step o
   | true =>
    simp only [if_true] at h ⊢
    refine ⟨fun σ H=>∃ F B env st,OkS X.K X.w F G B σ H env st∧RQ X.K X.w XR W F G B H (whlL (whlTest (evE cx c) fz) (evSs cx b) m env st) D,fun σ' H' n=>⟨m,Nat.lt_succ_self m,n⟩,F',G,B,env,st',o,?_⟩
    have h:=h.shift x.step
    cases q:evSs cx b env st' with
    | next env2 st2=>rw [q] at h;exact fun F2 B2 σ2 H2 y o2=>⟨F2,B2,env2,st2,o2,h.shift y⟩
    | cnt env2 st2=>rw [q] at h;exact fun F2 B2 σ2 H2 y o2=>⟨F2,B2,env2,st2,o2,h.shift y⟩
    | brk env2 st2=>rw [q] at h;exact fun F2 B2 σ2 H2 y o2=>h F2 B2 σ2 H2 y o2
    | ret d st2=>rw [q] at h;exact h
    | exc c fs env2 st2=>rw [q] at h;exact h
    | no=>rw [q] at h;exact h
theorem s_for (Gd:Good X pr XR C n)(hcal:C.cal=true)(hp:PassesOwn (model X.prog X.w) X.A X.env X.xe){it:It}{tg:Tg}{b:Ss}{pt pi:Expr}{pb:List Stmt}(hs:∀ x,foldedSetIterable pi X.env x=pure x)(hi:PI X pt pi (gI X XR W cx it))(ht:PG X pt (tG X.K X.w tg))(hb:PSs X pb (gSs X XR W cx b)) :
  PS X (.For pt pi pb [] pos) (gS X XR W cx (.for_ tg it b)) :=
 PS.of (ps_for hp (Gd.calm hcal) hi ht hb hs) fun D σ H h=>by
  obtain ⟨F,G,B,env,st,ok,h⟩:=h
  unfold evS at h
  refine ⟨F,B,env,st,ok.e,?_⟩
  cases q:evI cx it env st with
  | exc c fs st' =>
   rw [q,R.use_exc] at h
   exact fun cls dx F' H' x s r=>h cls dx F' B σ H' x.step (ok.ext x s) r
  | no=>rw [q,R.use_no] at h;exact h
  | ok ds st1 =>
   rw [q,R.use_ok] at h
   intro J F1 H1 x1 sr1 yl
   have ok1:=ok.ext x1 sr1
   generalize hf:forStep (evSs cx b) tg=f at h
   have fe:∀ d env st,f d env st=Q.opt (putT tg d env) fun env=>evSs cx b env st:=fun d env st=>by rw [← hf];rfl
   refine ⟨fun i m σ H2=>m=ds.length-i∧i≤ds.length∧∃ F2 B2 env st,OkS X.K X.w F2 G B2 σ H2 env st∧Lat F1 B H1 F2 B2 H2∧RQ X.K X.w XR W F2 G B2 H2 (forL f (ds.drop i) env st) D,⟨ds.length,by simp,Nat.zero_le _,F1,B,env,st1,ok1,Lat.refl,by rw [List.drop_zero];exact h.shift x1.step⟩,?_⟩
   clear h ok ok1
   rintro i m σ H2 ⟨rfl,hi2,F2,B2,env,st,ok2,lat,h⟩
   obtain ⟨go,stop⟩:=yl F2 B2 H2 lat i
   by_cases hlt:i<ds.length
   ·obtain ⟨go1,go2⟩:=go _ (List.getElem?_eq_getElem hlt)
    refine .inr ⟨go1,fun σ' H'=>∃ F2 B2 env st,OkS X.K X.w F2 G B2 σ' H' env st∧Lat F1 B H1 F2 B2 H'∧RQ X.K X.w XR W F2 G B2 H' (forL f (ds.drop (i+1)) env st) D,fun σ' H' t=>⟨ds.length-(i+1),by omega,rfl,hlt,t⟩,fun x H3 hx=>?_⟩
    obtain ⟨x3,s3,rx⟩:=go2 x H3 hx ok2.e.sr.occ ok2.e.occ
    have ok3:=ok2.ext x3 (ok2.e.sr.keep s3)
    rw [List.drop_eq_getElem_cons hlt] at h
    unfold forL at h
    rw [fe] at h
    have h:=h.shift (B1:=B2) x3.step
    cases q3:putT tg ds[i] env with
    | none=>rw [q3] at h;exact h.elim
    | some env' =>
     rw [q3,Q.opt_some] at h
     refine ⟨F2,B2,env,st,_,env',ok3.e,rx,q3,fun σ2 okg _ _ og=>?_⟩
     have okS:OkS X.K X.w F2 G B2 σ2 H3 env' st:=⟨okg,ok3.g,fun j s a os e1 e2=>by
      obtain ⟨z1,z2⟩:=og j s a os e1 e2
      exact ok3.o j s a os z1 z2⟩
     refine ⟨F2,G,B2,env',st,okS,?_⟩
     have lat3:Lat F1 B H1 F2 B2 H3:=lat.trans x3.lat
     cases q4:evSs cx b env' st with
     | next env2 st2=>rw [q4] at h;exact fun F5 B5 σ5 H5 y o5=>⟨F5,B5,env2,st2,o5,lat3.trans y.lat,h.shift y⟩
     | cnt env2 st2=>rw [q4] at h;exact fun F5 B5 σ5 H5 y o5=>⟨F5,B5,env2,st2,o5,lat3.trans y.lat,h.shift y⟩
     | brk env2 st2=>rw [q4] at h;exact fun F5 B5 σ5 H5 y o5=>h F5 B5 σ5 H5 y o5
     | ret d st2=>rw [q4] at h;exact h
     | exc c fs env2 st2=>rw [q4] at h;exact h
     | no=>rw [q4] at h;exact h
   ·have hii:i=ds.length:=by omega
    subst hii
    refine .inl ⟨stop rfl,?_⟩
    rw [List.drop_length] at h
    exact h F2 B2 σ H2 StepS.refl ok2
theorem ss_nil:PSs X [] (gSs X XR W cx .nil):=PSs.of pss_nil fun D σ H h=>by
 obtain ⟨F,G,B,env,st,ok,h⟩:=h
 exact h F B σ H StepS.refl ok
theorem ss_cons {s:S}{rs:Ss}{pst:Stmt}{rest:List Stmt}(h1:PS X pst (gS X XR W cx s))(h2:PSs X rest (gSs X XR W cx rs)):PSs X (pst::rest) (gSs X XR W cx (.cons s rs)) :=
 PSs.of (pss_cons h1 h2) fun D σ H h=>by
  obtain ⟨F,G,B,env,st,ok,h⟩:=h
  unfold evSs at h
  refine ⟨F,G,B,env,st,ok,?_⟩
  cases q:evS cx s env st with
  | next env2 st2=>rw [q,Q.then_next] at h;exact fun F2 B2 σ2 H2 y o2=>⟨F2,G,B2,env2,st2,o2,h.shift y⟩
  | cnt env2 st2=>rw [q,Q.then_cnt] at h;exact h
  | brk env2 st2=>rw [q,Q.then_brk] at h;exact h
  | ret d st2=>rw [q,Q.then_ret] at h;exact h
  | exc c fs env2 st2=>rw [q,Q.then_exc] at h;exact h
  | no=>rw [q,Q.then_no] at h;exact h
theorem ss_frz {fz:List Nat}{rs:Ss}{rest:List Stmt}(h2:PSs X rest (gSs X XR W cx rs)):PSs X rest (gSs X XR W cx (.cons (.frz fz) rs)) :=
 PSs.of h2 fun D σ H h=>by
  obtain ⟨F,G,B,env,st,ok,h⟩:=h
  unfold evSs evS at h
  rw [Q.then_next] at h
  obtain ⟨B1,o1,l1,k1⟩:=ok.frzs fz
  exact ⟨F,G,B1,freeze env fz,st,o1,h.shift (StepS.less l1)⟩
end
end PL
end
section
namespace PL
open PySem PySem.Spec PyProof.Rows L2
section
variable {K:PySem.W.Frag}{w:World}{F F1:Foot}{G B:Addr→Prop}{σ:L2.St}{H H1:Hp}{env:Env}{st st1:St}
theorem OkS.growO (o:OkS K w F G B σ H env st){i:Nat}{s s':Slot}{a:Addr}{ob:HO}(os:s.isOwn=true)(os':s'.isOwn=true)(e:env[i]?=some s)(hs:σ[i]?=some (some (V.ref a)))
  (r:(∀ {vs:List V} {ds:List D},RepL K w F B H vs ds→RepL K w F B (upd H a ob) vs ds)→OwnR K w F B (upd H a ob) a s') :
  OkS K w F G B σ (upd H a ob) (env.set i s') st∧StepS F G B H F B (upd H a ob):=by
 obtain ⟨a0,h1,h2,h4,h5⟩:=o.e.own i s os e
 rw [hs] at h1
 cases h1
 have mv:∀ {v:V} {d:D},Rep K w F B H v d→Rep K w F B (upd H a ob) v d:=fun r=>r.move (fun b f bb hn=>⟨upd_ne fun z=>bb (by rw [z];exact h4),f,bb⟩) fun _ e=>e
 have mvl:∀ {v:List V} {d:List D},RepL K w F B H v d→RepL K w F B (upd H a ob) v d:=fun r=>r.move (fun b f bb hn=>⟨upd_ne fun z=>bb (by rw [z];exact h4),f,bb⟩) fun _ e=>e
 have back:∀ {j:Nat} {t:Slot},t.isOwn=true→(env.set i s')[j]?=some t→∃ t':Slot,t'.isOwn=true∧env[j]?=some t':=by
  intro j t ot ej
  rcases get_set ej with ⟨rfl,z,_⟩|⟨ne,z⟩
  ·exact ⟨s,os,e⟩
  ·exact ⟨t,ot,z⟩
 refine ⟨⟨⟨by simp [o.e.len],fun j d' ej=>?_,fun j t ot ej=>?_,fun j k t t' a' ot ot' e1 e2 e3 e4=>?_,fun b hb=>upd_occ (o.e.occ b hb),o.e.sr.keep fun b hb=>upd_ne fun z=>h5 (by rw [← z];exact hb)⟩,o.g,fun j t a' ot e1 e2=>?_⟩,?_⟩
 ·rcases get_set ej with ⟨rfl,z,_⟩|⟨ne,z⟩
  ·subst z;cases os'
  ·obtain ⟨v,k1,k2⟩:=o.e.val j d' z
   exact ⟨v,k1,mv k2⟩
 ·rcases get_set ej with ⟨rfl,z,_⟩|⟨ne,z⟩
  ·subst z
   exact ⟨a,hs,r mvl,h4,h5⟩
  ·obtain ⟨a',k1,k2,k4,k5⟩:=o.e.own j t ot z
   have hne:a'≠a:=fun ea=>ne (o.e.apart i j s t a os ot e z hs (by rw [← ea];exact k1))
   exact ⟨a',k1,k2.move mvl (upd_ne hne),k4,k5⟩
 ·obtain ⟨x1,y1,z1⟩:=back ot e1
  obtain ⟨x2,y2,z2⟩:=back ot' e2
  exact o.e.apart j k _ _ a' y1 y2 z1 z2 e3 e4
 ·obtain ⟨x1,y1,z1⟩:=back ot e1
  exact o.o j _ a' y1 z1 e2
 ·refine ⟨fun b f bb hn=>⟨upd_ne fun z=>?_,f,fun z=>z⟩,fun b hb=>upd_occ hb,fun _ e=>e⟩
  rw [z] at bb
  rcases bb with bb|bb
  ·exact bb h4
  ·exact o.o i s a os e hs bb
theorem OkS.grow (o:OkS K w F G B σ H env st){i:Nat}{ds ds':List D}{a:Addr}{xs xs':List V}(e:env[i]?=some (Slot.own ds))(hs:σ[i]?=some (some (V.ref a)))(ha:H a=some (.lst xs))(r:RepL K w F B H xs' ds') :
  OkS K w F G B σ (upd H a (.lst xs')) (env.set i (.own ds')) st∧StepS F G B H F B (upd H a (.lst xs')) :=
 o.growO rfl rfl e hs fun m=>⟨xs',upd_same,m r⟩
theorem OkS.pushM (o:OkS K w F G B σ H env st)(x:Ext F H F1 H1)(s:SR st1 F1 H1){v:V}{d:D}{own:Bool}(r:Rep K w F1 B H1 v d)(fr:own=true→Fresh K w B H F1 H1 v d) :
  ∃ B1:Addr→Prop,OkS K w F1 G B1 (σ++[some v]) H1 (env++[PL.mk own d]) st1∧StepS F G B H F1 B1 H1:=by
 have plain:PL.mk own d=.val d→∃ B1:Addr→Prop,OkS K w F1 G B1 (σ++[some v]) H1 (env++[PL.mk own d]) st1∧StepS F G B H F1 B1 H1:=fun e=>⟨B,by rw [e];exact (o.ext x s).pushV r,x.step⟩
 cases own with
 | false=>exact plain rfl
 | true =>
  cases d with
  | lst ds=>exact o.pushF x s (fr rfl)
  | _=>exact plain rfl
theorem set_app {α:Type}{l:List α}{x y:α}{j:Nat}(h:j<l.length):(l++[x]).set j y=l.set j y++[x]:=by
 rw [List.set_append]
 simp [h]
end
section
variable {X:Cx}{pr:Prog}{XR:XRel}{C:SC}{n:Nat}{W:WX}{cx:Ctx}
variable {p q r:Expr}{ps:List Expr}{a b c e:E}{es:Es}{pos:Pos}
theorem swap_eq (Gd:Good X pr XR C n){ts:List Expr}{k:Nat}{p:Pos}{v:Expr}{o:Option (List Str)}(h:swapC C.sc [.Tuple ts k p] v=some o):swappedStores [.Tuple ts k p] v X.env=pure o:=by
 have hb:X.env.blockKind=.function:=by unfold Env.blockKind;rw [Gd.kind];rfl
 have hk:∀ x,X.env.kindOf x=C.sc.names.lookup x:=fun x=>by show X.env.scope.names.lookup x=_;rw [Gd.sc]
 cases v
 case Tuple vs k2 p2 =>
  unfold swapC at h
  unfold swappedStores
  simp only [hk,hb] at h ⊢
  simp only [show ((ScopeKind.function:ScopeKind) != ScopeKind.function)=false from rfl,Bool.or_false]
  split at h
  ·rename_i z
   cases h
   exact if_pos z
  rename_i z1
  refine Eq.trans (if_neg z1) ?_
  split at h
  ·rename_i z
   cases h
   exact if_pos z
  rename_i z2
  refine Eq.trans (if_neg z2) ?_
  split at h
  ·rename_i z
   cases h
   exact if_pos z
  rename_i z3
  refine Eq.trans (if_neg z3) ?_
  split at h
  ·rename_i z
   cases h
   exact if_pos z
  rename_i z4
  refine Eq.trans (if_neg z4) ?_
  split at h
  ·cases h
  rename_i z5
  refine Eq.trans (if_neg z5) ?_
  cases h
  rfl
 all_goals
  have h':(some none:Option (Option (List Str)))=some o:=h
  cases h'
  rfl
end
end PL
end
section
namespace PL
open PySem PySem.Spec PyProof.Rows L2
section
variable {X:Cx}{pr:Prog}{XR:XRel}{C:SC}{n:Nat}{W:WX}{cx:Ctx}
variable {p q r:Expr}{ps:List Expr}{a b c e:E}{es:Es}{pos:Pos}
theorem s_asgT (Gd:Good X pr XR C n){tg:Tg}{ts:List Expr}{k:Nat}{pt:Pos}(hw:swapC C.sc [.Tuple ts k pt] p=some none)(hg:PG X (.Tuple ts k pt) (tG X.K X.w tg))(he:PE X p (gE X XR W cx e)) :
  PS X (.Assign [.Tuple ts k pt] p pos) (gS X XR W cx (.asgT tg e)) :=
 PS.of (ps_asg he hg (by unfold swapsWithSole;exact swaps_tup _ _ _ _ _) (swap_eq Gd hw) rfl) fun D σ H h=>by
  obtain ⟨F,G,B,env,st,ok,h⟩:=h
  unfold evS at h
  refine ok.use h fun d st' v F' H' x s o r fr h=>?_
  cases q1:putT tg d env with
  | none=>rw [q1] at h;exact h.elim
  | some env' =>
   rw [q1,Q.opt_some] at h
   refine ⟨F',B,env,st',d,env',o.e,r,q1,fun σ' okg _ _ og=>?_⟩
   exact h F' B σ' H' x.step ⟨okg,o.g,fun j s a os e1 e2=>by
    obtain ⟨z1,z2⟩:=og j s a os e1 e2
    exact o.o j s a os z1 z2⟩
theorem s_par2 (Gd:Good X pr XR C n)(hcal:C.cal=true){o1 o2:Bool}{i j:Nat}{x y:Str}{px py pt p2:Pos}{k k2:Nat}(h1:o1=true→fresh a=true)(h2:o2=true→fresh b=true)(hi:C.N[i]?=some x)(hj:C.N[j]?=some y)(hij:i≠j)
  (lx:C.sc.names.lookup x=some .local) (ly:C.sc.names.lookup y=some .local) (hw:swapC C.sc [.Tuple [.Name x px,.Name y py] k pt] (.Tuple [p,q] k2 p2)=some (some [x,y])) (hs1:isStar p=false) (hs2:isStar q=false)
  (ha:PE X p (gE X XR W cx a)) (hb:PE X q (gE X XR W cx b)):PS X (.Assign [.Tuple [.Name x px,.Name y py] k pt] (.Tuple [p,q] k2 p2) pos) (gS X XR W cx (.par2 o1 o2 i j a b)):=by
 refine PS.of (ps_par (Gd.calm hcal) Gd.nd (by rw [Gd.N];exact hi) (by rw [Gd.N];exact hj) hij (by rw [Gd.sc];exact lx) (by rw [Gd.sc];exact ly) (pa_cons ha (pa_cons hb pa_nil (star_ns hs2 _ _)) (star_ns hs1 _ _)) (swap_eq Gd hw) rfl) fun D σ H h=>?_
 obtain ⟨F,G,B,env,st,ok,h⟩:=h
 unfold evS at h
 have hl:=ok.e.len
 show gE X XR W cx a σ H fun v H1=>gE X XR W cx b σ H1 fun u H2=>∃ v' w',[v,u]=[v',w']∧D.nx ((σ.set i (some v')).set j (some w')) H2
 refine ok.use h fun d1 st1 v F1 H1 x1 s1 ok1 r1 fr1 h=>?_
 obtain ⟨B1,okp,t1⟩:=ok.pushM x1 s1 r1 (own:=o1) fun z=>fr1 (h1 z)
 refine (okp.base hl).use (h.shift t1) fun d2 st2 u F2 H2 x2 s2 ok2 r2 fr2 h=>?_
 obtain ⟨B2,okq,t2⟩:=okp.pushM x2 s2 r2 (own:=o2) fun z=>fr2 (h2 z)
 split at h
 ·rename_i hz
  obtain ⟨z1,z2,z3⟩:=hz
  have f1:=okq.pop (by simp [hl]) j
  rw [set_app (by omega),set_app z2] at f1
  have f2:=f1.pop (by simp [hl]) i
  rw [List.set_comm _ _ (Ne.symm z3),List.set_comm _ _ (Ne.symm z3)] at f2
  exact ⟨v,u,rfl,h F2 B2 _ H2 t2 f2⟩
 ·exact h.elim
theorem s_asgT2 (Gd:Good X pr XR C n)(hcal:C.cal=true){o1 o2:Bool}{i j:Nat}{x y:Str}{px py pt p2:Pos}{k k2:Nat}(h1:o1=true→fresh a=true)(h2:o2=true→fresh b=true)(hi:C.N[i]?=some x)(hj:C.N[j]?=some y)(hij:i≠j)
  (lx:C.st x=true) (ly:C.st y=true) (hw:swapC C.sc [.Tuple [.Name x px,.Name y py] k pt] (.Tuple [p,q] k2 p2)=some none) (hs1:isStar p=false) (hs2:isStar q=false)
  (ha:PE X p (gE X XR W cx a)) (hb:PE X q (gE X XR W cx b)):PS X (.Assign [.Tuple [.Name x px,.Name y py] k pt] (.Tuple [p,q] k2 p2) pos) (gS X XR W cx (.asgT2 o1 o2 i j a b)):=by
 obtain ⟨lx1,lx2⟩:=Gd.st _ lx
 obtain ⟨ly1,ly2⟩:=Gd.st _ ly
 refine PS.of (ps_asg (pe_tup (pa_cons ha (pa_cons hb pa_nil (star_ns hs2 _ _)) (star_ns hs1 _ _))) (pg_tup (Gd.calm hcal) (pgs_cons (pg_name (i:=i) Gd.nd (by rw [Gd.N];exact hi) lx1 lx2) (pgs_cons (pg_name (i:=j) Gd.nd (by rw [Gd.N];exact hj) ly1 ly2) pgs_nil rfl) rfl) rfl rfl) (by unfold swapsWithSole;exact swaps_no (by rfl) _ _ _) (swap_eq Gd hw) rfl) fun D σ H h=>?_
 obtain ⟨F,G,B,env,st,ok,h⟩:=h
 unfold evS at h
 have hl:=ok.e.len
 show gE X XR W cx a σ H fun v H1=>gE X XR W cx b σ H1 fun u H2=>[v,u].length≤sizeLine∧∀ t,H2 t=none→gTup X.K 2 (gCons (gName i) (gCons (gName j) gNil)) (.ref t) σ (upd H2 t (.tup [v,u])) D.nx
 refine ok.use h fun d1 st1 v F1 H1 x1 s1 ok1 r1 fr1 h=>?_
 obtain ⟨B1,okp,t1⟩:=ok.pushM x1 s1 r1 (own:=o1) fun z=>fr1 (h1 z)
 refine (okp.base hl).use (h.shift t1) fun d2 st2 u F2 H2 x2 s2 ok2 r2 fr2 h=>?_
 obtain ⟨B2,okq,t2⟩:=okp.pushM x2 s2 r2 (own:=o2) fun z=>fr2 (h2 z)
 split at h
 ·rename_i hz
  obtain ⟨z1,z2,z3⟩:=hz
  have f1:=okq.pop (by simp [hl]) j
  rw [set_app (by omega),set_app z2] at f1
  have f2:=f1.pop (by simp [hl]) i
  rw [List.set_comm _ _ (Ne.symm z3),List.set_comm _ _ (Ne.symm z3)] at f2
  refine ⟨by rw [sizeLine_eq];exact (by decide:2≤16777216),fun t ht=>?_⟩
  have xt:Ext F2 H2 F2 (upd H2 t (.tup [v,u])):=Ext.new ht
  exact ⟨t,[v,u],rfl,.of upd_same,rfl,v,[u],rfl,u,[],rfl,rfl,h F2 B2 _ _ (t2.trans xt.step) (f2.ext xt (f2.e.sr.new ht))⟩
 ·exact h.elim
theorem own_at {K:PySem.W.Frag}{w:World}{F:Foot}{G B:Addr→Prop}{σ:L2.St}{H:Hp}{env:Env}{st:St}{i:Nat}{ds:List D}(ok:OkS K w F G B σ H env st)(e:ownAt env i=some ds) :
  env[i]?=some (.own ds)∧∃ a xs,σ[i]?=some (some (.ref a))∧H a=some (.lst xs)∧RepL K w F B H xs ds∧B a∧¬ F.inn a:=by
 have e':env[i]?=some (.own ds):=by
  unfold ownAt at e
  split at e
  ·cases e;assumption
  ·cases e
 obtain ⟨a,h1,⟨xs,h2,h3⟩,h4,h5⟩:=ok.e.own i _ rfl e'
 exact ⟨e',a,xs,h1,h2,h3,h4,h5⟩
theorem m1_few {e:Expr}(h:isStar e=false)(cpos:Pos)(env:PySem.Env):((backTo cpos (starEach [e] env)).all (fun x=>!x.1)&&(backToKw cpos (keywordEach [] env)).all (fun x=>x.1.isSome)
  && decide (([e]:List Expr).length+([]:List Keyword).length+(if ([]:List Keyword).isEmpty then 0 else 1)<30))=true:=by
 rw [star_ns h];rfl
theorem disp_fresh {e:E}(h:e.disp=true):fresh e=true:=by
 cases e<;>first|rfl|exact (Bool.false_ne_true h).elim
theorem s_app (Gd:Good X pr XR C n){fz:List Nat}{i:Nat}{x:Str}{px apos cpos:Pos}(hl:(apos.endLine==cpos.line)=true)(hx:okName x=true)(hv:Vis X.env.scope x)(hN:C.N[i]?=some x)(hs:isStar p=false)(he:PE X p (gE X XR W cx e)) :
  PS X (.Expr (.Call (.Attribute (.Name x px) "append" apos) [p] [] cpos) pos) (gS X XR W cx (.app fz i e)) := by
 unfold okName at hx
 simp only [Bool.and_eq_true,Bool.not_eq_true'] at hx
 have star:=star_ns hs [] X.env
 refine PS.of (ps_expr (pe_bm PySem.F.plainAttrs_list PySem.F.slot_list_append PySem.F.type_list_append mt_append (pe_var (by rw [Gd.N];exact hN) hv hx.1 hx.2.1) (pa_cons he pa_nil star) rfl (m1_few hs _ _) hl star rfl) rfl) fun D σ H h=>?_
 obtain ⟨F,G,B,env,st,ok,h⟩:=h
 unfold evS at h
 cases q1:ownAt env i with
 | none=>rw [q1] at h;exact h.elim
 | some ds =>
  rw [q1,Q.opt_some] at h
  obtain ⟨e1,a,xs,h1,h2,h3,h4,h5⟩:=own_at ok q1
  refine ⟨_,h1,.inl ⟨rfl,xs,.of h2⟩,?_⟩
  show gE X XR W cx e σ H fun v H1=>rAppend (.ref a) [v] H1 fun _ H2=>D.nx σ H2
  refine ok.useF Gd.anti fz h fun d st1 v F1 H1 x1 s1 ok1 r1 _ _ h=>?_
  split at h
  ·rename_i hz
   have k:=x1.keep a h5 (by rw [h2];simp)
   have h2':H1 a=some (.lst xs):=by rw [k.1];exact h2
   have l3:=h3.ext x1
   have hq:d.nol=true∨fz=[]∨(fresh e=true∧d.nolL=true):=by
    rcases hz.2 with z|z|⟨z1,z2⟩
    ·exact .inr (.inl z)
    ·exact .inl z
    ·exact .inr (.inr ⟨disp_fresh z1,z2⟩)
   obtain ⟨g1,g2⟩:=ok1.grow e1 h1 h2' (l3.append (.cons (r1 hq) .nil))
   exact ⟨a,xs,v,rfl,rfl,h2',by rw [l3.length,← lineEq];exact hz.1,h F1 B σ _ (x1.step.trans g2) g1⟩
  ·exact h.elim
end
end PL
end
section
namespace PL
open PySem PySem.Spec PyProof.Rows L2
section
variable {X:Cx}{pr:Prog}{XR:XRel}{C:SC}{n:Nat}{W:WX}{cx:Ctx}
variable {p q r:Expr}{ps:List Expr}{a b c e:E}{es:Es}{pos:Pos}
section
end
inductive PCs (X:Cx) (XR:XRel) (W:WX) (cx:Ctx) (C:SC):Cs→List MatchCase→Prop
 | nil:PCs X XR W cx C .nil []
 | cons {p:Pat} {b:Ss} {r:Cs} {pp:Pattern} {pb:List Stmt} {pr:List MatchCase} (hp:chkP C p pp=true) (hb:PSs X pb (gSs X XR W cx b)) (t:PCs X XR W cx C r pr):PCs X XR W cx C (.cons p b r) (⟨pp,none,pb⟩::pr)
theorem s_asgL (Gd:Good X pr XR C n)(hcal:C.cal=true){own:Bool}{i:Nat}{x:Str}{px:Pos}{e:E}{tg:Tg}{it:It}{c:Eo}{ow:List Nat}{pe ptg pit:Expr}{ifs:List Expr}{scope:Scope}{lpos:Pos}
  (hN:C.N[i]?=some x) (lx:C.sc.names.lookup x=some .local) (hw:lcSwap C.sc x px (.ListComp pe [⟨ptg,pit,ifs,0⟩] scope lpos)=true)
  (hi:PI X ptg pit (gI X XR W cx it)) (bok:BlkOk X.N X.env.scope scope (ownN C.N ow)) (hown:(ownN C.N ow).map (·.2)=ow) (htg:tgIn ow tg=true)
  (hg:∀ (s:Shared) (H:Hp) (Ca:Addr) (cl:List (Str × Addr)) (fp:List Addr),PG (X.blk s H scope (compEnvC scope cl Ca X.env) fp) ptg (tG X.K X.w tg))
  (ht:∀ (s:Shared) (H:Hp) (Ca:Addr) (cl:List (Str × Addr)) (fp:List Addr),PTs (X.blk s H scope (compEnvC scope cl Ca X.env) fp) ifs (tBo X.K X.w XR WF cx c))
  (he:∀ (s:Shared) (H:Hp) (Ca:Addr) (cl:List (Str × Addr)) (fp:List Addr),PE (X.blk s H scope (compEnvC scope cl Ca X.env) fp) pe (tE X.K X.w XR WF cx e))
  (hs:∀ x,foldedSetIterable pit X.env x=pure x):PS X (.Assign [.Name x px] (.ListComp pe [⟨ptg,pit,ifs,0⟩] scope lpos) pos) (gS X XR W cx (.asg own i (.lc e tg it c ow))):=by
 unfold lcSwap at hw
 simp only [Bool.and_eq_true,Bool.not_eq_true'] at hw
 refine PS.of (ps_setLc (Gd.calm hcal) Gd.nd (by rw [Gd.N];exact hN) (by rw [Gd.sc];exact lx) (sw_true Gd.kind (by rw [Gd.sc];exact lx) hw.2.1 hw.2.2) hi bok hg ht he hs) fun D σ H h=>?_
 rw [hown]
 exact lc_in Gd htg (put_in (fun _=>rfl) h)
theorem s_asgL2 (Gd:Good X pr XR C n)(hcal:C.cal=true){own:Bool}{i:Nat}{x:Str}{px:Pos}{e:E}{tg tg1:Tg}{it it1:It}{ow ow1:List Nat}{pe ptg pit ptg1 pit1:Expr}{scope:Scope}{lpos:Pos}
  (hN:C.N[i]?=some x) (lx:C.sc.names.lookup x=some .local) (hw:lcSwap C.sc x px (.ListComp pe [⟨ptg,pit,[],0⟩,⟨ptg1,pit1,[],0⟩] scope lpos)=true)
  (hi:PI X ptg pit (gI X XR W cx it)) (bok:BlkOk X.N X.env.scope scope (ownN C.N ow)) (hown:(ownN C.N ow).map (·.2)=ow) (htg:tgIn ow tg=true) (htg1:tgIn ow1 tg1=true) (hsub:∀ i∈ow1,i∈ow)
  (hg:∀ (s:Shared) (H:Hp) (Ca:Addr) (cl:List (Str × Addr)) (fp:List Addr),PG (X.blk s H scope (compEnvC scope cl Ca X.env) fp) ptg (tG X.K X.w tg))
  (ht:∀ (s:Shared) (H:Hp) (Ca:Addr) (cl:List (Str × Addr)) (fp:List Addr),PTs (X.blk s H scope (compEnvC scope cl Ca X.env) fp) [] (tBo X.K X.w XR WF cx .no))
  (hi1:∀ (s:Shared) (H:Hp) (Ca:Addr) (cl:List (Str × Addr)) (fp:List Addr),PI (X.blk s H scope (compEnvC scope cl Ca X.env) fp) ptg1 pit1 (tI X.K X.w XR WF cx it1))
  (hg1:∀ (s:Shared) (H:Hp) (Ca:Addr) (cl:List (Str × Addr)) (fp:List Addr),PG (X.blk s H scope (compEnvC scope cl Ca X.env) fp) ptg1 (tG X.K X.w tg1))
  (he:∀ (s:Shared) (H:Hp) (Ca:Addr) (cl:List (Str × Addr)) (fp:List Addr),PE (X.blk s H scope (compEnvC scope cl Ca X.env) fp) pe (tE X.K X.w XR WF cx e))
  (hs:∀ x,foldedSetIterable pit X.env x=pure x) (hs1:∀ env x,foldedSetIterable pit1 env x=pure x):PS X (.Assign [.Name x px] (.ListComp pe [⟨ptg,pit,[],0⟩,⟨ptg1,pit1,[],0⟩] scope lpos) pos) (gS X XR W cx (.asg own i (.lc2 e tg it tg1 it1 ow ow1))):=by
 unfold lcSwap at hw
 simp only [Bool.and_eq_true,Bool.not_eq_true'] at hw
 refine PS.of (ps_setLc2 (vs1:=ow1) (Gd.calm hcal) Gd.nd (by rw [Gd.N];exact hN) (by rw [Gd.sc];exact lx) (sw_true Gd.kind (by rw [Gd.sc];exact lx) hw.2.1 hw.2.2) hi bok (fun i hi=>by rw [hown];exact hsub i hi) hg ht hi1 hg1 ht he hs hs1) fun D σ H h=>?_
 rw [hown]
 exact lc2_in Gd htg htg1 hsub (put_in (fun _=>rfl) h)
end
end PL
end
section
namespace PL
open PySem PySem.Spec PyProof.Rows L2
section
variable {K:PySem.W.Frag}{w:World}{F:Foot}{G B:Addr→Prop}{σ:L2.St}{H:Hp}{env:Env}{s s':Strm}
theorem OkS.strm {x:Addr}{o:HO}(ok:OkS K w F G B σ H env (some s))(hx:F.inn x)(hs:SR (some s') F (upd H x o)):OkS K w F G B σ (upd H x o) env (some s')∧StepS F G B H F B (upd H x o):=by
 have mv:∀ {v:V} {d:D},Rep K w F B H v d→Rep K w F B (upd H x o) v d:=fun r=>r.move (fun a f b hn=>⟨upd_ne fun e=>f (by rw [e];exact hx),f,b⟩) fun _ e=>e
 have mvl:∀ {v:List V} {d:List D},RepL K w F B H v d→RepL K w F B (upd H x o) v d:=fun r=>r.move (fun a f b hn=>⟨upd_ne fun e=>f (by rw [e];exact hx),f,b⟩) fun _ e=>e
 refine ⟨⟨⟨ok.e.len,fun i d e=>?_,fun i s os e=>?_,ok.e.apart,fun b hb=>upd_occ (ok.e.occ b hb),hs⟩,ok.g,ok.o⟩,⟨fun a f _ _=>⟨upd_ne fun e=>f (by rw [e];exact hx),f,fun z=>z⟩,fun b hb=>upd_occ hb,fun _ e=>e⟩⟩
 ·obtain ⟨v,h1,h2⟩:=ok.e.val i d e
  exact ⟨v,h1,mv h2⟩
 ·obtain ⟨a,h1,h2,h4,h5⟩:=ok.e.own i s os e
  exact ⟨a,h1,h2.move mvl (upd_ne fun e=>h5 (by rw [e];exact hx)),h4,h5⟩
theorem StrIs.big {a0 a1 a2:Addr}{b:List Int}(S:StrIs F H s a0 a1 a2):StrIs F (upd H a1 (.lst (b.map V.int))) { s with big:=b } a0 a1 a2 :=
 ⟨S.at_,S.inn,S.n1,S.n2,S.n3,by rw [upd_ne S.n1];exact S.h0,upd_same,by rw [upd_ne S.n3.symm];exact S.h2,S.ne⟩
theorem StrIs.turn_ {a0 a1 a2:Addr}{t:Int}(S:StrIs F H s a0 a1 a2):StrIs F (upd H a0 (.lst [.ref a1,.ref a2,.int t])) { s with turn:=t } a0 a1 a2 :=
 ⟨S.at_,S.inn,S.n1,S.n2,S.n3,upd_same,by rw [upd_ne S.n1.symm];exact S.h1,by rw [upd_ne S.n2.symm];exact S.h2,S.ne⟩
theorem StrIs.in1 {a0 a1 a2:Addr}(S:StrIs F H s a0 a1 a2):F.inn a1:=(S.inn a1).mpr (.inr (.inl rfl))
theorem StrIs.in0 {a0 a1 a2:Addr}(S:StrIs F H s a0 a1 a2):F.inn a0:=(S.inn a0).mpr (.inl rfl)
end
section
variable {X:Cx}{pr:Prog}{XR:XRel}{C:SC}{n:Nat}{W:WX}{cx:Ctx}{q:Expr}{e:E}{pos:Pos}
theorem s_putB (Gd:Good X pr XR C n){i:Nat}{x:Str}{p p2 p3 p4 p5:Pos}{j j2:Nat}(h1:okName x=true)(h2:Vis X.env.scope x)(h3:C.N[i]?=some x)(hq:isLC q=false)(he:PE X q (gE X XR W cx e)) :
  PS X (.Assign [.Subscript (.Subscript (.Name x p) (.Constant (.int 0) j p2) p3) (.Constant (.int 0) j2 p4) p5] q pos) (gS X XR W cx (.sPutB i e)):=by
 refine PS.of (ps_asg he (pg_sub (sub_pe Gd h1 h2 h3) (pe_int (i:=0)) set_list) (by unfold swapsWithSole;exact swaps_no hq _ _ _) rfl rfl) fun D σ H h=>?_
 obtain ⟨F,G,B,env,st,ok,h⟩:=h
 unfold evS at h
 refine ok.use h fun d st1 v F1 H1 x1 s1 ok1 r1 _ h=>?_
 have fin:∀ (s:Strm) (b:Int) (z:Int) (r:List Int),strAt env i st1=some s→s.big=b::r→d=.int z→putB env i d st1=some (some { s with big:=z::r }) →
   tOp (rIxL X.K) (tVar i) (tC (.int 0)) σ H1 fun o H2=>tC (.int 0) σ H2 fun k H3=>rSetL o k v H3 fun H4=>D.nx σ H4:=by
  intro s b z r es eb ed ep
  subst ed
  obtain ⟨e1,a0,a1,a2,k1,S⟩:=str_at ok1.e es
  subst e1
  cases r1
  rw [ep,Q.opt_some] at h
  refine ⟨_,k1,a0,_,0,_,rfl,rfl,.of S.h0,ix3.1,?_⟩
  refine ⟨a1,_,0,0,rfl,rfl,S.h1,?_,?_⟩
  ·unfold ixN
   rw [eb]
   simp
  ·have S2:=S.big (b:=z::r)
   have e2:(s.big.map V.int).set 0 (.int z)=(z::r).map V.int:=by rw [eb];rfl
   rw [e2]
   obtain ⟨o2,t2⟩:=ok1.strm S.in1 S2.sr
   exact h F1 B σ _ (x1.step.trans t2) o2
 cases hs:strAt env i st1 with
 | none =>
  have:putB env i d st1=none:=by unfold putB;rw [hs]
  rw [this] at h
  exact h.elim
 | some s =>
  cases d with
  | int z =>
   cases hb:s.big with
   | nil =>
    have:putB env i (.int z) st1=none:=by unfold putB;rw [hs];simp only [hb]
    rw [this] at h
    exact h.elim
   | cons b r=>exact fin s b z r hs hb rfl (by unfold putB;rw [hs];simp only [hb])
  | _ =>
   unfold putB at h
   rw [hs] at h
   exact h.elim
theorem s_putT (Gd:Good X pr XR C n){i:Nat}{x:Str}{p p2 p3:Pos}{j:Nat}(h1:okName x=true)(h2:Vis X.env.scope x)(h3:C.N[i]?=some x)(hq:isLC q=false)(he:PE X q (gE X XR W cx e)) :
  PS X (.Assign [.Subscript (.Name x p) (.Constant (.int 2) j p2) p3] q pos) (gS X XR W cx (.sPutT i e)):=by
 refine PS.of (ps_asg he (pg_sub (nm_pe Gd h1 h2 h3) (pe_int (i:=2)) set_list) (by unfold swapsWithSole;exact swaps_no hq _ _ _) rfl rfl) fun D σ H h=>?_
 obtain ⟨F,G,B,env,st,ok,h⟩:=h
 unfold evS at h
 refine ok.use h fun d st1 v F1 H1 x1 s1 ok1 r1 _ h=>?_
 cases hs:strAt env i st1 with
 | none =>
  have:putU env i d st1=none:=by unfold putU;rw [hs]
  rw [this] at h
  exact h.elim
 | some s =>
  cases d with
  | int z =>
   have ep:putU env i (.int z) st1=some (some { s with turn:=z }):=by unfold putU;rw [hs]
   obtain ⟨e1,a0,a1,a2,k1,S⟩:=str_at ok1.e hs
   subst e1
   cases r1
   rw [ep,Q.opt_some] at h
   refine ⟨_,k1,a0,_,2,2,rfl,rfl,S.h0,rfl,?_⟩
   have S2:=S.turn_ (t:=z)
   obtain ⟨o2,t2⟩:=ok1.strm S.in0 S2.sr
   exact h F1 B σ _ (x1.step.trans t2) o2
  | _ =>
   unfold putU at h
   rw [hs] at h
   exact h.elim
theorem s_pop (Gd:Good X pr XR C n){i:Nat}{x:Str}{p p2 p3 p4 apos cpos:Pos}{j j2:Nat}(hl:(apos.endLine==cpos.line)=true)(h1:okName x=true)(h2:Vis X.env.scope x)(h3:C.N[i]?=some x) :
  PS X (.Expr (.Call (.Attribute (.Subscript (.Name x p) (.Constant (.int 0) j p2) p3) "pop" apos) [.Constant (.int 0) j2 p4] [] cpos) pos) (gS X XR W cx (.sPop i)) := by
 refine PS.of (ps_expr (pe_bm PySem.F.plainAttrs_list PySem.F.slot_list_pop PySem.F.type_list_pop mt_popAt (sub_pe Gd h1 h2 h3) (pa_cons pe_int pa_nil) rfl rfl hl rfl rfl) rfl) fun D σ H h=>?_
 obtain ⟨F,G,B,env,st,ok,h⟩:=h
 unfold evS at h
 cases hs:strAt env i st with
 | none =>
  have:popB env i st=none:=by unfold popB;rw [hs]
  rw [this] at h
  exact h.elim
 | some s =>
  cases hb:s.big with
  | nil =>
   have:popB env i st=none:=by unfold popB;rw [hs];simp only [hb]
   rw [this] at h
   exact h.elim
  | cons b r =>
   have ep:popB env i st=some (some { s with big:=r }):=by unfold popB;rw [hs];simp only [hb]
   rw [ep,Q.opt_some] at h
   obtain ⟨e1,a0,a1,a2,k1,S⟩:=str_at ok.e hs
   subst e1
   refine ⟨_,k1,a0,_,0,_,rfl,rfl,.of S.h0,ix3.1,.inl ⟨rfl,_,.of S.h1⟩,?_⟩
   refine ⟨a1,_,0,0,.int b,rfl,rfl,S.h1,by decide,by decide,?_,by rw [hb];rfl,?_⟩
   ·unfold seqIndex?
    rw [hb]
    simp
   ·have e2:(s.big.map V.int).eraseIdx 0=r.map V.int:=by rw [hb];rfl
    rw [e2]
    have S2:=S.big (b:=r)
    obtain ⟨o2,t2⟩:=ok.strm S.in1 S2.sr
    exact h F B σ _ t2 o2
theorem s_retS (Gd:Good X pr XR C n){i:Nat}{x:Str}{p p2 p3 p4 p5 p6 p7 p8 p9:Pos}{j1 j2:Nat}(h1:okName x=true)(h2:Vis X.env.scope x)(h3:C.N[i]?=some x)(hf:fresh e=true)(hs:isStar q=false)(he:PE X q (gE X XR W cx e)) :
  PS X (.Return (some (.List [q,.IfExp (.Compare (.Name x p) [.NotEq] [.List [] p2] p3) (.Name x p4) (.List [.Constant (.int 47) j1 p5] p6) p7,.Constant (.int 0) j2 p8] p9)) pos) (gS X XR W cx (.retS e i)):=by
 have hif:PE X (.IfExp (.Compare (.Name x p) [.NotEq] [.List [] p2] p3) (.Name x p4) (.List [.Constant (.int 47) j1 p5] p6) p7) (tIf (tTest (tOp (rCop X.K X.w .ne) (tVar i) (tLst tNil))) (tVar i) (tLst (tCons (tC (.int 47)) tNil))) :=
  pe_ifExp (pt_cmpR (cop_R (by have:=Gd.un;omega) .ne) (nm_pe Gd h1 h2 h3) (pe_lst pa_nil) rfl) (nm_pe Gd h1 h2 h3) (pe_lst (pa_cons pe_int pa_nil))
 refine PS.of (ps_ret (pe_lst (pa_cons he (pa_cons hif (pa_cons (pe_int (i:=0)) pa_nil)) (star_ns hs _ _)))) fun D σ H h=>?_
 obtain ⟨F,G,B,env,st,ok,h⟩:=h
 unfold evS at h
 show gE X XR W cx e σ H fun y1 H1=>tIf (tTest (tOp (rCop X.K X.w .ne) (tVar i) (tLst tNil))) (tVar i) (tLst (tCons (tC (.int 47)) tNil)) σ H1 fun y2 H2=>[y1,y2,.int 0].length≤sizeLine∧∀ p,H2 p=none→D.rt (.ref p) (upd H2 p (.lst [y1,y2,.int 0]))
 -- the first list, while the own list is read
 obtain ⟨B1,o1,l1⟩:=ok.frzs [i]
 refine ⟨F,B1,PL.freeze env [i],st,o1.e,?_⟩
 cases q1:evE cx e (freeze env [i]) st with
 | no=>rw [q1,R.thaw_no,R.use_no] at h;exact h
 | exc c fs st' =>
  rw [q1] at h
  rcases R.thaw_exc (fz:=[i]) (c:=c) (fs:=fs) (st:=st') (α:=PL.D) with ⟨e1,e2⟩|e1
  ·rw [e1,R.use_exc] at h
   refine fun cls dx F' H' x s r=>h cls dx F' B σ H' x.step (ok.ext x s) (Gd.anti _ _ _ _ _ _ _ _ (fun a ha na=>?_) (.inl (e2.resolve_left (by simp))) r)
   obtain ⟨z1,z2⟩:=l1.2 a ha na
   have hn:H a≠none:=by rcases z2 with ⟨_,e⟩|⟨_,e⟩<;>(rw [e];simp)
   have e:=(x.keep a z1 hn).1
   rcases z2 with ⟨xs,e2⟩|⟨xs,e2⟩
   ·exact .inl ⟨xs,e.trans e2⟩
   ·exact .inr ⟨xs,e.trans e2⟩
  ·rw [e1] at h;exact h.elim
 | ok d st' =>
  rw [q1,R.thaw_ok,R.use_ok] at h
  intro y1 F1 H1 x1 s1 r1 fr
  have key:∃ xs ds big l,d=.lst xs∧ownAt env i=some ds∧st'=none∧PL.D.ints xs=some big∧PL.D.ints ds=some l∧mkS d (ownAt env i) st'=some (some ⟨big,if l=[] then [47] else l,0⟩):=by
   cases d with
   | lst xs =>
    cases ho:ownAt env i with
    | none=>rw [ho] at h;exact h.elim
    | some ds =>
     rw [ho] at h
     cases st' with
     | some _=>exact h.elim
     | none =>
      cases e1:PL.D.ints xs with
      | none =>
       unfold mkS at h
       simp only [e1] at h
       exact h.elim
      | some big =>
       cases e2:PL.D.ints ds with
       | none =>
        unfold mkS at h
        simp only [e1,e2] at h
        exact h.elim
       | some l=>exact ⟨xs,ds,big,l,rfl,rfl,rfl,e1,e2,by unfold mkS;simp only [e1,e2]⟩
   | _=>exact h.elim
  obtain ⟨xs,ds,big,l,rfl,eo,rfl,eb,el,em⟩:=key
  rw [em,Q.opt_some] at h
  obtain ⟨a1,vs,ds1,rfl,e1,hn1,hh1,f1,rl1⟩:=fr hf
  cases e1
  have ev:=rl1.ints eb
  subst ev
  obtain ⟨e2,a2,ys,hs2,hh2,rl2,b2,f2⟩:=own_at ok eo
  have ev:=rl2.ints el
  subst ev
  have hh2':H1 a2=some (.lst (l.map V.int)):=by rw [(x1.keep a2 f2 (by rw [hh2];simp)).1];exact hh2
  have n12:a2≠a1:=fun e=>by rw [e,hn1] at hh2;cases hh2
  have fin:∀ (H2:Hp) (a2':Addr),(∀ a,H1 a≠none→H2 a=H1 a)→H2 a2'=some (.lst ((if l=[] then [47] else l).map V.int))→a2'≠a1→(∀ a,¬ B a∨G a→H a≠none→a≠a2') →
    ∀ p,H2 p=none→D.rt (.ref p) (upd H2 p (.lst [.ref a1,.ref a2',.int 0])):=by
   intro H2 a2' k2 kh kn ko p hp
   have occ2:∀ a,H a≠none→H2 a≠none:=fun a ha=>by rw [k2 a (x1.occ a ha)];exact x1.occ a ha
   have pa1:p≠a1:=fun e=>by rw [e,k2 a1 (by rw [hh1];simp),hh1] at hp;cases hp
   have pa2:p≠a2':=fun e=>by rw [e,kh] at hp;cases hp
   refine h (.ref p) ⟨some p,fun b=>b=p∨b=a1∨b=a2'⟩ B _ ⟨fun a fa ba ha=>⟨?_,fun z=>?_,fun z=>z⟩,fun b hb=>upd_occ (occ2 b hb),fun a e=>?_⟩ ok.g ⟨p,a1,a2',rfl,fun b=>Iff.rfl,pa1,pa2,kn.symm,upd_same,?_,?_,?_⟩ (.ob0 rfl)
   ·rw [upd_ne fun e=>occ2 a ha (by rw [e];exact hp),k2 a (x1.occ a ha)]
    exact (x1.keep a fa ha).1
   ·rcases z with z|z|z
    ·exact occ2 a ha (by rw [z];exact hp)
    ·exact ha (by rw [z];exact hn1)
    ·exact ko a ba ha z
   ·have:=x1.at_ a e
    rw [s1.1] at this
    cases this
   ·rw [upd_ne pa1.symm,k2 a1 (by rw [hh1];simp)];exact hh1
   ·rw [upd_ne pa2.symm];exact kh
   ·by_cases hl:l=[]
    ·simp [hl]
    ·simp [hl]
  refine ⟨_,hs2,Nat.zero_le _,fun p hp=>?_⟩
  have hne:a2≠p:=fun e=>by rw [e,hp] at hh2';cases hh2'
  have k1:∀ a,H1 a≠none→upd H1 p (.lst []) a=H1 a:=fun a ha=>upd_ne fun e=>ha (by rw [e];exact hp)
  refine ne_ok (F:=F0) (B:=fun _=>False) (K:=X.K) (w:=X.w) (d1:=.lst (l.map PL.D.int)) (d2:=.lst []) (b:=l.isEmpty) ?_ (.lst (xs:=l.map V.int) (by rw [upd_ne hne];exact hh2') (fun z=>z) (fun z=>z) (RepL.of_ints _)) (.lst (xs:=[]) upd_same (fun z=>z) (fun z=>z) .nil) ?_
  ·show (if (PL.D.lst (l.map PL.D.int)).shaped&&(PL.D.lst []).shaped then some (PL.D.eqv (.lst (l.map PL.D.int)) (.lst [])) else none)=_
   rw [ints_shaped]
   have:(PL.D.lst []).shaped=true:=ints_shaped []
   rw [this]
   cases l<;>rfl
  refine ⟨_,rfl,?_⟩
  cases l with
  | nil =>
   rw [show (!([]:List Int).isEmpty)=false from rfl,if_neg Bool.false_ne_true]
   refine ⟨by show 1≤sizeLine;rw [sizeLine_eq];omega,fun p2 hp2=>⟨by show 3≤sizeLine;rw [sizeLine_eq];omega,fin _ p2 (fun a ha=>?_) upd_same (fun e=>?_) fun a _ ha e=>?_⟩⟩
   ·rw [upd_ne fun e=>by rw [← e,k1 a ha] at hp2;exact ha hp2,k1 a ha]
   ·rw [e,k1 a1 (by rw [hh1];simp),hh1] at hp2;cases hp2
   ·rw [← e,k1 a (x1.occ a ha)] at hp2
    exact x1.occ a ha hp2
  | cons z r =>
   rw [show (!(z::r).isEmpty)=true from rfl,if_pos rfl]
   refine ⟨_,hs2,by show 3≤sizeLine;rw [sizeLine_eq];omega,fin _ a2 k1 (by rw [k1 a2 (by rw [hh2'];simp)];exact hh2') n12 fun a ba ha e=>?_⟩
   subst e
   rcases ba with ba|ba
   ·exact ba b2
   ·exact ok.o i _ _ rfl e2 hs2 ba
end
end PL
end
section
namespace PL
open PySem PySem.Spec PyProof.Rows L2
section
variable {K:PySem.W.Frag}{w:World}{XR:XRel}{W:WX}{cx:Ctx}{F F1:Foot}{G B B1:Addr→Prop}{σ:L2.St}{H H1:Hp}{env:Env}{st:St}{Z:Ends}
theorem OkS.setU (o:OkS K w F G B σ H env st)(i:Nat):OkS K w F G B (σ.set i none) H (env.set i .un) st:=by
 have gs:∀ {j:Nat} {s:Slot},(env.set i .un)[j]?=some s→s≠.un→j≠i∧env[j]?=some s:=fun {j s} e n=>by
  by_cases hj:i=j
  ·subst hj
   by_cases hl:i<env.length
   ·rw [List.getElem?_set_self hl] at e;cases e;exact absurd rfl n
   ·rw [List.getElem?_eq_none (by simpa using hl)] at e;cases e
  ·rw [List.getElem?_set_ne hj] at e;exact ⟨Ne.symm hj,e⟩
 refine ⟨⟨by simpa using o.e.len,fun j d e=>?_,fun j s os e=>?_,fun j k s t a os ot e1 e2 e3 e4=>?_,o.e.occ,o.e.sr⟩,o.g,fun j s a os e1 e2=>?_⟩
 ·obtain ⟨n,e⟩:=gs e (by simp)
  rw [List.getElem?_set_ne (Ne.symm n)]
  exact o.e.val j d e
 ·obtain ⟨n,e⟩:=gs e (fun z=>by subst z;cases os)
  rw [List.getElem?_set_ne (Ne.symm n)]
  exact o.e.own j s os e
 ·obtain ⟨n1,e1⟩:=gs e1 (fun z=>by subst z;cases os)
  obtain ⟨n2,e2⟩:=gs e2 (fun z=>by subst z;cases ot)
  rw [List.getElem?_set_ne (Ne.symm n1)] at e3
  rw [List.getElem?_set_ne (Ne.symm n2)] at e4
  exact o.e.apart j k s t a os ot e1 e2 e3 e4
 ·obtain ⟨n1,e1⟩:=gs e1 (fun z=>by subst z;cases os)
  rw [List.getElem?_set_ne (Ne.symm n1)] at e2
  exact o.o j s a os e1 e2
theorem RQ.gone {q:PL.Q}{i:Nat}(h:RQ K w XR W F G B H (q.gone i) Z):RQ K w XR WF F G B H q { nx:=fun σ' H'=>Z.nx (σ'.set i none) H',rt:=Z.rt,bk:=fun σ' H'=>Z.bk (σ'.set i none) H',ct:=fun σ' H'=>Z.ct (σ'.set i none) H' }:=by
 cases q with
 | next env st=>exact fun F' B' σ' H' y o=>h F' B' _ H' y (o.setU i)
 | brk env st=>exact fun F' B' σ' H' y o=>h F' B' _ H' y (o.setU i)
 | cnt env st=>exact fun F' B' σ' H' y o=>h F' B' _ H' y (o.setU i)
 | ret d st=>exact h
 | exc c fs env st=>exact h.elim
 | no=>exact h
end
section
variable {X:Cx}{pr:Prog}{XR:XRel}{C:SC}{n:Nat}{W:WX}
theorem pmk_own0 {E:Addr}{bmB:List Value}{B newId initId:String}{x:Str}{p pos:Pos}(F:ExcBaseFacts B newId initId bmB)(q:PySem.W.excIn X.K E bmB newId=true)(gC:X.mg x=some (.ref E))(kC:PySem.W.keepIn X.K (.ref E)=true)(r:Raises X (.ref E))(hg:Gl X x)
  (hdb : (x == ("__debug__" : Str)) = false) : PMk X (.Call (.Name x p) [] [] pos) (fun _ H Q => Q (.ref E) none H) := by
 intro pins s σ H Q I h
 refine wpAny_Call_Name_kw (ld_glob I hg gC ?_ hdb)
 refine PySem.W.callWith_K0 I.kIn kC ?_
 show wpAny _ _ (call (.ref E) []) _ _ _
 obtain ⟨bm,N,nm,qn,bs,hdct,sn,sub,ab,col,dd,k0,k1,k2,k3,k5,mN,hC,hN,hni,T⟩:=exc_obj I.kIn q
 refine wpAny_call_exc_subT F T hC hN hni (fun h' e hm=>?_) (by show 0≤sizeLine;exact Nat.zero_le _)
 exact mk_of I hm r h (I.hok.gone hm.new)
theorem s_raise (Gd:Good X pr XR C n)(hcal:C.cal=true)(tk:Takes X W){c:Nat}{x:Str}{p pos pos':Pos}{cx:Ctx}(hg:Gl X x∧okName x=true)(hc:(C.xt.cls.lookup c).map (·.1)=some x)(hnf:C.xt.fld.lookup c=none) :
  PS X (.Raise (some (.Call (.Name x p) [] [] pos)) none pos') (gS X XR W cx (.raise c)):=by
 obtain ⟨⟨nm,anc⟩,hl,e⟩:=Option.map_eq_some_iff.mp hc
 cases e
 obtain ⟨D,mD,⟨B,newId,initId,bmB,F,q,kp,h1,h2⟩,xr⟩:=Gd.made c _ _ hl hnf
 refine PS.of (ps_raise (Gd.calm hcal) tk (pmk_own0 F q mD kp (raises_own h1 h2) hg.1 (ok_debug hg.2))) fun Z σ H h=>?_
 obtain ⟨F,G,B,env,st,ok,h⟩:=h
 unfold evS at h
 exact h _ _ F B σ H StepS.refl ok (xr F B H)
theorem Good.tr (G:Good X pr XR C n)(hcal:C.cal=true)(pn:List (Addr × Obj))(xe:Value→Shared→Prop):Good (X.tr pn xe) pr XR C n where
 sc:=G.sc
 kind:=G.kind
 N:=G.N
 nd:=G.nd
 st:=G.st
 calm:=G.calm
 made:=G.made
 err:=G.err
 anti:=G.anti
 madeF:=G.madeF
 held:=fun _ _ _ _ _ z=>absurd (hcal.symm.trans z) (by decide)
 nms:=G.nms
 room:=G.room
 un:=G.un
 gd:=G.gd
 fns:=G.fns
 gls:=G.gls
 blt:=G.blt
 shown:=G.shown
def HdF (K:PySem.W.Frag)(D:Addr)(dx:Option Addr)(d:Nat)(ns:List (List Nat)):Prop:=(ns=[]→dx=none)∧(ns≠[]→dx=some d∧ns.Nodup∧∀ f:Str,f.cps.toList∈ns→FldC K D f)
theorem Good.suite (G:Good X pr XR C n){a D:Addr}{oe:Obj}{pn:List (Addr × Obj)}{c d:Nat}{dx:Option Addr}{ns:List (List Nat)}{nm:Str}{anc:List Str}(hl:C.xt.cls.lookup c=some (nm,anc))(cx:ClsX X.K X.mg C.xt c D)(hz:Zc (.ref D) dx oe)(hf:∃ vs,oe.data=.fields vs)(hd:HdF X.K D dx d ns) :
  Good (X.suite a ((a,oe)::pn)) { pr with er:=some (c,a,d,ns) } XR { C with cal:=false } n where
 sc:=G.sc
 kind:=G.kind
 N:=G.N
 nd:=G.nd
 st:=G.st
 calm:=fun z=>absurd (show false=true from z) (by decide)
 made:=G.made
 err:=G.err
 anti:=G.anti
 madeF:=G.madeF
 held:=fun c' k d' ns' e _=>by
  have e':some (c,a,d,ns)=some (c',k,d',ns'):=e
  cases e'
  exact ⟨D,nm,anc,oe,dx,hl,cx,hz,hf,List.mem_cons_self,hd.1,hd.2⟩
 nms:=G.nms
 room:=fun z=>absurd (show false=true from z) (by decide)
 un:=G.un
 gd:=G.gd
 fns:=fun f nm e=>by
  rw [run_er]
  obtain ⟨a,fd,ps,h1,h2,h3,h4,h5⟩:=G.fns f nm e
  refine ⟨a,fd,ps,h1,h2,h3,h4,?_⟩
  unfold spG
  rw [run_er]
  exact h5
 gls:=G.gls
 blt:=G.blt
 shown:=G.shown
def tsH (X:Cx)(pr:Prog)(XR:XRel)(C:SC)(n:Nat)(h:Ss):Addr→Value→Option Addr→TS:=fun a cls dx Z σ H=>∃ (c:Nat) (D:Addr) (nm:Str) (anc:List Str) (d:Nat) (ns:List (List Nat)),cls=.ref D∧HdF X.K D dx d ns∧C.xt.cls.lookup c=some (nm,anc)∧ClsX X.K X.mg C.xt c D ∧
 tSs X.K X.w XR WF { pr.cxe n with er:=some (c,a,d,ns) } h Z σ H
theorem s_tryA (Gd:Good X pr XR C n)(tk:Takes X W)(hs:X.stack=X.env::X.outer)(hf:X.env.frame=some X.env.locals){cs:List Nat}{i:Nat}{b h:Ss}{x m:Str}{np pos pos':Pos}{pb:List Stmt}{p0:Stmt}{ph:List Stmt}
  (hx:Gl X x∧okName x=true) (hi:C.N[i]?=some m) (hm:locB C.sc m=true) (hsay:C.xt.says cs [x]=true)
  (hb:∀ (W:WX) (pn:List (Addr × Obj)) (xe:Value→Shared→Prop),Takes (X.tr pn xe) W→PassesOwn (model X.prog X.w) X.A X.env xe→PSs (X.tr pn xe) pb (tSs X.K X.w XR W (pr.cxe n) b))
  (hh:∀ (a D:Addr) (oe:Obj) (pn:List (Addr × Obj)) (c:Nat) (nm:Str) (anc:List Str) (dx:Option Addr) (d:Nat) (ns:List (List Nat)),C.xt.cls.lookup c=some (nm,anc)→ClsX X.K X.mg C.xt c D→Zc (.ref D) dx oe→(∃ vs,oe.data=.fields vs)→HdF X.K D dx d ns →
   PSs (X.suite a ((a,oe)::pn)) (p0::ph) (tSs X.K X.w XR WF { pr.cxe n with er:=some (c,a,d,ns) } h)) :
  PS X (.Try pb [.ExceptHandler (some (.Name x np)) (some m) (p0::ph) pos'] [] [] pos) (gS X XR W (pr.cxe n) (.tryA cs i b h)):=by
 have hin:x∈C.xt.nms:=by
  unfold XT.says at hsay
  simp only [Bool.and_eq_true,List.all_eq_true] at hsay
  have:=hsay.1 x (by simp)
  simpa using this
 obtain ⟨E,mE⟩:=Gd.nms x hin
 have hln:X.env.kindOf m=some .local:=by
  show X.env.scope.names.lookup m=_
  rw [Gd.sc]
  unfold locB at hm
  simpa using hm
 refine PS.of (ps_try_as hs hf Gd.nd (by rw [Gd.N];exact hi) hln ⟨hx.1,ok_debug hx.2,.inl mE⟩ tk hb (ts:=tsH X pr XR C n h) fun a oe cls d pn hz hv=>?_) fun Z σ H hq=>?_
 ·refine ⟨fun pins s σ H Z I q=>?_⟩
  obtain ⟨c,D,nm,anc,d',ns,rfl,hd,hl,cx,q⟩:=q
  exact (hh a D oe pn c nm anc d d' ns hl cx hz hv hd).run pins s σ H Z I q
 ·obtain ⟨F,G,B,env,st,ok,hq⟩:=hq
  refine ⟨F,G,B,env,st,ok,?_⟩
  unfold evS at hq
  cases q:evSs (pr.cxe n) b env st with
  | next env st=>rw [q] at hq;exact hq
  | brk env st=>rw [q] at hq;exact hq
  | cnt env st=>rw [q] at hq;exact hq
  | ret d st=>rw [q] at hq;exact hq
  | no=>rw [q] at hq;exact hq
  | exc c fs env1 st1 =>
   rw [q,evS_try_exc] at hq
   intro cls dx F' B' σ' H' x1 o1 xr
   obtain ⟨D,nm,anc,rfl,hl,cx,hd⟩:=Gd.err c fs cls dx F' B' H' xr
   obtain ⟨E',m1,m2,m3⟩:=cx.sub nm anc hl x hin
   rw [mE] at m1
   cases m1
   obtain ⟨s1,_⟩:=says_at hsay hl
   have s2:cs.contains c=anc.contains x:=by rw [s1];simp
   refine ⟨_,m3,fun z a ha=>?_,fun z=>?_⟩
   ·rw [s2,if_pos z] at hq
    rcases hd with ⟨rfl,rfl⟩|⟨l,ds,d,rfl,rfl,⟨l0,nd⟩,fc,xd⟩
    ·refine ⟨c,D,nm,anc,0,[],rfl,⟨fun _=>rfl,fun z=>absurd rfl z⟩,hl,cx,F',G,B',_,st1,o1.setV .err,?_⟩
     have ne:tryQ i (fun a:Nat=>evSs { pr.cxe n with er:=some (c,a,0,[]) } h (env1.set i (.val (.ob 2 [.int (a:Nat)]))) st1)≠.no:=fun e=>by simp only [e] at hq;exact hq
     have:=tryQ_at ne a
     exact RQ.gone (by rw [this];exact hq.shift x1)
    ·simp only [namesD_of] at hq
     have hne:(l.map fun s=>s.cps.toList)≠[]:=fun e=>l0 (List.map_eq_nil_iff.mp e)
     refine ⟨c,D,nm,anc,d,l.map fun s=>s.cps.toList,rfl,⟨fun z=>absurd z hne,fun _=>⟨rfl,nd,fun f hf=>?_⟩⟩,hl,cx,F',G,B',_,st1,o1.setV (xd.rep (a:=a)),?_⟩
     ·obtain ⟨g,h1,h2⟩:=List.mem_map.mp hf
      have:g=f:=by rw [← str_of g,← str_of f,h2]
      subst this
      exact fc g h1
     ·have ne:tryQ i (fun a:Nat × Nat=>evSs { pr.cxe n with er:=some (c,a.1,a.2,l.map fun s=>s.cps.toList) } h (env1.set i (.val (.ob 2 (.int (a.1:Nat)::.int (a.2:Nat)::.tup ((l.map fun s=>s.cps.toList).map .str)::ds)))) st1)≠.no:=fun e=>by simp only [e] at hq;exact hq
      have:=tryQ_at ne (a,d)
      exact RQ.gone (by rw [this];exact hq.shift x1)
   ·rw [s2,z] at hq
    exact hq (.ref D) dx F' B' σ' H' x1 o1 xr
theorem RQ.noX {K:PySem.W.Frag}{w:World}{F:Foot}{G B:Addr→Prop}{H:Hp}{Z:Ends}{q:PL.Q}(h:RQ K w XR W F G B H q.noX Z):RQ K w XR WF F G B H q Z:=by
 cases q with
 | next env st=>exact h
 | brk env st=>exact h
 | cnt env st=>exact h
 | ret d st=>exact h
 | exc c fs env st=>exact h.elim
 | no=>exact h
end
end PL
end
section
namespace PL
open PySem PySem.Spec PyProof.Rows L2
section
end
section
variable {X:Cx}{pr:Prog}{XR:XRel}{C:SC}{n:Nat}{W:WX}{cx:Ctx}{q pk:Expr}{e k:E}{pos:Pos}
theorem RepL.set {K:PySem.W.Frag}{w:World}{F:Foot}{B:Addr→Prop}{H:Hp}:∀ {vs:List V} {ds:List D},RepL K w F B H vs ds→∀ {v:V} {d:D},Rep K w F B H v d→∀ j:Nat,RepL K w F B H (vs.set j v) (ds.set j d)
 | _,_,.nil,_,_,_,_=>.nil
 | _,_,.cons _ t,_,_,r,0=>.cons r t
 | _,_,.cons r0 t,_,_,r,j+1=>.cons r0 (RepL.set t r j)
end
end PL
end
section
namespace PL
open PySem PySem.Spec PyProof.Rows L2
section
variable {X:Cx}
theorem ps_setDc {i:Nat}{y:Str}{py:Pos}{kx vx tg iter:Expr}{ifs:List Expr}{scope:Scope}{own:List (Str × Nat)}{pos spos:Pos}{wi:TI}{g:TG}{tt:TT}{tk tv:TE}(hc:X.calm=true)(hN:X.N.Nodup)(hy:X.N[i]?=some y)
  (hyl:X.env.scope.names.lookup y=some .local) (sw:swapsWith (.DictComp kx vx [⟨tg,iter,ifs,0⟩] scope pos) (some (.Name y py)) spos.line X.env=pure true) (hi:PI X tg iter wi) (ok:BlkOk X.N X.env.scope scope own)
  (hg:∀ (s:Shared) (H:Hp) (Ca:Addr) (cl:List (Str × Addr)) (fp:List Addr),PG (X.blk s H scope (compEnvC scope cl Ca X.env) fp) tg g) (ht:∀ (s:Shared) (H:Hp) (Ca:Addr) (cl:List (Str × Addr)) (fp:List Addr),PTs (X.blk s H scope (compEnvC scope cl Ca X.env) fp) ifs tt)
  (hk:∀ (s:Shared) (H:Hp) (Ca:Addr) (cl:List (Str × Addr)) (fp:List Addr),PE (X.blk s H scope (compEnvC scope cl Ca X.env) fp) kx tk)
  (he:∀ (s:Shared) (H:Hp) (Ca:Addr) (cl:List (Str × Addr)) (fp:List Addr),PE (X.blk s H scope (compEnvC scope cl Ca X.env) fp) vx tv) (hs:∀ x,foldedSetIterable iter X.env x=pure x) :
  PS X (.Assign [.Name y py] (.DictComp kx vx [⟨tg,iter,ifs,0⟩] scope pos) spos) (tAsg (tDc wi g tt tk tv (own.map (·.2))) (gName i)):=by
 refine ⟨fun pn s σ H D I h=>?_⟩
 rw [exec_Assign_Name_used _ _ _ _ sw]
 have h:tDc wi g tt tk tv (own.map (·.2)) σ H (fun x H1=>gName i x σ H1 D.nx):=h
 refine wpAny_bind (wpAny_standAt (wpAny_bind (wpAny_bind (m:=comprehension (.DictComp kx vx [⟨tg,iter,ifs,0⟩] scope pos) scope X.env (firstIterPos [⟨tg,iter,ifs,0⟩] pos) newDict false (eval iter X.env) (some (assign (.Name y py) X.env))) ?_)))
 refine thn (dc_core (Qf:=fun _ s'=>SP X pn D .next s') hc hN I hi ok hg ht hk he hs h fun L Ca s' m H' I' q hn f=>?_) fun _ s' hq=>wpAny_pure (wpAny_pure hq)
 show wpAny _ _ (assign (.Name y py) X.env (.ref L)) _ _ _
 refine wpAny_assign_Name (store_ok2 (v:=V.ref L) I' hN hy (.inl hyl) rfl (fun s2 I2 ⟨a,sb,ha⟩=>?_) (.inr hyl))
 have other:Ca≠a:=ha.elim (fun z=>by rw [z];exact f.2.1) fun z e=>f.2.2.2.2.1 y a z e.symm
 exact ⟨m,hn.sameBut sb other,fun h3 sb3=>⟨_,H',I2.turned (t':=s2.toks) (fun b o hb e=>(sb3.2 b hb).trans e) f.1 f.2.1 f.2.2.2.1 f.2.2.2.2.1 f.2.2.2.2.2,q⟩⟩
theorem ps_setDc2 {i:Nat}{y:Str}{py:Pos}{kE vE ga ia gb ib:Expr}{scope:Scope}{own:List (Str × Nat)}{vs1:List Nat}{pos spos:Pos}{wi wi1:TI}{g g1:TG}{tk tv:TE}(hc:X.calm=true)(hN:X.N.Nodup)(hy:X.N[i]?=some y)
  (hyl:X.env.scope.names.lookup y=some .local) (sw:swapsWith (dcX kE vE ga ia gb ib [] [] scope pos) (some (.Name y py)) spos.line X.env=pure true) (hi:PI X ga ia wi) (ok:BlkOk X.N X.env.scope scope own) (hv:∀ i∈vs1,i∈own.map (·.2))
  (hg:∀ (s:Shared) (H:Hp) (Ca:Addr) (cl:List (Str × Addr)) (fp:List Addr),PG (X.blk s H scope (compEnvC scope cl Ca X.env) fp) ga g)
  (hib:∀ (s:Shared) (H:Hp) (Ca:Addr) (cl:List (Str × Addr)) (fp:List Addr),PI (X.blk s H scope (compEnvC scope cl Ca X.env) fp) gb ib wi1)
  (hgb:∀ (s:Shared) (H:Hp) (Ca:Addr) (cl:List (Str × Addr)) (fp:List Addr),PG (X.blk s H scope (compEnvC scope cl Ca X.env) fp) gb g1)
  (hk:∀ (s:Shared) (H:Hp) (Ca:Addr) (cl:List (Str × Addr)) (fp:List Addr),PE (X.blk s H scope (compEnvC scope cl Ca X.env) fp) kE tk)
  (hw:∀ (s:Shared) (H:Hp) (Ca:Addr) (cl:List (Str × Addr)) (fp:List Addr),PE (X.blk s H scope (compEnvC scope cl Ca X.env) fp) vE tv)
  (hs:∀ x,foldedSetIterable ia X.env x=pure x) (hsb:∀ env x,foldedSetIterable ib env x=pure x) :
  PS X (.Assign [.Name y py] (dcX kE vE ga ia gb ib [] [] scope pos) spos) (tAsg (tDc2 wi g wi1 g1 tk tv (own.map (·.2)) vs1) (gName i)):=by
 refine ⟨fun pn s σ H D I h=>?_⟩
 rw [exec_Assign_Name_used _ _ _ _ sw]
 have h:tDc2 wi g wi1 g1 tk tv (own.map (·.2)) vs1 σ H (fun x H1=>gName i x σ H1 D.nx):=h
 refine wpAny_bind (wpAny_standAt (wpAny_bind (wpAny_bind (m:=comprehension (dcX kE vE ga ia gb ib [] [] scope pos) scope X.env (firstIterPos [⟨ga,ia,[],0⟩,⟨gb,ib,[],0⟩] pos) newDict false (eval ia X.env) (some (assign (.Name y py) X.env))) ?_)))
 refine thn (dc2_core (Qf:=fun _ s'=>SP X pn D .next s') hc hN I hi ok hv hg hib hgb hk hw hs hsb h fun L Ca s' m H' I' q hn f=>?_) fun _ s' hq=>wpAny_pure (wpAny_pure hq)
 show wpAny _ _ (assign (.Name y py) X.env (.ref L)) _ _ _
 refine wpAny_assign_Name (store_ok2 (v:=V.ref L) I' hN hy (.inl hyl) rfl (fun s2 I2 ⟨a,sb,ha⟩=>?_) (.inr hyl))
 have other:Ca≠a:=ha.elim (fun z=>by rw [z];exact f.2.1) fun z e=>f.2.2.2.2.1 y a z e.symm
 exact ⟨m,hn.sameBut sb other,fun h3 sb3=>⟨_,H',I2.turned (t':=s2.toks) (fun b o hb e=>(sb3.2 b hb).trans e) f.1 f.2.1 f.2.2.2.1 f.2.2.2.2.1 f.2.2.2.2.2,q⟩⟩
theorem sw_dict {kx vx:Expr}{gs:List Comprehension}{scope:Scope}{pos py:Pos}{y:Str}{l:Nat}{env:PySem.Env}(hk:env.scope.kind=.function)(hy:env.scope.names.lookup y=some .local)(hl:(py.line==pos.line)=true)
  (ha:(scope.names.any fun (n,k)=>n==y&&(k==.local || k==.cell))=false):swapsWith (.DictComp kx vx gs scope pos) (some (.Name y py)) l env=pure true:=by
 have ky:env.kindOf y=some .local:=hy
 have hb:env.blockKind=.function:=by unfold PySem.Env.blockKind;rw [hk];rfl
 unfold swapsWith
 simp only [hb,ky,ha,Expr.pos,hl]
 rfl
end
section
variable {X:Cx}{pr:Prog}{XR:XRel}{C:SC}{n:Nat}{W:WX}{cx:Ctx}{pos:Pos}
theorem s_asgD (Gd:Good X pr XR C n)(hcal:C.cal=true){own:Bool}{i:Nat}{x:Str}{px:Pos}{ek ev:E}{tg:Tg}{it:It}{c:Eo}{ow:List Nat}{pk pv ptg pit:Expr}{ifs:List Expr}{scope:Scope}{lpos:Pos}
  (hN:C.N[i]?=some x) (lx:C.sc.names.lookup x=some .local) (hw:lcSwap C.sc x px (.DictComp pk pv [⟨ptg,pit,ifs,0⟩] scope lpos)=true) (hf:own=true→fresh (.dc ek ev tg it c ow)=true)
  (hi:PI X ptg pit (gI X XR W cx it)) (bok:BlkOk X.N X.env.scope scope (ownN C.N ow)) (hown:(ownN C.N ow).map (·.2)=ow) (htg:tgIn ow tg=true)
  (hg:∀ (s:Shared) (H:Hp) (Ca:Addr) (cl:List (Str × Addr)) (fp:List Addr),PG (X.blk s H scope (compEnvC scope cl Ca X.env) fp) ptg (tG X.K X.w tg))
  (ht:∀ (s:Shared) (H:Hp) (Ca:Addr) (cl:List (Str × Addr)) (fp:List Addr),PTs (X.blk s H scope (compEnvC scope cl Ca X.env) fp) ifs (tBo X.K X.w XR WF cx c))
  (hk:∀ (s:Shared) (H:Hp) (Ca:Addr) (cl:List (Str × Addr)) (fp:List Addr),PE (X.blk s H scope (compEnvC scope cl Ca X.env) fp) pk (tE X.K X.w XR WF cx ek))
  (he:∀ (s:Shared) (H:Hp) (Ca:Addr) (cl:List (Str × Addr)) (fp:List Addr),PE (X.blk s H scope (compEnvC scope cl Ca X.env) fp) pv (tE X.K X.w XR WF cx ev))
  (hs:∀ x,foldedSetIterable pit X.env x=pure x):PS X (.Assign [.Name x px] (.DictComp pk pv [⟨ptg,pit,ifs,0⟩] scope lpos) pos) (gS X XR W cx (.asg own i (.dc ek ev tg it c ow))):=by
 unfold lcSwap at hw
 simp only [Bool.and_eq_true,Bool.not_eq_true'] at hw
 refine PS.of (ps_setDc (Gd.calm hcal) Gd.nd (by rw [Gd.N];exact hN) (by rw [Gd.sc];exact lx) (sw_dict Gd.kind (by rw [Gd.sc];exact lx) hw.2.1 hw.2.2) hi bok hg ht hk he hs) fun D σ H h=>?_
 rw [hown]
 exact dc_in Gd htg (put_in hf h)
theorem s_asgD2 (Gd:Good X pr XR C n)(hcal:C.cal=true){own:Bool}{i:Nat}{x:Str}{px:Pos}{ek ev:E}{tg tg1:Tg}{it it1:It}{ow ow1:List Nat}{pk pv ptg pit ptg1 pit1:Expr}{scope:Scope}{lpos:Pos}
  (hN:C.N[i]?=some x) (lx:C.sc.names.lookup x=some .local) (hw:lcSwap C.sc x px (dcX pk pv ptg pit ptg1 pit1 [] [] scope lpos)=true) (hf:own=true→fresh (.dc2 ek ev tg it tg1 it1 ow ow1)=true)
  (hi:PI X ptg pit (gI X XR W cx it)) (bok:BlkOk X.N X.env.scope scope (ownN C.N ow)) (hown:(ownN C.N ow).map (·.2)=ow) (htg:tgIn ow tg=true) (htg1:tgIn ow1 tg1=true) (hsub:∀ i∈ow1,i∈ow)
  (hg:∀ (s:Shared) (H:Hp) (Ca:Addr) (cl:List (Str × Addr)) (fp:List Addr),PG (X.blk s H scope (compEnvC scope cl Ca X.env) fp) ptg (tG X.K X.w tg))
  (hi1:∀ (s:Shared) (H:Hp) (Ca:Addr) (cl:List (Str × Addr)) (fp:List Addr),PI (X.blk s H scope (compEnvC scope cl Ca X.env) fp) ptg1 pit1 (tI X.K X.w XR WF cx it1))
  (hg1:∀ (s:Shared) (H:Hp) (Ca:Addr) (cl:List (Str × Addr)) (fp:List Addr),PG (X.blk s H scope (compEnvC scope cl Ca X.env) fp) ptg1 (tG X.K X.w tg1))
  (hk:∀ (s:Shared) (H:Hp) (Ca:Addr) (cl:List (Str × Addr)) (fp:List Addr),PE (X.blk s H scope (compEnvC scope cl Ca X.env) fp) pk (tE X.K X.w XR WF cx ek))
  (he:∀ (s:Shared) (H:Hp) (Ca:Addr) (cl:List (Str × Addr)) (fp:List Addr),PE (X.blk s H scope (compEnvC scope cl Ca X.env) fp) pv (tE X.K X.w XR WF cx ev))
  (hs:∀ x,foldedSetIterable pit X.env x=pure x) (hs1:∀ env x,foldedSetIterable pit1 env x=pure x):PS X (.Assign [.Name x px] (dcX pk pv ptg pit ptg1 pit1 [] [] scope lpos) pos) (gS X XR W cx (.asg own i (.dc2 ek ev tg it tg1 it1 ow ow1))):=by
 unfold lcSwap at hw
 simp only [Bool.and_eq_true,Bool.not_eq_true'] at hw
 refine PS.of (ps_setDc2 (vs1:=ow1) (Gd.calm hcal) Gd.nd (by rw [Gd.N];exact hN) (by rw [Gd.sc];exact lx) (sw_dict Gd.kind (by rw [Gd.sc];exact lx) hw.2.1 hw.2.2) hi bok (fun i hi=>by rw [hown];exact hsub i hi) hg hi1 hg1 hk he hs hs1) fun D σ H h=>?_
 rw [hown]
 exact dc2_in Gd htg htg1 hsub (put_in hf h)
theorem swaps_dc (Gd:Good X pr XR C n){kx vx:Expr}{gs:List Comprehension}{scope:Scope}{lpos px:Pos}{x:Str}{l:Nat}(h:lcSwap C.sc x px (.DictComp kx vx gs scope lpos)=false) :
  swapsWith (.DictComp kx vx gs scope lpos) (some (.Name x px)) l X.env=pure false:=by
 have hb:X.env.blockKind=.function:=by unfold PySem.Env.blockKind;rw [Gd.kind];rfl
 have hk:X.env.kindOf x=C.sc.names.lookup x:=by show X.env.scope.names.lookup x=_;rw [Gd.sc]
 unfold swapsWith
 simp only [hb,hk,Expr.pos]
 rw [show (ScopeKind.function==ScopeKind.function)=true from rfl,Bool.true_and,Bool.and_assoc]
 exact congrArg pure h
theorem lcSwap_locD {sc:Scope}{x:Str}{px:Pos}{pk pv:Expr}{gs:List Comprehension}{scope:Scope}{pos:Pos}(h:lcSwap sc x px (.DictComp pk pv gs scope pos)=true):sc.names.lookup x=some .local:=by
 unfold lcSwap at h
 simp only [Bool.and_eq_true] at h
 exact eq_of_beq h.1
end
end PL
end
section
namespace L2
open PySem PySem.Spec PyProof.Rows
section
end
end L2
end
section
namespace PL
open PySem PySem.Spec PyProof.Rows L2
section
end
end PL
end
section
namespace PL
open PySem PySem.Spec PyProof.Rows L2
section
variable {XR:XRel}{n:Nat}
theorem swaps_lc {X:Cx}{C:SC}{pr:Prog}(Gd:Good X pr XR C n){elt:Expr}{gs:List Comprehension}{scope:Scope}{pos px:Pos}{x:Str}{l:Nat}(h:lcSwap C.sc x px (.ListComp elt gs scope pos)=false) :
  swapsWith (.ListComp elt gs scope pos) (some (.Name x px)) l X.env=pure false:=by
 have hb:X.env.blockKind=.function:=by unfold Env.blockKind;rw [Gd.kind];rfl
 have hk:X.env.kindOf x=C.sc.names.lookup x:=by show X.env.scope.names.lookup x=_;rw [Gd.sc]
 unfold swapsWith
 simp only [hb,hk,Expr.pos]
 rw [show (ScopeKind.function==ScopeKind.function)=true from rfl,Bool.true_and,Bool.and_assoc]
 exact congrArg pure h
theorem lcSwap_loc {sc:Scope}{x:Str}{px:Pos}{elt:Expr}{gs:List Comprehension}{scope:Scope}{pos:Pos}(h:lcSwap sc x px (.ListComp elt gs scope pos)=true):sc.names.lookup x=some .local:=by
 unfold lcSwap at h
 simp only [Bool.and_eq_true] at h
 exact eq_of_beq h.1
theorem lc_of {C:SC}{e:E}{elt:Expr}{gs:List Comprehension}{scope:Scope}{pos:Pos}(h:chkE C e (.ListComp elt gs scope pos)=true):(∃ e' tg it c own,e=.lc e' tg it c own)∨∃ e' tg it tg1 it1 own own1,e=.lc2 e' tg it tg1 it1 own own1:=by
 cases e<;>first|exact .inl ⟨_,_,_,_,_,rfl⟩|exact .inr ⟨_,_,_,_,_,_,_,rfl⟩|exact (Bool.false_ne_true h).elim|(rename_i a0;cases a0<;>exact (Bool.false_ne_true h).elim)|(rename_i a0 c0;cases a0<;>exact (Bool.false_ne_true h).elim)
theorem dc_of {C:SC}{e:E}{pk pv:Expr}{gs:List Comprehension}{scope:Scope}{pos:Pos}(h:chkE C e (.DictComp pk pv gs scope pos)=true):(∃ k v tg it c own,e=.dc k v tg it c own)∨∃ k v tg it tg1 it1 own own1,e=.dc2 k v tg it tg1 it1 own own1:=by
 cases e<;>first|exact .inl ⟨_,_,_,_,_,_,rfl⟩|exact .inr ⟨_,_,_,_,_,_,_,_,rfl⟩|exact (Bool.false_ne_true h).elim|(rename_i a0;cases a0<;>exact (Bool.false_ne_true h).elim)|(rename_i a0 c0;cases a0<;>exact (Bool.false_ne_true h).elim)
theorem lc_else {C:SC}{e:E}{p:Expr}(h:chkE C e p=true):isLC p=false∨(∃ elt gs scope pos,p=.ListComp elt gs scope pos)∨∃ pk pv gs scope pos,p=.DictComp pk pv gs scope pos:=by
 cases p<;>first|exact .inl rfl|exact .inr (.inl ⟨_,_,_,_,rfl⟩)|exact .inr (.inr ⟨_,_,_,_,_,rfl⟩)|skip
 all_goals
  cases e<;>first|exact (Bool.false_ne_true h).elim|(rename_i a0;cases a0<;>exact (Bool.false_ne_true h).elim)|(rename_i a0 c0;cases a0<;>exact (Bool.false_ne_true h).elim)
def PO (X:Cx):Prop:=PassesOwn (model X.prog X.w) X.A X.env X.xe∧X.stack=X.env::X.outer∧X.env.frame=some X.env.locals
mutual
theorem sSt:∀ (s:S) {pr:Prog} {X:Cx} {C:SC} {W:WX} {p:Stmt},Good X pr XR C n→Takes X W→(C.cal=true→PO X)→chkS C s p=true→PS X p (gS X XR W (pr.cxe n) s)
 | .asg o i e,pr,X,C,W,p,G,tk,po,h=>by
  cases p with
  | Assign v1 v2 v3 =>
   cases v1 with
   | cons v4 v5 =>
    cases v4 with
    | Name x0 p0 =>
     cases v5 with
     | nil =>
      replace h:=show (_&&_)=true from h
      simp only [Bool.and_eq_true,decide_eq_true_eq,Bool.or_eq_true,Bool.not_eq_true'] at h
      obtain ⟨h1,h2,h3,h4⟩:=h
      obtain ⟨l1,l2⟩:=G.st _ h3
      have hf:o=true→fresh e=true:=fun z=>h1.resolve_left (by rw [z];decide)
      rcases lc_else h4 with z|⟨elt,gs,scope,lpos,rfl⟩|⟨pk,pv,gs,scope,lpos,rfl⟩
      ·exact s_asg G.nd (by rw [G.N];exact h2) l1 l2 hf (swaps_no z _ _ _) (sE e G tk h4).v
      rotate_left
      ·cases hw:lcSwap C.sc x0 p0 (.DictComp pk pv gs scope lpos) with
       | false=>exact s_asg G.nd (by rw [G.N];exact h2) l1 l2 hf (swaps_dc G hw) (sE e G tk h4).v
       | true =>
        rcases dc_of h4 with ⟨k',v',tg,it,c,own,rfl⟩|⟨k',v',tg,it,tg1,it1,own,own1,rfl⟩
        ·obtain ⟨pk',pv',ptg,pit,ifs,scope',pos',ep,k0,k1,k2,k3,k4,k5,k6,k7,k7',k8⟩:=inv_dc h4
         cases ep
         refine s_asgD G k0 h2 (lcSwap_locD hw) hw hf (sI it G tk k5 k3) (by rw [G.N,G.sc];exact blkOk_by k2) (ownN_snd k1) k4 (fun s H Ca cl fp=>g_ok (G.blk k0 (blkOk_by k2).kind s H cl Ca fp) k6) (fun s H Ca cl fp=>?_) (fun s H Ca cl fp=>(sE k' (G.blk k0 (blkOk_by k2).kind s H cl Ca fp) Takes.wf k7).v) (fun s H Ca cl fp=>(sE v' (G.blk k0 (blkOk_by k2).kind s H cl Ca fp) Takes.wf k7').v) (foldOk k5 X.env)
         refine sB c (G.blk k0 (blkOk_by k2).kind s H cl Ca fp) Takes.wf ?_
         rcases k8 with ⟨rfl,rfl⟩|⟨c',p',rfl,rfl,h9⟩
         ·trivial
         ·exact h9
        ·obtain ⟨pk',pv',ptg,pit,ptg1,pit1,scope',pos',ep,k0,k1,k2,ks,k3,k4,k4',k5,k6,k7,k8,k9,k10,k11⟩:=inv_dc2 h4
         cases ep
         exact s_asgD2 G k0 h2 (lcSwap_locD hw) hw hf (sI it G tk k5 k3) (by rw [G.N,G.sc];exact blkOk_by k2) (ownN_snd k1) k4 k4' (fun i hi=>by
          have:=List.all_eq_true.mp ks i hi
          simpa using this) (fun s H Ca cl fp=>g_ok (G.blk k0 (blkOk_by k2).kind s H cl Ca fp) k6)
          (fun s H Ca cl fp=>sI it1 (G.blk k0 (blkOk_by k2).kind s H cl Ca fp) Takes.wf k8 k7) (fun s H Ca cl fp=>g_ok (G.blk k0 (blkOk_by k2).kind s H cl Ca fp) k9) (fun s H Ca cl fp=>(sE k' (G.blk k0 (blkOk_by k2).kind s H cl Ca fp) Takes.wf k10).v) (fun s H Ca cl fp=>(sE v' (G.blk k0 (blkOk_by k2).kind s H cl Ca fp) Takes.wf k11).v) (foldOk k5 X.env) fun env=>foldOk k8 env
      ·cases hw:lcSwap C.sc x0 p0 (.ListComp elt gs scope lpos) with
       | false=>exact s_asg G.nd (by rw [G.N];exact h2) l1 l2 hf (swaps_lc G hw) (sE e G tk h4).v
       | true =>
        rcases lc_of h4 with ⟨e',tg,it,c,own,rfl⟩|⟨e',tg,it,tg1,it1,own,own1,rfl⟩
        rotate_left
        ·obtain ⟨pe,ptg,pit,ptg1,pit1,scope',pos',ep,k0,k1,k2,ks,k3,k4,k4',k5,k6,k7,k8,k9,k10⟩:=inv_lc2 h4
         cases ep
         exact s_asgL2 G k0 h2 (lcSwap_loc hw) hw (sI it G tk k5 k3) (by rw [G.N,G.sc];exact blkOk_by k2) (ownN_snd k1) k4 k4' (fun i hi=>by
          have:=List.all_eq_true.mp ks i hi
          simpa using this) (fun s H Ca cl fp=>g_ok (G.blk k0 (blkOk_by k2).kind s H cl Ca fp) k6) (fun s H Ca cl fp=>no_test)
          (fun s H Ca cl fp=>sI it1 (G.blk k0 (blkOk_by k2).kind s H cl Ca fp) Takes.wf k8 k7) (fun s H Ca cl fp=>g_ok (G.blk k0 (blkOk_by k2).kind s H cl Ca fp) k9) (fun s H Ca cl fp=>(sE e' (G.blk k0 (blkOk_by k2).kind s H cl Ca fp) Takes.wf k10).v) (foldOk k5 X.env) fun env=>foldOk k8 env
        obtain ⟨pe,ptg,pit,ifs,scope',pos',ep,k0,k1,k2,k3,k4,k5,k6,k7,k8⟩:=inv_lc h4
        cases ep
        refine s_asgL G k0 h2 (lcSwap_loc hw) hw (sI it G tk k5 k3) (by rw [G.N,G.sc];exact blkOk_by k2) (ownN_snd k1) k4 (fun s H Ca cl fp=>g_ok (G.blk k0 (blkOk_by k2).kind s H cl Ca fp) k6) (fun s H Ca cl fp=>?_) (fun s H Ca cl fp=>(sE e' (G.blk k0 (blkOk_by k2).kind s H cl Ca fp) Takes.wf k7).v) (foldOk k5 X.env)
        refine sB c (G.blk k0 (blkOk_by k2).kind s H cl Ca fp) Takes.wf ?_
        rcases k8 with ⟨rfl,rfl⟩|⟨c',p',rfl,rfl,h9⟩
        ·trivial
        ·exact h9
     | _=>exact (Bool.false_ne_true h).elim
    | _=>exact (Bool.false_ne_true h).elim
   | _=>exact (Bool.false_ne_true h).elim
  | _=>exact (Bool.false_ne_true h).elim
 | .asgs fz i e,pr,X,C,W,p,G,tk,po,h=>(Bool.false_ne_true h).elim
 | .par2 o1 o2 i j a b,pr,X,C,W,p,G,tk,po,h=>by
  cases p with
  | Assign v15 v16 v17 =>
   cases v15 with
   | cons v18 v19 =>
    cases v18 with
    | Tuple v20 v21 v22 =>
     cases v20 with
     | cons v23 v24 =>
      cases v23 with
      | Name v25 v26 =>
       cases v24 with
       | cons v27 v28 =>
        cases v27 with
        | Name v29 v30 =>
         cases v28 with
         | nil =>
          cases v19 with
          | nil =>
           cases v16 with
           | Tuple v31 v32 v33 =>
            cases v31 with
            | cons v34 v35 =>
             cases v35 with
             | cons v36 v37 =>
              cases v37 with
              | nil =>
               replace h:=show (_&&_)=true from h
               simp only [locB,Bool.and_eq_true,decide_eq_true_eq,Bool.or_eq_true,Bool.not_eq_true'] at h
               obtain ⟨h0,⟨f1,f2⟩,⟨n1,n2,n3⟩,⟨l1,l2⟩,hw,⟨s1,s2⟩,c1,c2⟩:=h
               exact s_par2 G h0 (fun z=>f1.resolve_left (by rw [z];decide)) (fun z=>f2.resolve_left (by rw [z];decide)) n1 n2 n3 l1 l2 hw s1 s2 (sE a G tk c1).v (sE b G tk c2).v
              | _=>exact (Bool.false_ne_true h).elim
             | _=>exact (Bool.false_ne_true h).elim
            | _=>exact (Bool.false_ne_true h).elim
           | _=>exact (Bool.false_ne_true h).elim
          | _=>exact (Bool.false_ne_true h).elim
         | _=>exact (Bool.false_ne_true h).elim
        | _=>exact (Bool.false_ne_true h).elim
       | _=>exact (Bool.false_ne_true h).elim
      | _=>exact (Bool.false_ne_true h).elim
     | _=>exact (Bool.false_ne_true h).elim
    | _=>exact (Bool.false_ne_true h).elim
   | _=>exact (Bool.false_ne_true h).elim
  | _=>exact (Bool.false_ne_true h).elim
 | .par3 o1 o2 o3 i j l a b c,pr,X,C,W,p,G,tk,po,h=>(Bool.false_ne_true h).elim
 | .asgT3 o1 o2 o3 i j l a b c,pr,X,C,W,p,G,tk,po,h=>(Bool.false_ne_true h).elim
 | .asgT2 o1 o2 i j a b,pr,X,C,W,p,G,tk,po,h=>by
  cases p with
  | Assign v67 v68 v69 =>
   cases v67 with
   | cons v70 v71 =>
    cases v70 with
    | Tuple v72 v73 v74 =>
     cases v72 with
     | cons v75 v76 =>
      cases v75 with
      | Name v77 v78 =>
       cases v76 with
       | cons v79 v80 =>
        cases v79 with
        | Name v81 v82 =>
         cases v80 with
         | nil =>
          cases v71 with
          | nil =>
           cases v68 with
           | Tuple v83 v84 v85 =>
            cases v83 with
            | cons v86 v87 =>
             cases v87 with
             | cons v88 v89 =>
              cases v89 with
              | nil =>
               replace h:=show (_&&_)=true from h
               simp only [Bool.and_eq_true,decide_eq_true_eq,Bool.or_eq_true,Bool.not_eq_true'] at h
               obtain ⟨h0,⟨f1,f2⟩,⟨n1,n2,n3⟩,⟨l1,l2⟩,hw,⟨s1,s2⟩,c1,c2⟩:=h
               exact s_asgT2 G h0 (fun z=>f1.resolve_left (by rw [z];decide)) (fun z=>f2.resolve_left (by rw [z];decide)) n1 n2 n3 l1 l2 hw s1 s2 (sE a G tk c1).v (sE b G tk c2).v
              | _=>exact (Bool.false_ne_true h).elim
             | _=>exact (Bool.false_ne_true h).elim
            | _=>exact (Bool.false_ne_true h).elim
           | _=>exact (Bool.false_ne_true h).elim
          | _=>exact (Bool.false_ne_true h).elim
         | _=>exact (Bool.false_ne_true h).elim
        | _=>exact (Bool.false_ne_true h).elim
       | _=>exact (Bool.false_ne_true h).elim
      | _=>exact (Bool.false_ne_true h).elim
     | _=>exact (Bool.false_ne_true h).elim
    | _=>exact (Bool.false_ne_true h).elim
   | _=>exact (Bool.false_ne_true h).elim
  | _=>exact (Bool.false_ne_true h).elim
 | .asgT tg e,pr,X,C,W,p,G,tk,po,h=>by
  cases p with
  | Assign v90 v91 v92 =>
   cases v90 with
   | cons v93 v94 =>
    cases v93 with
    | Tuple v95 v96 v97 =>
     cases v94 with
     | nil =>
      replace h:=show (_&&_)=true from h
      simp only [Bool.and_eq_true,decide_eq_true_eq] at h
      obtain ⟨h1,h3,h4⟩:=h
      exact s_asgT G h1 (g_ok G h3) (sE e G tk h4).v
     | _=>exact (Bool.false_ne_true h).elim
    | _=>exact (Bool.false_ne_true h).elim
   | _=>exact (Bool.false_ne_true h).elim
  | _=>exact (Bool.false_ne_true h).elim
 | .frz fz,pr,X,C,W,p,G,tk,po,h=>by
  first|exact (Bool.false_ne_true h).elim|(cases p<;>exact (Bool.false_ne_true h).elim)
 | .aug i e,pr,X,C,W,p,G,tk,po,h=>(Bool.false_ne_true h).elim
 | .dnew i,pr,X,C,W,p,G,tk,po,h=>(Bool.false_ne_true h).elim
 | .dput i k e,pr,X,C,W,p,G,tk,po,h=>(Bool.false_ne_true h).elim
 | .lput i k e,pr,X,C,W,p,G,tk,po,h=>(Bool.false_ne_true h).elim
 | .app fz i e,pr,X,C,W,p,G,tk,po,h=>by
  cases p with
  | Expr v118 v119 =>
   cases v118 with
   | Call v120 v121 v122 v123 =>
    cases v120 with
    | Attribute v124 v125 v126 =>
     cases v124 with
     | Name v127 v128 =>
      cases v121 with
      | cons v129 v130 =>
       cases v130 with
       | nil =>
        cases v122 with
        | nil =>
         replace h:=show (_&&_)=true from h
         simp only [Bool.and_eq_true,decide_eq_true_eq,Bool.not_eq_true'] at h
         obtain ⟨rfl,h1,h2,h3,h4,h5,h6⟩:=h
         exact s_app G h1 h2 (vis_of G h3) h4 h5 (sE e G tk h6).v
        | _=>exact (Bool.false_ne_true h).elim
       | _=>exact (Bool.false_ne_true h).elim
      | _=>exact (Bool.false_ne_true h).elim
     | _=>exact (Bool.false_ne_true h).elim
    | _=>exact (Bool.false_ne_true h).elim
   | _=>exact (Bool.false_ne_true h).elim
  | _=>exact (Bool.false_ne_true h).elim
 | .ext fz i e,pr,X,C,W,p,G,tk,po,h=>(Bool.false_ne_true h).elim
 | .exp e,pr,X,C,W,p,G,tk,po,h=>by
  cases p with
  | Expr v144 v145 =>
   replace h:=show (_&&_)=true from h
   simp only [Bool.and_eq_true,decide_eq_true_eq,Bool.not_eq_true'] at h
   exact s_exp h.1 (sE e G tk h.2).v
  | _=>exact (Bool.false_ne_true h).elim
 | .ite fz c a b,pr,X,C,W,p,G,tk,po,h=>by
  cases p with
  | If v146 v147 v148 v149 =>
   replace h:=show (_&&_)=true from h
   simp only [Bool.and_eq_true] at h
   exact s_ite G.anti (sE c G tk h.1).t (sSs a G tk po h.2.1) (sSs b G tk po h.2.2)
  | _=>exact (Bool.false_ne_true h).elim
 | .whl fz c b,pr,X,C,W,p,G,tk,po,h=>by
  cases p with
  | While v150 v151 v152 v153 =>
   cases v152 with
   | nil =>
    replace h:=show (_&&_)=true from h
    simp only [Bool.and_eq_true] at h
    exact s_whl G.anti (po h.1).1 (sE c G tk h.2.1).t (sSs b G tk po h.2.2)
   | _=>exact (Bool.false_ne_true h).elim
  | _=>exact (Bool.false_ne_true h).elim
 | .for_ tg it b,pr,X,C,W,p,G,tk,po,h=>by
  cases p with
  | For v154 v155 v156 v157 v158 =>
   cases v157 with
   | nil =>
    replace h:=show (_&&_)=true from h
    simp only [Bool.and_eq_true] at h
    exact s_for G h.1 (po h.1).1 (foldOk h.2.2.2.1 X.env) (sI it G tk h.2.2.2.1 h.2.1) (g_ok G h.2.2.1) (sSs b G tk po h.2.2.2.2)
   | _=>exact (Bool.false_ne_true h).elim
  | _=>exact (Bool.false_ne_true h).elim
 | .ret e,pr,X,C,W,p,G,tk,po,h=>by
  cases p with
  | Return v159 v160 =>
   cases v159 with
   | some v161 =>
    exact s_ret (sE e G tk h).v
   | _=>exact (Bool.false_ne_true h).elim
  | _=>exact (Bool.false_ne_true h).elim
 | .retN,pr,X,C,W,p,G,tk,po,h=>(Bool.false_ne_true h).elim
 | .pass,pr,X,C,W,p,G,tk,po,h=>(Bool.false_ne_true h).elim
 | .brk,pr,X,C,W,p,G,tk,po,h=>(Bool.false_ne_true h).elim
 | .cnt,pr,X,C,W,p,G,tk,po,h=>(Bool.false_ne_true h).elim
 | .mtch e cs,pr,X,C,W,p,G,tk,po,h=>(Bool.false_ne_true h).elim
 | .never,pr,X,C,W,p,G,tk,po,h=>(Bool.false_ne_true h).elim
 | .raise c,pr,X,C,W,p,G,tk,po,h=>by
  cases p with
  | Raise v170 v171 v172 =>
   cases v170 with
   | some v173 =>
    cases v173 with
    | Call v174 v175 v176 v177 =>
     cases v174 with
     | Name v178 v179 =>
      cases v175 with
      | nil =>
       cases v176 with
       | nil =>
        cases v171 with
        | none =>
         replace h:=show (_&&_)=true from h
         simp only [Bool.and_eq_true,decide_eq_true_eq,Option.isNone_iff_eq_none] at h
         exact s_raise G h.1 tk (glob_of G h.2.1) h.2.2.1 h.2.2.2
        | _=>exact (Bool.false_ne_true h).elim
       | _=>exact (Bool.false_ne_true h).elim
      | _=>exact (Bool.false_ne_true h).elim
     | _=>exact (Bool.false_ne_true h).elim
    | _=>exact (Bool.false_ne_true h).elim
   | _=>exact (Bool.false_ne_true h).elim
  | _=>exact (Bool.false_ne_true h).elim
 | .raiseF c ns es,pr,X,C,W,p,G,tk,po,h=>(Bool.false_ne_true h).elim
 | .tryA cs i b hd,pr,X,C,W,p,G,tk,po,h=>by
  cases p with
  | Try v180 v181 v182 v183 v184 =>
   cases v181 with
   | cons v185 v186 =>
    cases v185 with
    | ExceptHandler v187 v188 v189 v190 =>
     cases v187 with
     | some v191 =>
      cases v191 with
      | Name v192 v193 =>
       cases v188 with
       | some v194 =>
        cases v189 with
        | cons p0 v196 =>
         cases v186 with
         | nil =>
          cases v182 with
          | nil =>
           cases v183 with
           | nil =>
            replace h:=show (_&&_)=true from h
            simp only [Bool.and_eq_true,decide_eq_true_eq] at h
            obtain ⟨h0,h1,h2,h3,h4,h5,h6⟩:=h
            exact s_tryA G tk (po h0).2.1 (po h0).2.2 (glob_of G h1) h2 h3 h4 (fun W pn xe tk' po'=>sSs b (G.tr h0 pn xe) tk' (fun _=>⟨po',(po h0).2.1,(po h0).2.2⟩) h5)
             fun a D oe pn c nm anc dx d ns hl cx hz hf hdf=>by
              have:=sSs hd (G.suite (a:=a) (pn:=pn) hl cx hz hf hdf) Takes.wf (fun z=>absurd (show false=true from z) (by decide)) h6
              unfold gSs Prog.cxe at this
              rw [run_er] at this
              exact this
           | _=>exact (Bool.false_ne_true h).elim
          | _=>exact (Bool.false_ne_true h).elim
         | _=>exact (Bool.false_ne_true h).elim
        | _=>exact (Bool.false_ne_true h).elim
       | _=>exact (Bool.false_ne_true h).elim
      | _=>exact (Bool.false_ne_true h).elim
     | _=>exact (Bool.false_ne_true h).elim
   | _=>exact (Bool.false_ne_true h).elim
  | _=>exact (Bool.false_ne_true h).elim
 | .tryO cs b hd,pr,X,C,W,p,G,tk,po,h=>(Bool.false_ne_true h).elim
 | .sPutB i e,pr,X,C,W,p,G,tk,po,h=>by
  cases p with
  | Assign v213 v214 v215 =>
   cases v213 with
   | cons v216 v217 =>
    cases v216 with
    | Subscript v218 v219 v220 =>
     cases v218 with
     | Subscript v221 v222 v223 =>
      cases v221 with
      | Name v224 v225 =>
       cases v222 with
       | Constant v226 v227 v228 =>
        cases v226 with
        | int v229 =>
         cases v219 with
         | Constant v230 v231 v232 =>
          cases v230 with
          | int v233 =>
           cases v217 with
           | nil =>
            replace h:=show (_&&_)=true from h
            simp only [Bool.and_eq_true,decide_eq_true_eq,Bool.not_eq_true'] at h
            obtain ⟨rfl,rfl,h1,h2,h3,h4,h5⟩:=h
            exact s_putB G h1 (vis_of G h2) h3 h4 (sE e G tk h5).v
           | _=>exact (Bool.false_ne_true h).elim
          | _=>exact (Bool.false_ne_true h).elim
         | _=>exact (Bool.false_ne_true h).elim
        | _=>exact (Bool.false_ne_true h).elim
       | _=>exact (Bool.false_ne_true h).elim
      | _=>exact (Bool.false_ne_true h).elim
     | _=>exact (Bool.false_ne_true h).elim
    | _=>exact (Bool.false_ne_true h).elim
   | _=>exact (Bool.false_ne_true h).elim
  | _=>exact (Bool.false_ne_true h).elim
 | .sPop i,pr,X,C,W,p,G,tk,po,h=>by
  cases p with
  | Expr v234 v235 =>
   cases v234 with
   | Call v236 v237 v238 v239 =>
    cases v236 with
    | Attribute v240 v241 v242 =>
     cases v240 with
     | Subscript v243 v244 v245 =>
      cases v243 with
      | Name v246 v247 =>
       cases v244 with
       | Constant v248 v249 v250 =>
        cases v248 with
        | int v251 =>
         cases v237 with
         | cons v252 v253 =>
          cases v252 with
          | Constant v254 v255 v256 =>
           cases v254 with
           | int v257 =>
            cases v253 with
            | nil =>
             cases v238 with
             | nil =>
              replace h:=show (_&&_)=true from h
              simp only [Bool.and_eq_true,decide_eq_true_eq] at h
              obtain ⟨rfl,rfl,rfl,h0,h1,h2,h3⟩:=h
              exact s_pop G h0 h1 (vis_of G h2) h3
             | _=>exact (Bool.false_ne_true h).elim
            | _=>exact (Bool.false_ne_true h).elim
           | _=>exact (Bool.false_ne_true h).elim
          | _=>exact (Bool.false_ne_true h).elim
         | _=>exact (Bool.false_ne_true h).elim
        | _=>exact (Bool.false_ne_true h).elim
       | _=>exact (Bool.false_ne_true h).elim
      | _=>exact (Bool.false_ne_true h).elim
     | _=>exact (Bool.false_ne_true h).elim
    | _=>exact (Bool.false_ne_true h).elim
   | _=>exact (Bool.false_ne_true h).elim
  | _=>exact (Bool.false_ne_true h).elim
 | .sPutT i e,pr,X,C,W,p,G,tk,po,h=>by
  cases p with
  | Assign v258 v259 v260 =>
   cases v258 with
   | cons v261 v262 =>
    cases v261 with
    | Subscript v263 v264 v265 =>
     cases v263 with
     | Name v266 v267 =>
      cases v264 with
      | Constant v268 v269 v270 =>
       cases v268 with
       | int v271 =>
        cases v262 with
        | nil =>
         replace h:=show (_&&_)=true from h
         simp only [Bool.and_eq_true,decide_eq_true_eq,Bool.not_eq_true'] at h
         obtain ⟨rfl,h1,h2,h3,h4,h5⟩:=h
         exact s_putT G h1 (vis_of G h2) h3 h4 (sE e G tk h5).v
        | _=>exact (Bool.false_ne_true h).elim
       | _=>exact (Bool.false_ne_true h).elim
      | _=>exact (Bool.false_ne_true h).elim
     | _=>exact (Bool.false_ne_true h).elim
    | _=>exact (Bool.false_ne_true h).elim
   | _=>exact (Bool.false_ne_true h).elim
  | _=>exact (Bool.false_ne_true h).elim
 | .retC f i e tg it own,pr,X,C,W,p,G,tk,po,h=>(Bool.false_ne_true h).elim
 | .retS e j,pr,X,C,W,p,G,tk,po,h=>by
  cases p with
  | Return v272 v273 =>
   cases v272 with
   | some v274 =>
    cases v274 with
    | List v275 v276 =>
     cases v275 with
     | cons v277 v278 =>
      cases v278 with
      | cons v279 v280 =>
       cases v279 with
       | IfExp v281 v282 v283 v284 =>
        cases v281 with
        | Compare v285 v286 v287 v288 =>
         cases v285 with
         | Name v289 v290 =>
          cases v286 with
          | cons v291 v292 =>
           cases v291 with
           | NotEq =>
            cases v292 with
            | nil =>
             cases v287 with
             | cons v293 v294 =>
              cases v293 with
              | List v295 v296 =>
               cases v295 with
               | nil =>
                cases v294 with
                | nil =>
                 cases v282 with
                 | Name v297 v298 =>
                  cases v283 with
                  | List v299 v300 =>
                   cases v299 with
                   | cons v301 v302 =>
                    cases v301 with
                    | Constant v303 v304 v305 =>
                     cases v303 with
                     | int v306 =>
                      cases v302 with
                      | nil =>
                       cases v280 with
                       | cons v307 v308 =>
                        cases v307 with
                        | Constant v309 v310 v311 =>
                         cases v309 with
                         | int v312 =>
                          cases v308 with
                          | nil =>
                           replace h:=show (_&&_)=true from h
                           simp only [Bool.and_eq_true,decide_eq_true_eq,Bool.not_eq_true'] at h
                           obtain ⟨rfl,rfl,rfl,h1,h2,h3,h4,h5,h6⟩:=h
                           exact s_retS G h1 (vis_of G h2) h3 h4 h5 (sE e G tk h6).v
                          | _=>exact (Bool.false_ne_true h).elim
                         | _=>exact (Bool.false_ne_true h).elim
                        | _=>exact (Bool.false_ne_true h).elim
                       | _=>exact (Bool.false_ne_true h).elim
                      | _=>exact (Bool.false_ne_true h).elim
                     | _=>exact (Bool.false_ne_true h).elim
                    | _=>exact (Bool.false_ne_true h).elim
                   | _=>exact (Bool.false_ne_true h).elim
                  | _=>exact (Bool.false_ne_true h).elim
                 | _=>exact (Bool.false_ne_true h).elim
                | _=>exact (Bool.false_ne_true h).elim
               | _=>exact (Bool.false_ne_true h).elim
              | _=>exact (Bool.false_ne_true h).elim
             | _=>exact (Bool.false_ne_true h).elim
            | _=>exact (Bool.false_ne_true h).elim
           | _=>exact (Bool.false_ne_true h).elim
          | _=>exact (Bool.false_ne_true h).elim
         | _=>exact (Bool.false_ne_true h).elim
        | _=>exact (Bool.false_ne_true h).elim
       | _=>exact (Bool.false_ne_true h).elim
      | _=>exact (Bool.false_ne_true h).elim
     | _=>exact (Bool.false_ne_true h).elim
    | _=>exact (Bool.false_ne_true h).elim
   | _=>exact (Bool.false_ne_true h).elim
  | _=>exact (Bool.false_ne_true h).elim
theorem sSs:∀ (s:Ss) {pr:Prog} {X:Cx} {C:SC} {W:WX} {p:List Stmt},Good X pr XR C n→Takes X W→(C.cal=true→PO X)→chkSs C s p=true→PSs X p (gSs X XR W (pr.cxe n) s)
 | .nil,pr,X,C,W,p,G,tk,po,h=>by
  cases p with
  | nil=>exact ss_nil
  | cons _ _=>simp [chkSs] at h
 | .cons s r,pr,X,C,W,p,G,tk,po,h=>by
  by_cases hz:∃ fz,s=.frz fz
  ·obtain ⟨fz,rfl⟩:=hz
   have h':chkSs C r p=true:=by cases p<;>simpa [chkSs] using h
   exact ss_frz (sSs r G tk po h')
  ·cases p with
   | nil =>
    cases s<;>first|(simp [chkSs] at h;done)|exact absurd ⟨_,rfl⟩ hz
   | cons p ps =>
    have h':chkS C s p=true∧chkSs C r ps=true:=by
     cases s<;>first|exact absurd ⟨_,rfl⟩ hz|(simpa [chkSs] using h)
    exact ss_cons (sSt s G tk po h'.1) (sSs r G tk po h'.2)
theorem sCs:∀ (s:Cs) {pr:Prog} {X:Cx} {C:SC} {W:WX} {p:List MatchCase},Good X pr XR C n→Takes X W→(C.cal=true→PO X)→chkC C s p=true→PCs X XR W (pr.cxe n) C s p
 | .nil,pr,X,C,W,p,G,tk,po,h=>by
  cases p with
  | nil=>exact .nil
  | cons _ _=>simp [chkC] at h
 | .cons q b r,pr,X,C,W,p,G,tk,po,h=>by
  unfold chkC at h
  split at h<;>try contradiction
  rename_i heq
  cases heq
  simp only [Bool.and_eq_true] at h
  exact .cons h.1 (sSs b G tk po h.2.1) (sCs r G tk po h.2.2)
end
end
end PL
end
section
namespace PL
open PySem PySem.Spec PyProof.Rows L2
def spR (K:PySem.W.Frag)(w:World)(XR:XRel)(g:List D→St→R D)(np:Nat):Sp:=fun vs H Q E =>
 ∃ (F:Foot) (B:Addr→Prop) (st:St) (ds:List D),vs.length=np∧(∀ b,B b→H b≠none)∧SR st F H∧RepL K w F B H vs ds ∧
  match g ds st with
  | .ok d st'=>∀ v F' H',Ext F H F' H'→SR st' F' H'→Rep K w F' B H' v d→Q v H'
  | .exc c fs st'=>∀ cls dx F' H',Ext F H F' H'→SR st' F' H'→XR c fs cls dx F' B H'→E cls dx H'
  | .no=>False
inductive DefIs (P:Program) (w:World) (K:PySem.W.Frag) (mg:Str→Option Value) (base:Heap) (XR:XRel) (pr:Prog) (fname gname:Nat→Option Str) (xt:XT) (f:Nat) (nm:Str) (a:Addr) (fd:FuncData) (ps:List Str):Prop
 | fn (N:List Str) (own qual:Str) (sd:Stmt) (b:Ss) (F:Fun K own qual sd a fd) (e:pr.fns f=some (.fn ps.length N.length b)) (c:chkFn fname gname xt N ps b sd=true)
 | prim (g:List D→St→R D) (e:pr.fns f=some (.prim g)) (l:∀ ds st,g ds st≠.no→ds.length=ps.length) (r:∀ n,FnG P w K mg base (n+1) a fd ps (spR K w XR g ps.length))
structure ModIs (P:Program)(w:World)(K:PySem.W.Frag)(mg:Str→Option Value)(base:Heap)(XR:XRel)(pr:Prog)(fname gname:Nat→Option Str)(xt:XT)(par:Nat→List Str):Prop where
 fns:∀ f nm,fname f=some nm→∃ (a:Addr) (fd:FuncData),mg nm=some (.ref a)∧PySem.W.keepIn K (.ref a)=true∧Binds K fd (par f) []∧DefIs P w K mg base XR pr fname gname xt f nm a fd (par f)
 gls:∀ g nm d,gname g=some nm→pr.gl g=some d→∃ (u:Value) (v:V),mg nm=some u∧RelV v u∧∀ F B H,Rep K w F B H v d
 blt:∀ x∈bltNames,mg x=none
 shown:pr.shown=shownD
 made:∀ c nm anc,xt.cls.lookup c=some (nm,anc)→xt.fld.lookup c=none→∃ D:Addr,mg nm=some (.ref D)∧MadeK K D∧∀ F B H,XR c [] (.ref D) none F B H
 err:∀ c fs cls dx F B H,XR c fs cls dx F B H→∃ (D:Addr) (nm:Str) (anc:List Str),cls=.ref D∧xt.cls.lookup c=some (nm,anc)∧ClsX K mg xt c D∧ErrF K w xt c fs D dx F B H
 anti:Thaw XR
 madeF:∀ c nm anc l,xt.cls.lookup c=some (nm,anc)→xt.fld.lookup c=some l→∃ D:Addr,mg nm=some (.ref D)∧MadeF P w K mg base D l∧∀ F B H d (ds:List PL.D),XdR K w F B H d (l.map fun s=>s.cps.toList) ds→XR c (.tup ((l.map fun s=>s.cps.toList).map .str)::ds) (.ref D) (some d) F B H
 nms:∀ x∈xt.nms,∃ E:Addr,mg x=some (.ref E)
 er:pr.er=none
theorem scope_ok {N ps:List Str}{sc:Scope}(h:scopeOk N ps sc=true):FnScope N ps sc∧N.all okName=true:=by
 unfold scopeOk at h
 simp only [Bool.and_eq_true,Bool.not_eq_true',decide_eq_true_eq,List.all_eq_true] at h
 obtain ⟨h1,h2,h3,h4,h5,h6,h7,h8⟩:=h
 refine ⟨⟨?_,h2,h3,h4,h5,fun x hx=>?_,fun y hy e=>?_⟩,by simpa using h7⟩
 ·split at h1
  ·assumption
  ·cases h1
 ·have q:=h6 x hx
  unfold isLoc at q
  split at q
  ·exact .inl (by assumption)
  ·exact .inr (by assumption)
  ·cases q
 ·have q:=h8 y hy
  rw [e] at q
  cases q
theorem run_len {P:Program}{w:World}{K:PySem.W.Frag}{mg:Str→Option Value}{base:Heap}{XR:XRel}{pr:Prog}{fname gname:Nat→Option Str}{xt:XT}{f:Nat}{nm:Str}{a:Addr}{fd:FuncData}{ps:List Str}
  (h:DefIs P w K mg base XR pr fname gname xt f nm a fd ps) (n:Nat) (ds:List D) (st:St) (e:run pr n f ds st≠.no):ds.length=ps.length:=by
 cases n with
 | zero=>exact absurd rfl e
 | succ n =>
  cases h with
  | fn N own qual sd b F e1 c =>
   unfold run at e
   rw [e1] at e
   dsimp only at e
   split at e
   ·assumption
   ·exact absurd rfl e
  | prim g e1 l r =>
   refine l ds st fun z=>e ?_
   unfold run
   rw [e1]
   exact z
theorem entry_get {n:Nat}{ds:List D}{i:Nat}{s:Slot}(h:(entry n ds)[i]?=some s):s=.un∨∃ d,s=.val d∧ds[i]?=some d:=by
 unfold entry at h
 by_cases hi:i<(ds.map Slot.val).length
 ·rw [List.getElem?_append_left hi,List.getElem?_map] at h
  cases e:ds[i]? with
  | none=>rw [e] at h;cases h
  | some d=>rw [e] at h;cases h;exact .inr ⟨d,rfl,rfl⟩
 ·rw [List.getElem?_append_right (by omega),List.getElem?_replicate] at h
  split at h
  ·cases h;exact .inl rfl
  ·cases h
theorem start_ok {K:PySem.W.Frag}{w:World}{F:Foot}{B:Addr→Prop}{H:Hp}{vs:List V}{ds:List D}{st:St}{N:List Str}(occ:∀ b,B b→H b≠none)(s:SR st F H)(r:RepL K w F B H vs ds):OkS K w F B B (start N vs) H (entry N.length ds) st:=by
 have hl:=r.length
 have noOwn:∀ (i:Nat) (s:Slot),s.isOwn=true→(entry N.length ds)[i]?≠some s:=fun i s os e=>by
  rcases entry_get e with z|⟨d,z,_⟩<;>(subst z;cases os)
 refine ⟨⟨?_,fun i d e=>?_,fun i s os e=>absurd e (noOwn i s os),fun i j s t a os ot e1 e2 e3 e4=>absurd e1 (noOwn i s os),occ,s⟩,fun _ h=>h,fun i s a os e1 e2=>absurd e1 (noOwn i s os)⟩
 ·unfold L2.start entry
  simp [hl]
 ·rcases entry_get e with z|⟨d',z,e2⟩
  ·cases z
  ·cases z
   obtain ⟨v,h1,h2⟩:=r.get e2
   refine ⟨v,?_,h2⟩
   unfold L2.start
   have hi:i<vs.length:=(List.getElem?_eq_some_iff.mp h1).1
   rw [List.getElem?_append_left (by simpa using hi),List.getElem?_map,h1]
   rfl
theorem StepS.ext {F F':Foot}{G B':Addr→Prop}{H H':Hp}(x:StepS F G G H F' B' H'):Ext F H F' H' :=
 ⟨fun a f h=>by
  have:=x.keep a f (Classical.em (G a)).symm h
  exact ⟨this.1,this.2.1⟩,x.occ,x.at_⟩
theorem good_of {P:Program}{w:World}{K:PySem.W.Frag}{mg:Str→Option Value}{base:Heap}{XR:XRel}{pr:Prog}{fname gname:Nat→Option Str}{xt:XT}{n:Nat}{N ps:List Str}{sd:Stmt}{qual:Str}{fa:Addr}{cdv:Value}{A:Around}{outer:List PySem.Env}{s:Shared}{H:Hp}{E:XK}
  {par:Nat→List Str} (M:ModIs P w K mg base XR pr fname gname xt par) (hs:scopeOk N ps (defScope sd)=true) (hr:Room (n+2) (A.deeper (envOfC qual (defScope sd) s.heap.objs.size fa cdv))) (hg:A.guards=some [])
  (ih:∀ f nm,fname f=some nm→∃ (a:Addr) (fd:FuncData) (ps:List Str),mg nm=some (.ref a)∧PySem.W.keepIn K (.ref a)=true∧Binds K fd ps []∧(∀ ds st,run pr n f ds st≠.no→ds.length=ps.length)∧FnG P w K mg base (n+2) a fd ps (spG K w XR pr n f ps.length)) :
  Good (cxOf (L2.CX P w) P w K mg base N qual (defScope sd) fa cdv A outer s H E) pr XR (fnSC fname gname xt (defScope sd) N) n:=by
 obtain ⟨S,_⟩:=scope_ok hs
 exact {
  sc:=rfl
  kind:=S.kind
  N:=rfl
  nd:=S.nd
  st:=fun x h=>by
   refine ⟨?_,.inl rfl⟩
   have h':isLoc (defScope sd) x=true:=h
   unfold isLoc at h'
   split at h'
   ·exact .inl (by assumption)
   ·exact .inr (by assumption)
   ·cases h'
  calm:=fun _=>rfl
  made:=M.made
  err:=M.err
  anti:=M.anti
  madeF:=M.madeF
  held:=fun c k d ns e=>by rw [M.er] at e;cases e
  nms:=M.nms
  room:=fun _=>hr
  un:=by
   have h1:=hr.un
   show (A.deeper (envOfC qual (defScope sd) s.heap.objs.size fa cdv)).units+16*n+200<cLine
   omega
  gd:=hg
  fns:=ih
  gls:=M.gls
  blt:=M.blt
  shown:=M.shown }
theorem all_fn {P:Program}{w:World}{K:PySem.W.Frag}{mg:Str→Option Value}{base:Heap}{XR:XRel}{pr:Prog}{fname gname:Nat→Option Str}{xt:XT}{par:Nat→List Str}(M:ModIs P w K mg base XR pr fname gname xt par) :
  ∀ n f nm,fname f=some nm→∃ (a:Addr) (fd:FuncData),mg nm=some (.ref a)∧PySem.W.keepIn K (.ref a)=true∧Binds K fd (par f) []∧(∀ ds st,run pr n f ds st≠.no→ds.length=(par f).length)∧FnG P w K mg base (n+2) a fd (par f) (spG K w XR pr n f (par f).length)
 | 0,f,nm,h=>by
  obtain ⟨a,fd,h1,h2,h3,h4⟩:=M.fns f nm h
  refine ⟨a,fd,h1,h2,h3,fun ds st e=>absurd rfl e,⟨fun vs H Q E hsp=>?_,fun A outer s H args us vs Q E _ _ _ _ _ hsp=>?_⟩⟩
  ·obtain ⟨F,B,st,ds,hl,_⟩:=hsp
   exact hl
  ·obtain ⟨F,B,st,ds,_,_,_,_,z⟩:=hsp
   exact z.elim
 | n+1,f,nm,h=>by
  obtain ⟨a,fd,h1,h2,h3,h4⟩:=M.fns f nm h
  refine ⟨a,fd,h1,h2,h3,run_len h4 (n+1),?_⟩
  cases h4 with
  | prim g e l r =>
   have:=r (n+2)
   refine ⟨fun vs H Q E hsp=>?_,fun A outer s H args us vs Q E hr hg he hb hv hsp=>this.run A outer s H args us vs Q E hr hg he hb hv ?_⟩
   ·obtain ⟨F,B,st,ds,hl,_⟩:=hsp
    exact hl
   ·obtain ⟨F,B,st,ds,z1,z2,z3,z4,z5⟩:=hsp
    refine ⟨F,B,st,ds,z1,z2,z3,z4,?_⟩
    have e2:run pr (n+1) f ds st=g ds st:=by
     unfold run
     rw [e]
    rw [e2] at z5
    exact z5
  | fn N own qual sd b F e c =>
   have ih:∀ f nm,fname f=some nm→∃ (a:Addr) (fd:FuncData) (ps:List Str),mg nm=some (.ref a)∧PySem.W.keepIn K (.ref a)=true∧Binds K fd ps []∧(∀ ds st,run pr n f ds st≠.no→ds.length=ps.length)∧FnG P w K mg base (n+2) a fd ps (spG K w XR pr n f ps.length):=fun f nm h=>by
    obtain ⟨a,fd,h⟩:=all_fn M n f nm h
    exact ⟨a,fd,par f,h⟩
   unfold chkFn at c
   simp only [Bool.and_eq_true] at c
   obtain ⟨S,_⟩:=scope_ok c.1
   refine FnG.of F S (fun vs H Q E hsp=>?_) fun cdv A outer s H vs Q E hr hg hsp=>?_
   ·obtain ⟨F,B,st,ds,hl,_⟩:=hsp
    exact hl
   ·have G:=good_of (qual:=qual) (fa:=a) (cdv:=cdv) (outer:=outer) (s:=s) (H:=H) (E:=E) M c.1 hr hg ih
    have tk:Takes (cxOf (L2.CX P w) P w K mg base N qual (defScope sd) a cdv A outer s H E) (fun cls d _ H=>E cls d H):=takes_of (E:=E) rfl rfl rfl rfl
    have po:=passes_of (X:=cxOf (L2.CX P w) P w K mg base N qual (defScope sd) a cdv A outer s H E) rfl
    refine ⟨_,sSs b G tk (fun _=>⟨po,rfl,rfl⟩) c.2,?_⟩
    obtain ⟨F0,B,st,ds,z1,z2,z3,z4,z5⟩:=hsp
    refine ⟨F0,B,B,entry N.length ds,st,start_ok z2 z3 z4,?_⟩
    rw [show pr.cxe n=pr.cx n by unfold Prog.cxe Prog.cx;rw [M.er]]
    have e2:run pr (n+1) f ds st=outR (evSs (pr.cx n) b (entry N.length ds) st):=by
     unfold run
     rw [e]
     dsimp only
     rw [if_pos (by rw [← z4.length];exact z1)]
    rw [e2] at z5
    cases q:evSs (pr.cx n) b (entry N.length ds) st with
    | next env st' =>
     rw [q] at z5
     exact fun F' B' σ' H' x o=>z5 .non F' H' x.ext o.e.sr .non
    | ret d st' =>
     rw [q] at z5
     exact fun v F' B' H' x g s r=>z5 v F' H' x.ext s (r.anti g)
    | exc c fs env st' =>
     rw [q] at z5
     exact fun cls dx F' B' σ' H' x o r=>z5 cls dx F' H' x.ext o.e.sr (M.anti _ _ _ _ _ _ _ _ (fun b hb z=>absurd (o.g b hb) z) (.inr fun b hb=>o.g b hb) r)
    | brk env st'=>rw [q] at z5;exact z5.elim
    | cnt env st'=>rw [q] at z5;exact z5.elim
    | no=>rw [q] at z5;exact z5.elim
end PL
end
section
namespace PL
open PySem PySem.Spec PyProof.Rows L2
theorem law_go {P:Program}{w:World}{K:PySem.W.Frag}{mg mb:Str→Option Value}{k:Nat}{fa a:Addr}{x:Str}{s:Shared}{vs:List Value}{ns:List Int}{XR:XRel}{g:List D→St→R D}
  (KX : K.In s.heap) (hns : s.heap.Ns mainGlobals mg) (hb : s.heap.Ns builtinsNs mb) (hbb : ∀ x : Str, x ≠ "__name__" → mb x = bootBuiltins x) (hlim : s.heap.NoLimit) (hg : s.gens = #[])
  (ha : s.heap.get? a = some { cls := .type "list", data := .seq vs.toArray }) (hi : IntsAre vs ns) (hl : ns.length ≤ sizeLine) (hr : Room k callerA)
  (F:∀ base:Heap,K.In base→base.Ns mainGlobals mg→∃ fd:FuncData,Binds K fd [x] []∧FnG P w K mg base k fa fd [x] (spR K w XR g 1))
  (hgo:∃ st',g [.ob 1 (ns.map D.int)] none=.ok (.bl true) st') :
  codeAny (model P w) callerA (.call (.ref fa) ⟨[.ref a],[]⟩) (fun r s'=>r=.ok (.ret (.bool true))∧OldK s.heap s'.heap∧s'.os=s.os∧AllBare s'.gens) s:=by
 have rv:=vals_ints hi
 have lv:=hi.length
 obtain ⟨st',hgo⟩:=hgo
 have main : ∀ H : Hp, (∀ b, H b = none ∨ (b = a ∧ K.lookup a = none ∧ H b = some (.frz { cls := .type "list", data := .seq vs.toArray } (.lst (ns.map V.int))))) →
   Rep K w F0 (fun _=>False) H (.ref a) (.ob 1 (ns.map D.int))→HOk P w H s.heap →
   codeAny (model P w) callerA (.call (.ref fa) ⟨[.ref a],[]⟩) (fun r s'=>r=.ok (.ret (.bool true))∧OldK s.heap s'.heap∧s'.os=s.os∧AllBare s'.gens) s:=by
  intro H hH hrep hok
  have notA:∀ {b:Addr} {o:Obj},s.heap.get? b=some o→(∃ es ep,o.data=.dict es ep)∨K.lookup b=some o→H b=none:=by
   intro b o e hd
   rcases hH b with z|⟨z1,z2,z3⟩
   ·exact z
   ·subst z1
    rcases hd with ⟨es,ep,hd⟩|hd
    ·rw [ha] at e
     have e':=Option.some.inj e
     rw [← e'] at hd
     cases hd
    ·rw [z2] at hd;cases hd
  have keepNs:∀ {b:Addr} {m:Str→Option Value},s.heap.Ns b m→(hidT s.heap H).Ns b m:=by
   intro b m h
   obtain ⟨o,es,ep,e,d,r⟩:=h
   exact ⟨o,es,ep,hidT_get e (notA e (.inl ⟨es,ep,d⟩)),d,r⟩
  have kb:K.In (hidT s.heap H):=fun b o e=>hidT_get (KX b o e) (notA (KX b o e) (.inr e))
  obtain ⟨mc,l1,l2⟩:=hlim
  have md:Mod K mg (hidT s.heap H):=⟨kb,keepNs hns,⟨mb,keepNs hb,hbb⟩,⟨mc,keepNs l1,l2⟩⟩
  have e0:Env0 P w K mg (hidT s.heap H) callerA [] s H:=⟨rfl,md,fun b o e=>of_hidT e,Nat.le_of_eq (hidT_size _ _),trivial,fun b z=>absurd (show b∈([]:List Addr) from z) (by simp),hok,.of_eq hg⟩
  have sp:spR K w XR g 1 [.ref a] H (fun v _=>v=.bl true) (fun _ _ _=>False):=by
   refine ⟨F0,fun _=>False,none,[.ob 1 (ns.map D.int)],rfl,fun b z=>z.elim,⟨rfl,fun b z=>z⟩,.cons hrep .nil,?_⟩
   rw [hgo]
   intro v F' H' _ _ r
   cases r
   rfl
  obtain ⟨fd,bd,F1⟩:=F _ kb (keepNs hns)
  refine codeAny_mono (F1.run callerA [] s H ⟨[.ref a],[]⟩ [.ref a] [.ref a] (fun v _=>v=.bl true) (fun _ _ _=>False) hr rfl e0 (bd s [.ref a] KX rfl) (.cons rfl .nil) sp) fun r s2 h=>?_
  cases r with
  | error e =>
   obtain ⟨_,_,_,_,_,_,_,_,_,_,_,_,z⟩:=h
   exact z.elim
  | ok fl =>
   cases fl with
   | next=>exact h.elim
   | brk=>exact h.elim
   | cont=>exact h.elim
   | ret u =>
    obtain ⟨v,H',os,bare,un,ok2,r,q⟩:=h
    have q':v=.bl true:=q
    rw [q'] at r
    have r':u=Value.bool true:=r
    refine ⟨by rw [r'],OldK.of_keep fun b o e=>?_,os,bare⟩
    rcases hH b with z|⟨z1,_,z3⟩
    ·exact un.keep b o e z (by simp [frs]) (by simp)
    ·obtain ⟨k1,_⟩:=ok2 b _ (un.frzs b _ _ z3)
     subst z1
     rw [ha] at e
     rw [← Option.some.inj e]
     exact k1
 cases hk:K.lookup a with
 | some o =>
  have e:=KX a o hk
  rw [ha] at e
  have e:=Option.some.inj e
  rw [← e] at hk
  refine main (fun _=>none) (fun b=>.inl rfl) (.ob1W ns (.inr ⟨_,vs.toArray,_,hk,rfl,rfl,rfl,by rw [List.size_toArray,lv];exact hl,by simpa using rv⟩)) fun b u z=>by
   have z':(none:Option HO)=some u:=z
   cases z'
 | none =>
  have at_ : ∀ b : Addr, (fun c : Addr => if c = a then some (HO.frz { cls := .type "list", data := .seq vs.toArray } (.lst (ns.map V.int))) else none) b ≠ none → b = a := by
   intro b z
   by_cases hb:b=a
   ·exact hb
   ·exact absurd (if_neg hb) z
  refine main (fun c => if c = a then some (.frz { cls := .type "list", data := .seq vs.toArray } (.lst (ns.map V.int))) else none) (fun b => ?_) (.ob1 ns (if_pos rfl) (fun z => z) (fun z => z)) fun b u z => ?_
  ·by_cases hb:b=a
   ·exact .inr ⟨hb,hk,if_pos hb⟩
   ·exact .inl (if_neg hb)
  ·have hb:=at_ b (by rw [z];simp)
   subst hb
   have z : (if b = b then some (HO.frz { cls := .type "list", data := .seq vs.toArray } (.lst (ns.map V.int))) else none) = some u := z
   rw [if_pos rfl] at z
   have z:=Option.some.inj z
   subst z
   exact ⟨ha,by rw [List.length_map];exact hl,vs,_,rv,ha⟩
theorem law_end {l:PySem.W.OpenLaw}{m k f:Nat}{q:Program}{loose:List Str}{XP:(Str→Option Value)→Heap→Prop}{YP:World→Heap→Prop}{d:DefRec}{K:Params→PySem.W.Frag}{XR:World→XRel}{pr:Prog}{fname gname:Nat→Option Str}{xt:XT}{par:Nat→List Str}{x:Str}
  (hn:l.most=some m) (hm:m≤sizeLine) (hdf:d.params.defaults=[]) (hr:Room (k+2) callerA) (hY:∀ (w:World) (h:Heap),YP w h→(K w.params).In h) (hf:fname f=some d.name) (hp:par f=[x])
  (M:∀ (w:World) (mg:Str→Option Value),(∀ y r,PySem.W.nsIn (K w.params) mainGlobals y=some r→mg y=r)→∀ base:Heap,ModIs l.prog w (K w.params) mg base (XR w) pr fname gname xt par)
  (go:∀ ns:List Int,ns.length≤m→∃ st',run pr k f [.ob 1 (ns.map D.int)] none=.ok (.bl true) st') :
  PySem.W.WalkO q loose XP YP l.row.toRowW d [] (fun f vs=>PySem.call f vs):=by
 refine Att.attach_call hn hdf fun w s₀ s₁ mg mb fa o pm cd doc a vs ns G Y ho hd hcd hmg hobj hints hlen hg=>?_
 have KX:=hY w _ Y
 refine law_go (x:=x) (XR:=XR w) (g:=run pr k f) KX G.T.g G.T.b G.T.builtins G.T.nolimit hg hobj hints (Nat.le_trans hlen hm) hr (fun base h1 h2=>?_) (go ns hlen)
 obtain ⟨a',fd',e1,_,e3,_,e5⟩:=all_fn (M w mg (fun y r e=>by cases r with|none=>exact PySem.W.mg_none_of KX G.T.g e|some v=>exact PySem.W.mg_of KX G.T.g e) base) k f d.name hf
 rw [hmg] at e1
 cases e1
 rw [hp] at e3 e5
 exact ⟨fd',e3,e5⟩
end PL
end
section
namespace PL
open PySem PySem.Spec PyProof.Rows L2
def initB (sc:Scope)(N:List Str)(self:Str):Nat→List Str→List Stmt→Bool
 | _,[],[]=>true
 | i,f::fs,.Assign [.Attribute (.Name s _) g _] (.Name p _) _::r=>decide (s=self)&&(decide (g=f)&&(decide (N[i]?=some p)&&(okName p&&(visB sc p&&initB sc N self (i+1) fs r))))
 | _,_,_=>false
def chkInit (N:List Str)(l:List Str)(sd:Stmt):Bool :=
 scopeOk N N (L2.defScope sd)&&(match N with
  | self::ps=>decide (ps.length=l.length)&&(okName self&&(visB (L2.defScope sd) self&&(decide (l.length≤15)&&initB (L2.defScope sd) N self 1 l (L2.defBody sd))))
  | []=>false)
section
variable {X:Cx}
theorem vis_ofX {x:Str}{sc:Scope}(e:X.env.scope=sc)(h:visB sc x=true):Vis X.env.scope x:=by
 rw [e]
 unfold visB at h
 split at h
 ·exact .inl (by assumption)
 ·exact .inr (.inl (by assumption))
 ·exact .inr (.inr (by assumption))
 ·cases h
theorem init_old {sc:Scope}{self:Str}{C:Addr}(e:X.env.scope=sc)(hs:X.N[0]?=some self∧okName self=true∧visB sc self=true)(T:OexC X.K C):∀ (fs:List Str) {i:Nat} {rest:List Stmt},(∀ f∈fs,PySem.W.findIn X.K (.ref C) f=some none)→initB sc X.N self i fs rest=true →
  ∃ t,PSs X rest t∧∀ (D:Ends) (σ:L2.St) (H:Hp) (a d:Addr) (kvs:List (Str × V)) (ys:List V),σ[0]?=some (some (.ref a))→(∀ j v,ys[j]?=some v→σ[i+j]?=some (some v))→ys.length=fs.length→H a=some (exo a C (some d))→H d=some (exd d kvs)→a≠d→kvs.length+fs.length≤900 →
   D.nx σ (upd H d (exd d ((fs.zip ys).reverse++kvs)))→t D σ H
 | [],i,rest,hf,h=>by
  cases rest with
  | nil =>
   refine ⟨_,pss_nil,fun D σ H a d kvs ys h0 hy hl ha hd hn hk q=>?_⟩
   have:upd H d (exd d (([].zip ys:List (Str × V)).reverse++kvs))=H:=by
    funext b
    by_cases hb:b=d
    ·subst hb;rw [upd_same,hd];rfl
    ·rw [upd_ne hb]
   rw [this] at q
   exact q
  | cons _ _=>simp [initB] at h
 | f::fs,i,rest,hf,h=>by
  unfold initB at h
  split at h<;>try contradiction
  rename_i s p0 g p1 p p2 p3 r e2
  cases e2
  simp only [Bool.and_eq_true,decide_eq_true_eq] at h
  obtain ⟨rfl,rfl,h1,h2,h3,h4⟩:=h
  obtain ⟨t,ht,hq⟩:=init_old e hs T fs (fun f hm=>hf f (List.mem_cons_of_mem _ hm)) h4
  have o1:=hs.2.1
  unfold okName at o1 h2
  simp only [Bool.and_eq_true,Bool.not_eq_true'] at o1 h2
  refine ⟨_,pss_cons (ps_ost (pe_var hs.1 (vis_ofX e hs.2.2) o1.1 o1.2.1) (pe_var h1 (vis_ofX e h3) h2.1 h2.2.1)) ht,fun D σ H a d kvs ys h0 hy hl ha hd hn hk q=>?_⟩
  match ys,hl with
  | y::ys,hl =>
   refine ⟨y,by simpa using hy 0 y rfl,.ref a,h0,a,C,rfl,T,hf _ List.mem_cons_self,.inr ⟨d,kvs,ha,hd,by simp only [List.length_cons] at hk;omega,?_⟩⟩
   refine hq D σ _ a d _ ys h0 (fun j v e=>by have:=hy (j+1) v (by simpa using e);rw [Nat.add_assoc,Nat.add_comm 1 j];exact this) (by simpa using hl) (by rw [upd_ne hn];exact ha) upd_same hn (by simp only [List.length_cons] at hk ⊢;omega) ?_
   have:upd (upd H d (exd d ((g,y)::kvs))) d (exd d ((fs.zip ys).reverse++(g,y)::kvs))=upd H d (exd d (((g::fs).zip (y::ys)).reverse++kvs)):=by
    funext b
    by_cases hb:b=d
    ·subst hb;rw [upd_same,upd_same];simp
    ·rw [upd_ne hb,upd_ne hb,upd_ne hb]
   rw [this]
   exact q
theorem init_new {sc:Scope}{self:Str}{C:Addr}(e:X.env.scope=sc)(hs:X.N[0]?=some self∧okName self=true∧visB sc self=true)(T:OexC X.K C)(f:Str)(fs:List Str){i:Nat}{rest:List Stmt}(hf:∀ g∈f::fs,PySem.W.findIn X.K (.ref C) g=some none)(h:initB sc X.N self i (f::fs) rest=true) :
  ∃ t,PSs X rest t∧∀ (D:Ends) (σ:L2.St) (H:Hp) (a:Addr) (ys:List V),σ[0]?=some (some (.ref a))→(∀ j v,ys[j]?=some v→σ[i+j]?=some (some v))→ys.length=(f::fs).length→H a=some (exo a C none)→(f::fs).length≤15 →
   (∀ (d:Addr) (H':Hp),H d=none→d≠a→(∀ b,b≠a→b≠d→H' b=H b)→H' a=some (exo a C (some d))→H' d=some (exd d ((f::fs).zip ys).reverse)→D.nx σ H')→t D σ H:=by
 unfold initB at h
 split at h<;>try contradiction
 rename_i s p0 g p1 p p2 p3 r e2
 cases e2
 simp only [Bool.and_eq_true,decide_eq_true_eq] at h
 obtain ⟨rfl,rfl,h1,h2,h3,h4⟩:=h
 obtain ⟨t,ht,hq⟩:=init_old e hs T fs (fun f hm=>hf f (List.mem_cons_of_mem _ hm)) h4
 have o1:=hs.2.1
 unfold okName at o1 h2
 simp only [Bool.and_eq_true,Bool.not_eq_true'] at o1 h2
 refine ⟨_,pss_cons (ps_ost (pe_var hs.1 (vis_ofX e hs.2.2) o1.1 o1.2.1) (pe_var h1 (vis_ofX e h3) h2.1 h2.2.1)) ht,fun D σ H a ys h0 hy hl ha hk q=>?_⟩
 match ys,hl with
 | y::ys,hl =>
  refine ⟨y,by simpa using hy 0 y rfl,.ref a,h0,a,C,rfl,T,hf _ List.mem_cons_self,.inl ⟨ha,fun d hd hda=>?_⟩⟩
  refine hq D σ _ a d [(g,y)] ys h0 (fun j v e=>by have:=hy (j+1) v (by simpa using e);rw [Nat.add_assoc,Nat.add_comm 1 j];exact this) (by simpa using hl) upd_same (by rw [upd_ne hda];exact upd_same) (Ne.symm hda) (by simp only [List.length_cons] at hk ⊢;simp;omega) ?_
  refine q d _ hd hda (fun b h1 h2=>by rw [upd_ne h2,upd_ne h1,upd_ne h2]) (by rw [upd_ne (Ne.symm hda),upd_same]) ?_
  rw [upd_same]
  simp
end
def InitIs (K:PySem.W.Frag)(D:Addr)(l:List Str):Prop:=OexC K D∧(l≠[]∧(l.map fun s=>s.cps.toList).Nodup)∧XfC K D∧(∀ f∈l,PySem.W.findIn K (.ref D) f=some none)∧∃ (fI:Addr) (fd:FuncData) (own qual:Str) (N:List Str) (sd:Stmt),
 PySem.W.findIn K (.ref D) "__init__" = some (some (.ref fI)) ∧ PySem.W.typeIn K (.ref fI) = some (.type "function") ∧ Binds K fd N [] ∧ Fun K own qual sd fI fd ∧ chkInit N l sd = true
theorem scope_is {N ps:List Str}{sc:Scope}(h:scopeOk N ps sc=true):FnScope N ps sc:=by
 unfold scopeOk at h
 simp only [Bool.and_eq_true,Bool.not_eq_true',decide_eq_true_eq,List.all_eq_true] at h
 obtain ⟨h1,h2,h3,h4,h5,h6,h7,h8⟩:=h
 refine ⟨?_,h2,h3,h4,h5,fun x hx=>?_,fun y hy e=>?_⟩
 ·split at h1
  ·assumption
  ·cases h1
 ·have q:=h6 x hx
  unfold isLoc at q
  split at q
  ·exact .inl (by assumption)
  ·exact .inr (by assumption)
  ·cases q
 ·have q:=h8 y hy
  rw [e] at q
  cases q
theorem made_of {P:Program}{w:World}{K:PySem.W.Frag}{mg:Str→Option Value}{base:Heap}{D:Addr}{l:List Str}(h:InitIs K D l):MadeF P w K mg base D l:=by
 obtain ⟨T,hl,xf,hn,fI,fd,own,qual,N,sd,h1,h2,h3,F,c⟩:=h
 refine ⟨T,hl,fun f hf=>⟨xf,hn f hf⟩,fI,fd,N,h1,h2,h3,?_⟩
 unfold chkInit at c
 simp only [Bool.and_eq_true] at c
 obtain ⟨c1,c2⟩:=c
 match N,c2 with
 | self::ps,c2 =>
  simp only [Bool.and_eq_true,decide_eq_true_eq] at c2
  obtain ⟨e1,o1,v1,l15,c3⟩:=c2
  match l,hl.1 with
  | f::fs,_ =>
   obtain ⟨oc,od,kV,doc,pm,an,cdv,ct,osl,rfl,lk,hcd⟩:=F.ex
   refine fn_of lk hcd (scope_is c1) (fun vs H Q E hsp=>?_) fun A outer s H vs Q E hr hsp=>?_
   ·obtain ⟨a,ys,rfl,z,_⟩:=hsp
    simp only [List.length_cons] at z e1 ⊢
    omega
   ·obtain ⟨a,ys,rfl,z,ha,q⟩:=hsp
    obtain ⟨t,ht,hq⟩:=init_new (X:=cxOf (L2.CX P w) P w K mg base (self::ps) qual (defScope sd) fI cdv A outer s H E) (self:=self) (C:=D) rfl ⟨rfl,o1,v1⟩ T f fs hn c3
    have e2:ys.length=ps.length:=by omega
    refine ⟨t,ht,hq _ _ H a ys ?_ (fun j v e=>?_) z ha l15 fun d H' g1 g2 g3 g4 g5=>q d H' g1 g2 g3 g4 g5⟩
    ·unfold L2.start;simp
    ·unfold L2.start
     have hj:j<ys.length:=(List.getElem?_eq_some_iff.mp e).1
     rw [List.getElem?_append_left (by simp;omega),List.getElem?_map,show 1+j=j+1 by omega,List.getElem?_cons_succ,e]
     rfl
end PL
end
section
namespace PL
open PySem PySem.Spec PyProof.Rows L2
structure DefP where
 nm:Str
 ps:List Str
 N:List Str
 sd:Stmt
def fnameL (ds:List (Nat × DefP))(f:Nat):Option Str:=(ds.lookup f).map (·.nm)
def parL (ds:List (Nat × DefP))(f:Nat):List Str:=((ds.lookup f).map (·.ps)).getD []
def gnameL (gs:List (Nat × Str))(g:Nat):Option Str:=gs.lookup g
def progL (fl:List (Nat × Fn))(gl:List (Nat × D)):Prog:={ fns:=fun f=>fl.lookup f,gl:=fun g=>gl.lookup g,shown:=shownD }
def TextOk (fname gname:Nat→Option Str)(xt:XT):List (Nat × DefP)→List (Nat × Fn)→Prop
 | [],[]=>True
 | (i,d)::ds,(j,.fn p n b)::fs=>(j=i∧p=d.ps.length∧n=d.N.length∧chkFn fname gname xt d.N d.ps b d.sd=true)∧TextOk fname gname xt ds fs
 | _,_=>False
theorem TextOk.get {fname gname:Nat→Option Str}{xt:XT}:∀ {ds:List (Nat × DefP)} {fl:List (Nat × Fn)} {i:Nat} {d:DefP},TextOk fname gname xt ds fl→ds.lookup i=some d→∃ b,fl.lookup i=some (.fn d.ps.length d.N.length b)∧chkFn fname gname xt d.N d.ps b d.sd=true
 | [],_,_,_,_,e=>by simp [List.lookup] at e
 | (k,d)::ds,(j,.fn p n b)::fs,i,d',h,e=>by
  obtain ⟨⟨rfl,rfl,rfl,h3⟩,h4⟩:=h
  by_cases hk:i=j
  ·subst hk
   simp [List.lookup] at e
   subst e
   exact ⟨b,by simp [List.lookup],h3⟩
  ·have hb:(i==j)=false:=by simpa using hk
   simp only [List.lookup,hb] at e ⊢
   exact TextOk.get h4 e
 | _::_,[],_,_,h,_=>h.elim
 | _::_,(_,.prim _)::_,_,_,h,_=>h.elim
def DefAt (K:PySem.W.Frag)(d:DefP):Prop:=∃ (a:Addr) (fd:FuncData),PySem.W.nsIn K mainGlobals d.nm=some (some (.ref a))∧(∃ o,Fun K o o d.sd a fd)∧Binds K fd d.ps []
theorem def_at {K:PySem.W.Frag}(d:DefP){f:Addr}{oc:Value}{od an:Option Addr}{osl:Array (Option Value)}{kV doc pm cdv ct:Value}
  (b:∀ (kV doc pm:Value) (an:Option Addr) (cdv ct:Value) (us:List Value),us.length=d.ps.length→bindArgs (PySem.W.fnOf d.nm d.nm (defArgs d.sd) (defBody d.sd) (defScope d.sd) .none kV doc pm an cdv ct) ⟨us,[]⟩=pure (d.ps.zip us))
  (a:PySem.W.nsIn K mainGlobals d.nm=some (some (.ref f)))
  (l:K.lookup f=some ⟨oc,od,.func (PySem.W.fnOf d.nm d.nm (defArgs d.sd) (defBody d.sd) (defScope d.sd) .none kV doc pm an cdv ct),osl⟩)
  (c:PySem.W.codeIn K cdv d.nm=true) (k:PySem.W.keepIn K (.ref f)=true):DefAt K d:=⟨f,_,a,⟨_,fun_mk l c k⟩,(fun_mk l c k).binds b⟩
def DefsAt (K:PySem.W.Frag):List (Nat × DefP)→Prop
 | []=>True
 | d::r=>DefAt K d.2∧DefsAt K r
theorem DefsAt.get {K:PySem.W.Frag}:∀ {ds:List (Nat × DefP)} {i:Nat} {d:DefP},DefsAt K ds→ds.lookup i=some d→DefAt K d
 | [],_,_,_,e=>by simp [List.lookup] at e
 | (k,d)::ds,i,d',h,e=>by
  by_cases hk:i=k
  ·subst hk
   simp [List.lookup] at e
   subst e
   exact h.1
  ·have hb:(i==k)=false:=by simpa using hk
   simp only [List.lookup,hb] at e
   exact DefsAt.get h.2 e
def ConAt (K:PySem.W.Frag)(w:World)(x:Str)(d:D):Prop:=∃ (u:Value) (v:V),PySem.W.nsIn K mainGlobals x=some (some u)∧RelV v u∧∀ F B H,Rep K w F B H v d
def ConsAt (K:PySem.W.Frag)(w:World):List (Nat × Str)→List (Nat × D)→Prop
 | [],[]=>True
 | x::xs,d::ds=>(d.1=x.1∧ConAt K w x.2 d.2)∧ConsAt K w xs ds
 | _,_=>False
theorem ConsAt.get {K:PySem.W.Frag}{w:World}:∀ {xs:List (Nat × Str)} {ds:List (Nat × D)} {i:Nat} {x:Str} {d:D},ConsAt K w xs ds→xs.lookup i=some x→ds.lookup i=some d→ConAt K w x d
 | [],_,_,_,_,_,e,_=>by simp [List.lookup] at e
 | (j,x)::xs,(k,d)::ds,i,_,_,h,e1,e2=>by
  obtain ⟨⟨h1,h2⟩,h3⟩:=h
  simp only at h1 h2
  subst h1
  by_cases hk:i=k
  ·subst hk
   simp [List.lookup] at e1 e2
   subst e1
   subst e2
   exact h2
  ·have hb:(i==k)=false:=by simpa using hk
   simp only [List.lookup,hb] at e1 e2
   exact ConsAt.get h3 e1 e2
 | _::_,[],_,_,_,h,_,_=>h.elim
def FreeAt (K:PySem.W.Frag):List Str→Prop
 | []=>True
 | x::r=>PySem.W.nsIn K mainGlobals x=some none∧FreeAt K r
theorem FreeAt.get {K:PySem.W.Frag}:∀ {l:List Str} {x:Str},FreeAt K l→x∈l→PySem.W.nsIn K mainGlobals x=some none
 | _::_,_,h,.head _=>h.1
 | _::_,_,h,.tail _ m=>FreeAt.get h.2 m
def XR0 (K:PySem.W.Frag)(w:World)(T:XT):XRel:=fun c fs cls dx F B H=>∃ (D:Addr) (nm:Str) (anc:List Str),cls=.ref D∧T.cls.lookup c=some (nm,anc)∧PySem.W.nsIn K mainGlobals nm=some (some (.ref D))∧ErrF K w T c fs D dx F B H
theorem XR0.thaw {K:PySem.W.Frag}{w:World}{T:XT}:Thaw (XR0 K w T):=fun c fs cls dx F B B' H k z h=>by
 obtain ⟨D,nm,anc,h1,h2,h3,h4⟩:=h
 refine ⟨D,nm,anc,h1,h2,h3,?_⟩
 rcases h4 with h4|⟨l,ds,d,e1,e2,e3,e4,e5⟩
 ·exact .inl h4
 ·refine .inr ⟨l,ds,d,e1,e2,e3,e4,?_⟩
  rcases z with z|z
  ·refine e5.thaw k ?_
   rw [e1] at z
   simp only [PL.D.nols,Bool.and_eq_true] at z
   exact z.2
  ·exact e5.anti z
def MadeIn (K:PySem.W.Frag)(D:Addr):Option (List Str)→Prop
 | none=>MadeK K D
 | some l=>InitIs K D l
def AskAt (K:PySem.W.Frag)(D:Addr)(anc:List Str):List Str→Prop
 | []=>True
 | x::r=>(∃ E:Addr,PySem.W.nsIn K mainGlobals x=some (some (.ref E))∧PySem.W.kitOne K (.ref D) (.ref E)=some (anc.contains x)∧PySem.W.exmOne K (.ref D) (.ref E)=some (anc.contains x))∧AskAt K D anc r
theorem AskAt.get {K:PySem.W.Frag}{D:Addr}{anc:List Str}:∀ {l:List Str} {x:Str},AskAt K D anc l→x∈l→∃ E:Addr,PySem.W.nsIn K mainGlobals x=some (some (.ref E))∧PySem.W.kitOne K (.ref D) (.ref E)=some (anc.contains x)∧PySem.W.exmOne K (.ref D) (.ref E)=some (anc.contains x)
 | _::_,_,h,.head _=>h.1
 | _::_,_,h,.tail _ m=>AskAt.get h.2 m
def ErrsAt (K:PySem.W.Frag)(fld:List (Nat × List Str))(nms:List Str):List (Nat × Str × List Str)→Prop
 | []=>True
 | c::r=>(∃ D:Addr,PySem.W.nsIn K mainGlobals c.2.1=some (some (.ref D))∧MadeIn K D (fld.lookup c.1)∧ExcC K D∧AskAt K D c.2.2 nms)∧ErrsAt K fld nms r
theorem ErrsAt.get {K:PySem.W.Frag}{fld:List (Nat × List Str)}{nms:List Str}:∀ {l:List (Nat × Str × List Str)} {c:Nat} {nm:Str} {anc:List Str},ErrsAt K fld nms l→l.lookup c=some (nm,anc)→∃ D:Addr,PySem.W.nsIn K mainGlobals nm=some (some (.ref D))∧MadeIn K D (fld.lookup c)∧ExcC K D∧AskAt K D anc nms
 | [],_,_,_,_,e=>by simp [List.lookup] at e
 | (k,d)::r,c,nm,anc,h,e=>by
  by_cases hk:c=k
  ·subst hk
   simp [List.lookup] at e
   subst e
   exact h.1
  ·have hb:(c==k)=false:=by simpa using hk
   simp only [List.lookup,hb] at e
   exact ErrsAt.get h.2 e
def NamAt (K:PySem.W.Frag):List Str→Prop
 | []=>True
 | x::r=>(∃ E:Addr,PySem.W.nsIn K mainGlobals x=some (some (.ref E)))∧NamAt K r
theorem NamAt.get {K:PySem.W.Frag}:∀ {l:List Str} {x:Str},NamAt K l→x∈l→∃ E:Addr,PySem.W.nsIn K mainGlobals x=some (some (.ref E))
 | _::_,_,h,.head _=>h.1
 | _::_,_,h,.tail _ m=>NamAt.get h.2 m
theorem nam_at {K:PySem.W.Frag}{x:Str}{r:List Str}{E:Addr}(h:PySem.W.nsIn K mainGlobals x=some (some (.ref E)))(t:NamAt K r):NamAt K (x::r):=⟨⟨E,h⟩,t⟩
theorem kitc_of {K : PySem.W.Frag}{D E : Addr}{b : Bool}(i : PySem.W.isClsIn K E = true)(t : PySem.W.typeIn K (.ref E) = some (.type "type"))(s : PySem.W.subIn K (.ref D) (.ref E) = some b) : PySem.W.kitCls K (.ref D) (.ref E) = some b := by
 have e2 : ((PySem.W.clsIn K E).isSome && PySem.W.typeIn K (.ref E) == some (.type "type")) = true := by
  have h2':(PySem.W.clsIn K E).isSome=true:=i
  rw [h2',t]<;>rfl
 show (if ((PySem.W.clsIn K E).isSome && PySem.W.typeIn K (.ref E) == some (.type "type")) = true then PySem.W.subIn K (.ref D) (.ref E) else none) = some b
 rw [if_pos e2]
 exact s
theorem ask_at {K : PySem.W.Frag}{D E : Addr}{anc r : List Str}{x : Str}(u : PySem.W.nsIn K mainGlobals x = some (some (.ref E)))(b : PySem.W.subIn K (.ref E) (.type "BaseException") = some true)(i : PySem.W.isClsIn K E = true)(t : PySem.W.typeIn K (.ref E) = some (.type "type"))
  (s:PySem.W.subIn K (.ref D) (.ref E)=some (anc.contains x)) (hb:(decide (D=E)&&!(anc.contains x))=false) (rest:AskAt K D anc r):AskAt K D anc (x::r):=by
 have k:=kitc_of i t s
 refine ⟨⟨E,u,?_,?_⟩,rest⟩
 ·unfold PySem.W.kitOne
  split
  ·rename_i h
   have h':(Value.ref D==Value.ref E)=true:=h
   have hd:D=E:=by
    have:=eq_of_beq h'
    cases this
    rfl
   rw [decide_eq_true hd,Bool.true_and] at hb
   rw [show anc.contains x=true by simpa using hb]
  ·exact k
 ·unfold PySem.W.exmOne
  rw [if_pos (by rw [b]<;>rfl)]
  exact k
theorem err_at {K:PySem.W.Frag}{fld:List (Nat × List Str)}{nms:List Str}{c:Nat × Str × List Str}{r:List (Nat × Str × List Str)}{D:Addr}{B newId initId:String}{bm:List Value}(F:ExcBaseFacts B newId initId bm)(d:PySem.W.nsIn K mainGlobals c.2.1=some (some (.ref D)))
  (m0 : PySem.W.excIn K D bm newId = true) (m1 : PySem.W.keepIn K (.ref D) = true) (m2 : PySem.W.subIn K (.ref D) (.type "BaseException") = some true) (m3 : PySem.W.typeIn K (.ref D) = some (.type "type"))
  (x0 : PySem.W.findIn K (.ref D) "__getattribute__" = some (some (.builtin "BaseException.__getattribute__"))) (x1 : PySem.W.findIn K (.ref D) "__getattr__" = some none) (x3 : PySem.W.hasDictIn K D = true)
  (x4 : PySem.W.findIn K (.ref D) "__class__" = some (some (.builtin "object.__class__"))) (x5 : PySem.W.specialIn K (.builtin "object.__class__") "__get__" = some (some (.builtin "getset_descriptor.__get__"))) (x6 : PySem.W.takesIn K (.builtin "object.__class__") = some true) (x7 : PySem.W.mroIn K D (.type "object") = some true)
  (nf:fld.lookup c.1=none) (a:AskAt K D c.2.2 nms) (rest:ErrsAt K fld nms r):ErrsAt K fld nms (c::r):=⟨⟨D,d,by rw [nf];exact ⟨B,newId,initId,bm,F,m0,m1,m2,m3⟩,⟨x0,x1,m2,x3,x4,x5,x6,x7⟩,a⟩,rest⟩
def NoneAt (K:PySem.W.Frag)(D:Addr):List Str→Prop
 | []=>True
 | f::r=>PySem.W.findIn K (.ref D) f=some none∧NoneAt K D r
theorem NoneAt.get {K:PySem.W.Frag}{D:Addr}:∀ {l:List Str},NoneAt K D l→∀ f∈l,PySem.W.findIn K (.ref D) f=some none
 | _::_,h,_,.head _=>h.1
 | _::_,h,f,.tail _ m=>NoneAt.get h.2 f m
theorem mod_of {P:Program}{w:World}{K:PySem.W.Frag}{mg:Str→Option Value}{base:Heap}{xt:XT}{ds:List (Nat × DefP)}{fl:List (Nat × Fn)}{gs:List (Nat × Str)}{gl:List (Nat × D)}(NS:∀ y r,PySem.W.nsIn K mainGlobals y=some r→mg y=r)
  (T:TextOk (fnameL ds) (gnameL gs) xt ds fl) (A:DefsAt K ds) (C:ConsAt K w gs gl) (Z:FreeAt K bltNames) (E:ErrsAt K xt.fld xt.nms xt.cls) (N:NamAt K xt.nms):ModIs P w K mg base (XR0 K w xt) (progL fl gl) (fnameL ds) (gnameL gs) xt (parL ds) where
 fns:=fun f nm e=>by
  unfold fnameL at e
  obtain ⟨d,e1,rfl⟩:=Option.map_eq_some_iff.mp e
  obtain ⟨b,t1,t2⟩:=T.get e1
  obtain ⟨a,fd,h1,⟨o,h2⟩,h3⟩:=A.get e1
  have hp:parL ds f=d.ps:=by unfold parL;rw [e1];rfl
  refine ⟨a,fd,NS _ _ h1,h2.kp,by rw [hp];exact h3,?_⟩
  rw [hp]
  exact .fn d.N o o d.sd b h2 t1 t2
 gls:=fun g nm d e1 e2=>by
  obtain ⟨u,v,h1,h2,h3⟩:=C.get (i:=g) e1 e2
  exact ⟨u,v,NS _ _ h1,h2,h3⟩
 blt:=fun x hx=>NS _ _ (Z.get hx)
 shown:=rfl
 made:=fun c nm anc e nf=>by
  obtain ⟨D,h1,h2,_⟩:=E.get e
  rw [nf] at h2
  exact ⟨D,NS _ _ h1,h2,fun F B H=>⟨D,nm,anc,rfl,e,h1,.inl ⟨rfl,rfl⟩⟩⟩
 anti:=XR0.thaw
 madeF:=fun c nm anc l e fl=>by
  obtain ⟨D,h1,h2,_⟩:=E.get e
  rw [fl] at h2
  have M:MadeF P w K mg base D l:=made_of h2
  exact ⟨D,NS _ _ h1,M,fun F B H d ds r=>⟨D,nm,anc,rfl,e,h1,.inr ⟨l,ds,d,rfl,rfl,M.2.1,M.2.2.1,r⟩⟩⟩
 err:=fun c fs cls dx F B H h=>by
  obtain ⟨D,nm,anc,e3,e4,e5,e6⟩:=h
  obtain ⟨D',h1,h2,h3,h4⟩:=E.get e4
  rw [h1] at e5
  cases e5
  refine ⟨D,nm,anc,e3,e4,⟨h3,fun nm' anc' e7 x hx=>?_⟩,e6⟩
  rw [e4] at e7
  cases e7
  obtain ⟨E',k1,k2,k3⟩:=h4.get hx
  exact ⟨E',NS _ _ k1,k2,k3⟩
 nms:=fun x hx=>by
  obtain ⟨E',h⟩:=N.get hx
  exact ⟨E',NS _ _ h⟩
 er:=rfl
theorem con_int {K:PySem.W.Frag}{w:World}{x:Str}{i:Int}{t:Tok}(h:PySem.W.nsIn K mainGlobals x=some (some (.int i t))):ConAt K w x (.int i):=⟨_,.int i,h,⟨t,rfl⟩,fun _ _ _=>.int i⟩
theorem law_endX {l:PySem.W.OpenLaw}{m k f:Nat}{q:Program}{loose:List Str}{XP:(Str→Option Value)→Heap→Prop}{YP:World→Heap→Prop}{d:DefRec}{K:Params→PySem.W.Frag}{pr:Prog}{fname gname:Nat→Option Str}{xt:XT}{par:Nat→List Str}{x:Str}
  (hn:l.most=some m) (hm:m≤sizeLine) (hdf:d.params.defaults=[]) (hr:Room (k+2) callerA) (hY:∀ (w:World) (h:Heap),YP w h→(K w.params).In h) (hf:fname f=some d.name) (hp:par f=[x])
  (M:∀ (w:World) (mg:Str→Option Value),(∀ y r,PySem.W.nsIn (K w.params) mainGlobals y=some r→mg y=r)→∀ base:Heap,ModIs l.prog w (K w.params) mg base (XR0 (K w.params) w xt) pr fname gname xt par)
  (go:∀ ns:List Int,ns.length≤m→∃ st',run pr k f [.ob 1 (ns.map D.int)] none=.ok (.bl true) st') :
  PySem.W.WalkO q loose XP YP l.row.toRowW d [] (fun f vs=>PySem.call f vs):=law_end hn hm hdf hr hY hf hp M go
end PL
end
section
namespace LT
structure Nr where
 g:Int→Bool
 P:Nat
 p0:1≤P
 p1:P≤13
 hL:∀ k:Int,k+P≤376→g k=g (k+P)
 hR:∀ k:Int,424≤k→g k=g (k+P)
def Cg (s:Nat)(i j:Int):Prop:=∃ c:Int,j=i+c*s
theorem Cg.symm {s:Nat}{i j:Int}(h:Cg s i j):Cg s j i:=by
 obtain ⟨c,rfl⟩:=h
 exact ⟨-c,by rw [Int.neg_mul];omega⟩
theorem Cg.mod (s:Nat)(i:Int):Cg s i (i%s):=⟨-(i/s),by
 have:=Int.emod_add_mul_ediv i s
 rw [Int.neg_mul,Int.mul_comm]
 omega⟩
theorem Cg.trans {s:Nat}{i j k:Int}(a:Cg s i j)(b:Cg s j k):Cg s i k:=by
 obtain ⟨c,rfl⟩:=a
 obtain ⟨d,rfl⟩:=b
 exact ⟨c+d,by rw [Int.add_mul];omega⟩
theorem Cg.add {s:Nat}{i j:Int}(a:Cg s i j)(k:Int):Cg s (i+k) (j+k):=by
 obtain ⟨c,rfl⟩:=a
 exact ⟨c,by omega⟩
theorem Cg.emod {s:Nat}{i j:Int}(a:Cg s i j):i%s=j%s:=by
 obtain ⟨c,rfl⟩:=a
 rw [Int.add_mul_emod_self_right]
theorem per_up {g:Int→Bool}{P:Nat}{a:Int}(h:∀ k:Int,a≤k→g k=g (k+P)):∀ (n:Nat) (k:Int),a≤k→g k=g (k+n*P)
 | 0,k,_=>by simp
 | n+1,k,hk=>by
  have:(0:Int)≤n*P:=Int.mul_nonneg (by omega) (by omega)
  rw [per_up h n k hk,h _ (by omega)]
  congr 1
  rw [show ((n+1:Nat):Int)=(n:Int)+1 by omega,Int.add_mul]
  omega
theorem per_R {g:Int→Bool}{P:Nat}(p0:1≤P){a:Int}(h:∀ k:Int,a≤k→g k=g (k+P)){i j:Int}(hi:a≤i)(hj:a≤j)(e:Cg P i j):g i=g j:=by
 have key:∀ i j:Int,a≤i→i≤j→Cg P i j→g i=g j:=by
  intro i j hi hij ⟨c,hc⟩
  have c0:0≤c:=by
   by_cases z:0≤c
   ·exact z
   ·have:c*(P:Int)<0:=Int.mul_neg_of_neg_of_pos (by omega) (by omega)
    omega
  rw [per_up h c.toNat i hi,Int.toNat_of_nonneg c0,← hc]
 rcases Int.le_total i j with z|z
 ·exact key i j hi z e
 ·exact (key j i hj z e.symm).symm
theorem per_L {g:Int→Bool}{P:Nat}(p0:1≤P){a:Int}(h:∀ k:Int,k+P≤a→g k=g (k+P)){i j:Int}(hi:i≤a)(hj:j≤a)(e:Cg P i j):g i=g j:=by
 have:=per_R (g:=fun k=>g (-k)) (P:=P) p0 (a:=-a) (fun k hk=>by
  have:=h (-k-P) (by omega)
  show g (-k)=g (-(k+P))
  rw [show -(k+(P:Int))=-k-P by omega,this]
  congr 1
  omega) (i:=-i) (j:=-j) (by omega) (by omega) (by
   obtain ⟨c,rfl⟩:=e
   exact ⟨-c,by rw [Int.neg_mul];omega⟩)
 simpa using this
section
variable (r:Nr)
def StOk (s:Nat):Prop:=1≤s∧s≤72∧(∀ k:Int,0≤k→k<100→r.g k=r.g (k+s))∧(∀ k:Int,620≤k→k<720→r.g k=r.g (k+s))
variable {r}
theorem mod_lt' {s:Nat}(h:1≤s)(i:Int):0≤i%s∧i%s<s:=⟨Int.emod_nonneg _ (by omega),Int.emod_lt_of_pos _ (by omega)⟩
theorem StOk.self (r:Nr):StOk r r.P:=⟨r.p0,by have:=r.p1;omega,fun k h1 h2=>r.hL k (by have:=r.p1;omega),fun k h1 h2=>r.hR k (by omega)⟩
def pat (g:Int→Bool)(s:Nat)(k j:Int):Bool:=g (k+(j-k)%s)
def walk (g:Int→Bool)(s:Nat):Nat→List Nat
 | 0=>[]
 | n+1=>if g n=pat g s (((walk g s n).getLast?).getD 0) n then walk g s n else walk g s n++[n]
theorem walk_lt {g:Int→Bool}{s:Nat}:∀ n,∀ k∈walk g s n,k<n
 | 0,k,h=>by simp [walk] at h
 | n+1,k,h=>by
  unfold walk at h
  split at h
  ·have:=walk_lt n k h;omega
  ·rcases List.mem_append.1 h with h|h
   ·have:=walk_lt n k h;omega
   ·simp at h;omega
theorem walk_sorted {g:Int→Bool}{s:Nat}:∀ n,(walk g s n).Pairwise (· < ·)
 | 0=>.nil
 | n+1=>by
  unfold walk
  split
  ·exact walk_sorted n
  ·rw [List.pairwise_append]
   exact ⟨walk_sorted n,by simp,fun a ha b hb=>by simp at hb;rw [hb];exact walk_lt n a ha⟩
theorem walk_len (r:Nr):∀ n:Nat,(walk r.g r.P n).length≤min n 424-376+(if 424≤((walk r.g r.P n).getLast?).getD 0 then 1 else 0)∧(n≤376→walk r.g r.P n=[])
 | 0=>⟨by simp [walk],fun _=>rfl⟩
 | n+1=>by
  obtain ⟨h1,h2⟩:=walk_len r n
  have p0:=r.p0
  have p1:=r.p1
  unfold walk
  split
  ·rename_i hb
   exact ⟨by omega,fun hn=>h2 (by omega)⟩
  ·rename_i hb
   have hn:¬ n<376:=fun hn=>hb (by
    rw [h2 (by omega)]
    obtain ⟨m1,m2⟩:=mod_lt' p0 n
    show r.g n=r.g (0+(n-0)%r.P)
    rw [Int.sub_zero,Int.zero_add]
    exact per_L p0 r.hL (by omega) (by omega) (Cg.mod _ _))
   have hlt:((walk r.g r.P n).getLast?).getD 0≤n:=by
    cases e:(walk r.g r.P n).getLast? with
    | none=>simp
    | some k=>have:=walk_lt n k (List.mem_of_getLast? e);simp;omega
   have hK:¬ 424≤((walk r.g r.P n).getLast?).getD 0:=fun hK=>hb (by
    generalize ((walk r.g r.P n).getLast?).getD 0=K at *
    obtain ⟨m1,m2⟩:=mod_lt' p0 ((n:Int)-K)
    unfold pat
    refine per_R p0 r.hR (by omega) (by omega) ?_
    have:=(Cg.mod r.P ((n:Int)-K)).add K
    rw [show (n:Int)-K+K=n by omega] at this
    rwa [Int.add_comm] at this)
   rw [if_neg hK] at h1
   refine ⟨?_,fun z=>absurd z (by omega)⟩
   rw [List.length_append,List.getLast?_append]
   have e:([n].getLast?.or (walk r.g r.P n).getLast?).getD 0=n:=rfl
   rw [e]
   simp only [List.length_cons,List.length_nil]
   by_cases z:424≤n
   ·rw [if_pos z];omega
   ·rw [if_neg z];omega
theorem walk_few (r:Nr):((walk r.g r.P 700).length+1)*r.P≤720:=by
 have h:=(walk_len r 700).1
 have p1:=r.p1
 have:(walk r.g r.P 700).length+1≤50:=by split at h<;>omega
 calc _≤50*13:=Nat.mul_le_mul this p1
  _≤720:=by decide
theorem walk_pos {g:Int→Bool}{s:Nat}:∀ n,∀ k∈walk g s n,0<k
 | 0,k,h=>by simp [walk] at h
 | 1,k,h=>by simp [walk,pat] at h
 | n+2,k,h=>by
  rw [walk] at h
  split at h
  ·exact walk_pos (n+1) k h
  ·rcases List.mem_append.1 h with h|h
   ·exact walk_pos (n+1) k h
   ·simp at h;omega
def rests (g:Int→Bool)(s k:Nat):List Int:=((List.range s).filter fun i:Nat=>pat g s k (((i:Int)+400)%s)).map fun i:Nat=>(i:Int)
theorem rests_sorted (g:Int→Bool)(s k:Nat):(rests g s k).Pairwise (· < ·):=by
 unfold rests
 rw [List.pairwise_map]
 refine List.Pairwise.filter _ ?_
 exact List.pairwise_lt_range.imp fun h=>by omega
theorem rests_in {g:Int→Bool}{s k:Nat}:∀ x∈rests g s k,0≤x∧x<s:=by
 intro x h
 unfold rests at h
 obtain ⟨i,hi,rfl⟩:=List.mem_map.1 h
 rw [List.mem_filter,List.mem_range] at hi
 omega
structure SF where
 s:Nat
 r0:List Int
 F:List (Int × List Int)
def look (r0:List Int):List (Int × List Int)→Int→List Int
 | [],_=>r0
 | p::F,x=>if p.1≤x then look p.2 F x else r0
def SF.mem (f:SF)(x:Int):Prop:=x%f.s∈look f.r0 f.F x
instance (f:SF) (x:Int):Decidable (f.mem x):=inferInstanceAs (Decidable (x%f.s∈look f.r0 f.F x))
structure SF.Ok (f:SF):Prop where
 s0:1≤f.s
 s1:f.s≤72
 r0:f.r0.Pairwise (· < ·)∧∀ x∈f.r0,0≤x∧x<f.s
 rs:∀ p∈f.F,p.2.Pairwise (· < ·)∧∀ x∈p.2,0≤x∧x<f.s
 bs:(f.F.map (·.1)).Pairwise (· < ·)
 few:(f.F.length+1)*f.s≤720
def lst (g:Int→Bool)(s:Nat):SF:=⟨s,rests g s 0,(walk g s 700).map fun k:Nat=>((k:Int)-400,rests g s k)⟩
theorem lst_ok {r:Nr}{s:Nat}(h:StOk r s)(hf:((walk r.g s 700).length+1)*s≤720):(lst r.g s).Ok where
 s0:=h.1
 s1:=h.2.1
 r0:=⟨rests_sorted _ _ _,rests_in⟩
 rs:=fun p hp=>by
  obtain ⟨k,hk,rfl⟩:=List.mem_map.1 hp
  exact ⟨rests_sorted _ _ _,rests_in⟩
 bs:=by
  show (((walk r.g s 700).map fun k:Nat=>((k:Int)-400,rests r.g s k)).map (·.1)).Pairwise (· < ·)
  rw [List.map_map,List.pairwise_map]
  exact (walk_sorted 700).imp fun h=>by simp only [Function.comp];omega
 few:=by simpa [lst] using hf
theorem lst_begin {g:Int→Bool}{s:Nat}:∀ p∈(lst g s).F,-399≤p.1∧p.1≤299:=by
 intro p hp
 obtain ⟨k,hk,rfl⟩:=List.mem_map.1 hp
 have:=walk_pos _ k hk
 have:=walk_lt _ k hk
 simp only
 omega
end
end LT
end
section
namespace PL
theorem run_fn {X:Prog}{k f ps ns:Nat}{b:Ss}{ds:List D}{st:St}(h:X.fns f=some (.fn ps ns b))(hl:ds.length=ps):run X (k+1) f ds st=outR (evSs (X.cx k) b (entry ns ds) st):=by
 unfold run
 rw [h]
 simp [hl]
section
@[simp] theorem q_add (a b:Int):bop .add (.int a) (.int b)=some (.int (a+b)):=rfl
@[simp] theorem q_sub (a b:Int):bop .sub (.int a) (.int b)=some (.int (a-b)):=rfl
@[simp] theorem q_mul (a b:Int):bop .mul (.int a) (.int b)=if mulOk a b then some (.int (a*b)) else none:=rfl
@[simp] theorem q_div (a b:Int):bop .div (.int a) (.int b)=if divOk b then some (.int (a.fdiv b)) else none:=rfl
@[simp] theorem q_mod (a b:Int):bop .mod (.int a) (.int b)=if b≠0 then some (.int (a.fmod b)) else none:=rfl
@[simp] theorem q_pow (a b:Int):bop .pow (.int a) (.int b)=if 0≤b∧b≤1000000∧a.natAbs<2^64 then some (.int (a^b.toNat)) else none:=rfl
@[simp] theorem q_addT (a b:List D):bop .add (.tup a) (.tup b)=if a.length+b.length≤line then some (.tup (a++b)) else none:=rfl
@[simp] theorem q_addL (a b:List D):bop .add (.lst a) (.lst b)=if a.length+b.length≤line then some (.lst (a++b)) else none:=rfl
@[simp] theorem q_lt (a b:Int):cop .lt (.int a) (.int b)=some (decide (a<b)):=rfl
@[simp] theorem q_le (a b:Int):cop .le (.int a) (.int b)=some (decide (a≤b)):=rfl
@[simp] theorem q_gt (a b:Int):cop .gt (.int a) (.int b)=some (decide (b<a)):=rfl
@[simp] theorem q_ge (a b:Int):cop .ge (.int a) (.int b)=some (decide (b≤a)):=rfl
@[simp] theorem q_eq (x y:D):cop .eq x y=eqD x y:=rfl
@[simp] theorem q_ne (x y:D):cop .ne x y=(eqD x y).map not:=rfl
@[simp] theorem q_in (x y:D):cop .inn x y=D.has x y:=rfl
@[simp] theorem q_nin (x y:D):cop .nin x y=(D.has x y).map not:=rfl
@[simp] theorem q_eqS (a b:List Nat):eqD (.str a) (.str b)=some (a==b):=rfl
@[simp] theorem q_eqI (a b:Int):eqD (.int a) (.int b)=some (a==b):=by
 show (if D.shaped (.int a)&&D.shaped (.int b) then some (D.eqv (.int a) (.int b)) else none)=_
 rfl
@[simp] theorem q_eqIS (a:Int) (b:List Nat):eqD (.int a) (.str b)=if (D.str b).shaped then some false else none:=by
 show (if D.shaped (.int a)&&D.shaped (.str b) then some (D.eqv (.int a) (.str b)) else none)=_
 rfl
@[simp] theorem q_eqLN (a:List D):eqD (.lst a) (.lst [])=if (D.lst a).shaped then some a.isEmpty else none:=by
 show (if D.shaped (.lst a)&&D.shaped (.lst []) then some (D.eqv (.lst a) (.lst [])) else none)=_
 rw [show D.shaped (.lst [])=true from rfl,Bool.and_true]
 cases a<;>rfl
@[simp] theorem q_eqTS (a:List D) (b:List Nat):eqD (.tup a) (.str b)=if (D.tup a).shaped&&(D.str b).shaped then some false else none:=rfl
@[simp] theorem q_subT (xs:List D) (i:Int):subD (.tup xs) (.int i)=ix xs i:=rfl
@[simp] theorem q_subL (xs:List D) (i:Int):subD (.lst xs) (.int i)=ix xs i:=rfl
@[simp] theorem q_subDS (ks:List K0) (vs:List D) (s:List Nat):subD (.dct ks vs) (.str s)=findK (.s s) ks vs:=rfl
@[simp] theorem q_ix0 {α:Type} (a:α) (l:List α):ix (a::l) 0=some a:=rfl
@[simp] theorem q_ix1 {α:Type} (a b:α) (l:List α):ix (a::b::l) 1=some b:=rfl
@[simp] theorem q_ix2 {α:Type} (a b c:α) (l:List α):ix (a::b::c::l) 2=some c:=rfl
@[simp] theorem q_ix3 {α:Type} (a b c d:α) (l:List α):ix (a::b::c::d::l) 3=some d:=rfl
@[simp] theorem q_hasDS (s:List Nat) (ks:List K0) (vs:List D):D.has (.str s) (.dct ks vs)=some (ks.contains (.s s)):=rfl
@[simp] theorem q_hasT (k:D) (ys:List D):D.has k (.tup ys)=if k.flat&&ys.all D.flat then some (ys.any fun y=>D.eqv y k) else none:=rfl
@[simp] theorem q_hasL (k:D) (ys:List D):D.has k (.lst ys)=if k.shaped&&ys.all D.shaped then some (ys.any fun y=>D.eqv y k) else none:=rfl
@[simp] theorem q_len (sh:D→List Nat) (ds:List D):biD sh .len ds=lenD ds:=rfl
@[simp] theorem q_lenL (xs:List D):lenD [.lst xs]=some (.int xs.length):=rfl
@[simp] theorem q_lenT (xs:List D):lenD [.tup xs]=some (.int xs.length):=rfl
@[simp] theorem q_abs (sh:D→List Nat) (i:Int):biD sh .abs [.int i]=some (.int (if i<0 then -i else i)):=rfl
@[simp] theorem q_max2 (sh:D→List Nat) (i j:Int):biD sh .max2 [.int i,.int j]=some (.int (if j > i then j else i)):=rfl
@[simp] theorem q_min2 (sh:D→List Nat) (i j:Int):biD sh .min2 [.int i,.int j]=some (.int (if j<i then j else i)):=rfl
@[simp] theorem q_maxL (sh:D→List Nat) (xs:List D):biD sh .maxL [.lst xs]=(D.ints xs).bind fun l=>(maxI l).map .int:=rfl
@[simp] theorem q_maxT (sh:D→List Nat) (xs:List D):biD sh .maxL [.tup xs]=(D.ints xs).bind fun l=>(maxI l).map .int:=rfl
@[simp] theorem q_minL (sh:D→List Nat) (xs:List D):biD sh .minL [.lst xs]=match D.ints xs with|some l=>(minI l).map .int|none=>minT xs:=rfl
@[simp] theorem q_sum (sh:D→List Nat) (xs:List D):biD sh .sum [.lst xs]=(D.ints xs).map fun l=>.int l.sum:=rfl
@[simp] theorem q_intB (sh:D→List Nat) (b:Bool):biD sh .int [.bl b]=some (.int (if b then 1 else 0)):=rfl
@[simp] theorem q_intI (sh:D→List Nat) (i:Int):biD sh .int [.int i]=some (.int i):=rfl
@[simp] theorem q_repr (sh:D→List Nat) (d:D):biD sh .repr [d]=if d.reprOk then some (.str (sh d)) else if d.reprDk then some (.str (sh d)) else none:=rfl
@[simp] theorem q_tyT (xs:List D) (t:Ty):isTy (.tup xs) t=some (t==.tuple):=rfl
@[simp] theorem q_tyL (xs:List D) (t:Ty):isTy (.lst xs) t=some (t==.list):=rfl
@[simp] theorem q_tyI (i:Int) (t:Ty):isTy (.int i) t=some (t==.int):=rfl
@[simp] theorem q_tyS (s:List Nat) (t:Ty):isTy (.str s) t=some (t==.str):=rfl
@[simp] theorem q_putN (i:Nat) (d:D) (env:Env):putT (.nm i) d env=some (env.set i (.val d)):=rfl
@[simp] theorem q_putT (ts:Tgs) (xs:List D) (env:Env):putT (.tp ts) (.tup xs) env=putTs ts xs env:=rfl
@[simp] theorem q_putNil (env:Env):putTs .nil [] env=some env:=rfl
@[simp] theorem q_putCons (t:Tg) (r:Tgs) (x:D) (xs:List D) (env:Env):putTs (.cons t r) (x::xs) env=(putT t x env).bind (putTs r xs):=rfl
@[simp] theorem q_wipe0 (env:Env):wipeE env []=env:=rfl
@[simp] theorem q_wipe1 (env:Env) (v:Nat) (vs:List Nat):wipeE env (v::vs)=(wipeE env vs).set v .un:=rfl
@[simp] theorem q_frz0 (env:Env):freeze env []=env:=rfl
@[simp] theorem q_mkF (d:D):mk false d=.val d:=rfl
@[simp] theorem q_mkT (ds:List D):mk true (.lst ds)=.own ds:=rfl
@[simp] theorem q_madeOk (ys:List D) (st:St):R.made (.ok ys st)=if ys.length≤line then .ok (.lst ys) st else .no:=rfl
@[simp] theorem q_getV (d:D):Slot.get (.val d)=some d:=rfl
@[simp] theorem q_envget (env:Env) (i:Nat):Env.get env i=(env[i]?).bind Slot.get:=rfl
@[simp] theorem q_itemT (xs:List D):D.items (.tup xs)=some xs:=rfl
@[simp] theorem q_itemL (xs:List D):D.items (.lst xs)=some xs:=rfl
@[simp] theorem q_walkT (xs:List D):D.walk (.tup xs)=some xs:=rfl
@[simp] theorem q_walkL (xs:List D):D.walk (.lst xs)=some xs:=rfl
@[simp] theorem q_enmT (xs:List D):enmO 0 (.tup xs)=some (enmD 0 xs):=rfl
@[simp] theorem q_enmL (xs:List D):enmO 0 (.lst xs)=some (enmD 0 xs):=rfl
@[simp] theorem q_isd (ks:List K0) (vs:List D):D.isDct (.dct ks vs)=some ():=rfl
@[simp] theorem q_isl (xs:List D):D.isLst (.lst xs)=some ():=rfl
@[simp] theorem q_cnt (xs:List D) (b:Bool):cntD (.lst xs) (.bl b)=(D.bools xs).map fun l=>.int (l.count b:Nat):=rfl
@[simp] theorem q_getS (ks:List K0) (vs:List D) (s:List Nat) (z:D):getD (.dct ks vs) (.str s) z=some ((findK (.s s) ks vs).getD z):=rfl
@[simp] theorem q_neg (i:Int):negD (.int i)=some (.int (-i)):=rfl
@[simp] theorem q_trI (i:Int):D.truth (.int i)=some (i != 0):=rfl
@[simp] theorem q_outX (c:Nat) (fs:List D) (env:Env) (st:St):outR (.exc c fs env st)=.exc c fs st:=rfl
@[simp] theorem q_line:line=16777216:=rfl
theorem q_step (fe:Env→St→R D)(fc:Env→St→R Bool)(tg:Tg)(own:List Nat)(env:Env)(d:D)(st:St) :
  lcStep fe fc tg own env d st=R.opt (putT tg d (wipeE env own)) fun env'=>(fc env' st).bind fun t st=>if t then (fe env' st).bind fun y st=>.ok (some y) st else .ok none st:=rfl
@[simp] theorem q_own (env:Env) (i:Nat):ownAt env i=(env[i]?).bind fun s=>match s with|.own ds=>some ds|_=>none:=by
 unfold ownAt
 cases env[i]? with
 | none=>rfl
 | some s=>cases s<;>rfl
end
theorem mapR_of {α:Type}{f:D→St→R (Option D)}{i g:α→D}{st:St}:∀ {l:List α},(∀ a∈l,f (i a) st=.ok (some (g a)) st)→mapR f (l.map i) st=.ok (l.map g) st
 | [],_=>rfl
 | a::l,h=>by
  show mapR f (i a::l.map i) st=_
  unfold mapR
  rw [h a (by simp),R.bind_ok,mapR_of (fun x hx=>h x (by simp [hx]))]
  rfl
theorem mapR_opt {α:Type}{f:D→St→R (Option D)}{i:α→D}{g:α→Option D}{st:St}:∀ {l:List α},(∀ a∈l,f (i a) st=.ok (g a) st)→mapR f (l.map i) st=.ok (l.filterMap g) st
 | [],_=>rfl
 | a::l,h=>by
  show mapR f (i a::l.map i) st=_
  unfold mapR
  rw [h a (by simp),R.bind_ok,mapR_opt (fun x hx=>h x (by simp [hx])),List.filterMap_cons]
  cases g a<;>rfl
theorem forL_inv {f:D→Env→St→Q}{P:Nat→Env→St→Prop}:∀ {ds:List D} {i:Nat} {env:Env} {st:St},P i env st →
  (∀ j d env st,ds[j]?=some d→P (i+j) env st→∃ env' st',f d env st=.next env' st'∧P (i+j+1) env' st')→∃ env' st',forL f ds env st=.next env' st'∧P (i+ds.length) env' st'
 | [],i,env,st,h,_=>⟨env,st,rfl,h⟩
 | d::ds,i,env,st,h,hs=>by
  obtain ⟨env1,st1,e1,h1⟩:=hs 0 d env st rfl h
  obtain ⟨env2,st2,e2,h2⟩:=forL_inv (P:=P) (ds:=ds) (i:=i+1) h1 (fun j x env st hj hp=>by
   have:=hs (j+1) x env st (by simpa using hj) (by rw [show i+(j+1)=i+1+j by omega];exact hp)
   rw [show i+(j+1)+1=i+1+j+1 by omega] at this
   exact this)
  refine ⟨env2,st2,?_,by rw [List.length_cons,show i+(ds.length+1)=i+1+ds.length by omega];exact h2⟩
  unfold forL
  rw [e1]
  exact e2
def Older (s s':Strm)(k:Int):Prop:=s.turn≤s'.turn∧s'.turn≤s.turn+k
theorem Older.mono {s s1:Strm}{j k:Int}(h1:Older s s1 j)(h:j≤k):Older s s1 k:=⟨h1.1,by have:=h1.2;omega⟩
def bDraw:Ss:=(.cons (.whl [] (.sHas 0)
 (.cons (.asg false 5 (.sBig 0))
 (.cons (.ite [] (.cmp .gt (.loc 5) (.cst (.int 0)))
 (.cons (.sPutB 0 (.bin .div (.loc 5) (.loc 1)))
 (.cons (.ret (.bin .mod (.loc 5) (.loc 1)))
 .nil))
 .nil)
 (.cons (.sPop 0)
 .nil))))
 (.cons (.asg false 2 (.bin .add (.sTurn 0) (.cst (.int 1))))
 (.cons (.sPutT 0 (.loc 2))
 (.cons (.asg false 3 (.bin .mod (.sCell 0 2) (.cst (.int 2147483587))))
 (.cons (.asg false 4 (.bin .mod (.bin .add (.bin .add (.bin .mul (.loc 3) (.bin .add (.cst (.int 39373)) (.bin .mul (.cst (.int 69069)) (.loc 2)))) (.bin .mul (.bin .mul (.cst (.int 48271)) (.loc 2)) (.loc 2))) (.cst (.int 67))) (.cst (.int 2147483647))))
 (.cons (.ret (.bin .mod (.bin .div (.bin .mod (.bin .mul (.loc 4) (.loc 4)) (.cst (.int 2147483629))) (.cst (.int 16))) (.loc 1)))
 .nil))))))
theorem log2_lt {n k:Nat}(h:n<2^k)(hk:0<k):n.log2<k:=by
 by_cases h0:n=0
 ·subst h0;simpa [Nat.log2_zero] using hk
 ·exact (Nat.log2_lt h0).mpr h
theorem mulOk_of {a b:Int}{j k:Nat}(h1:a.natAbs<2^j)(h2:b.natAbs<2^k)(hj:0<j)(hk:0<k)(h:j+k≤1000000):mulOk a b=true:=by
 unfold mulOk
 have:=log2_lt h1 hj
 have:=log2_lt h2 hk
 simp
 omega
theorem whlL_next {c:Env→St→R Bool}{f:Env→St→Q}{n:Nat}{env env':Env}{st st1 st2:St}(hc:c env st=.ok true st1)(hf:f env st1=.next env' st2):whlL c f (n+1) env st=whlL c f n env' st2:=by
 conv=>lhs;unfold whlL
 rw [hc]
 simp [R.use,hf]
theorem whlL_done {c:Env→St→R Bool}{f:Env→St→Q}{n:Nat}{env:Env}{st st1:St}(hc:c env st=.ok false st1):whlL c f (n+1) env st=.next env st1:=by
 conv=>lhs;unfold whlL
 rw [hc]
 simp [R.use]
theorem whlL_ret {c:Env→St→R Bool}{f:Env→St→Q}{n:Nat}{env:Env}{st st1 st2:St}{d:D}(hc:c env st=.ok true st1)(hf:f env st1=.ret d st2):whlL c f (n+1) env st=.ret d st2:=by
 conv=>lhs;unfold whlL
 rw [hc]
 simp [R.use,hf]
abbrev dEnv (many:Int)(s:Slot):Env:=[.val (.ob 0 []),.val (.int many),.un,.un,.un,s]
abbrev dBody:Ss:=(.cons (.asg false 5 (.sBig 0)) (.cons (.ite [] (.cmp .gt (.loc 5) (.cst (.int 0))) (.cons (.sPutB 0 (.bin .div (.loc 5) (.loc 1))) (.cons (.ret (.bin .mod (.loc 5) (.loc 1))) .nil)) .nil) (.cons (.sPop 0) .nil)))
noncomputable abbrev dWhl (cx:Ctx):=whlL (whlTest (evE cx (.sHas 0)) []) (evSs cx dBody)
theorem draw_loop {cx:Ctx}{many:Int}(hm:0<many)(hm2:divOk many=true):∀ (big:List Int) (n:Nat) (cells:List Int) (turn:Int) (s:Slot),big.length<n →
  (∃ v b',0≤v∧v<many∧b'.length≤big.length∧dWhl cx n (dEnv many s) (some ⟨big,cells,turn⟩)=.ret (.int v) (some ⟨b',cells,turn⟩)) ∨
  (∃ s',dWhl cx n (dEnv many s) (some ⟨big,cells,turn⟩)=.next (dEnv many s') (some ⟨[],cells,turn⟩))
 | [],n,cells,turn,s,hn=>by
  obtain ⟨n,rfl⟩:∃ m,n=m+1:=⟨n-1,by simp at hn;omega⟩
  right
  exact ⟨s,whlL_done (by simp [whlTest,evE,strAt])⟩
 | b::big,n,cells,turn,s,hn=>by
  obtain ⟨n,rfl⟩:∃ m,n=m+1:=⟨n-1,by simp at hn;omega⟩
  have hne:many≠0:=by omega
  have hd:=hm2
  by_cases hb:0<b
  ·left
   refine ⟨b.fmod many,b.fdiv many::big,Int.fmod_nonneg_of_pos b hm,Int.fmod_lt_of_pos b hm,by simp,?_⟩
   exact whlL_ret (st1:=some ⟨b::big,cells,turn⟩) (by simp [whlTest,evE,strAt]) (by simp [evSs,evS,evE,strAt,hb,hd,hne,putB])
  ·have ih:=draw_loop (cx:=cx) hm hm2 big n cells turn (.val (.int b)) (by simp at hn;omega)
   have e:dWhl cx (n+1) (dEnv many s) (some ⟨b::big,cells,turn⟩)=dWhl cx n (dEnv many (.val (.int b))) (some ⟨big,cells,turn⟩):=by
    exact whlL_next (st1:=some ⟨b::big,cells,turn⟩) (by simp [whlTest,evE,strAt]) (by simp [evSs,evS,evE,strAt,hb,popB])
   rw [e]
   rcases ih with ⟨v,b',h0,h1,h2,h3⟩|h
   ·exact .inl ⟨v,b',h0,h1,by simp;omega,h3⟩
   ·exact .inr h
theorem draw_any {X:Prog}{f:Nat}(hX:X.fns f=some (.fn 2 6 bDraw))(k:Nat)(s:Strm){many:Int}(hm:0<many)(hm2:divOk many=true)(ht:s.turn.natAbs<2^60)(hb:s.big.length<1000000) :
  ∃ v s',run X (k+1) f [.ob 0 [],.int many] (some s)=.ok (.int v) (some s')∧0≤v∧v<many∧Older s s' 1∧s'.big.length≤s.big.length:=by
 obtain ⟨big,cells,turn⟩:=s
 simp only at ht hb
 rw [run_fn hX rfl]
 have e0:entry 6 [.ob 0 [],.int many]=dEnv many .un:=rfl
 rw [e0]
 have hw:evSs (X.cx k) bDraw (dEnv many .un) (some ⟨big,cells,turn⟩)=(dWhl (X.cx k) turns (dEnv many .un) (some ⟨big,cells,turn⟩)).then (evSs (X.cx k) (.cons (.asg false 2 (.bin .add (.sTurn 0) (.cst (.int 1))))
 (.cons (.sPutT 0 (.loc 2))
 (.cons (.asg false 3 (.bin .mod (.sCell 0 2) (.cst (.int 2147483587))))
 (.cons (.asg false 4 (.bin .mod (.bin .add (.bin .add (.bin .mul (.loc 3) (.bin .add (.cst (.int 39373)) (.bin .mul (.cst (.int 69069)) (.loc 2)))) (.bin .mul (.bin .mul (.cst (.int 48271)) (.loc 2)) (.loc 2))) (.cst (.int 67))) (.cst (.int 2147483647))))
 (.cons (.ret (.bin .mod (.bin .div (.bin .mod (.bin .mul (.loc 4) (.loc 4)) (.cst (.int 2147483629))) (.cst (.int 16))) (.loc 1)))
 .nil)))))):=by
  unfold bDraw
  rw [evSs,evS]
 rw [hw]
 rcases draw_loop (cx:=X.cx k) hm hm2 big turns cells turn .un (by unfold turns;omega) with ⟨v,b',h0,h1,h2,e⟩|⟨s',e⟩
 ·rw [e]
  exact ⟨v,_,rfl,h0,h1,⟨by simp,by simp;omega⟩,h2⟩
 ·rw [e,Q.then_next]
  generalize hc0:(cells[((turn+1)%(cells.length:Int)).toNat]?.getD 0)=c0
  obtain ⟨t,ht1⟩:∃ t,t=turn+1:=⟨_,rfl⟩
  have hn:many≠0:=by omega
  have b0:t.natAbs<2^61:=by omega
  obtain ⟨c,hc⟩:∃ c,c=c0.fmod 2147483587:=⟨_,rfl⟩
  have c1:0≤c:=by rw [hc];exact Int.fmod_nonneg_of_pos c0 (by decide)
  have c2:c<2147483587:=by rw [hc];exact Int.fmod_lt_of_pos c0 (by decide)
  have m1:mulOk 69069 t=true:=mulOk_of (j:=17) (k:=61) (by decide) b0 (by decide) (by decide) (by decide)
  have m2:mulOk c (39373+69069*t)=true:=mulOk_of (j:=31) (k:=80) (by omega) (by omega) (by decide) (by decide) (by decide)
  have m3:mulOk 48271 t=true:=mulOk_of (j:=17) (k:=61) (by decide) b0 (by decide) (by decide) (by decide)
  have m4:mulOk (48271*t) t=true:=mulOk_of (j:=80) (k:=61) (by omega) b0 (by decide) (by decide) (by decide)
  obtain ⟨m,hm'⟩:∃ m,m=(c*(39373+69069*t)+48271*t*t+67).fmod 2147483647:=⟨_,rfl⟩
  have d1:0≤m:=by rw [hm'];exact Int.fmod_nonneg_of_pos _ (by decide)
  have d2:m<2147483647:=by rw [hm'];exact Int.fmod_lt_of_pos _ (by decide)
  have m5:mulOk m m=true:=mulOk_of (j:=31) (k:=31) (by omega) (by omega) (by decide) (by decide) (by decide)
  refine ⟨(((m*m).fmod 2147483629).fdiv 16).fmod many,⟨[],cells,t⟩,?_,Int.fmod_nonneg_of_pos _ hm,Int.fmod_lt_of_pos _ hm,⟨by simp;omega,by simp;omega⟩,by simp⟩
  have dv:divOk 16=true:=by decide
  rw [ht1] at m1 m2 m3 m4 hm' ⊢
  simp [evSs,evS,evE,strAt,putU,cellD,hc0,← hc,m1,m2,m3,m4,← hm',m5,dv,hn]
theorem draw_ok {X:Prog}{f:Nat}(hX:X.fns f=some (.fn 2 6 bDraw))(k:Nat)(s:Strm){many:Int}(hm:0<many)(hm2:many<1073741824)(ht:s.turn.natAbs<2^60)(hb:s.big.length<1000000) :
  ∃ v s',run X (k+1) f [.ob 0 [],.int many] (some s)=.ok (.int v) (some s')∧0≤v∧v<many∧Older s s' 1∧s'.big.length≤s.big.length :=
 draw_any hX k s hm (by unfold divOk;simp;left;omega) ht hb
def bStream:Ss:=(.cons (.asg true 1 (.lc (.bi .abs (.cons (.loc 2) .nil)) (.nm 2) (.seq (.loc 0)) .no [2]))
 (.cons (.retS (.lc (.loc 2) (.nm 2) (.seq (.loc 1)) (.so (.cmp .ge (.loc 2) (.bin .pow (.cst (.int 10)) (.cst (.int 18))))) [2]) 1)
 .nil))
theorem stream_ok {X:Prog}{f:Nat}(hX:X.fns f=some (.fn 1 3 bStream))(k:Nat)(ns:List Int)(hl:ns.length≤1000) :
  ∃ s,run X (k+1) f [.ob 1 (ns.map D.int)] none=.ok (.ob 0 []) (some s)∧s.turn=0∧s.big.length≤ns.length:=by
 rw [run_fn hX rfl]
 obtain ⟨ab,hab⟩:∃ ab:Int→Int,ab=fun i=>if i<0 then -i else i:=⟨_,rfl⟩
 have e1:∀ (env:Env),mapR (lcStep (evE (X.cx k) (.bi .abs (.cons (.loc 2) .nil))) (evB (X.cx k) .no) (.nm 2) [2] [.val (.ob 1 (ns.map D.int)),.un,.un]) (ns.map D.int) none=.ok (ns.map fun i=>D.int (ab i)) none:=fun env=>by
  refine mapR_of (i:=D.int) (g:=fun i=>D.int (ab i)) fun i _=>?_
  simp [q_step,evB,evE,evEs,hab]
 have e2:mapR (lcStep (evE (X.cx k) (.loc 2)) (evB (X.cx k) (.so (.cmp .ge (.loc 2) (.bin .pow (.cst (.int 10)) (.cst (.int 18)))))) (.nm 2) [2] [.val (.ob 1 (ns.map D.int)),.val (.lst (ns.map fun i=>D.int (ab i))),.un]) (ns.map fun i=>D.int (ab i)) none =
   .ok (ns.filterMap fun i=>if 1000000000000000000≤ab i then some (D.int (ab i)) else none) none:=by
  refine mapR_opt (i:=fun i=>D.int (ab i)) (g:=fun i=>if 1000000000000000000≤ab i then some (D.int (ab i)) else none) fun i _=>?_
  by_cases hi:1000000000000000000≤ab i
  ·simp [q_step,evB,evE,hi]
  ·simp [q_step,evB,evE,hi]
 have l2:(ns.filterMap fun i=>if 1000000000000000000≤ab i then some (D.int (ab i)) else none).length≤ns.length:=List.length_filterMap_le _ _
 have i2:D.ints (ns.filterMap fun i=>if 1000000000000000000≤ab i then some (D.int (ab i)) else none)=some (ns.filterMap fun i=>if 1000000000000000000≤ab i then some (ab i) else none):=by
  clear e1 e2 l2 hl
  induction ns with
  | nil=>rfl
  | cons a r ih =>
   rw [List.filterMap_cons,List.filterMap_cons]
   by_cases ha:1000000000000000000≤ab a
   ·simp only [ha,if_true,D.ints,ih];rfl
   ·simp only [ha,if_false];exact ih
 have i1:D.ints (ns.map fun i=>D.int (ab i))=some (ns.map ab):=by
  have:=D.ints_map (ns.map ab)
  rw [List.map_map] at this
  exact this
 refine ⟨⟨ns.filterMap fun i=>if 1000000000000000000≤ab i then some (ab i) else none,if ns.map ab=[] then [47] else ns.map ab,0⟩,?_,rfl,?_⟩
 ·unfold bStream
  have ll:ns.length≤line:=by unfold line;omega
  have l3:(ns.filterMap fun i=>if 1000000000000000000≤ab i then some (D.int (ab i)) else none).length≤line:=by unfold line;omega
  rw [evSs,evS,evE,evI,evE]
  simp only [entry,List.map_cons,List.map_nil,List.length_cons,List.length_nil,Env.get,Slot.get,D.walk,R.lift_some,R.bind_ok,Option.bind_some,List.replicate,List.cons_append,List.nil_append,List.getElem?_cons_zero]
  rw [e1 []]
  simp only [R.made,List.length_map,ll,if_true,R.use_ok,mk,List.set_cons_succ,List.set_cons_zero,Q.then_next]
  rw [evSs,evS]
  simp only [freeze,frz1,List.getElem?_cons_succ,List.getElem?_cons_zero,Slot.frz,List.set_cons_succ,List.set_cons_zero]
  rw [evE,evI,evE]
  simp only [Env.get,Slot.get,D.walk,R.lift_some,R.bind_ok,Option.bind_some,List.getElem?_cons_succ,List.getElem?_cons_zero]
  rw [e2]
  simp only [R.made,l3,if_true,R.thaw_ok,R.use_ok,ownAt,List.getElem?_cons_succ,List.getElem?_cons_zero,mkS,i1,i2,Q.opt_some,Q.then_ret,outR_ret]
 ·have:=List.length_filterMap_le (fun i=>if 1000000000000000000≤ab i then some (ab i) else none) ns
  exact this
theorem lc_ofq {cx:Ctx}{e:E}{tg:Tg}{it:It}{c:Eo}{own:List Nat}{env:Env}{st st1 st2:St}{ds ys:List D}(hi:evI cx it env st=.ok ds st1)(hm:mapR (lcStep (evE cx e) (evB cx c) tg own env) ds st1=.ok ys st2)(hl:ys.length≤line) :
  evE cx (.lc e tg it c own) env st=.ok (.lst ys) st2:=by
 rw [evE,hi,R.bind_ok,hm]
 exact if_pos hl
theorem for_ofq {cx:Ctx}{tg:Tg}{it:It}{b:Ss}{env:Env}{st st1:St}{ds:List D}(hi:evI cx it env st=.ok ds st1):evS cx (.for_ tg it b) env st=forL (forStep (evSs cx b) tg) ds env st1:=by
 rw [evS,hi,R.use_ok]
theorem ints_mapc {α:Type}(l:List α)(f:α→Int):D.ints (l.map fun a=>D.int (f a))=some (l.map f):=by
 induction l with
 | nil=>rfl
 | cons a r ih=>simp [D.ints,ih]
end PL
end
section
namespace LB
open PL
def f0:Ss:=(.cons (.ite [] (.not (.isi (.loc 0) .tuple))
 (.cons (.ret (.lst .nil))
 .nil)
 .nil)
 (.cons (.ret (.lc (.tup (.cons (.loc 1) (.cons (.loc 2) .nil))) (.tp (.cons (.nm 1) (.cons (.nm 2) .nil))) (.enm (.loc 0) 0) (.so (.and (.cmp .gt (.loc 1) (.cst (.int 0))) (.call 1 (.cons (.loc 0) (.cons (.loc 1) .nil))))) [1,2]))
 .nil))
abbrev H0 (X:Prog):Prop:=X.fns 0=some (.fn 1 3 f0)
def f1:Ss:=(.cons (.asg false 2 (.ifx (.cmp .inn (.sub (.loc 0) (.cst (.int 0))) (.glb 3)) (.sub (.glb 3) (.sub (.loc 0) (.cst (.int 0)))) (.sub (.glb 4) (.sub (.loc 0) (.cst (.int 0))))))
 (.cons (.ret (.cmp .nin (.sub (.loc 2) (.bin .sub (.loc 1) (.cst (.int 1)))) (.glb 5)))
 .nil))
abbrev H1 (X:Prog):Prop:=X.fns 1=some (.fn 2 3 f1)
def f2:Ss:=(.cons (.ret (.bin .add (.cst (.int 1)) (.bi .sum (.cons (.lc (.call 2 (.cons (.loc 2) .nil)) (.tp (.cons (.nm 1) (.cons (.nm 2) .nil))) (.seq (.call 0 (.cons (.loc 0) .nil))) .no [1,2]) .nil))))
 .nil)
abbrev H2 (X:Prog):Prop:=X.fns 2=some (.fn 1 3 f2)
def f3:Ss:=(.cons (.asg false 1 (.lc (.call 3 (.cons (.loc 3) .nil)) (.tp (.cons (.nm 2) (.cons (.nm 3) .nil))) (.seq (.call 0 (.cons (.loc 0) .nil))) .no [2,3]))
 (.cons (.ite [] (.cmp .eq (.loc 1) (.lst .nil))
 (.cons (.ret (.cst (.int 1)))
 .nil)
 .nil)
 (.cons (.ite [] (.cmp .eq (.sub (.loc 0) (.cst (.int 0))) (.cst (.str [105,102])))
 (.cons (.ret (.bi .min2 (.cons (.bin .add (.glb 0) (.cst (.int 1))) (.cons (.bin .add (.bin .add (.cst (.int 1)) (.sub (.loc 1) (.cst (.int 0)))) (.bi .max2 (.cons (.sub (.loc 1) (.cst (.int 1))) (.cons (.sub (.loc 1) (.cst (.int 2))) .nil)))) .nil))))
 .nil)
 .nil)
 (.cons (.ret (.bi .min2 (.cons (.bin .add (.glb 0) (.cst (.int 1))) (.cons (.bin .add (.cst (.int 1)) (.ifx (.cmp .eq (.sub (.loc 0) (.cst (.int 0))) (.cst (.str [114,101,112,101,97,116]))) (.bin .mul (.sub (.loc 0) (.cst (.int 1))) (.sub (.loc 1) (.cst (.int 0)))) (.bi .sum (.cons (.loc 1) .nil)))) .nil))))
 .nil))))
abbrev H3 (X:Prog):Prop:=X.fns 3=some (.fn 1 4 f3)
def f4:Ss:=(.cons (.ret (.tup (.cons (.bi .min2 (.cons (.bin .add (.glb 1) (.cst (.int 1))) (.cons (.sub (.loc 0) (.cst (.int 0))) .nil))) (.cons (.bi .min2 (.cons (.bin .add (.glb 1) (.cst (.int 1))) (.cons (.sub (.loc 0) (.cst (.int 1))) .nil))) .nil))))
 .nil)
abbrev H4 (X:Prog):Prop:=X.fns 4=some (.fn 1 1 f4)
def f5:Ss:=(.cons (.ret (.call 4 (.cons (.tup (.cons (.bi .max2 (.cons (.sub (.loc 0) (.cst (.int 0))) (.cons (.bin .mul (.sub (.loc 0) (.cst (.int 0))) (.sub (.loc 1) (.cst (.int 0)))) .nil))) (.cons (.bi .max2 (.cons (.sub (.loc 0) (.cst (.int 1))) (.cons (.bin .add (.bin .mul (.sub (.loc 0) (.cst (.int 1))) (.sub (.loc 1) (.cst (.int 0)))) (.sub (.loc 1) (.cst (.int 1)))) .nil))) .nil))) .nil)))
 .nil)
abbrev H5 (X:Prog):Prop:=X.fns 5=some (.fn 2 2 f5)
def f6:Ss:=(.cons (.asg false 2 (.tup (.cons (.cst (.int 1)) (.cons (.cst (.int 0)) .nil))))
 (.cons (.for_ (.nm 3) (.rng1 (.loc 0))
 (.cons (.asg false 2 (.call 5 (.cons (.loc 2) (.cons (.loc 1) .nil))))
 .nil))
 (.cons (.ret (.loc 2))
 .nil)))
abbrev H6 (X:Prog):Prop:=X.fns 6=some (.fn 2 4 f6)
def f7:Ss:=(.cons (.asg false 1 (.lc (.call 7 (.cons (.loc 6) .nil)) (.tp (.cons (.nm 5) (.cons (.nm 6) .nil))) (.seq (.call 0 (.cons (.loc 0) .nil))) .no [5,6]))
 (.cons (.ite [] (.cmp .eq (.loc 1) (.lst .nil))
 (.cons (.ret (.ifx (.cmp .eq (.loc 0) (.glb 2)) (.tup (.cons (.cst (.int 1)) (.cons (.cst (.int 0)) .nil))) (.tup (.cons (.cst (.int 0)) (.cons (.bi .abs (.cons (.loc 0) .nil)) .nil)))))
 .nil)
 .nil)
 (.cons (.par2 false false 2 3 (.lc (.loc 7) (.tp (.cons (.nm 7) (.cons (.nm 8) .nil))) (.seq (.loc 1)) .no [7,8]) (.lc (.loc 8) (.tp (.cons (.nm 7) (.cons (.nm 8) .nil))) (.seq (.loc 1)) .no [7,8]))
 (.cons (.mtch (.sub (.loc 0) (.cst (.int 0))) (.cons (.vals [[97,100,100]]) (.cons (.ret (.call 4 (.cons (.tup (.cons (.bi .sum (.cons (.loc 2) .nil)) (.cons (.bi .sum (.cons (.loc 3) .nil)) .nil))) .nil)))
 .nil)
 (.cons (.vals [[115,117,98]]) (.cons (.ret (.call 4 (.cons (.tup (.cons (.bi .sum (.cons (.loc 2) .nil)) (.cons (.bi .sum (.cons (.loc 3) .nil)) .nil))) .nil)))
 .nil)
 (.cons (.vals [[109,117,108]]) (.cons (.asg false 4 (.bi .max2 (.cons (.cst (.int 1)) (.cons (.bi .abs (.cons (.sub (.loc 0) (.cst (.int 1))) .nil)) .nil))))
 (.cons (.ret (.call 4 (.cons (.tup (.cons (.bin .mul (.sub (.loc 2) (.cst (.int 0))) (.loc 4)) (.cons (.bin .mul (.sub (.loc 3) (.cst (.int 0))) (.loc 4)) .nil))) .nil)))
 .nil))
 (.cons (.vals [[109,111,100]]) (.cons (.ret (.tup (.cons (.sub (.loc 2) (.cst (.int 0))) (.cons (.bi .max2 (.cons (.sub (.loc 3) (.cst (.int 0))) (.cons (.bin .sub (.sub (.loc 0) (.cst (.int 2))) (.cst (.int 1))) .nil))) .nil))))
 .nil)
 (.cons (.vals [[116,104,101,110]]) (.cons (.ret (.call 5 (.cons (.sub (.loc 1) (.cst (.int 0))) (.cons (.sub (.loc 1) (.cst (.int 1))) .nil))))
 .nil)
 (.cons (.vals [[114,101,112,101,97,116]]) (.cons (.ret (.call 6 (.cons (.sub (.loc 0) (.cst (.int 1))) (.cons (.sub (.loc 1) (.cst (.int 0))) .nil))))
 .nil)
 .nil)))))))
 (.cons (.ret (.tup (.cons (.bi .maxL (.cons (.loc 2) .nil)) (.cons (.bi .maxL (.cons (.loc 3) .nil)) .nil))))
 .nil)))))
abbrev H7 (X:Prog):Prop:=X.fns 7=some (.fn 1 9 f7)
def f8:Ss:=(.cons (.asg true 1 (.lc (.bi .abs (.cons (.loc 2) .nil)) (.nm 2) (.seq (.loc 0)) .no [2]))
 (.cons (.retS (.lc (.loc 2) (.nm 2) (.seq (.loc 1)) (.so (.cmp .ge (.loc 2) (.bin .pow (.cst (.int 10)) (.cst (.int 18))))) [2]) 1)
 .nil))
abbrev H8 (X:Prog):Prop:=X.fns 8=some (.fn 1 3 f8)
def f9:Ss:=(.cons (.whl [] (.sHas 0)
 (.cons (.asg false 5 (.sBig 0))
 (.cons (.ite [] (.cmp .gt (.loc 5) (.cst (.int 0)))
 (.cons (.sPutB 0 (.bin .div (.loc 5) (.loc 1)))
 (.cons (.ret (.bin .mod (.loc 5) (.loc 1)))
 .nil))
 .nil)
 (.cons (.sPop 0)
 .nil))))
 (.cons (.asg false 2 (.bin .add (.sTurn 0) (.cst (.int 1))))
 (.cons (.sPutT 0 (.loc 2))
 (.cons (.asg false 3 (.bin .mod (.sCell 0 2) (.cst (.int 2147483587))))
 (.cons (.asg false 4 (.bin .mod (.bin .add (.bin .add (.bin .mul (.loc 3) (.bin .add (.cst (.int 39373)) (.bin .mul (.cst (.int 69069)) (.loc 2)))) (.bin .mul (.bin .mul (.cst (.int 48271)) (.loc 2)) (.loc 2))) (.cst (.int 67))) (.cst (.int 2147483647))))
 (.cons (.ret (.bin .mod (.bin .div (.bin .mod (.bin .mul (.loc 4) (.loc 4)) (.cst (.int 2147483629))) (.cst (.int 16))) (.loc 1)))
 .nil))))))
abbrev H9 (X:Prog):Prop:=X.fns 9=some (.fn 2 6 f9)
def f10:Ss:=(.cons (.asg false 2 (.call 9 (.cons (.loc 0) (.cons (.cst (.int 14)) .nil))))
 (.cons (.ite [] (.or (.cmp .eq (.loc 1) (.cst (.int 0))) (.cmp .lt (.loc 2) (.cst (.int 2))))
 (.cons (.ret (.sub (.lst (.cons (.bin .sub (.call 9 (.cons (.loc 0) (.cons (.cst (.int 19)) .nil))) (.cst (.int 9))) (.cons (.cst (.str [120])) (.cons (.cst (.str [120])) .nil)))) (.call 9 (.cons (.loc 0) (.cons (.cst (.int 3)) .nil)))))
 .nil)
 .nil)
 (.cons (.asg false 3 (.call 10 (.cons (.loc 0) (.cons (.bin .sub (.loc 1) (.cst (.int 1))) .nil))))
 (.cons (.ite [] (.cmp .eq (.loc 2) (.cst (.int 2)))
 (.cons (.ret (.tup (.cons (.cst (.str [109,117,108])) (.cons (.bin .sub (.call 9 (.cons (.loc 0) (.cons (.cst (.int 7)) .nil))) (.cst (.int 3))) (.cons (.loc 3) .nil)))))
 .nil)
 .nil)
 (.cons (.ite [] (.cmp .lt (.loc 2) (.cst (.int 5)))
 (.cons (.ret (.tup (.cons (.sub (.lst (.cons (.cst (.str [100,105,118])) (.cons (.cst (.str [109,111,100])) .nil))) (.bin .sub (.loc 2) (.cst (.int 3)))) (.cons (.loc 3) (.cons (.bin .add (.cst (.int 2)) (.call 9 (.cons (.loc 0) (.cons (.cst (.int 3)) .nil)))) .nil)))))
 .nil)
 .nil)
 (.cons (.ite [] (.cmp .eq (.loc 2) (.cst (.int 5)))
 (.cons (.ret (.tup (.cons (.cst (.str [114,101,112,101,97,116])) (.cons (.call 9 (.cons (.loc 0) (.cons (.cst (.int 3)) .nil))) (.cons (.loc 3) .nil)))))
 .nil)
 .nil)
 (.cons (.asg false 4 (.call 10 (.cons (.loc 0) (.cons (.bin .sub (.loc 1) (.cst (.int 1))) .nil))))
 (.cons (.ite [] (.cmp .lt (.loc 2) (.cst (.int 8)))
 (.cons (.ret (.tup (.cons (.cst (.str [105,102])) (.cons (.call 11 (.cons (.loc 0) (.cons (.bin .sub (.loc 1) (.cst (.int 1))) .nil))) (.cons (.loc 3) (.cons (.loc 4) .nil))))))
 .nil)
 .nil)
 (.cons (.ret (.tup (.cons (.sub (.lst (.cons (.cst (.str [97,100,100])) (.cons (.cst (.str [97,100,100])) (.cons (.cst (.str [115,117,98])) (.cons (.cst (.str [109,105,110])) (.cons (.cst (.str [109,97,120])) (.cons (.cst (.str [116,104,101,110])) .nil))))))) (.bin .sub (.loc 2) (.cst (.int 8)))) (.cons (.loc 3) (.cons (.loc 4) .nil)))))
 .nil)))))))))
abbrev H10 (X:Prog):Prop:=X.fns 10=some (.fn 2 5 f10)
abbrev G1 (X:Prog):Prop:=X.gl 1=some ((.int 1000000000000000000))
abbrev G3 (X:Prog):Prop:=X.gl 3=some ((.dct [.s [97,100,100],.s [115,117,98],.s [109,105,110],.s [109,97,120],.s [109,117,108],.s [100,105,118],.s [109,111,100],.s [105,102],.s [116,104,101,110],.s [114,101,112,101,97,116]] [(.tup [(.str [112,114,111,103,114,97,109]),(.str [112,114,111,103,114,97,109])]),(.tup [(.str [112,114,111,103,114,97,109]),(.str [112,114,111,103,114,97,109])]),(.tup [(.str [112,114,111,103,114,97,109]),(.str [112,114,111,103,114,97,109])]),(.tup [(.str [112,114,111,103,114,97,109]),(.str [112,114,111,103,114,97,109])]),(.tup [(.str [102,97,99,116,111,114]),(.str [112,114,111,103,114,97,109])]),(.tup [(.str [112,114,111,103,114,97,109]),(.str [100,105,118,105,115,111,114])]),(.tup [(.str [112,114,111,103,114,97,109]),(.str [100,105,118,105,115,111,114])]),(.tup [(.str [116,101,115,116]),(.str [112,114,111,103,114,97,109]),(.str [112,114,111,103,114,97,109])]),(.tup [(.str [112,114,111,103,114,97,109]),(.str [112,114,111,103,114,97,109])]),(.tup [(.str [116,105,109,101,115]),(.str [112,114,111,103,114,97,109])])]))
abbrev G4 (X:Prog):Prop:=X.gl 4=some ((.dct [.s [108,101,115,115],.s [115,97,109,101],.s [110,111,116],.s [97,110,100],.s [111,114]] [(.tup [(.str [112,114,111,103,114,97,109]),(.str [112,114,111,103,114,97,109])]),(.tup [(.str [112,114,111,103,114,97,109]),(.str [112,114,111,103,114,97,109])]),(.tup [(.str [116,101,115,116])]),(.tup [(.str [116,101,115,116]),(.str [116,101,115,116])]),(.tup [(.str [116,101,115,116]),(.str [116,101,115,116])])]))
abbrev G5 (X:Prog):Prop:=X.gl 5=some ((.dct [.s [102,97,99,116,111,114],.s [100,105,118,105,115,111,114],.s [116,105,109,101,115]] [(.tup [(.int (-100)),(.int 100)]),(.tup [(.int 2),(.int 12)]),(.tup [(.int 0),(.int 12)])]))
end LB
end
section
namespace LT
open PL LB
structure HIt (X:Prog):Prop where
 f0:H0 X
 f1:H1 X
 g3:G3 X
 g4:G4 X
 g5:G5 X
inductive K2 where
 | add|sub|min|max|then_|less|same|and_|or_
inductive Tr where
 | x|n (i:Int)|mul (c:Int) (a:Tr)|two (k:K2) (a b:Tr)|dv (a:Tr) (c:Int)|md (a:Tr) (c:Int)|rep (c:Int) (a:Tr)|nt (a:Tr)|cond (t a b:Tr)
def K2.nm:K2→List Nat
 | .add=>[97,100,100]|.sub=>[115,117,98]|.min=>[109,105,110]|.max=>[109,97,120]|.then_=>[116,104,101,110]|.less=>[108,101,115,115]|.same=>[115,97,109,101]|.and_=>[97,110,100]|.or_=>[111,114]
def toD:Tr→D
 | .x=>.str [120]
 | .n i=>.int i
 | .mul c a=>.tup [.str [109,117,108],.int c,toD a]
 | .two k a b=>.tup [.str k.nm,toD a,toD b]
 | .dv a c=>.tup [.str [100,105,118],toD a,.int c]
 | .md a c=>.tup [.str [109,111,100],toD a,.int c]
 | .rep c a=>.tup [.str [114,101,112,101,97,116],.int c,toD a]
 | .nt a=>.tup [.str [110,111,116],toD a]
 | .cond t a b=>.tup [.str [105,102],toD t,toD a,toD b]
section
variable {X:Prog}(h:HIt X)
include h
theorem r1 (k:Nat)(a b:D)(st:St):run X (k+1) 1 [a,b] st=outR (evSs (X.cx k) f1 (entry 3 [a,b]) st):=run_fn h.f1 rfl
theorem r0 (k:Nat)(a:D)(st:St):run X (k+1) 0 [a] st=outR (evSs (X.cx k) f0 (entry 3 [a]) st):=run_fn h.f0 rfl
end
end LT
end
section
namespace LT
open PL LB
def dp:Tr→Nat
 | .x=>0|.n _=>0
 | .mul _ a=>dp a+1
 | .two _ a b=>max (dp a) (dp b)+1
 | .dv a _=>dp a+1
 | .md a _=>dp a+1
 | .rep _ a=>dp a+1
 | .nt a=>dp a+1
 | .cond t a b=>max (dp t) (max (dp a) (dp b))+1
def cnt:Tr→Int
 | .x=>1|.n _=>1
 | .mul _ a=>1+cnt a
 | .two _ a b=>1+(cnt a+cnt b)
 | .dv a _=>1+cnt a
 | .md a _=>1+cnt a
 | .rep _ a=>1+cnt a
 | .nt a=>1+cnt a
 | .cond t a b=>1+(cnt t+(cnt a+cnt b))
def lrun:Tr→Int
 | .x=>1|.n _=>1
 | .mul _ a=>1+lrun a
 | .two _ a b=>1+(lrun a+lrun b)
 | .dv a _=>1+lrun a
 | .md a _=>1+lrun a
 | .rep c a=>1+c*lrun a
 | .nt a=>1+lrun a
 | .cond t a b=>1+lrun t+max (lrun a) (lrun b)
def cap (i:Int):Int:=min 10001 i
section
end
end LT
end
section
namespace LT
open PL LB
section
end
section
end
end LT
end
section
namespace LT
open PL LB
def W:Tr→Nat
 | .x=>2
 | .n i=>i.natAbs+2
 | .mul c a=>W a+c.natAbs+4
 | .two _ a b=>W a+W b+3
 | .dv a c=>W a+c.natAbs+3
 | .md a c=>W a+c.natAbs+3
 | .rep c a=>(c.natAbs+1)*(W a+3)
 | .nt a=>W a+3
 | .cond t a b=>W t+W a+W b+3
theorem pow_mono {a b:Nat}(h:a≤b):(2:Int)^a≤2^b:=by
 have:(2:Nat)^a≤2^b:=Nat.pow_le_pow_right (by decide) h
 exact_mod_cast this
end LT
end
section
namespace LT
open PL LB
section
end
end LT
end
section
namespace LT
open PL LB
section
end
end LT
end
section
namespace LT
open PL LB
def rstep (a b:Int)(p:Int × Int):Int × Int:=(max p.1 (p.1*a),max p.2 (p.2*a+b))
def rloop (a b:Int):Nat→Int × Int
 | 0=>(1,0)
 | n+1=>rstep a b (rloop a b n)
def rc:Tr→Int × Int
 | .x=>(1,0)
 | .n i=>(0,if i<0 then -i else i)
 | .mul c a=>((rc a).1*max 1 (if c<0 then -c else c),(rc a).2*max 1 (if c<0 then -c else c))
 | .two .add a b=>((rc a).1+(rc b).1,(rc a).2+(rc b).2)
 | .two .sub a b=>((rc a).1+(rc b).1,(rc a).2+(rc b).2)
 | .two .then_ a b=>rstep (rc b).1 (rc b).2 (rc a)
 | .two _ a b=>(max (rc a).1 (rc b).1,max (rc a).2 (rc b).2)
 | .dv a _=>rc a
 | .md a c=>((rc a).1,max (rc a).2 (c-1))
 | .rep c a=>rloop (rc a).1 (rc a).2 c.toNat
 | .nt a=>rc a
 | .cond t a b=>(max (max (rc t).1 (rc a).1) (rc b).1,max (max (rc t).2 (rc a).2) (rc b).2)
def Low (p:Int × Int)(n:Nat):Prop:=0≤p.1∧0≤p.2∧p.1<2^n∧p.2<2^n
theorem Low.mono {p:Int × Int}{m n:Nat}(h:Low p m)(hn:m≤n):Low p n:=by
 have:=pow_mono hn
 obtain ⟨h1,h2,h3,h4⟩:=h
 exact ⟨h1,h2,by omega,by omega⟩
end LT
end
section
namespace LT
open PL LB
section
end
end LT
end
section
namespace LT
open PL LB
section
end
end LT
end
section
namespace LT
open PL LB
section
end
end LT
end
section
namespace LT
open PL LB
def wf:Bool→Tr→Bool
 | true,.x=>true
 | true,.n i=>decide (-1000000≤i∧i≤1000000)
 | true,.mul c a=>decide (-100≤c∧c≤100)&&wf true a
 | true,.two .add a b=>wf true a&&wf true b
 | true,.two .sub a b=>wf true a&&wf true b
 | true,.two .min a b=>wf true a&&wf true b
 | true,.two .max a b=>wf true a&&wf true b
 | true,.two .then_ a b=>wf true a&&wf true b
 | true,.dv a c=>decide (2≤c∧c≤12)&&wf true a
 | true,.md a c=>decide (2≤c∧c≤12)&&wf true a
 | true,.rep c a=>decide (0≤c∧c≤12)&&wf true a
 | true,.cond t a b=>wf false t&&(wf true a&&wf true b)
 | false,.two .less a b=>wf true a&&wf true b
 | false,.two .same a b=>wf true a&&wf true b
 | false,.two .and_ a b=>wf false a&&wf false b
 | false,.two .or_ a b=>wf false a&&wf false b
 | false,.nt a=>wf false a
 | _,_=>false
def sz:Tr→Nat
 | .x=>1
 | .n _=>1
 | .mul _ a=>sz a+1
 | .two .then_ a b=>sz a+sz b+2
 | .two .and_ a b=>sz a+sz b+3
 | .two .or_ a b=>sz a+sz b+3
 | .two _ a b=>sz a+sz b+1
 | .dv a _=>sz a+1
 | .md a _=>sz a+1
 | .rep c a=>1+c.toNat*(sz a+2)
 | .nt a=>sz a+1
 | .cond t a b=>sz t+sz a+sz b+2
def Z:Nat→Nat
 | 0=>1
 | n+1=>5*Z n+5
def Ok (j:Int)(s:Strm):Prop:=0≤s.turn∧s.turn≤j∧s.big.length≤1000
def B:Nat→Int
 | 0=>10
 | n+1=>6*B n
def V:Nat→Nat
 | 0=>11
 | n+1=>5*V n+6
def Good (b:Bool)(t:Tr)(n m z:Nat):Prop:=wf b t=true∧dp t≤n∧W t≤m∧sz t≤z
theorem Ok.mono {j j':Int}{s:Strm}(h:Ok j s)(hj:j≤j'):Ok j' s:=⟨h.1,by have:=h.2.1;omega,h.2.2⟩
section
end
end LT
end
section
namespace LT
open PL LB
section
end
end LT
end
section
namespace LT
open PL LB
section
end
end LT
end
section
namespace LT
open PL LB
theorem big_of {i:Int}(h:i.natAbs<1000000000000000000000):decide (i.natAbs<bigN)=true:=by
 have:1000000000000000000000≤bigN:=by unfold bigN;decide
 exact decide_eq_true (Nat.lt_of_lt_of_le h this)
end LT
end
section
namespace LT
open PL LB
def iter (f:Int→Int):Nat→Int→Int
 | 0,x=>x
 | n+1,x=>f (iter f n x)
def aI (i:Int):Int:=(i.natAbs:Int)
theorem aI_nn (i:Int):0≤aI i:=by unfold aI;omega
def In (p:Int × Int)(x v:Int):Prop:=aI v≤p.1*aI x+p.2
theorem In.mono {p q:Int × Int}{x v:Int}(h:In p x v)(h1:p.1≤q.1)(h2:p.2≤q.2):In q x v:=by
 unfold In at *
 have:=Int.mul_le_mul_of_nonneg_right h1 (aI_nn x)
 omega
theorem In.then {p q:Int × Int}{x y z:Int}(h:In p x y)(h2:In q y z)(q1:0≤q.1):In (rstep q.1 q.2 p) x z:=by
 have a:In (p.1*q.1,p.2*q.1+q.2) x z:=by
  unfold In at *
  have:=Int.mul_le_mul_of_nonneg_left h q1
  rw [Int.mul_add] at this
  have e1:q.1*(p.1*aI x)=p.1*q.1*aI x:=by rw [← Int.mul_assoc,Int.mul_comm q.1]
  have e2:q.1*p.2=p.2*q.1:=Int.mul_comm ..
  simp only
  omega
 exact a.mono (by unfold rstep;simp only;omega) (by unfold rstep;simp only;omega)
end LT
end
section
namespace LB
open PL
end LB
end
section
namespace LT
open PL LB
section
end
end LT
end
section
namespace LT
open PL LB
section
end
end LT
end
section
namespace LT
open PL LB
theorem ix_mem {l:List Int}{P:Int→Prop}(h:∀ v∈l,P v){i:Int}(h0:0≤i)(h1:i<l.length):∃ v,ix (l.map D.int) i=some (.int v)∧P v:=by
 have hi:i.toNat<l.length:=by omega
 refine ⟨l[i.toNat],?_,h _ (List.getElem_mem hi)⟩
 unfold ix
 rw [if_pos h0,List.getElem?_map,List.getElem?_eq_getElem hi]
 rfl
def Fit (t:Tr):Prop:=cnt t≤60∧lrun t≤10000∧(rc t).1≤1000000000000000000∧(rc t).2≤1000000000000000000
instance (t:Tr):Decidable (Fit t):=by unfold Fit;exact inferInstance
end LT
end
section
namespace LT
open PL LB
theorem mapR_inv {f:D→St→R (Option D)}{I:Nat→St→Prop}{P:D→Prop}:∀ {ds:List D} {i:Nat} {st:St},I i st→(∀ j d st,ds[j]?=some d→I (i+j) st→∃ y st',f d st=.ok (some y) st'∧P y∧I (i+j+1) st') →
  ∃ ys st',mapR f ds st=.ok ys st'∧(∀ y∈ys,P y)∧ys.length=ds.length∧I (i+ds.length) st'
 | [],i,st,h,_=>⟨[],st,rfl,by simp,rfl,h⟩
 | d::ds,i,st,h,hs=>by
  obtain ⟨y,st1,e1,p1,h1⟩:=hs 0 d st rfl h
  obtain ⟨ys,st2,e2,p2,l2,h2⟩:=mapR_inv (I:=I) (P:=P) (ds:=ds) (i:=i+1) h1 (fun j x st hj hp=>by
   have:=hs (j+1) x st (by simpa using hj) (by rw [show i+(j+1)=i+1+j by omega];exact hp)
   rw [show i+(j+1)+1=i+1+j+1 by omega] at this
   exact this)
  refine ⟨y::ys,st2,?_,?_,by simp [l2],by rw [List.length_cons,show i+(ds.length+1)=i+1+ds.length by omega];exact h2⟩
  ·unfold mapR
   rw [e1,R.bind_ok,e2]
   rfl
  ·intro z hz
   rcases List.mem_cons.1 hz with rfl|hz
   ·exact p1
   ·exact p2 z hz
theorem rng_get {n:Int}{j:Nat}{d:D}(hd:(rngI 0 n)[j]?=some d):j<n.toNat∧d=.int j:=by
 have hj:j<n.toNat:=by
  have:=(List.getElem?_eq_some_iff.1 hd).1
  simpa [rngI] using this
 refine ⟨hj,?_⟩
 unfold rngI at hd
 rw [List.getElem?_map] at hd
 obtain ⟨m,hm,rfl⟩:=Option.map_eq_some_iff.1 hd
 have:=(List.getElem?_eq_some_iff.1 hm).2
 rw [List.getElem_range] at this
 rw [this,Int.zero_add]
theorem rng_len (n:Int):(rngI 0 n).length=n.toNat:=by simp [rngI]
end LT
end
section
namespace LB
open PL
end LB
end
section
namespace LT
open PL LB
inductive Cm where
 | push (i:Int)|get|jump (n:Int)|skip (n:Int)|enter|leave|mul (c:Int)|dv (c:Int)|md (c:Int)|nt|op (k:K2)
section
end
section
end
end LT
end
section
namespace LT
open PL LB
section
end
end LT
end
section
namespace LT
open PL LB
section
end
end LT
end
section
namespace LB
open PL
end LB
end
section
namespace LT
open PL LB
structure Ms where
 p:Nat
 S:List Int
 R:List Int
def Ms.ok (s:Ms):Prop:=s.S.length≤1000000∧s.R.length≤1000000
def At (C:List Cm)(p:Nat)(l:List Cm):Prop:=∀ i c,l[i]?=some c→C[p+i]?=some c
theorem At.head {C l:List Cm}{c:Cm}{p:Nat}(h:At C p (c::l)):C[p]?=some c:=h 0 c rfl
theorem At.tail {C l:List Cm}{c:Cm}{p:Nat}(h:At C p (c::l)):At C (p+1) l:=fun i d hi=>by
 have:=h (i+1) d (by simpa using hi)
 rwa [show p+(i+1)=p+1+i by omega] at this
end LT
end
section
namespace LT
open PL LB
theorem ixm1 {α:Type}(l:List α)(a:α):ix (l++[a]) (-1)=some a:=by
 have h:((-1:Int)+((l++[a]).length:Nat)).toNat=l.length:=by simp;omega
 unfold ix
 rw [if_neg (by decide),if_pos (by simp;omega),h]
 simp
section
end
section
end
end LT
end
section
namespace LT
open PL LB
end LT
end
section
namespace LT
open PL LB
theorem bigD {i:Int}(h:i.natAbs<bigN):decide (i.natAbs<bigN)=true:=decide_eq_true h
theorem big_bits {v:Int}{n:Nat}(h:v.natAbs<2^n)(hn:n≤1900):v.natAbs<bigN:=by
 unfold bigN
 exact Nat.lt_of_lt_of_le h (Nat.pow_le_pow_right (by decide) hn)
theorem big_small {v:Int}(h:v.natAbs<1000000000000000000000):v.natAbs<bigN:=of_decide_eq_true (big_of h)
end LT
end
section
namespace LB
open PL
end LB
end
section
namespace LB
open PL
end LB
end
section
namespace LT
open PL LB
theorem shI (l:List D)(h:∀ d∈l,∃ i,d=.int i):(D.lst l).shaped=true:=by
 have:D.plains l=true∧D.depths l=0:=by
  induction l with
  | nil=>exact ⟨rfl,rfl⟩
  | cons a r ih =>
   obtain ⟨i,rfl⟩:=h a (by simp)
   have:=ih fun d hd=>h d (by simp [hd])
   simp [D.plains,D.plain,D.depths,D.depth,this.1,this.2]
 unfold D.shaped
 simp [D.plain,D.depth,this]
end LT
end
section
namespace LT
open PL LB
end LT
end
section
namespace LB
open PL
def f69:Ss:=(.cons (.ret (.sub (.loc 1) (.call 9 (.cons (.loc 0) (.cons (.bi .len (.cons (.loc 1) .nil)) .nil)))))
 .nil)
abbrev H69 (X:Prog):Prop:=X.fns 69=some (.fn 2 2 f69)
end LB
end
section
namespace LT
open PL LB
@[simp] theorem tryQ_ret {ι:Type} [Inhabited ι] (i:Nat) (d:D) (st:St):tryQ i (fun _:ι=>.ret d st)=.ret d st:=tryQ_of fun _=>rfl
theorem drw9 {X:Prog}(h:H9 X)(k:Nat){s:Strm}{j m:Int}(hs:Ok j s)(hj:j≤2^50)(hm:0<m)(hm2:m<1000):∃ v s',run X (k+1) 9 [.ob 0 [],.int m] (some s)=.ok (.int v) (some s')∧0≤v∧v<m∧Ok (j+1) s':=by
 obtain ⟨h0,h1,h3⟩:=hs
 obtain ⟨v,s',e,v0,v1,⟨o1,o2⟩,hb⟩:=draw_ok (X:=X) (f:=9) h k s hm (by omega) (by omega) (by omega)
 exact ⟨v,s',e,v0,v1,⟨by omega,by omega,by omega⟩⟩
theorem ev_rng1 {cx:Ctx}{e:E}{env:Env}{st st1:St}{v:Int}(h:evE cx e env st=.ok (.int v) st1)(h0:0≤v)(h1:v≤100000000):evI cx (.rng1 e) env st=.ok (rngI 0 v) st1:=by
 have o:okR v=true:=by simp [okR];omega
 have z:okR 0=true:=by decide
 unfold evI
 rw [h,R.bind_ok]
 unfold rngD
 simp only [z,o,Bool.and_self,if_true,R.lift_some]
end LT
end
section
namespace LB
open PL
def f87:Ss:=(.cons (.par2 false false 2 3 (.cst (.int 0)) (.bi .len (.cons (.loc 0) .nil)))
 (.cons (.whl [] (.cmp .gt (.bin .sub (.loc 3) (.loc 2)) (.cst (.int 1)))
 (.cons (.asg false 4 (.bin .div (.bin .add (.loc 2) (.loc 3)) (.cst (.int 2))))
 (.cons (.ite [] (.cmp .le (.sub (.sub (.loc 0) (.loc 4)) (.cst (.int 0))) (.loc 1))
 (.cons (.asg false 2 (.loc 4))
 .nil)
 (.cons (.asg false 3 (.loc 4))
 .nil))
 .nil)))
 (.cons (.ret (.loc 2))
 .nil)))
abbrev H87 (X:Prog):Prop:=X.fns 87=some (.fn 2 5 f87)
def f88:Ss:=(.cons (.asgT (.tp (.cons (.nm 2) (.cons (.nm 3) .nil))) (.loc 0))
 (.cons (.ret (.cmp .inn (.bin .mod (.loc 1) (.loc 2)) (.sub (.sub (.loc 3) (.call 87 (.cons (.loc 3) (.cons (.loc 1) .nil)))) (.cst (.int 1)))))
 .nil))
abbrev H88 (X:Prog):Prop:=X.fns 88=some (.fn 2 4 f88)
def f89:Ss:=(.cons (.asgT (.tp (.cons (.nm 4) (.cons (.nm 5) .nil))) (.loc 0))
 (.cons (.asg false 2 (.lc (.tup (.cons (.loc 6) (.cons (.bi .sorted (.cons (.lc (.bin .mod (.bin .add (.loc 8) (.loc 1)) (.loc 4)) (.nm 8) (.seq (.loc 7)) .no [8]) .nil)) .nil))) (.tp (.cons (.nm 6) (.cons (.nm 7) .nil))) (.seq (.loc 5)) .no [6,7]))
 (.cons (.asg false 3 (.tof (.lc (.tup (.cons (.ifx (.isn (.loc 6)) (.cst .non) (.bin .add (.loc 6) (.loc 1))) (.cons (.tof (.loc 7)) .nil))) (.tp (.cons (.nm 6) (.cons (.nm 7) .nil))) (.seq (.loc 2)) .no [6,7])))
 (.cons (.ite [] (.bi .any (.cons (.lc (.and (.isnn (.loc 6)) (.cmp .gt (.bi .abs (.cons (.loc 6) .nil)) (.glb 1))) (.tp (.cons (.nm 6) (.cons (.nm 7) .nil))) (.seq (.loc 3)) .no [6,7]) .nil))
 (.cons (.raise 4)
 .nil)
 .nil)
 (.cons (.ret (.tup (.cons (.loc 4) (.cons (.loc 3) .nil))))
 .nil)))))
abbrev H89 (X:Prog):Prop:=X.fns 89=some (.fn 2 9 f89)
def f90:Ss:=(.cons (.asg true 1 (.lst .nil))
 (.cons (.for_ (.nm 2) (.seq (.bin .add (.lst (.cons (.cst .non) .nil)) (.sst (.lc (.bin .sub (.call 9 (.cons (.loc 0) (.cons (.cst (.int 41)) .nil))) (.cst (.int 20))) (.nm 4) (.rng1 (.call 9 (.cons (.loc 0) (.cons (.cst (.int 3)) .nil)))) .no [4]))))
 (.cons (.asg false 3 (.sub (.lst (.cons (.cst (.int 1)) (.cons (.cst (.int 1)) (.cons (.cst (.int 2)) (.cons (.cst (.int 2)) (.cons (.cst (.int 3)) (.cons (.cst (.int 4)) (.cons (.cst (.int 6)) .nil)))))))) (.call 9 (.cons (.loc 0) (.cons (.cst (.int 7)) .nil)))))
 (.cons (.app [] 1 (.tup (.cons (.loc 2) (.cons (.loc 3) (.cons (.lc (.loc 5) (.nm 5) (.rng1 (.loc 3)) (.so (.cmp .eq (.call 9 (.cons (.loc 0) (.cons (.cst (.int 2)) .nil))) (.cst (.int 0)))) [5]) .nil)))))
 .nil)))
 (.cons (.frz [1])
 (.cons (.ret (.loc 1))
 .nil))))
abbrev H90 (X:Prog):Prop:=X.fns 90=some (.fn 1 6 f90)
def f91:Ss:=(.cons (.asgT (.tp (.cons (.nm 2) (.cons (.nm 3) (.cons (.nm 4) .nil)))) (.sub (.lc (.loc 5) (.nm 5) (.seq (.loc 0)) (.so (.or (.isn (.sub (.loc 5) (.cst (.int 0)))) (.cmp .le (.sub (.loc 5) (.cst (.int 0))) (.loc 1)))) [5]) (.neg (.cst (.int 1)))))
 (.cons (.ret (.cmp .inn (.bin .mod (.loc 1) (.loc 3)) (.loc 4)))
 .nil))
abbrev H91 (X:Prog):Prop:=X.fns 91=some (.fn 2 6 f91)
def f92:Ss:=(.cons (.ret (.lc (.call 91 (.cons (.loc 0) (.cons (.loc 1) .nil))) (.nm 1) (.rng2 (.neg (.cst (.int 400))) (.cst (.int 400))) .no [1]))
 .nil)
abbrev H92 (X:Prog):Prop:=X.fns 92=some (.fn 1 2 f92)
def f93:Ss:=(.cons (.asg false 1 (.lst .nil))
 (.cons (.for_ (.nm 2) (.rng2 (.cst (.int 1)) (.cst (.int 73)))
 (.cons (.asg false 3 (.lc (.cmp .eq (.sub (.loc 0) (.loc 6)) (.sub (.loc 0) (.bin .add (.loc 6) (.loc 2)))) (.nm 6) (.rng1 (.cst (.int 100))) .no [6]))
 (.cons (.asg false 4 (.lc (.cmp .eq (.sub (.loc 0) (.loc 6)) (.sub (.loc 0) (.bin .add (.loc 6) (.loc 2)))) (.nm 6) (.rng2 (.cst (.int 620)) (.cst (.int 720))) .no [6]))
 (.cons (.ite [] (.cmp .nin (.cst (.bl false)) (.bin .add (.loc 3) (.loc 4)))
 (.cons (.asg true 5 (.lst (.cons (.tup (.cons (.cst .non) (.cons (.tof (.lc (.loc 8) (.nm 8) (.rng1 (.loc 2)) (.so (.sub (.loc 0) (.bin .mod (.bin .add (.loc 8) (.cst (.int 400))) (.loc 2)))) [8])) .nil))) .nil)))
 (.cons (.asgT (.tp (.cons (.nm 7) (.cons (.nm 6) .nil))) (.tup (.cons (.slc (.loc 0) .no (.so (.loc 2))) (.cons (.cst (.int 0)) .nil))))
 (.cons (.whl [5] (.and (.cmp .lt (.loc 6) (.cst (.int 700))) (.cmp .le (.bin .mul (.bi .len (.cons (.loc 5) .nil)) (.loc 2)) (.cst (.int 720))))
 (.cons (.ite [] (.cmp .ne (.sub (.loc 0) (.loc 6)) (.sub (.loc 7) (.bin .mod (.loc 6) (.loc 2))))
 (.cons (.asg false 7 (.slc (.loc 0) (.so (.loc 6)) (.so (.bin .add (.loc 6) (.loc 2)))))
 (.cons (.asg false 7 (.bin .add (.slc (.loc 7) (.so (.bin .mod (.neg (.loc 6)) (.loc 2))) .no) (.slc (.loc 7) .no (.so (.bin .mod (.neg (.loc 6)) (.loc 2))))))
 (.cons (.app [] 5 (.tup (.cons (.bin .sub (.loc 6) (.cst (.int 400))) (.cons (.tof (.lc (.loc 8) (.nm 8) (.rng1 (.loc 2)) (.so (.sub (.loc 7) (.bin .mod (.bin .add (.loc 8) (.cst (.int 400))) (.loc 2)))) [8])) .nil))))
 .nil)))
 .nil)
 (.cons (.asg false 6 (.bin .add (.loc 6) (.cst (.int 1))))
 .nil)))
 (.cons (.ite [5] (.and (.cmp .le (.bin .mul (.bi .len (.cons (.loc 5) .nil)) (.loc 2)) (.cst (.int 720))) (.or (.cmp .eq (.loc 1) (.lst .nil)) (.cmp .gt (.bin .mul (.sub (.loc 1) (.cst (.int 0))) (.bi .len (.cons (.sub (.loc 1) (.cst (.int 1))) .nil))) (.bin .mul (.loc 2) (.bi .len (.cons (.loc 5) .nil))))))
 (.cons (.frz [5])
 (.cons (.asg false 1 (.lst (.cons (.loc 2) (.cons (.tof (.loc 5)) .nil))))
 .nil))
 .nil)
 .nil))))
 .nil)
 .nil))))
 (.cons (.ret (.tof (.loc 1)))
 .nil)))
abbrev H93 (X:Prog):Prop:=X.fns 93=some (.fn 1 9 f93)
def f94:Ss:=(.cons (.asgT2 false true 2 3 (.sub (.loc 0) (.cst (.int 0))) (.lst .nil))
 (.cons (.for_ (.tp (.cons (.nm 4) (.cons (.nm 5) .nil))) (.seq (.sub (.loc 0) (.cst (.int 1))))
 (.cons (.app [] 3 (.tup (.cons (.ifx (.isn (.loc 4)) (.cst .non) (.bin .add (.loc 4) (.loc 1))) (.cons (.tof (.bi .sorted (.cons (.lc (.bin .mod (.bin .add (.loc 6) (.loc 1)) (.loc 2)) (.nm 6) (.seq (.loc 5)) .no [6]) .nil))) .nil))))
 .nil))
 (.cons (.frz [3])
 (.cons (.ret (.tup (.cons (.loc 2) (.cons (.tof (.loc 3)) .nil))))
 .nil))))
abbrev H94 (X:Prog):Prop:=X.fns 94=some (.fn 2 7 f94)
def f95:Ss:=(.cons (.asg false 1 (.lst (.cons (.bin .pow (.cst (.int 10)) (.cst (.int 12))) (.cons (.neg (.bin .pow (.cst (.int 10)) (.cst (.int 12)))) (.cons (.bin .pow (.cst (.int 10)) (.cst (.int 17))) (.cons (.neg (.bin .pow (.cst (.int 10)) (.cst (.int 17)))) (.cons (.bin .sub (.call 9 (.cons (.loc 0) (.cons (.bin .mul (.cst (.int 2)) (.bin .pow (.cst (.int 10)) (.cst (.int 9)))) .nil))) (.bin .pow (.cst (.int 10)) (.cst (.int 9)))) .nil)))))))
 (.cons (.ret (.sub (.lst (.cons (.cst (.int 0)) (.cons (.cst (.int 0)) (.cons (.bin .sub (.call 9 (.cons (.loc 0) (.cons (.cst (.int 61)) .nil))) (.cst (.int 30))) (.cons (.call 69 (.cons (.loc 0) (.cons (.loc 1) .nil))) .nil))))) (.call 9 (.cons (.loc 0) (.cons (.cst (.int 4)) .nil)))))
 .nil))
abbrev H95 (X:Prog):Prop:=X.fns 95=some (.fn 1 2 f95)
def f96:Ss:=(.cons (.tryA [4] 2
 (.cons (.exp (.call 89 (.cons (.loc 0) (.cons (.loc 1) .nil))))
 (.cons (.ret (.cst (.bl false)))
 .nil))
 (.cons (.ret (.and (.isE (.loc 2) [4]) (.not (.isE (.loc 2) []))))
 .nil))
 .nil)
abbrev H96 (X:Prog):Prop:=X.fns 96=some (.fn 2 3 f96)
def f97:Ss:=(.cons (.asg false 1 (.call 8 (.cons (.loc 0) .nil)))
 (.cons (.for_ (.nm 2) (.rng1 (.cst (.int 8)))
 (.cons (.par2 false false 8 9 (.call 93 (.cons (.call 92 (.cons (.call 90 (.cons (.loc 1) .nil)) .nil)) .nil)) (.lst (.cons (.call 95 (.cons (.loc 1) .nil)) (.cons (.call 95 (.cons (.loc 1) .nil)) .nil))))
 (.cons (.par2 false false 10 4 (.bi .repr (.cons (.loc 8) .nil)) (.call 94 (.cons (.loc 8) (.cons (.sub (.loc 9) (.cst (.int 0))) .nil))))
 (.cons (.asg false 5 (.lst (.cons (.call 89 (.cons (.loc 8) (.cons (.sub (.loc 9) (.cst (.int 0))) .nil))) (.cons (.call 89 (.cons (.loc 8) (.cons (.sub (.loc 9) (.cst (.int 0))) .nil))) .nil))))
 (.cons (.ite [] (.or (.cmp .ne (.bi .repr (.cons (.loc 5) .nil)) (.bi .repr (.cons (.lst (.cons (.loc 4) (.cons (.loc 4) .nil))) .nil))) (.cmp .ne (.bi .repr (.cons (.loc 8) .nil)) (.loc 10)))
 (.cons (.ret (.cst (.bl false)))
 .nil)
 .nil)
 (.cons (.ite [] (.or (.cmp .ne (.bi .repr (.cons (.call 89 (.cons (.loc 4) (.cons (.bin .sub (.cst (.int 0)) (.sub (.loc 9) (.cst (.int 0)))) .nil))) .nil)) (.bi .repr (.cons (.loc 8) .nil))) (.cmp .ne (.bi .repr (.cons (.call 89 (.cons (.loc 4) (.cons (.sub (.loc 9) (.cst (.int 1))) .nil))) .nil)) (.bi .repr (.cons (.call 89 (.cons (.loc 8) (.cons (.bin .add (.sub (.loc 9) (.cst (.int 0))) (.sub (.loc 9) (.cst (.int 1)))) .nil))) .nil))))
 (.cons (.ret (.cst (.bl false)))
 .nil)
 .nil)
 (.cons (.for_ (.nm 6) (.seq (.bin .add (.lc (.bin .sub (.call 9 (.cons (.loc 1) (.cons (.cst (.int 81)) .nil))) (.cst (.int 40))) (.nm 13) (.rng1 (.cst (.int 8))) .no [13]) (.lst (.cons (.bin .pow (.cst (.int 10)) (.cst (.int 20))) (.cons (.neg (.bin .pow (.cst (.int 10)) (.cst (.int 20)))) .nil)))))
 (.cons (.ite [] (.cmp .ne (.bi .repr (.cons (.call 88 (.cons (.loc 4) (.cons (.bin .add (.loc 6) (.sub (.loc 9) (.cst (.int 0)))) .nil))) .nil)) (.bi .repr (.cons (.call 88 (.cons (.loc 8) (.cons (.loc 6) .nil))) .nil)))
 (.cons (.ret (.cst (.bl false)))
 .nil)
 .nil)
 .nil))
 (.cons (.asg false 7 (.lc (.loc 14) (.tp (.cons (.nm 14) (.cons (.nm 15) .nil))) (.seq (.slc (.sub (.loc 8) (.cst (.int 1))) (.so (.cst (.int 1))) .no)) .no [14,15]))
 (.cons (.ite [] (.cmp .ne (.loc 7) (.lst .nil))
 (.cons (.par2 false false 11 12 (.bin .sub (.bin .pow (.cst (.int 10)) (.cst (.int 18))) (.sub (.loc 7) (.neg (.cst (.int 1))))) (.bin .sub (.bin .sub (.cst (.int 0)) (.bin .pow (.cst (.int 10)) (.cst (.int 18)))) (.sub (.loc 7) (.cst (.int 0)))))
 (.cons (.ite [] (.cmp .ne (.bi .repr (.cons (.lst (.cons (.call 89 (.cons (.loc 8) (.cons (.loc 11) .nil))) (.cons (.call 89 (.cons (.loc 8) (.cons (.loc 12) .nil))) .nil))) .nil)) (.bi .repr (.cons (.lst (.cons (.call 94 (.cons (.loc 8) (.cons (.loc 11) .nil))) (.cons (.call 94 (.cons (.loc 8) (.cons (.loc 12) .nil))) .nil))) .nil)))
 (.cons (.ret (.cst (.bl false)))
 .nil)
 .nil)
 (.cons (.ite [] (.or (.not (.call 96 (.cons (.loc 8) (.cons (.bin .add (.loc 11) (.cst (.int 1))) .nil)))) (.not (.call 96 (.cons (.loc 8) (.cons (.bin .sub (.bin .sub (.loc 12) (.cst (.int 1))) (.call 9 (.cons (.loc 1) (.cons (.bin .pow (.cst (.int 10)) (.cst (.int 20))) .nil)))) .nil)))))
 (.cons (.ret (.cst (.bl false)))
 .nil)
 .nil)
 .nil)))
 (.cons (.ite [] (.cmp .ne (.bi .repr (.cons (.call 89 (.cons (.loc 8) (.cons (.bin .pow (.cst (.int 10)) (.cst (.int 39))) .nil))) .nil)) (.bi .repr (.cons (.call 94 (.cons (.loc 8) (.cons (.bin .pow (.cst (.int 10)) (.cst (.int 39))) .nil))) .nil)))
 (.cons (.ret (.cst (.bl false)))
 .nil)
 .nil)
 .nil))
 .nil)))))))))
 (.cons (.asg false 3 (.tup (.cons (.cst (.int 2)) (.cons (.tup (.cons (.tup (.cons (.cst .non) (.cons (.tup (.cons (.cst (.int 1)) .nil)) .nil))) (.cons (.tup (.cons (.cst (.int 4)) (.cons (.tup (.cons (.cst (.int 0)) .nil)) .nil))) .nil))) .nil))))
 (.cons (.asg false 4 (.lst (.cons (.tup (.cons (.cst (.int 2)) (.cons (.tup (.cons (.tup (.cons (.cst .non) (.cons (.tup (.cons (.cst (.int 0)) .nil)) .nil))) (.cons (.tup (.cons (.cst (.int 5)) (.cons (.tup (.cons (.cst (.int 1)) .nil)) .nil))) .nil))) .nil))) (.cons (.tup (.cons (.cst (.int 2)) (.cons (.tup (.cons (.tup (.cons (.cst .non) (.cons (.tup (.cons (.cst (.int 1)) .nil)) .nil))) (.cons (.tup (.cons (.cst (.int 2)) (.cons (.tup (.cons (.cst (.int 0)) .nil)) .nil))) .nil))) .nil))) (.cons (.tup (.cons (.cst (.int 72)) (.cons (.tup (.cons (.tup (.cons (.cst .non) (.cons (.tup (.cons (.cst (.int 3)) (.cons (.cst (.int 69)) .nil))) .nil))) .nil)) .nil))) .nil)))))
 (.cons (.ret (.cmp .eq (.bi .repr (.cons (.lst (.cons (.call 89 (.cons (.loc 3) (.cons (.cst (.int 1)) .nil))) (.cons (.call 89 (.cons (.loc 3) (.cons (.neg (.cst (.int 2))) .nil))) (.cons (.call 89 (.cons (.tup (.cons (.cst (.int 72)) (.cons (.tup (.cons (.tup (.cons (.cst .non) (.cons (.tup (.cons (.cst (.int 5)) (.cons (.cst (.int 71)) .nil))) .nil))) .nil)) .nil))) (.cons (.cst (.int 70)) .nil))) .nil)))) .nil)) (.bi .repr (.cons (.loc 4) .nil))))
 .nil)))))
abbrev H97 (X:Prog):Prop:=X.fns 97=some (.fn 1 16 f97)
end LB
end
section
namespace LT
open PL LB
def nb (g:Int→Bool):List D:=(List.range 800).map fun k:Nat=>.bl (g k)
theorem nb_ix (g:Int→Bool){i:Int}(h0:0≤i)(h1:i<800):ix (nb g) i=some (.bl (g i)):=by
 unfold ix nb
 rw [if_pos h0,List.getElem?_map,List.getElem?_range (by omega)]
 simp [Int.toNat_of_nonneg h0]
def irD (l:List Int):D:=.tup (l.map .int)
def strD (p:Int × List Int):D:=.tup [.int p.1,irD p.2]
def formL (f:SF):List D:=.tup [.non,irD f.r0]::f.F.map strD
def formD (f:SF):D:=.tup [.int f.s,.tup (formL f)]
theorem ints_plain:∀ l:List Int,D.plains (l.map D.int)=true∧D.depths (l.map D.int)=0
 | []=>⟨rfl,rfl⟩
 | a::l=>by obtain ⟨h1,h2⟩:=ints_plain l;simp [D.plains,D.plain,D.depths,D.depth,h1,h2]
theorem strs_plain:∀ l:List (Int × List Int),D.plains (l.map strD)=true∧D.depths (l.map strD)≤2
 | []=>⟨rfl,by simp [D.depths]⟩
 | a::l=>by
  obtain ⟨h1,h2⟩:=strs_plain l
  obtain ⟨h3,h4⟩:=ints_plain a.2
  simp only [List.map_cons,D.plains,D.depths,h1,strD,irD,D.plain,D.depth,h3,h4]
  exact ⟨rfl,by omega⟩
theorem formL_plain (f:SF):D.plains (formL f)=true∧D.depths (formL f)≤2:=by
 obtain ⟨h1,h2⟩:=strs_plain f.F
 obtain ⟨h3,h4⟩:=ints_plain f.r0
 unfold formL
 simp only [D.plains,D.depths,h1,irD,D.plain,D.depth,h3,h4]
 exact ⟨rfl,by omega⟩
def ownL (g:Int→Bool)(s K:Nat):List D:=(List.range s).map fun m:Nat=>.bl (pat g s K m)
theorem own_ix (g:Int→Bool)(s K:Nat){i:Int}(h0:0≤i)(h1:i<s):ix (ownL g s K) i=some (.bl (pat g s K i)):=by
 unfold ix ownL
 rw [if_pos h0,List.getElem?_map,List.getElem?_range (by omega)]
 simp [Int.toNat_of_nonneg h0]
theorem own_first (g:Int→Bool)(s:Nat)(h:s≤800):cut (nb g) none (some (s:Int))=ownL g s 0:=by
 have e:(nb g).length=800:=by simp [nb]
 show ((nb g).take (clampI (nb g).length s)).drop 0=_
 rw [e,show clampI 800 (s:Int)=s by unfold clampI;rw [if_pos (by omega)];omega]
 unfold nb ownL
 rw [List.drop_zero,← List.map_take,List.take_range,show min s 800=s by omega]
 refine List.map_congr_left fun m hm=>?_
 rw [List.mem_range] at hm
 unfold pat
 rw [show ((0:Nat):Int)=0 from rfl,Int.sub_zero,Int.zero_add,Int.emod_eq_of_lt (by omega) (by omega)]
theorem own_cut (g:Int→Bool)(s n:Nat)(h:n+s≤800):cut (nb g) (some (n:Int)) (some ((n:Int)+s))=(List.range s).map fun m:Nat=>.bl (g (n+m)):=by
 have e:(nb g).length=800:=by simp [nb]
 show ((nb g).take (clampI (nb g).length (n+s))).drop (clampI (nb g).length n)=_
 rw [e,show clampI 800 ((n:Int)+s)=n+s by unfold clampI;rw [if_pos (by omega)];omega,show clampI 800 (n:Int)=n by unfold clampI;rw [if_pos (by omega)];omega]
 refine List.ext_getElem (by simp [nb];omega) fun i h1 h2=>?_
 simp [nb]
theorem own_turn (g:Int→Bool)(s n:Nat)(h:1≤s)(c:Int)(hc:c=(-(n:Int))%s) :
  cut ((List.range s).map fun m:Nat=>D.bl (g (n+m))) (some c) none++cut ((List.range s).map fun m:Nat=>D.bl (g (n+m))) none (some c)=ownL g s n:=by
 obtain ⟨c0,c1⟩:=mod_lt' h (-(n:Int))
 rw [← hc] at c0 c1
 have e:((List.range s).map fun m:Nat=>D.bl (g (n+m))).length=s:=by simp
 show (((List.range s).map fun m:Nat=>D.bl (g (n+m))).take ((List.range s).map fun m:Nat=>D.bl (g (n+m))).length).drop (clampI ((List.range s).map fun m:Nat=>D.bl (g (n+m))).length c)++(((List.range s).map fun m:Nat=>D.bl (g (n+m))).take (clampI ((List.range s).map fun m:Nat=>D.bl (g (n+m))).length c)).drop 0=_
 rw [e,show clampI s c=c.toNat by unfold clampI;rw [if_pos c0];omega]
 refine List.ext_getElem (by simp [ownL];omega) fun i h1 h2=>?_
 have hi:i<s:=by simpa [ownL] using h2
 have key:∀ j:Nat,j<s→Cg s ((i:Int)-n) j→D.bl (g (n+j))=D.bl (pat g s n i):=by
  intro j hj hcg
  unfold pat
  rw [hcg.emod,Int.emod_eq_of_lt (by omega) (by omega)]
 have hn:Cg s (-(n:Int)) c:=by rw [hc];exact Cg.mod _ _
 rw [List.getElem_append]
 split
 ·rename_i hl
  simp [ownL] at hl ⊢
  have:=key (c.toNat+i) (by omega) (by
   have:=hn.add i
   rw [show -(n:Int)+i=i-n by omega,show c+(i:Int)=((c.toNat+i:Nat):Int) by omega] at this
   exact this)
  push_cast at this
  simpa using this
 ·rename_i hl
  simp [ownL] at hl ⊢
  have:=key (i-(s-c.toNat)) (by omega) (by
   have h2:=hn.add i
   rw [show -(n:Int)+i=i-n by omega] at h2
   obtain ⟨d,hd⟩:=h2
   exact ⟨d-1,by rw [Int.sub_mul];omega⟩)
  simpa using this
theorem q_eqBl (a b:Bool):eqD (.bl a) (.bl b)=some (a==b):=by
 show (if D.shaped (.bl a)&&D.shaped (.bl b) then some (D.eqv (.bl a) (.bl b)) else none)=_
 rfl
theorem modQ {i s:Int}(h:1≤s):bop .mod (.int i) (.int s)=some (.int (i%s)):=by
 show (if s≠0 then some (D.int (i.fmod s)) else none)=_
 rw [if_pos (by omega),Int.fmod_eq_emod_of_nonneg _ (by omega)]
theorem fm_if {α β:Type}(p:α→Bool)(f:α→β):∀ l:List α,(l.filterMap fun a=>if p a then some (f a) else none)=(l.filter p).map f
 | []=>rfl
 | a::l=>by
  rw [List.filterMap_cons,List.filter_cons]
  cases h:p a<;>simp [fm_if p f l]
structure HCn (X:Prog):Prop where
 f93:H93 X
abbrev rLc (a:E):E:=.lc (.loc 8) (.nm 8) (.rng1 (.loc 2)) (.so (.sub a (.bin .mod (.bin .add (.loc 8) (.cst (.int 400))) (.loc 2)))) [8]
theorem rests_lc {cx:Ctx}{g:Int→Bool}{s K:Nat}(h1:1≤s)(h2:s≤72)(a:E)(O:List D)(hO:∀ i:Int,0≤i→i<s→ix O i=some (.bl (pat g s K i)))(e0 e1 e3 e4 e5 e6 e7 e8:Slot)(st:St)
  (ha:∀ d,evE cx a [e0,e1,.val (.int s),e3,e4,e5,e6,e7,.val d] st=.ok (.lst O) st) :
  evE cx (rLc a) [e0,e1,.val (.int s),e3,e4,e5,e6,e7,e8] st=.ok (.lst ((rests g s K).map .int)) st:=by
 have el:rngI 0 s=(List.range s).map fun k:Nat=>D.int k:=by simp [rngI]
 refine (lc_ofq (ds:=(List.range s).map fun k:Nat=>D.int k) (st1:=st) (by rw [ev_rng1 (v:=(s:Int)) (st1:=st) (by simp [evE]) (by omega) (by omega),el]) (mapR_opt (g:=fun k:Nat=>if pat g s K (((k:Int)+400)%s) then some (.int k) else none) fun k hk=>?_) ?_).trans ?_
 ·obtain ⟨m1,m2⟩:=mod_lt' h1 ((k:Int)+400)
  have hx:=hO _ m1 m2
  by_cases hp:pat g s K (((k:Int)+400)%s)=true
  ·simp [lcStep,evB,evE,evEs,wipeE,putT,ha,modQ (show (1:Int)≤s by omega),hx,hp]
  ·simp [lcStep,evB,evE,evEs,wipeE,putT,ha,modQ (show (1:Int)≤s by omega),hx,hp]
 ·refine Nat.le_trans (List.length_filterMap_le _ _) ?_
  simp;omega
 ·rw [fm_if]
  unfold rests
  rw [List.map_map]
  rfl
abbrev wBc (e:E):Ss:=(.cons (.ite [] (.cmp .ne (.sub (.loc 0) (.loc 6)) (.sub (.loc 7) (.bin .mod (.loc 6) (.loc 2))))
 (.cons (.asg false 7 (.slc (.loc 0) (.so (.loc 6)) (.so (.bin .add (.loc 6) (.loc 2)))))
 (.cons (.asg false 7 (.bin .add (.slc (.loc 7) (.so (.bin .mod (.neg (.loc 6)) (.loc 2))) .no) (.slc (.loc 7) .no (.so (.bin .mod (.neg (.loc 6)) (.loc 2))))))
 (.cons (.app [] 5 (.tup (.cons (.bin .sub (.loc 6) (.cst (.int 400))) (.cons (.tof e) .nil))))
 .nil)))
 .nil)
 (.cons (.asg false 6 (.bin .add (.loc 6) (.cst (.int 1))))
 .nil))
abbrev wTc:E:=(.and (.cmp .lt (.loc 6) (.cst (.int 700))) (.cmp .le (.bin .mul (.bi .len (.cons (.loc 5) .nil)) (.loc 2)) (.cst (.int 720))))
def lastK (g:Int→Bool)(s n:Nat):Nat:=((walk g s n).getLast?).getD 0
def FD (g:Int→Bool)(s n:Nat):List D:=.tup [.non,irD (rests g s 0)]::(walk g s n).map fun k:Nat=>strD ((k:Int)-400,rests g s k)
theorem FD_len (g:Int→Bool)(s n:Nat):(FD g s n).length=(walk g s n).length+1:=by simp [FD]
theorem walk_le (g:Int→Bool)(s:Nat):∀ n,(walk g s n).length≤n
 | 0=>by simp [walk]
 | n+1=>by
  have:=walk_le g s n
  unfold walk
  split
  ·omega
  ·simp;omega
def wEc (g:Int→Bool)(s:Nat)(a1 a3 a4 a8:Slot)(n:Nat):Env:=[.val (.lst (nb g)),a1,.val (.int s),a3,a4,.own (FD g s n),.val (.int n),.val (.lst (ownL g s (lastK g s n))),a8]
theorem walk_body {cx:Ctx}{g:Int→Bool}{s:Nat}(h1:1≤s)(h2:s≤72)(a1 a3 a4 a8:Slot)(n:Nat)(hn:n<700)(st:St):evSs cx (wBc (rLc (.loc 7))) (wEc g s a1 a3 a4 a8 n) st=.next (wEc g s a1 a3 a4 a8 (n+1)) st:=by
 obtain ⟨m1,m2⟩:=mod_lt' h1 n
 have x1:=nb_ix g (i:=n) (by omega) (by omega)
 have x2:=own_ix g s (lastK g s n) m1 m2
 have hp:pat g s (lastK g s n) ((n:Int)%s)=pat g s (lastK g s n) n:=by
  unfold pat
  have:=((Cg.mod s n).symm.add (-(lastK g s n:Int))).emod
  rw [← Int.sub_eq_add_neg,← Int.sub_eq_add_neg] at this
  rw [this]
 rw [hp] at x2
 have mq:=modQ (i:=n) (show (1:Int)≤s by omega)
 have mq2:=modQ (i:=-(n:Int)) (show (1:Int)≤s by omega)
 by_cases hb:g n=pat g s (lastK g s n) n
 ·have hw:walk g s (n+1)=walk g s n:=if_pos hb
  unfold wEc lastK FD
  rw [hw]
  unfold lastK at x2 hb
  simp [evSs,evS,evE,x1,x2,mq,hb,q_eqBl,PL.mk]
 ·have hw:walk g s (n+1)=walk g s n++[n]:=if_neg hb
  have hl:lastK g s (n+1)=n:=by unfold lastK;rw [hw];simp
  have hF:FD g s (n+1)=FD g s n++[strD ((n:Int)-400,rests g s n)]:=by unfold FD;rw [hw];simp
  have c1:=own_cut g s n (by omega)
  have c2:=own_turn g s n h1 _ rfl
  have cl:(FD g s n).length<line:=by have:=walk_le g s n;rw [FD_len];simp only [line];omega
  have r1:=rests_lc (cx:=cx) (g:=g) (K:=n) h1 h2 (.loc 7) (ownL g s n) (fun i z1 z2=>own_ix g s n z1 z2) (.val (.lst (nb g))) a1 a3 a4 (.own (FD g s n)) (.val (.int n)) (.val (.lst (ownL g s n))) a8 st (fun d=>by simp [evE])
  have l1:(cut ((List.range s).map fun m:Nat=>D.bl (g (n+m))) (some (-(n:Int)%s)) none).length+(cut ((List.range s).map fun m:Nat=>D.bl (g (n+m))) none (some (-(n:Int)%s))).length≤16777216:=by
   rw [← List.length_append,c2];simp [ownL];omega
  unfold wEc
  rw [hl,hF]
  generalize rLc (.loc 7)=eR at *
  generalize FD g s n=F at *
  generalize nb g=N at *
  generalize (List.range s).map (fun m:Nat=>D.bl (g (n+m)))=O1 at *
  have A:evS cx (.asg false 7 (.slc (.loc 0) (.so (.loc 6)) (.so (.bin .add (.loc 6) (.loc 2))))) [.val (.lst N),a1,.val (.int s),a3,a4,.own F,.val (.int n),.val (.lst (ownL g s (lastK g s n))),a8] st=.next [.val (.lst N),a1,.val (.int s),a3,a4,.own F,.val (.int n),.val (.lst O1),a8] st:=by
   simp [evS,evE,evO,PL.mk,D.part,cutD,c1]
  have B:evS cx (.asg false 7 (.bin .add (.slc (.loc 7) (.so (.bin .mod (.neg (.loc 6)) (.loc 2))) .no) (.slc (.loc 7) .no (.so (.bin .mod (.neg (.loc 6)) (.loc 2)))))) [.val (.lst N),a1,.val (.int s),a3,a4,.own F,.val (.int n),.val (.lst O1),a8] st=.next [.val (.lst N),a1,.val (.int s),a3,a4,.own F,.val (.int n),.val (.lst (ownL g s n)),a8] st:=by
   simp [evS,evE,evO,PL.mk,D.part,cutD,mq2,c2,l1]
  have C:evS cx (.app [] 5 (.tup (.cons (.bin .sub (.loc 6) (.cst (.int 400))) (.cons (.tof eR) .nil)))) [.val (.lst N),a1,.val (.int s),a3,a4,.own F,.val (.int n),.val (.lst (ownL g s n)),a8] st=.next [.val (.lst N),a1,.val (.int s),a3,a4,.own (F++[strD ((n:Int)-400,rests g s n)]),.val (.int n),.val (.lst (ownL g s n)),a8] st:=by
   have cl':F.length<16777216∧(([]:List Nat)=[]∨(strD ((n:Int)-400,rests g s n)).nol=true∨(E.disp (E.tup (Es.cons (E.bin Bop.sub (E.loc 6) (E.cst (D.int 400))) (Es.cons eR.tof Es.nil)))=true∧(strD ((n:Int)-400,rests g s n)).nolL=true)):=⟨cl,.inl rfl⟩
   have eT:evE cx (.tup (.cons (.bin .sub (.loc 6) (.cst (.int 400))) (.cons (.tof eR) .nil))) [.val (.lst N),a1,.val (.int s),a3,a4,.own F,.val (.int n),.val (.lst (ownL g s n)),a8] st=.ok (strD ((n:Int)-400,rests g s n)) st:=by
    have q1:evE cx (.tof eR) [.val (.lst N),a1,.val (.int s),a3,a4,.own F,.val (.int n),.val (.lst (ownL g s n)),a8] st=.ok (irD (rests g s n)) st:=by
     simp [evE,r1,irD]
    have q2:evE cx (.bin .sub (.loc 6) (.cst (.int 400))) [.val (.lst N),a1,.val (.int s),a3,a4,.own F,.val (.int n),.val (.lst (ownL g s n)),a8] st=.ok (.int ((n:Int)-400)) st:=by
     simp [evE]
    have qs:evEs cx (.cons (.bin .sub (.loc 6) (.cst (.int 400))) (.cons (.tof eR) .nil)) [.val (.lst N),a1,.val (.int s),a3,a4,.own F,.val (.int n),.val (.lst (ownL g s n)),a8] st=.ok [.int ((n:Int)-400),irD (rests g s n)] st:=by
     rw [evEs,q2,R.bind_ok,evEs,q1,R.bind_ok,evEs,R.bind_ok,R.bind_ok]
    rw [evE,qs,R.bind_ok]
    exact if_pos (show 2≤16777216 by decide)
   rw [evS]
   show Q.opt (some F) _=_
   rw [Q.opt_some]
   show (evE cx _ [.val (.lst N),a1,.val (.int s),a3,a4,.own F,.val (.int n),.val (.lst (ownL g s n)),a8] st).use _ _=_
   rw [eT,R.use_ok,if_pos cl']
   rfl
  have T:evE cx (.cmp .ne (.sub (.loc 0) (.loc 6)) (.sub (.loc 7) (.bin .mod (.loc 6) (.loc 2)))) [.val (.lst N),a1,.val (.int s),a3,a4,.own F,.val (.int n),.val (.lst (ownL g s (lastK g s n))),a8] st=.ok (.bl true) st:=by
   have hb':(g n==pat g s (lastK g s n) n)=false:=beq_eq_false_iff_ne.2 hb
   simp only [evE,q_ne,R.lift_some,R.bind_ok,Env.get,List.getElem?_cons_succ,List.getElem?_cons_zero,Option.bind_some,Slot.get,q_subL,x1,x2,mq,q_eqBl,hb',Option.map_some,Bool.not_false]
  have I:∀ r,evS cx (.ite [] (.cmp .ne (.sub (.loc 0) (.loc 6)) (.sub (.loc 7) (.bin .mod (.loc 6) (.loc 2)))) (.cons (.asg false 7 (.slc (.loc 0) (.so (.loc 6)) (.so (.bin .add (.loc 6) (.loc 2)))))
    (.cons (.asg false 7 (.bin .add (.slc (.loc 7) (.so (.bin .mod (.neg (.loc 6)) (.loc 2))) .no) (.slc (.loc 7) .no (.so (.bin .mod (.neg (.loc 6)) (.loc 2))))))
    (.cons (.app [] 5 (.tup (.cons (.bin .sub (.loc 6) (.cst (.int 400))) (.cons (.tof eR) .nil)))) .nil))) r) [.val (.lst N),a1,.val (.int s),a3,a4,.own F,.val (.int n),.val (.lst (ownL g s (lastK g s n))),a8] st=.next [.val (.lst N),a1,.val (.int s),a3,a4,.own (F++[strD ((n:Int)-400,rests g s n)]),.val (.int n),.val (.lst (ownL g s n)),a8] st:=by
   intro r
   rw [evS]
   show (evE cx _ [.val (.lst N),a1,.val (.int s),a3,a4,.own F,.val (.int n),.val (.lst (ownL g s (lastK g s n))),a8] st).use _ _=_
   rw [T,R.use_ok]
   show evSs cx _ [.val (.lst N),a1,.val (.int s),a3,a4,.own F,.val (.int n),.val (.lst (ownL g s (lastK g s n))),a8] st=_
   rw [evSs,A,Q.then_next,evSs,B,Q.then_next,evSs,C,Q.then_next,evSs]
  have J:∀ F',evS cx (.asg false 6 (.bin .add (.loc 6) (.cst (.int 1)))) [.val (.lst N),a1,.val (.int s),a3,a4,.own F',.val (.int n),.val (.lst (ownL g s n)),a8] st=.next [.val (.lst N),a1,.val (.int s),a3,a4,.own F',.val (.int ((n:Int)+1)),.val (.lst (ownL g s n)),a8] st:=by
   intro F'
   simp [evS,evE,PL.mk]
  rw [evSs,I,Q.then_next,evSs,J,Q.then_next,evSs,show (((n+1:Nat)):Int)=(n:Int)+1 by omega]
theorem walk_loop {cx:Ctx}{g:Int→Bool}{s:Nat}(h1:1≤s)(h2:s≤72)(a1 a3 a4 a8:Slot)(st:St):∀ (j n m:Nat),n+j=700 →
  ∃ n',n≤n'∧n'≤700∧(n'=700∨720<((walk g s n').length+1)*s)∧whlL (whlTest (evE cx wTc) [5]) (evSs cx (wBc (rLc (.loc 7)))) (m+j+1) (wEc g s a1 a3 a4 a8 n) st=.next (wEc g s a1 a3 a4 a8 n') st
 | 0,n,m,e=>⟨n,by omega,by omega,.inl (by omega),whlL_done (by
   have:¬ (n:Int)<700:=by omega
   unfold whlTest wEc
   simp [evE,freeze,frz1,Slot.frz,this])⟩
 | j+1,n,m,e=>by
  have hn:(n:Int)<700:=by omega
  have hm:mulOk ((walk g s n).length+1) s=true:=mulOk_of (j:=64) (k:=64) (by have:=walk_le g s n;omega) (by omega) (by decide) (by decide) (by decide)
  by_cases hc:((walk g s n).length+1)*s≤720
  ·obtain ⟨n',z1,z2,z3,z4⟩:=walk_loop h1 h2 a1 a3 a4 a8 st j (n+1) m (by omega)
   refine ⟨n',by omega,z2,z3,?_⟩
   have hc':((walk g s n).length+1:Int)*s≤720:=by exact_mod_cast hc
   rw [show m+(j+1)+1=(m+j+1)+1 by omega,whlL_next (st1:=st) ?_ (walk_body h1 h2 a1 a3 a4 a8 n (by omega) st),z4]
   unfold whlTest wEc
   simp [evE,evEs,freeze,frz1,Slot.frz,hn,FD_len,hm,hc']
  ·refine ⟨n,by omega,by omega,.inr (by omega),?_⟩
   have hc':¬ ((walk g s n).length+1:Int)*s≤720:=by
    intro z
    exact hc (by exact_mod_cast z)
   refine whlL_done ?_
   unfold whlTest wEc
   simp [evE,evEs,freeze,frz1,Slot.frz,hn,FD_len,hm,hc']
theorem all_bl {α:Type}(l:List α)(f:α→Bool):(l.map fun a=>D.bl (f a)).all D.shaped=true:=by
 rw [List.all_eq_true]
 intro d hd
 obtain ⟨a,_,rfl⟩:=List.mem_map.1 hd
 rfl
theorem any_bl {α:Type}(l:List α)(f:α→Bool):(l.map fun a=>D.bl (f a)).any (fun y=>D.eqv y (.bl false))=l.any fun a=>!f a:=by
 rw [List.any_map]
 congr 1
 funext a
 show (f a==false)=!f a
 cases f a<;>rfl
abbrev cLc (it:It):E:=.lc (.cmp .eq (.sub (.loc 0) (.loc 6)) (.sub (.loc 0) (.bin .add (.loc 6) (.loc 2)))) (.nm 6) it .no [6]
def cmpL (g:Int→Bool)(s:Nat)(a:Int):List D:=(List.range 100).map fun k:Nat=>D.bl (g (a+k)==g (a+k+s))
theorem cmp_lc {cx:Ctx}{g:Int→Bool}{s:Nat}(h2:s≤72)(it:It)(a:Int)(ha:0≤a)(hb:a+172≤800)(e1 e3 e4 e5 e6 e7 e8:Slot)(st:St)
  (hi:evI cx it [.val (.lst (nb g)),e1,.val (.int s),e3,e4,e5,e6,e7,e8] st=.ok ((List.range 100).map fun k:Nat=>D.int (a+k)) st) :
  evE cx (cLc it) [.val (.lst (nb g)),e1,.val (.int s),e3,e4,e5,e6,e7,e8] st=.ok (.lst (cmpL g s a)) st:=by
 refine lc_ofq hi (mapR_of fun k hk=>?_) (by simp [cmpL])
 rw [List.mem_range] at hk
 have x1:=nb_ix g (i:=a+k) (by omega) (by omega)
 have x2:=nb_ix g (i:=a+k+s) (by omega) (by omega)
 simp [lcStep,evB,evE,wipeE,putT,x1,x2,q_eqBl]
theorem test_ok {r:Nr}{s:Nat}(h1:1≤s)(h2:s≤72):(D.has (.bl false) (.lst (cmpL r.g s 0++cmpL r.g s 620))).map not=some (@decide (StOk r s) (Classical.propDecidable _)):=by
 rw [q_hasL,List.all_append,List.any_append]
 unfold cmpL
 rw [all_bl,all_bl,any_bl,any_bl]
 show (some _).map not=_
 rw [Option.map_some]
 congr 1
 rw [Bool.eq_iff_iff]
 simp only [Bool.not_eq_true',Bool.or_eq_false_iff,List.any_eq_false,List.mem_range,decide_eq_true_eq]
 constructor
 ·rintro ⟨z1,z2⟩
  refine ⟨h1,h2,fun k k0 k1=>?_,fun k k0 k1=>?_⟩
  ·have:=z1 k.toNat (by omega)
   rw [Int.zero_add,Int.toNat_of_nonneg k0] at this
   simpa using this
  ·have:=z2 (k-620).toNat (by omega)
   rw [Int.toNat_of_nonneg (by omega),show 620+(k-620)=k by omega] at this
   simpa using this
 ·rintro ⟨_,_,z1,z2⟩
  refine ⟨fun k hk=>?_,fun k hk=>?_⟩
  ·have:=z1 k (by omega) (by omega)
   simp [this]
  ·have:=z2 (620+k) (by omega) (by omega)
   simp [this]
def Best (r:Nr)(b:List D):Prop:=b=[]∨∃ s,StOk r s∧((walk r.g s 700).length+1)*s≤720∧b=[.int s,.tup (formL (lst r.g s))]
theorem FD_form (g:Int→Bool)(s:Nat):FD g s 700=formL (lst g s):=by
 unfold FD formL lst
 rw [List.map_map]
 rfl
theorem best_shaped {r:Nr}{b:List D}(h:Best r b):(D.lst b).shaped=true:=by
 rcases h with rfl|⟨s,_,_,rfl⟩
 ·rfl
 ·obtain ⟨h1,h2⟩:=formL_plain (lst r.g s)
  unfold D.shaped
  simp [D.plain,D.plains,D.depth,D.depths,h1]
  omega
theorem walk_mono (g:Int→Bool)(s:Nat):∀ {n m:Nat},n≤m→(walk g s n).length≤(walk g s m).length:=by
 intro n m h
 induction m with
 | zero=>rw [show n=0 by omega];exact Nat.le_refl _
 | succ m ih =>
  by_cases e:n=m+1
  ·rw [e];exact Nat.le_refl _
  ·have:=ih (by omega)
   conv=>rhs;unfold walk
   split
   ·exact this
   ·simp;omega
abbrev acB:Ss:=(.cons (.ite [5] (.and (.cmp .le (.bin .mul (.bi .len (.cons (.loc 5) .nil)) (.loc 2)) (.cst (.int 720))) (.or (.cmp .eq (.loc 1) (.lst .nil)) (.cmp .gt (.bin .mul (.sub (.loc 1) (.cst (.int 0))) (.bi .len (.cons (.sub (.loc 1) (.cst (.int 1))) .nil))) (.bin .mul (.loc 2) (.bi .len (.cons (.loc 5) .nil))))))
 (.cons (.frz [5])
 (.cons (.asg false 1 (.lst (.cons (.loc 2) (.cons (.tof (.loc 5)) .nil))))
 .nil))
 .nil)
 .nil)
theorem take_ok {cx:Ctx}{r:Nr}{s:Nat}(h:StOk r s){b:List D}(hb:Best r b)(a3 a4 a8:Slot)(n:Nat)(hn:n≤700)(hc:n=700∨720<((walk r.g s n).length+1)*s)(st:St) :
  ∃ b' e5,evSs cx acB (wEc r.g s (.val (.lst b)) a3 a4 a8 n) st=.next [.val (.lst (nb r.g)),.val (.lst b'),.val (.int s),a3,a4,e5,.val (.int n),.val (.lst (ownL r.g s (lastK r.g s n))),a8] st∧Best r b'∧(((walk r.g s 700).length+1)*s≤720∨b≠[]→b'≠[]):=by
 have h1:=h.1
 have h2:=h.2.1
 have hl:=walk_le r.g s n
 have hm:mulOk ((walk r.g s n).length+1) s=true:=mulOk_of (j:=64) (k:=64) (by omega) (by omega) (by decide) (by decide) (by decide)
 have hm2:mulOk s ((walk r.g s n).length+1)=true:=mulOk_of (j:=64) (k:=64) (by omega) (by omega) (by decide) (by decide) (by decide)
 have fl:=FD_len r.g s n
 by_cases c1:((walk r.g s n).length+1)*s≤720
 ·have hn':n=700:=by omega
  subst hn'
  have c1':((walk r.g s 700).length+1:Int)*s≤720:=by exact_mod_cast c1
  have hB:Best r [.int s,.tup (formL (lst r.g s))]:=.inr ⟨s,h,c1,rfl⟩
  have hsh:=best_shaped hb
  have hF:=FD_form r.g s
  unfold wEc
  rw [hF] at fl ⊢
  generalize ownL r.g s (lastK r.g s 700)=O at *
  generalize nb r.g=N at *
  rcases hb with rfl|⟨s',g1,g2,rfl⟩
  ·refine ⟨[.int s,.tup (formL (lst r.g s))],.val (.lst (formL (lst r.g s))),?_,hB,fun _=>by simp⟩
   simp [evSs,evS,evE,evEs,freeze,frz1,Slot.frz,PL.mk,fl,hm,c1',hsh,D.items]
  ·have fl':(formL (lst r.g s')).length=(walk r.g s' 700).length+1:=by rw [← FD_form,FD_len]
   have hl':=walk_le r.g s' 700
   have g11:=g1.2.1
   have hm3:mulOk s' ((walk r.g s' 700).length+1)=true:=mulOk_of (j:=64) (k:=64) (by omega) (by omega) (by decide) (by decide) (by decide)
   by_cases c2:(s:Int)*((walk r.g s 700).length+1)<s'*((walk r.g s' 700).length+1)
   ·refine ⟨[.int s,.tup (formL (lst r.g s))],.val (.lst (formL (lst r.g s))),?_,hB,fun _=>by simp⟩
    simp [evSs,evS,evE,evEs,freeze,frz1,Slot.frz,PL.mk,fl,fl',hm,hm2,hm3,c1',c2,hsh,D.items]
   ·refine ⟨[.int s',.tup (formL (lst r.g s'))],.own (formL (lst r.g s)),?_,.inr ⟨s',g1,g2,rfl⟩,fun _=>by simp⟩
    simp [evSs,evS,evE,evEs,freeze,frz1,Slot.frz,PL.mk,fl,fl',hm,hm2,hm3,c1',c2,hsh,D.items]
 ·have c1':¬ ((walk r.g s n).length+1:Int)*s≤720:=by
   intro z
   exact c1 (by exact_mod_cast z)
  refine ⟨b,.own (FD r.g s n),?_,hb,fun z=>?_⟩
  ·unfold wEc
   simp [evSs,evS,evE,evEs,freeze,frz1,Slot.frz,PL.mk,fl,hm,c1']
  ·rcases z with z|z
   ·have mo:=Nat.mul_le_mul_right s (Nat.add_le_add_right (walk_mono r.g s hn) 1)
    omega
   ·exact z
theorem ite_true {cx:Ctx}{c:E}{a b:Ss}{env:Env}{st st1:St}(h:evE cx c env st=.ok (.bl true) st1):evS cx (.ite [] c a b) env st=evSs cx a env st1:=by
 have e:freeze env []=env:=by unfold freeze;rfl
 rw [evS,e,h,R.thaw_nil,R.use_ok]
 rfl
theorem ite_false {cx:Ctx}{c:E}{a b:Ss}{env:Env}{st st1:St}(h:evE cx c env st=.ok (.bl false) st1):evS cx (.ite [] c a b) env st=evSs cx b env st1:=by
 have e:freeze env []=env:=by unfold freeze;rfl
 rw [evS,e,h,R.thaw_nil,R.use_ok]
 rfl
theorem app_nil {cx:Ctx}{i:Nat}{e:E}{env:Env}{st st1:St}{ds:List D}{d:D}(h1:ownAt env i=some ds)(h:evE cx e env st=.ok d st1)(hl:ds.length<line):evS cx (.app [] i e) env st=.next (env.set i (.own (ds++[d]))) st1:=by
 have e0:freeze env []=env:=by unfold freeze;rfl
 rw [evS,h1,Q.opt_some,e0,h,R.thaw_nil,R.use_ok]
 exact if_pos ⟨hl,.inl rfl⟩
abbrev stA (eL:E)(w:S)(t:Ss):Ss:=(.cons (.asg true 5 (.lst (.cons (.tup (.cons (.cst .non) (.cons (.tof eL) .nil))) .nil)))
 (.cons (.asgT (.tp (.cons (.nm 7) (.cons (.nm 6) .nil))) (.tup (.cons (.slc (.loc 0) .no (.so (.loc 2))) (.cons (.cst (.int 0)) .nil))))
 (.cons w t)))
abbrev stB (e1 e2:E)(a:Ss):Ss:=(.cons (.asg false 3 e1)
 (.cons (.asg false 4 e2)
 (.cons (.ite [] (.cmp .nin (.cst (.bl false)) (.bin .add (.loc 3) (.loc 4))) a .nil)
 .nil)))
abbrev wWc:S:=.whl [5] wTc (wBc (rLc (.loc 7)))
theorem acc_ok {cx:Ctx}{r:Nr}{s:Nat}(h:StOk r s){b:List D}(hb:Best r b)(a3 a4 a5 a6 a7 a8:Slot)(st:St) :
  ∃ b' e3 e4 e5 e6 e7 e8,evSs cx (stA (rLc (.loc 0)) wWc acB) [.val (.lst (nb r.g)),.val (.lst b),.val (.int s),a3,a4,a5,a6,a7,a8] st=.next [.val (.lst (nb r.g)),.val (.lst b'),.val (.int s),e3,e4,e5,e6,e7,e8] st∧Best r b'∧(((walk r.g s 700).length+1)*s≤720∨b≠[]→b'≠[]):=by
 have h1:=h.1
 have h2:=h.2.1
 have x1:=rests_lc (cx:=cx) (g:=r.g) (K:=0) h1 h2 (.loc 0) (nb r.g) (fun i z1 z2=>by
  rw [nb_ix r.g z1 (by omega)]
  unfold pat
  rw [show ((0:Nat):Int)=0 from rfl,Int.sub_zero,Int.zero_add,Int.emod_eq_of_lt z1 z2]) (.val (.lst (nb r.g))) (.val (.lst b)) a3 a4 a5 a6 a7 a8 st (fun d=>by simp [evE])
 have x2:=own_first r.g s (by omega)
 obtain ⟨n',z1,z2,z3,z4⟩:=walk_loop (cx:=cx) (g:=r.g) h1 h2 (.val (.lst b)) a3 a4 a8 st 700 0 (turns-701) rfl
 rw [show turns-701+700+1=turns by unfold turns;omega] at z4
 obtain ⟨b',e5,y1,y2,y3⟩:=take_ok (cx:=cx) h hb a3 a4 a8 n' z2 z3 st
 refine ⟨b',a3,a4,e5,.val (.int n'),.val (.lst (ownL r.g s (lastK r.g s n'))),a8,?_,y2,y3⟩
 have hW:evS cx wWc (wEc r.g s (.val (.lst b)) a3 a4 a8 0) st=.next (wEc r.g s (.val (.lst b)) a3 a4 a8 n') st:=by rw [evS];exact z4
 have hA:evS cx (.asg true 5 (.lst (.cons (.tup (.cons (.cst .non) (.cons (.tof (rLc (.loc 0))) .nil))) .nil))) [.val (.lst (nb r.g)),.val (.lst b),.val (.int s),a3,a4,a5,a6,a7,a8] st=.next [.val (.lst (nb r.g)),.val (.lst b),.val (.int s),a3,a4,.own (FD r.g s 0),a6,a7,a8] st:=by
  generalize rLc (.loc 0)=eR at *
  have q1:evE cx (.tof eR) [.val (.lst (nb r.g)),.val (.lst b),.val (.int s),a3,a4,a5,a6,a7,a8] st=.ok (irD (rests r.g s 0)) st:=by
   rw [evE,x1];rfl
  have q2:evEs cx (.cons (.cst .non) (.cons (.tof eR) .nil)) [.val (.lst (nb r.g)),.val (.lst b),.val (.int s),a3,a4,a5,a6,a7,a8] st=.ok [.non,irD (rests r.g s 0)] st:=by
   rw [evEs,evE,R.bind_ok,evEs,q1,R.bind_ok,evEs,R.bind_ok,R.bind_ok]
  have q3:evE cx (.tup (.cons (.cst .non) (.cons (.tof eR) .nil))) [.val (.lst (nb r.g)),.val (.lst b),.val (.int s),a3,a4,a5,a6,a7,a8] st=.ok (.tup [.non,irD (rests r.g s 0)]) st:=by
   rw [evE,q2,R.bind_ok]
   exact if_pos (show 2≤16777216 by decide)
  have q4:evEs cx (.cons (.tup (.cons (.cst .non) (.cons (.tof eR) .nil))) .nil) [.val (.lst (nb r.g)),.val (.lst b),.val (.int s),a3,a4,a5,a6,a7,a8] st=.ok [.tup [.non,irD (rests r.g s 0)]] st:=by
   rw [evEs,q3,R.bind_ok,evEs,R.bind_ok]
  have q5:evE cx (.lst (.cons (.tup (.cons (.cst .non) (.cons (.tof eR) .nil))) .nil)) [.val (.lst (nb r.g)),.val (.lst b),.val (.int s),a3,a4,a5,a6,a7,a8] st=.ok (.lst [.tup [.non,irD (rests r.g s 0)]]) st:=by
   rw [evE,q4,R.bind_ok]
   exact if_pos (show 1≤16777216 by decide)
  rw [evS,q5,R.use_ok]
  rfl
 have hB:evS cx (.asgT (.tp (.cons (.nm 7) (.cons (.nm 6) .nil))) (.tup (.cons (.slc (.loc 0) .no (.so (.loc 2))) (.cons (.cst (.int 0)) .nil)))) [.val (.lst (nb r.g)),.val (.lst b),.val (.int s),a3,a4,.own (FD r.g s 0),a6,a7,a8] st=.next (wEc r.g s (.val (.lst b)) a3 a4 a8 0) st:=by
  have q1:evE cx (.slc (.loc 0) .no (.so (.loc 2))) [.val (.lst (nb r.g)),.val (.lst b),.val (.int s),a3,a4,.own (FD r.g s 0),a6,a7,a8] st=.ok (.lst (ownL r.g s 0)) st:=by
   generalize nb r.g=N at *
   simp [evE,evO,D.part,cutD,x2]
  have q2:evEs cx (.cons (.slc (.loc 0) .no (.so (.loc 2))) (.cons (.cst (.int 0)) .nil)) [.val (.lst (nb r.g)),.val (.lst b),.val (.int s),a3,a4,.own (FD r.g s 0),a6,a7,a8] st=.ok [.lst (ownL r.g s 0),.int 0] st:=by
   rw [evEs,q1,R.bind_ok,evEs,evE,R.bind_ok,evEs,R.bind_ok,R.bind_ok]
  have q3:evE cx (.tup (.cons (.slc (.loc 0) .no (.so (.loc 2))) (.cons (.cst (.int 0)) .nil))) [.val (.lst (nb r.g)),.val (.lst b),.val (.int s),a3,a4,.own (FD r.g s 0),a6,a7,a8] st=.ok (.tup [.lst (ownL r.g s 0),.int 0]) st:=by
   rw [evE,q2,R.bind_ok]
   exact if_pos (show 2≤16777216 by decide)
  rw [evS,q3,R.use_ok]
  rfl
 rw [evSs,hA,Q.then_next,evSs,hB,Q.then_next,evSs,hW,Q.then_next,y1]
theorem step_ok {cx:Ctx}{r:Nr}{s:Nat}(h1:1≤s)(h2:s≤72){b:List D}(hb:Best r b)(a2 a3 a4 a5 a6 a7 a8:Slot)(st:St) :
  ∃ b' e3 e4 e5 e6 e7 e8,evSs cx (stB (cLc (.rng1 (.cst (.int 100)))) (cLc (.rng2 (.cst (.int 620)) (.cst (.int 720)))) (stA (rLc (.loc 0)) wWc acB)) [.val (.lst (nb r.g)),.val (.lst b),.val (.int s),a3,a4,a5,a6,a7,a8] st=.next [.val (.lst (nb r.g)),.val (.lst b'),.val (.int s),e3,e4,e5,e6,e7,e8] st∧Best r b'∧(s=r.P∨b≠[]→b'≠[]):=by
 have x1:=cmp_lc (cx:=cx) (g:=r.g) h2 (.rng1 (.cst (.int 100))) 0 (by decide) (by decide) (.val (.lst b)) a3 a4 a5 a6 a7 a8 st (by simp [evI,evE,rngD,rngI,show okR 0=true by decide,show okR 100=true by decide])
 have x2:=cmp_lc (cx:=cx) (g:=r.g) h2 (.rng2 (.cst (.int 620)) (.cst (.int 720))) 620 (by decide) (by decide) (.val (.lst b)) (.val (.lst (cmpL r.g s 0))) a4 a5 a6 a7 a8 st (by simp [evI,evE,rngD,rngI,show okR 620=true by decide,show okR 720=true by decide])
 have x3:=test_ok (r:=r) h1 h2
 have hl:(cmpL r.g s 0).length+(cmpL r.g s 620).length≤16777216:=by simp [cmpL]
 have hT0:∀ L1 L2:List D,L1.length+L2.length≤line→evE cx (.cmp .nin (.cst (.bl false)) (.bin .add (.loc 3) (.loc 4))) [.val (.lst (nb r.g)),.val (.lst b),.val (.int s),.val (.lst L1),.val (.lst L2),a5,a6,a7,a8] st=R.lift (((D.has (.bl false) (.lst (L1++L2))).map not).map D.bl) st:=by
  intro L1 L2 hz
  have hq:bop .add (.lst L1) (.lst L2)=if L1.length+L2.length≤line then some (.lst (L1++L2)) else none:=q_addL L1 L2
  rw [if_pos hz] at hq
  simp only [evE,Env.get,List.getElem?_cons_succ,List.getElem?_cons_zero,Option.bind_some,Slot.get,R.lift_some,R.bind_ok,hq,q_nin]
 have hT:evE cx (.cmp .nin (.cst (.bl false)) (.bin .add (.loc 3) (.loc 4))) [.val (.lst (nb r.g)),.val (.lst b),.val (.int s),.val (.lst (cmpL r.g s 0)),.val (.lst (cmpL r.g s 620)),a5,a6,a7,a8] st=.ok (.bl (@decide (StOk r s) (Classical.propDecidable _))) st:=by
  rw [hT0 _ _ hl,x3]
  rfl
 have hA:evS cx (.asg false 3 (cLc (.rng1 (.cst (.int 100))))) [.val (.lst (nb r.g)),.val (.lst b),.val (.int s),a3,a4,a5,a6,a7,a8] st=.next [.val (.lst (nb r.g)),.val (.lst b),.val (.int s),.val (.lst (cmpL r.g s 0)),a4,a5,a6,a7,a8] st:=by
  rw [evS,x1,R.use_ok];rfl
 have hB:evS cx (.asg false 4 (cLc (.rng2 (.cst (.int 620)) (.cst (.int 720))))) [.val (.lst (nb r.g)),.val (.lst b),.val (.int s),.val (.lst (cmpL r.g s 0)),a4,a5,a6,a7,a8] st=.next [.val (.lst (nb r.g)),.val (.lst b),.val (.int s),.val (.lst (cmpL r.g s 0)),.val (.lst (cmpL r.g s 620)),a5,a6,a7,a8] st:=by
  rw [evS,x2,R.use_ok];rfl
 by_cases hs:StOk r s
 ·obtain ⟨b',e3,e4,e5,e6,e7,e8,y1,y2,y3⟩:=acc_ok (cx:=cx) hs hb (.val (.lst (cmpL r.g s 0))) (.val (.lst (cmpL r.g s 620))) a5 a6 a7 a8 st
  refine ⟨b',e3,e4,e5,e6,e7,e8,?_,y2,fun z=>y3 (z.imp (fun e=>by rw [e];exact walk_few r) id)⟩
  rw [@decide_eq_true _ (Classical.propDecidable _) hs] at hT
  rw [evSs,hA,Q.then_next,evSs,hB,Q.then_next,evSs,ite_true hT,y1,Q.then_next,evSs]
 ·refine ⟨b,.val (.lst (cmpL r.g s 0)),.val (.lst (cmpL r.g s 620)),a5,a6,a7,a8,?_,hb,fun z=>z.resolve_left fun e=>hs (by rw [e];exact StOk.self r)⟩
  rw [@decide_eq_false _ (Classical.propDecidable _) hs] at hT
  rw [evSs,hA,Q.then_next,evSs,hB,Q.then_next,evSs,ite_false hT,evSs,Q.then_next,evSs]
theorem canon_ok {X:Prog}(h:HCn X)(r:Nr)(k:Nat)(st:St):∃ s,StOk r s∧((walk r.g s 700).length+1)*s≤720∧run X (k+1) 93 [.lst (nb r.g)] st=.ok (formD (lst r.g s)) st:=by
 obtain ⟨eB,hB⟩:∃ eB,eB=stB (cLc (.rng1 (.cst (.int 100)))) (cLc (.rng2 (.cst (.int 620)) (.cst (.int 720)))) (stA (rLc (.loc 0)) wWc acB):=⟨_,rfl⟩
 obtain ⟨env',st',e,⟨b,e2,e3,e4,e5,e6,e7,e8,he,hst,hb,hn⟩⟩:=forL_inv (f:=forStep (evSs (X.cx k) eB) (.nm 2)) (ds:=rngI 1 73) (i:=0)
  (P:=fun i env st'=>∃ (b:List D) (e2 e3 e4 e5 e6 e7 e8:Slot),env=[.val (.lst (nb r.g)),.val (.lst b),e2,e3,e4,e5,e6,e7,e8]∧st'=st∧Best r b∧(r.P≤i→b≠[])) (env:=[.val (.lst (nb r.g)),.val (.lst []),.un,.un,.un,.un,.un,.un,.un]) (st:=st) ⟨[],.un,.un,.un,.un,.un,.un,.un,rfl,rfl,.inl rfl,fun z=>absurd z (by have:=r.p0;omega)⟩ (by
   rintro i d env st' hd ⟨b,e2,e3,e4,e5,e6,e7,e8,rfl,rfl,hb,hn⟩
   rw [Nat.zero_add] at *
   have hi:i<72∧d=.int ((i+1:Nat):Int):=by
    unfold rngI at hd
    rw [List.getElem?_map] at hd
    obtain ⟨j,hj,rfl⟩:=Option.map_eq_some_iff.1 hd
    have hlt:=(List.getElem?_eq_some_iff.1 hj).1
    rw [List.length_range] at hlt
    rw [List.getElem?_range hlt] at hj
    cases hj
    refine ⟨by omega,?_⟩
    congr 1
    omega
   obtain ⟨hi,rfl⟩:=hi
   obtain ⟨b',c3,c4,c5,c6,c7,c8,y1,y2,y3⟩:=step_ok (cx:=X.cx k) (r:=r) (s:=i+1) (by omega) (by omega) hb (.val (.int ((i+1:Nat):Int))) e3 e4 e5 e6 e7 e8 st'
   rw [← hB] at y1
   refine ⟨_,st',y1,b',_,c3,c4,c5,c6,c7,c8,rfl,rfl,y2,fun z=>y3 ?_⟩
   by_cases z2:r.P≤i
   ·exact .inr (hn z2)
   ·exact .inl (by omega))
 have hne:=hn (by have:=r.p1;simp [rngI];omega)
 rcases hb with z|⟨s,h1,h2,rfl⟩
 ·exact absurd z hne
 ·refine ⟨s,h1,h2,?_⟩
  have ef:evS (X.cx k) (.for_ (.nm 2) (.rng2 (.cst (.int 1)) (.cst (.int 73))) eB) [.val (.lst (nb r.g)),.val (.lst []),.un,.un,.un,.un,.un,.un,.un] st=.next [.val (.lst (nb r.g)),.val (.lst [.int s,.tup (formL (lst r.g s))]),e2,e3,e4,e5,e6,e7,e8] st:=by
   rw [for_ofq (ds:=rngI 1 73) (st1:=st) (by simp [evI,evE,rngD,show okR 1=true by decide,show okR 73=true by decide]),e,he,hst]
  rw [run_fn h.f93 rfl]
  show outR (evSs (X.cx k) (.cons (.asg false 1 (.lst .nil)) (.cons (.for_ (.nm 2) (.rng2 (.cst (.int 1)) (.cst (.int 73))) (stB (cLc (.rng1 (.cst (.int 100)))) (cLc (.rng2 (.cst (.int 620)) (.cst (.int 720)))) (stA (rLc (.loc 0)) wWc acB))) (.cons (.ret (.tof (.loc 1))) .nil))) _ _)=_
  rw [← hB]
  have e0:evS (X.cx k) (.asg false 1 (.lst .nil)) (entry 9 [.lst (nb r.g)]) st=.next [.val (.lst (nb r.g)),.val (.lst []),.un,.un,.un,.un,.un,.un,.un] st:=by
   simp [evS,evE,evEs,entry,PL.mk]
  rw [evSs,e0,Q.then_next,evSs,ef,Q.then_next]
  rfl
end LT
end
section
namespace LT
open PL LB
theorem ints_of {p:Int→Prop}:∀ {ys:List D},(∀ y∈ys,∃ i,y=.int i∧p i)→∃ l:List Int,ys=l.map .int∧∀ i∈l,p i
 | [],_=>⟨[],rfl,by simp⟩
 | y::ys,h=>by
  obtain ⟨i,rfl,hi⟩:=h y (by simp)
  obtain ⟨l,rfl,hl⟩:=ints_of (p:=p) (ys:=ys) fun z hz=>h z (by simp [hz])
  exact ⟨i::l,rfl,fun z hz=>by rcases List.mem_cons.1 hz with rfl|hz;exact hi;exact hl z hz⟩
theorem mapR_oinv {f:D→St→R (Option D)}{I:Nat→St→Prop}{P:D→Prop}:∀ {ds:List D} {i:Nat} {st:St},I i st→(∀ j d st,ds[j]?=some d→I (i+j) st→∃ y st',f d st=.ok y st'∧(∀ z,y=some z→P z)∧I (i+j+1) st') →
  ∃ ys st',mapR f ds st=.ok ys st'∧(∀ y∈ys,P y)∧ys.length≤ds.length∧I (i+ds.length) st'
 | [],i,st,h,_=>⟨[],st,rfl,by simp,Nat.le_refl _,h⟩
 | d::ds,i,st,h,hs=>by
  obtain ⟨y,st1,e1,p1,h1⟩:=hs 0 d st rfl h
  obtain ⟨ys,st2,e2,p2,l2,h2⟩:=mapR_oinv (I:=I) (P:=P) (ds:=ds) (i:=i+1) h1 (fun j x st hj hp=>by
   have:=hs (j+1) x st (by simpa using hj) (by rw [show i+(j+1)=i+1+j by omega];exact hp)
   rw [show i+(j+1)+1=i+1+j+1 by omega] at this
   exact this)
  have hI:I (i+(d::ds).length) st2:=by rw [List.length_cons,show i+(ds.length+1)=i+1+ds.length by omega];exact h2
  cases y with
  | none=>exact ⟨ys,st2,by unfold mapR;rw [e1,R.bind_ok,e2,R.bind_ok],p2,by simp;omega,hI⟩
  | some y=>exact ⟨y::ys,st2,by unfold mapR;rw [e1,R.bind_ok,e2,R.bind_ok],fun z hz=>by rcases List.mem_cons.1 hz with rfl|hz;exact p1 _ rfl;exact p2 z hz,by simp;omega,hI⟩
theorem insU_mem {a:Int}:∀ {l:List Int} {x:Int},x∈insU a l→x=a∨x∈l
 | [],x,h=>by simp [insU] at h;exact .inl h
 | b::l,x,h=>by
  unfold insU at h
  split at h
  ·rcases List.mem_cons.1 h with h|h
   ·exact .inl h
   ·exact .inr h
  ·split at h
   ·exact .inr h
   ·rcases List.mem_cons.1 h with h|h
    ·exact .inr (by simp [h])
    ·exact (insU_mem h).imp id fun z=>by simp [z]
theorem sortU_mem:∀ {l:List Int} {x:Int},x∈sortU l→x∈l
 | [],x,h=>by simp [sortU] at h
 | a::l,x,h=>by
  rcases insU_mem h with rfl|h
  ·simp
  ·simp [sortU_mem h]
theorem insU_len (a:Int):∀ l:List Int,(insU a l).length≤l.length+1
 | []=>by simp [insU]
 | b::l=>by
  unfold insU
  split
  ·simp
  ·split
   ·simp
   ·have:=insU_len a l
    simp;omega
theorem sortU_len:∀ l:List Int,(sortU l).length≤l.length
 | []=>by simp [sortU]
 | a::l=>by
  have h1:=insU_len a (sortU l)
  have h2:=sortU_len l
  show (insU a (sortU l)).length≤l.length+1
  omega
abbrev RowA:=Option Int × Int × List Int
def begD:Option Int→D
 | none=>.non
 | some b=>.int b
def rowD (r:RowA):D:=.tup [begD r.1,.int r.2.1,.lst (r.2.2.map .int)]
def StepOk (s:Int):Prop:=s=1∨s=2∨s=3∨s=4∨s=6
structure RowsOk (l:List RowA):Prop where
 hd:∃ r0 l',l=r0::l'∧r0.1=none∧∀ r∈l',∃ b,r.1=some b∧-20≤b∧b≤20
 st:∀ r∈l,StepOk r.2.1
 ln:l.length≤10
structure HRw (X:Prog):Prop extends HCn X where
 f9:H9 X
 f90:H90 X
 f91:H91 X
 f92:H92 X
section
variable {X:Prog}(h:HRw X)
include h
abbrev rowB:Ss:=(.cons (.asg false 3 (.sub (.lst (.cons (.cst (.int 1)) (.cons (.cst (.int 1)) (.cons (.cst (.int 2)) (.cons (.cst (.int 2)) (.cons (.cst (.int 3)) (.cons (.cst (.int 4)) (.cons (.cst (.int 6)) .nil)))))))) (.call 9 (.cons (.loc 0) (.cons (.cst (.int 7)) .nil)))))
 (.cons (.app [] 1 (.tup (.cons (.loc 2) (.cons (.loc 3) (.cons (.lc (.loc 5) (.nm 5) (.rng1 (.loc 3)) (.so (.cmp .eq (.call 9 (.cons (.loc 0) (.cons (.cst (.int 2)) .nil))) (.cst (.int 0)))) [5]) .nil)))))
 .nil))
theorem row_ok (F:List D)(hF:F.length≤100)(d:D)(e3:Slot)(k:Nat){s:Strm}{j:Int}(hs:Ok j s)(hj:j≤2^49) :
  ∃ (sp:Int) (rs:List Int) (s':Strm),evSs (X.cx (k+1)) rowB [.val (.ob 0 []),.own F,.val d,e3,.un,.un] (some s)=.next [.val (.ob 0 []),.own (F++[.tup [d,.int sp,.lst (rs.map .int)]]),.val d,.val (.int sp),.un,.un] (some s')∧StepOk sp∧Ok (j+7) s':=by
 obtain ⟨v,s1,e1,v0,v1,o1⟩:=drw9 h.f9 k (m:=7) hs (by omega) (by decide) (by decide)
 obtain ⟨sp,hsp,hok⟩:∃ sp:Int,ix [D.int 1,.int 1,.int 2,.int 2,.int 3,.int 4,.int 6] v=some (.int sp)∧StepOk sp:=by
  have:v=0∨v=1∨v=2∨v=3∨v=4∨v=5∨v=6:=by omega
  rcases this with rfl|rfl|rfl|rfl|rfl|rfl|rfl
  ·exact ⟨1,rfl,.inl rfl⟩
  ·exact ⟨1,rfl,.inl rfl⟩
  ·exact ⟨2,rfl,.inr (.inl rfl)⟩
  ·exact ⟨2,rfl,.inr (.inl rfl)⟩
  ·exact ⟨3,rfl,.inr (.inr (.inl rfl))⟩
  ·exact ⟨4,rfl,.inr (.inr (.inr (.inl rfl)))⟩
  ·exact ⟨6,rfl,.inr (.inr (.inr (.inr rfl)))⟩
 have hsp6:0≤sp∧sp≤6:=by rcases hok with rfl|rfl|rfl|rfl|rfl<;>omega
 obtain ⟨ys,st2,m1,m2,m3,⟨s2,rfl,o2⟩⟩:=mapR_oinv (f:=lcStep (evE (X.cx (k+1)) (.loc 5)) (evB (X.cx (k+1)) (.so (.cmp .eq (.call 9 (.cons (.loc 0) (.cons (.cst (.int 2)) .nil))) (.cst (.int 0))))) (.nm 5) [5] [.val (.ob 0 []),.own F,.val d,.val (.int sp),.un,.un])
  (ds:=rngI 0 sp) (i:=0) (st:=some s1) (I:=fun i st=>∃ s',st=some s'∧Ok (j+1+i) s') (P:=fun y=>∃ i,y=.int i∧True) ⟨s1,rfl,o1.mono (by omega)⟩ (by
   rintro i d' st' hd ⟨s',rfl,ho⟩
   obtain ⟨hi,rfl⟩:=rng_get hd
   rw [Nat.zero_add] at *
   obtain ⟨w,s3,e3,w0,w1,o3⟩:=drw9 h.f9 k (m:=2) ho (by omega) (by decide) (by decide)
   by_cases hw:w=0
   ·refine ⟨some (.int i),some s3,?_,fun z hz=>⟨i,by cases hz;rfl,trivial⟩,s3,rfl,o3.mono (by omega)⟩
    simp [lcStep,evB,evE,evEs,wipeE,putT,e3,hw]
   ·refine ⟨none,some s3,?_,fun z hz=>by simp at hz,s3,rfl,o3.mono (by omega)⟩
    simp [lcStep,evB,evE,evEs,wipeE,putT,e3,hw])
 obtain ⟨rs,rfl,_⟩:=ints_of m2
 rw [rng_len] at m3 o2
 have hlc:evE (X.cx (k+1)) (.lc (.loc 5) (.nm 5) (.rng1 (.loc 3)) (.so (.cmp .eq (.call 9 (.cons (.loc 0) (.cons (.cst (.int 2)) .nil))) (.cst (.int 0)))) [5]) [.val (.ob 0 []),.own F,.val d,.val (.int sp),.un,.un] (some s1)=.ok (.lst (rs.map .int)) (some s2) :=
  lc_ofq (ev_rng1 (v:=sp) (by simp [evE]) (by omega) (by omega)) m1 (by simp only [line];omega)
 refine ⟨sp,rs,s2,?_,hok,o2.mono (by omega)⟩
 have hA:evS (X.cx (k+1)) (.asg false 3 (.sub (.lst (.cons (.cst (.int 1)) (.cons (.cst (.int 1)) (.cons (.cst (.int 2)) (.cons (.cst (.int 2)) (.cons (.cst (.int 3)) (.cons (.cst (.int 4)) (.cons (.cst (.int 6)) .nil)))))))) (.call 9 (.cons (.loc 0) (.cons (.cst (.int 7)) .nil))))) [.val (.ob 0 []),.own F,.val d,e3,.un,.un] (some s)=.next [.val (.ob 0 []),.own F,.val d,.val (.int sp),.un,.un] (some s1):=by
  simp [evS,evE,evEs,e1,hsp,PL.mk]
 rw [evSs,hA,Q.then_next,evSs]
 generalize E.lc (.loc 5) (.nm 5) (.rng1 (.loc 3)) (.so (.cmp .eq (.call 9 (.cons (.loc 0) (.cons (.cst (.int 2)) .nil))) (.cst (.int 0)))) [5]=eL at *
 have hl:F.length<line:=by simp only [line];omega
 simp [evS,evSs,evE,evEs,hlc,ownAt,hl,freeze]
theorem rows_ok (k:Nat){s:Strm}{j:Int}(hs:Ok j s)(hj:j≤2^48) :
  ∃ (l:List RowA) (s':Strm),run X (k+2) 90 [.ob 0 []] (some s)=.ok (.lst (l.map rowD)) (some s')∧RowsOk l∧Ok (j+30) s':=by
 obtain ⟨v,s1,e1,v0,v1,o1⟩:=drw9 h.f9 k (m:=3) hs (by omega) (by decide) (by decide)
 obtain ⟨ys,st2,m1,m2,m3,⟨s2,rfl,o2⟩⟩:=mapR_inv (f:=lcStep (evE (X.cx (k+1)) (.bin .sub (.call 9 (.cons (.loc 0) (.cons (.cst (.int 41)) .nil))) (.cst (.int 20)))) (evB (X.cx (k+1)) .no) (.nm 4) [4] [.val (.ob 0 []),.own [],.un,.un,.un,.un])
  (ds:=rngI 0 v) (i:=0) (st:=some s1) (I:=fun i st=>∃ s',st=some s'∧Ok (j+1+i) s') (P:=fun y=>∃ i,y=.int i∧(-20≤i∧i≤20)) ⟨s1,rfl,o1.mono (by omega)⟩ (by
   rintro i d' st' hd ⟨s',rfl,ho⟩
   obtain ⟨hi,rfl⟩:=rng_get hd
   rw [Nat.zero_add] at *
   obtain ⟨w,s3,e3,w0,w1,o3⟩:=drw9 h.f9 k (m:=41) ho (by omega) (by decide) (by decide)
   exact ⟨.int (w-20),some s3,by simp [lcStep,evB,evE,evEs,wipeE,putT,e3],⟨w-20,rfl,by omega,by omega⟩,s3,rfl,o3.mono (by omega)⟩)
 obtain ⟨zs,rfl,hz⟩:=ints_of m2
 rw [rng_len] at m3 o2
 rw [List.length_map] at m3
 obtain ⟨eB,hB⟩:∃ eB,eB=rowB:=⟨_,rfl⟩
 have hsl:=sortU_len zs
 have hit:evI (X.cx (k+1)) (.seq (.bin .add (.lst (.cons (.cst .non) .nil)) (.sst (.lc (.bin .sub (.call 9 (.cons (.loc 0) (.cons (.cst (.int 41)) .nil))) (.cst (.int 20))) (.nm 4) (.rng1 (.call 9 (.cons (.loc 0) (.cons (.cst (.int 3)) .nil)))) .no [4])))) [.val (.ob 0 []),.own [],.un,.un,.un,.un] (some s)=.ok (.non::(sortU zs).map .int) (some s2):=by
  have hlc:evE (X.cx (k+1)) (.lc (.bin .sub (.call 9 (.cons (.loc 0) (.cons (.cst (.int 41)) .nil))) (.cst (.int 20))) (.nm 4) (.rng1 (.call 9 (.cons (.loc 0) (.cons (.cst (.int 3)) .nil)))) .no [4]) [.val (.ob 0 []),.own [],.un,.un,.un,.un] (some s)=.ok (.lst (zs.map .int)) (some s2) :=
   lc_ofq (ev_rng1 (v:=v) (by simp [evE,evEs,e1]) v0 (by omega)) m1 (by simp only [line,List.length_map];omega)
  have hss:sstD (.lst (zs.map .int))=some (.lst ((sortU zs).map .int)):=by
   have e:D.ints (zs.map .int)=some zs:=by have:=ints_mapc zs id;simpa using this
   show (D.ints (zs.map .int)).bind _=_
   rw [e]
   exact if_pos (by omega)
  generalize E.lc _ _ _ _ _=eL at *
  have hle:1+(sortU zs).length≤16777216:=by omega
  simp [evI,evE,evEs,hlc,hss,hle,D.walk]
 obtain ⟨env',st',e,⟨F,b2,b3,s',he,hst,ho,hf⟩⟩:=forL_inv (f:=forStep (evSs (X.cx (k+1)) eB) (.nm 2)) (ds:=.non::(sortU zs).map .int) (i:=0)
  (P:=fun i env st'=>∃ (F:List D) (b2 b3:Slot) (s':Strm),env=[.val (.ob 0 []),.own F,b2,b3,.un,.un]∧st'=some s'∧Ok (j+4+7*i) s'∧((i=0∧F=[])∨∃ l,F=l.map rowD∧RowsOk l∧l.length=i)) (env:=[.val (.ob 0 []),.own [],.un,.un,.un,.un]) (st:=some s2) ⟨[],.un,.un,s2,rfl,rfl,o2.mono (by omega),.inl ⟨rfl,rfl⟩⟩ (by
   rintro i d env st' hd ⟨F,b2,b3,s3,rfl,rfl,ho,hf⟩
   rw [Nat.zero_add] at *
   have hi:i<3:=by have:=(List.getElem?_eq_some_iff.1 hd).1;simp at this;omega
   have hF:F.length≤100:=by rcases hf with ⟨_,rfl⟩|⟨l,rfl,_,hl⟩<;>simp<;>omega
   obtain ⟨sp,rs,s4,e4,hok,o4⟩:=row_ok h F hF d b3 k ho (by omega)
   rw [← hB] at e4
   refine ⟨_,some s4,e4,_,_,_,s4,rfl,rfl,o4.mono (by omega),.inr ?_⟩
   rcases hf with ⟨rfl,rfl⟩|⟨l,rfl,hl,hln⟩
   ·have:d=.non:=by simpa using hd.symm
    subst this
    exact ⟨[(none,sp,rs)],rfl,⟨⟨_,[],rfl,rfl,by simp⟩,fun r hr=>by simp at hr;subst hr;exact hok,by simp⟩,rfl⟩
   ·have hi0:0<i:=by obtain ⟨r0,l',rfl,_⟩:=hl.hd;simp at hln;omega
    obtain ⟨i',rfl⟩:∃ i',i=i'+1:=⟨i-1,by omega⟩
    rw [List.getElem?_cons_succ,List.getElem?_map] at hd
    obtain ⟨b,hb,rfl⟩:=Option.map_eq_some_iff.1 hd
    obtain ⟨c1,c2⟩:=hz b (sortU_mem (List.mem_of_getElem? hb))
    refine ⟨l++[(some b,sp,rs)],by simp [rowD,begD],⟨?_,fun r hr=>?_,by simp;omega⟩,by simp [hln]⟩
    ·obtain ⟨r0,l',rfl,h0,h1⟩:=hl.hd
     refine ⟨r0,l'++[(some b,sp,rs)],rfl,h0,fun r hr=>?_⟩
     rcases List.mem_append.1 hr with hr|hr
     ·exact h1 r hr
     ·simp at hr;subst hr;exact ⟨b,rfl,c1,c2⟩
    ·rcases List.mem_append.1 hr with hr|hr
     ·exact hl.st r hr
     ·simp at hr;subst hr;exact hok)
 rw [Nat.zero_add] at hf ho
 obtain ⟨l,rfl,hl,hln⟩:∃ l,F=l.map rowD∧RowsOk l∧l.length=(D.non::(sortU zs).map D.int).length:=by
  rcases hf with ⟨z,_⟩|z
  ·simp at z
  ·exact z
 refine ⟨l,s',?_,hl,ho.mono (by simp only [List.length_cons,List.length_map];omega)⟩
 rw [run_fn h.f90 rfl]
 show outR (evSs (X.cx (k+1)) (.cons (.asg true 1 (.lst .nil)) (.cons (.for_ (.nm 2) (.seq (.bin .add (.lst (.cons (.cst .non) .nil)) (.sst (.lc (.bin .sub (.call 9 (.cons (.loc 0) (.cons (.cst (.int 41)) .nil))) (.cst (.int 20))) (.nm 4) (.rng1 (.call 9 (.cons (.loc 0) (.cons (.cst (.int 3)) .nil)))) .no [4])))) rowB) (.cons (.frz [1]) (.cons (.ret (.loc 1)) .nil)))) _ _)=_
 rw [← hB]
 have e0:evS (X.cx (k+1)) (.asg true 1 (.lst .nil)) (entry 6 [.ob 0 []]) (some s)=.next [.val (.ob 0 []),.own [],.un,.un,.un,.un] (some s):=by
  simp [evS,evE,evEs,entry,PL.mk]
 rw [evSs,e0,Q.then_next,evSs,for_ofq hit,e,he,hst,Q.then_next]
 rfl
def memR (l:List RowA)(x:Int):Bool:=match (l.filter fun r=>match r.1 with|none=>true|some b=>decide (b≤x)).getLast? with
 | some r=>decide (x%r.2.1∈r.2.2)
 | none=>false
theorem has_ints (v:Int)(l:List Int):D.has (.int v) (.lst (l.map .int))=some (decide (v∈l)):=by
 rw [q_hasL]
 have e1:(l.map D.int).all D.shaped=true:=by
  rw [List.all_eq_true]
  intro d hd
  obtain ⟨i,_,rfl⟩:=List.mem_map.1 hd
  rfl
 rw [e1]
 show some _=_
 congr 1
 rw [List.any_map,Bool.eq_iff_iff,List.any_eq_true]
 simp only [decide_eq_true_eq,Function.comp]
 constructor
 ·rintro ⟨i,hi,e⟩
  have:i=v:=by simpa [D.eqv] using e
  rw [← this];exact hi
 ·intro hv
  exact ⟨v,hv,by simp [D.eqv]⟩
theorem member_ok {l:List RowA}(hl:RowsOk l)(x:Int)(k:Nat)(st:St):run X (k+1) 91 [.lst (l.map rowD),.int x] st=.ok (.bl (memR l x)) st:=by
 have hlc:evE (X.cx k) (.lc (.loc 5) (.nm 5) (.seq (.loc 0)) (.so (.or (.isn (.sub (.loc 5) (.cst (.int 0)))) (.cmp .le (.sub (.loc 5) (.cst (.int 0))) (.loc 1)))) [5]) [.val (.lst (l.map rowD)),.val (.int x),.un,.un,.un,.un] st=.ok (.lst ((l.filter fun r=>match r.1 with|none=>true|some b=>decide (b≤x)).map rowD)) st:=by
  refine (lc_ofq (ds:=l.map rowD) (st1:=st) (by simp [evI,evE,D.walk]) (mapR_opt (g:=fun r:RowA=>if (match r.1 with|none=>true|some b=>decide (b≤x)) then some (rowD r) else none) fun r hr=>?_) ?_).trans ?_
  ·obtain ⟨b,sp,rs⟩:=r
   cases b with
   | none=>simp [lcStep,evB,evE,wipeE,putT,rowD,begD,show D.non.isN=true from rfl]
   | some b=>by_cases hb:b≤x<;>simp [lcStep,evB,evE,wipeE,putT,rowD,begD,hb,show (D.int b).isN=false from rfl]
  ·have:=List.length_filterMap_le (fun r:RowA=>if (match r.1 with|none=>true|some b=>decide (b≤x)) then some (rowD r) else none) l
   have:=hl.ln
   simp only [line];omega
  ·rw [fm_if]
 obtain ⟨r0,l',rfl,h0,h1⟩:=hl.hd
 have hne:∃ init z,((r0::l').filter fun r=>match r.1 with|none=>true|some b=>decide (b≤x))=init++[z]∧z∈r0::l':=by
  have:((r0::l').filter fun r=>match r.1 with|none=>true|some b=>decide (b≤x))≠[]:=by
   rw [List.filter_cons,if_pos (by rw [h0])];simp
  refine ⟨_,_,(List.dropLast_concat_getLast this).symm,?_⟩
  exact (List.mem_filter.1 (List.getLast_mem this)).1
 obtain ⟨init,z,hz,hzm⟩:=hne
 have hs:=hl.st z hzm
 have hm:memR (r0::l') x=decide (x%z.2.1∈z.2.2):=by unfold memR;rw [hz];simp
 rw [hm]
 rw [hz] at hlc
 have hh:=has_ints h (x%z.2.1) z.2.2
 have hq:=modQ (i:=x) (s:=z.2.1) (by rcases hs with e|e|e|e|e<;>omega)
 obtain ⟨b,sp,rs⟩:=z
 rw [run_fn h.f91 rfl]
 have hi:ix ((init++[(b,sp,rs)]).map rowD) (-1)=some (rowD (b,sp,rs)):=by rw [List.map_append];exact ixm1 _ _
 simp only at hh hq
 have hA:evS (X.cx k) (.asgT (.tp (.cons (.nm 2) (.cons (.nm 3) (.cons (.nm 4) .nil)))) (.sub (.lc (.loc 5) (.nm 5) (.seq (.loc 0)) (.so (.or (.isn (.sub (.loc 5) (.cst (.int 0)))) (.cmp .le (.sub (.loc 5) (.cst (.int 0))) (.loc 1)))) [5]) (.neg (.cst (.int 1))))) [.val (.lst ((r0::l').map rowD)),.val (.int x),.un,.un,.un,.un] st
   = .next [.val (.lst ((r0::l').map rowD)),.val (.int x),.val (begD b),.val (.int sp),.val (.lst (rs.map .int)),.un] st:=by
  generalize E.lc _ _ _ _ _=eL at *
  have q:evE (X.cx k) (.sub eL (.neg (.cst (.int 1)))) [.val (.lst ((r0::l').map rowD)),.val (.int x),.un,.un,.un,.un] st=.ok (rowD (b,sp,rs)) st:=by
   generalize (init++[(b,sp,rs)]).map rowD=Z at *
   generalize rowD (b,sp,rs)=zD at *
   generalize (r0::l').map rowD=L at *
   simp [evE,hlc,hi]
  rw [evS,q,R.use_ok]
  rfl
 have hB:evS (X.cx k) (.ret (.cmp .inn (.bin .mod (.loc 1) (.loc 3)) (.loc 4))) [.val (.lst ((r0::l').map rowD)),.val (.int x),.val (begD b),.val (.int sp),.val (.lst (rs.map .int)),.un] st=.ret (.bl (decide (x%sp∈rs))) st:=by
  generalize D.lst (rs.map .int)=RL at *
  generalize (r0::l').map rowD=L at *
  simp [evS,evE,hq,hh]
 show outR (evSs (X.cx k) (.cons _ (.cons _ .nil)) [.val (.lst ((r0::l').map rowD)),.val (.int x),.un,.un,.un,.un] st)=_
 rw [evSs,hA,Q.then_next,evSs,hB]
 rfl
theorem near_ok {l:List RowA}(hl:RowsOk l)(k:Nat)(st:St):run X (k+2) 92 [.lst (l.map rowD)] st=.ok (.lst (nb fun i=>memR l (i-400))) st:=by
 have er:rngI (-400) 400=(List.range 800).map fun k:Nat=>D.int (-400+k):=rfl
 have hlc:evE (X.cx (k+1)) (.lc (.call 91 (.cons (.loc 0) (.cons (.loc 1) .nil))) (.nm 1) (.rng2 (.neg (.cst (.int 400))) (.cst (.int 400))) .no [1]) [.val (.lst (l.map rowD)),.un] st=.ok (.lst (nb fun i=>memR l (i-400))) st:=by
  refine (lc_ofq (ds:=(List.range 800).map fun k:Nat=>D.int (-400+k)) (st1:=st) (by rw [← er];simp [evI,evE,rngD,show okR (-400)=true by decide,show okR 400=true by decide]) (mapR_of (g:=fun k:Nat=>D.bl (memR l ((k:Int)-400))) fun i hi=>?_) (by simp)).trans rfl
  have e:=member_ok h hl (-400+(i:Int)) k st
  rw [show -400+(i:Int)=i-400 by omega] at e ⊢
  generalize l.map rowD=L at *
  generalize (i:Int)-400=z at *
  simp [lcStep,evB,evE,evEs,wipeE,putT,e]
 rw [run_fn h.f92 rfl]
 have hB:evS (X.cx (k+1)) (.ret (.lc (.call 91 (.cons (.loc 0) (.cons (.loc 1) .nil))) (.nm 1) (.rng2 (.neg (.cst (.int 400))) (.cst (.int 400))) .no [1])) [.val (.lst (l.map rowD)),.un] st=.ret (.lst (nb fun i=>memR l (i-400))) st:=by
  rw [evS,hlc,R.use_ok]
 show outR (evSs (X.cx (k+1)) (.cons _ .nil) [.val (.lst (l.map rowD)),.un] st)=_
 rw [evSs,hB]
 rfl
end
theorem step_mod {s:Int}(h:StepOk s)(x:Int):(x+12)%s=x%s:=by
 rcases h with rfl|rfl|rfl|rfl|rfl<;>omega
theorem memR_same {l:List RowA}(hl:RowsOk l){x y:Int}(hf:∀ r∈l,(match r.1 with|none=>true|some b=>decide (b≤x))=(match r.1 with|none=>true|some b=>decide (b≤y)))(hm:∀ s,StepOk s→x%s=y%s):memR l x=memR l y:=by
 unfold memR
 rw [List.filter_congr hf]
 split
 ·rename_i r hr
  have hrm:=(List.mem_filter.1 (List.mem_of_getLast? hr)).1
  rw [hm _ (hl.st r hrm)]
 ·rfl
theorem begs {l:List RowA}(hl:RowsOk l):∀ r∈l,∀ b,r.1=some b→-20≤b∧b≤20:=by
 obtain ⟨r0,l',rfl,h0,h1⟩:=hl.hd
 intro r hr b hb
 rcases List.mem_cons.1 hr with rfl|hr
 ·rw [h0] at hb;cases hb
 ·obtain ⟨b',e,h2⟩:=h1 r hr
  rw [e] at hb
  cases hb
  exact h2
def nrR (l:List RowA)(hl:RowsOk l):Nr where
 g:=fun i=>memR l (i-400)
 P:=12
 p0:=by decide
 p1:=by decide
 hL:=fun k hk=>by
  refine memR_same hl (fun r hr=>?_) fun s hs=>by rw [show k+((12:Nat):Int)-400=k-400+12 by omega,step_mod hs]
  cases e:r.1 with
  | none=>rfl
  | some b =>
   have:=begs hl r hr b e
   simp only
   rw [decide_eq_false (by omega),decide_eq_false (by omega)]
 hR:=fun k hk=>by
  refine memR_same hl (fun r hr=>?_) fun s hs=>by rw [show k+((12:Nat):Int)-400=k-400+12 by omega,step_mod hs]
  cases e:r.1 with
  | none=>rfl
  | some b =>
   have:=begs hl r hr b e
   simp only
   rw [decide_eq_true (by omega),decide_eq_true (by omega)]
end LT
end
section
namespace LT
open PL LB
theorem insI_mem {a x:Int}:∀ {l:List Int},x∈insI a l↔x=a∨x∈l
 | []=>by simp [insI]
 | b::l=>by
  unfold insI
  split
  ·simp
  ·rw [List.mem_cons,insI_mem,List.mem_cons]
   constructor
   ·rintro (h|h|h)
    ·exact .inr (.inl h)
    ·exact .inl h
    ·exact .inr (.inr h)
   ·rintro (h|h|h)
    ·exact .inr (.inl h)
    ·exact .inl h
    ·exact .inr (.inr h)
theorem sortI_mem {x:Int}:∀ {l:List Int},x∈sortI l↔x∈l
 | []=>Iff.rfl
 | a::l=>by
  show x∈insI a (sortI l)↔_
  rw [insI_mem,sortI_mem,List.mem_cons]
theorem insI_lt {a:Int}:∀ {l:List Int},l.Pairwise (· < ·)→a∉l→(insI a l).Pairwise (· < ·)
 | [],_,_=>by simp [insI]
 | b::l,h,ha=>by
  rw [List.pairwise_cons] at h
  simp only [List.mem_cons,not_or] at ha
  unfold insI
  split
  ·rename_i hab
   rw [List.pairwise_cons,List.pairwise_cons]
   refine ⟨fun c hc=>?_,h⟩
   rcases List.mem_cons.1 hc with rfl|hc
   ·have:=ha.1;omega
   ·have:=h.1 c hc;omega
  ·rename_i hab
   rw [List.pairwise_cons]
   refine ⟨fun c hc=>?_,insI_lt h.2 ha.2⟩
   rcases insI_mem.1 hc with rfl|hc
   ·omega
   ·exact h.1 c hc
theorem sortI_lt:∀ {l:List Int},l.Nodup→(sortI l).Pairwise (· < ·)
 | [],_=>.nil
 | a::l,h=>by
  rw [List.nodup_cons] at h
  exact insI_lt (sortI_lt h.2) fun z=>h.1 (sortI_mem.1 z)
theorem asc_ext:∀ {l m:List Int},l.Pairwise (· < ·)→m.Pairwise (· < ·)→(∀ x,x∈l↔x∈m)→l=m
 | [],[],_,_,_=>rfl
 | [],b::m,_,_,h=>absurd ((h b).2 (by simp)) (by simp)
 | a::l,[],_,_,h=>absurd ((h a).1 (by simp)) (by simp)
 | a::l,b::m,h1,h2,h=>by
  rw [List.pairwise_cons] at h1 h2
  have e:a=b:=by
   rcases List.mem_cons.1 ((h a).1 (by simp)) with z|z
   ·exact z
   ·rcases List.mem_cons.1 ((h b).2 (by simp)) with y|y
    ·exact y.symm
    ·have:=h2.1 a z
     have:=h1.1 b y
     omega
  subst e
  congr 1
  refine asc_ext h1.2 h2.2 fun x=>⟨fun hx=>?_,fun hx=>?_⟩
  ·rcases List.mem_cons.1 ((h x).1 (by simp [hx])) with z|z
   ·have:=h1.1 x hx;omega
   ·exact z
  ·rcases List.mem_cons.1 ((h x).2 (by simp [hx])) with z|z
   ·have:=h2.1 x hx;omega
   ·exact z
def mvR (s:Nat)(v:Int)(rs:List Int):List Int:=sortI (rs.map fun r=>(r+v)%s)
def shf (f:SF)(v:Int):SF:=⟨f.s,mvR f.s v f.r0,f.F.map fun p=>(p.1+v,mvR f.s v p.2)⟩
def RsOk (s:Nat)(rs:List Int):Prop:=rs.Pairwise (· < ·)∧∀ x∈rs,0≤x∧x<s
theorem mvR_mem {s:Nat}(h1:1≤s){rs:List Int}(h:RsOk s rs)(v x:Int):(x+v)%s∈mvR s v rs↔x%s∈rs:=by
 unfold mvR
 rw [sortI_mem,List.mem_map]
 constructor
 ·rintro ⟨r,hr,e⟩
  obtain ⟨r0,r1⟩:=h.2 r hr
  have c:Cg s (r+v) (x+v):=((Cg.mod s (r+v)).trans (by rw [e];exact ⟨0,by simp⟩)).trans (Cg.mod s (x+v)).symm
  have c2:=(c.add (-v)).emod
  rw [show r+v+-v=r by omega,show x+v+-v=x by omega,Int.emod_eq_of_lt r0 r1] at c2
  rw [← c2]
  exact hr
 ·intro hx
  refine ⟨x%s,hx,?_⟩
  exact ((Cg.mod s x).symm.add v).emod
theorem mvR_ok {s:Nat}(h1:1≤s){rs:List Int}(h:RsOk s rs)(v:Int):RsOk s (mvR s v rs):=by
 refine ⟨sortI_lt ?_,fun x hx=>?_⟩
 ·rw [List.nodup_iff_pairwise_ne,List.pairwise_map]
  refine h.1.imp_of_mem fun {a b} ha hb hab e=>?_
  obtain ⟨a0,a1⟩:=h.2 a ha
  obtain ⟨b0,b1⟩:=h.2 b hb
  have c:Cg s (a+v) (b+v):=((Cg.mod s (a+v)).trans (by rw [e];exact ⟨0,by simp⟩)).trans (Cg.mod s (b+v)).symm
  have c2:=(c.add (-v)).emod
  rw [show a+v+-v=a by omega,show b+v+-v=b by omega,Int.emod_eq_of_lt a0 a1,Int.emod_eq_of_lt b0 b1] at c2
  omega
 ·unfold mvR at hx
  rw [sortI_mem,List.mem_map] at hx
  obtain ⟨r,_,rfl⟩:=hx
  exact mod_lt' h1 _
theorem mvR_mvR {s:Nat}(h1:1≤s){rs:List Int}(h:RsOk s rs)(v w:Int):mvR s w (mvR s v rs)=mvR s (v+w) rs:=by
 refine asc_ext (mvR_ok h1 (mvR_ok h1 h v) w).1 (mvR_ok h1 h (v+w)).1 fun x=>?_
 have k1:=mvR_ok h1 (mvR_ok h1 h v) w
 have k2:=mvR_ok h1 h (v+w)
 have m1:=mvR_mem h1 (mvR_ok h1 h v) w (x-w)
 have m2:=mvR_mem h1 h v (x-w-v)
 have m3:=mvR_mem h1 h (v+w) (x-w-v)
 rw [show x-w+w=x by omega] at m1
 rw [show x-w-v+v=x-w by omega] at m2
 rw [show x-w-v+(v+w)=x by omega] at m3
 constructor
 ·intro hx
  obtain ⟨x0,x1⟩:=k1.2 x hx
  rw [Int.emod_eq_of_lt x0 x1] at m1 m3
  exact m3.2 (m2.1 (m1.1 hx))
 ·intro hx
  obtain ⟨x0,x1⟩:=k2.2 x hx
  rw [Int.emod_eq_of_lt x0 x1] at m1 m3
  exact m1.2 (m2.2 (m3.1 hx))
theorem mvR_zero {s:Nat}(h1:1≤s){rs:List Int}(h:RsOk s rs):mvR s 0 rs=rs:=by
 refine asc_ext (mvR_ok h1 h 0).1 h.1 fun x=>?_
 have m:=mvR_mem h1 h 0 x
 rw [Int.add_zero] at m
 constructor
 ·intro hx
  obtain ⟨x0,x1⟩:=(mvR_ok h1 h 0).2 x hx
  rw [Int.emod_eq_of_lt x0 x1] at m
  exact m.1 hx
 ·intro hx
  obtain ⟨x0,x1⟩:=h.2 x hx
  rw [Int.emod_eq_of_lt x0 x1] at m
  exact m.2 hx
theorem shf_shf {f:SF}(h:f.Ok)(v w:Int):shf (shf f v) w=shf f (v+w):=by
 unfold shf
 simp only [List.map_map]
 congr 1
 ·exact mvR_mvR h.s0 h.r0 v w
 ·refine List.map_congr_left fun p hp=>?_
  simp only [Function.comp]
  rw [mvR_mvR h.s0 (h.rs p hp) v w]
  congr 1
  omega
theorem shf_zero {f:SF}(h:f.Ok):shf f 0=f:=by
 unfold shf
 rw [mvR_zero h.s0 h.r0]
 have:(f.F.map fun p=>(p.1+0,mvR f.s 0 p.2))=f.F:=by
  conv=>rhs;rw [← List.map_id f.F]
  refine List.map_congr_left fun p hp=>?_
  rw [mvR_zero h.s0 (h.rs p hp),Int.add_zero]
  rfl
 rw [this]
theorem shf_ok {f:SF}(h:f.Ok)(v:Int):(shf f v).Ok where
 s0:=h.s0
 s1:=h.s1
 r0:=mvR_ok h.s0 h.r0 v
 rs:=fun p hp=>by
  obtain ⟨q,hq,rfl⟩:=List.mem_map.1 hp
  exact mvR_ok h.s0 (h.rs q hq) v
 bs:=by
  have:=h.bs
  show ((f.F.map fun p=>(p.1+v,mvR f.s v p.2)).map (·.1)).Pairwise (· < ·)
  rw [List.map_map,List.pairwise_map]
  rw [List.pairwise_map] at this
  exact this.imp fun h=>by simp only [Function.comp];omega
 few:=by simpa [shf] using h.few
theorem look_shf {s:Nat}(v x:Int):∀ (F:List (Int × List Int)) (r0:List Int),look (mvR s v r0) (F.map fun p=>(p.1+v,mvR s v p.2)) (x+v)=mvR s v (look r0 F x)
 | [],_=>rfl
 | p::F,r0=>by
  rw [List.map_cons,look,look]
  by_cases z:p.1≤x
  ·rw [if_pos (by simp only;omega),if_pos z];exact look_shf v x F p.2
  ·rw [if_neg (by simp only;omega),if_neg z]
theorem look_ok {f:SF}(h:f.Ok)(x:Int):RsOk f.s (look f.r0 f.F x):=by
 have:∀ (F:List (Int × List Int)) (r0:List Int),RsOk f.s r0→(∀ p∈F,RsOk f.s p.2)→RsOk f.s (look r0 F x):=by
  intro F
  induction F with
  | nil=>intro r0 h0 _;exact h0
  | cons p F ih =>
   intro r0 h0 hp
   rw [look]
   split
   ·exact ih p.2 (hp p (by simp)) fun q hq=>hp q (by simp [hq])
   ·exact h0
 exact this f.F f.r0 h.r0 h.rs
theorem shf_mem {f:SF}(h:f.Ok)(v x:Int):(shf f v).mem (x+v)↔f.mem x:=by
 unfold SF.mem shf
 simp only
 rw [look_shf,mvR_mem h.s0 (look_ok h x)]
end LT
end
section
namespace LT
open PL LB
abbrev St2:=Option Int × List Int
def stoD (p:St2):D:=.tup [begD p.1,irD p.2]
def strR (f:SF):List St2:=(none,f.r0)::f.F.map fun p=>(some p.1,p.2)
theorem strs_D (f:SF):(strR f).map stoD=formL f:=by
 unfold strR formL
 rw [List.map_cons,List.map_map]
 rfl
def mvP (s:Nat)(v:Int)(p:St2):St2:=(p.1.map (·+v),mvR s v p.2)
theorem strs_shf (f:SF)(v:Int):strR (shf f v)=(strR f).map (mvP f.s v):=by
 unfold strR shf
 rw [List.map_cons,List.map_map,List.map_map]
 rfl
structure HSh (X:Prog):Prop extends HRw X where
 f94:H94 X
abbrev mLc:E:=.lc (.bin .mod (.bin .add (.loc 6) (.loc 1)) (.loc 2)) (.nm 6) (.seq (.loc 5)) .no [6]
abbrev mB (e:E):Ss:=(.cons (.app [] 3 (.tup (.cons (.ifx (.isn (.loc 4)) (.cst .non) (.bin .add (.loc 4) (.loc 1))) (.cons (.tof (.bi .sorted (.cons e .nil))) .nil)))) .nil)
theorem ints_sorted (l:List Int):sortedD [.lst (l.map .int)]=some (.lst ((sortI l).map .int)):=by
 have e:D.ints (l.map .int)=some l:=by have:=ints_mapc l id;simpa using this
 show (match D.ints (l.map D.int) with|some l=>some (D.lst ((sortI l).map .int))|none=>if D.sorts (l.map D.int) then some (.lst ((l.map D.int).mergeSort fun a b=>!D.ltN b a)) else none)=_
 rw [e]
theorem mv_row {cx:Ctx}{s:Nat}(h1:1≤s)(a0:Slot)(v:Int)(F:List D)(hF:F.length≤100000)(p:St2)(hp:p.2.length≤100000)(e4 e5 e6:Slot)(st:St) :
  forStep (evSs cx (mB mLc)) (.tp (.cons (.nm 4) (.cons (.nm 5) .nil))) (stoD p) [a0,.val (.int v),.val (.int s),.own F,e4,e5,e6] st=.next [a0,.val (.int v),.val (.int s),.own (F++[stoD (mvP s v p)]),.val (begD p.1),.val (irD p.2),e6] st:=by
 obtain ⟨b,rs⟩:=p
 have hp':rs.length≤100000:=hp
 have hl:evE cx mLc [a0,.val (.int v),.val (.int s),.own F,.val (begD b),.val (irD rs),e6] st=.ok (.lst ((rs.map fun r=>(r+v)%s).map .int)) st:=by
  refine (lc_ofq (ds:=rs.map .int) (st1:=st) (by simp [evI,evE,irD,D.walk]) (mapR_of (g:=fun r:Int=>D.int ((r+v)%s)) fun r hr=>?_) (by simp only [line,List.length_map];omega)).trans (by rw [List.map_map];rfl)
  have hq:=modQ (i:=r+v) (show (1:Int)≤s by omega)
  simp [lcStep,evB,evE,wipeE,putT,hq]
 have hs:=ints_sorted (rs.map fun r=>(r+v)%s)
 have q1:evE cx (.tof (.bi .sorted (.cons mLc .nil))) [a0,.val (.int v),.val (.int s),.own F,.val (begD b),.val (irD rs),e6] st=.ok (irD (mvR s v rs)) st:=by
  generalize mLc=eL at *
  generalize D.lst ((rs.map fun r=>(r+v)%s).map .int)=L at *
  have hs':biD cx.shown .sorted [L]=some (.lst ((sortI (rs.map fun r=>(r+v)%s)).map .int)):=hs
  rw [evE,evE,evEs,hl,R.bind_ok,evEs,R.bind_ok,R.bind_ok,hs',R.lift_some,R.bind_ok]
  rfl
 have q2:evE cx (.ifx (.isn (.loc 4)) (.cst .non) (.bin .add (.loc 4) (.loc 1))) [a0,.val (.int v),.val (.int s),.own F,.val (begD b),.val (irD rs),e6] st=.ok (begD (b.map (·+v))) st:=by
  cases b with
  | none=>simp [evE,begD,show D.non.isN=true from rfl]
  | some b=>simp [evE,begD,show (D.int b).isN=false from rfl]
 have q3:evEs cx (.cons (.ifx (.isn (.loc 4)) (.cst .non) (.bin .add (.loc 4) (.loc 1))) (.cons (.tof (.bi .sorted (.cons mLc .nil))) .nil)) [a0,.val (.int v),.val (.int s),.own F,.val (begD b),.val (irD rs),e6] st=.ok [begD (b.map (·+v)),irD (mvR s v rs)] st:=by
  rw [evEs,q2,R.bind_ok,evEs,q1,R.bind_ok,evEs,R.bind_ok,R.bind_ok]
 have q4:evE cx (.tup (.cons (.ifx (.isn (.loc 4)) (.cst .non) (.bin .add (.loc 4) (.loc 1))) (.cons (.tof (.bi .sorted (.cons mLc .nil))) .nil))) [a0,.val (.int v),.val (.int s),.own F,.val (begD b),.val (irD rs),e6] st=.ok (stoD (mvP s v (b,rs))) st:=by
  rw [evE,q3,R.bind_ok]
  exact if_pos (show 2≤16777216 by decide)
 show evSs cx (mB mLc) [a0,.val (.int v),.val (.int s),.own F,.val (begD b),.val (irD rs),e6] st=_
 rw [evSs,app_nil (ds:=F) rfl q4 (by simp only [line];omega),Q.then_next,evSs]
 rfl
theorem mv_rows {cx:Ctx}{s:Nat}(h1:1≤s)(a0:Slot)(v:Int)(st:St):∀ (l:List St2) (F:List D) (e4 e5 e6:Slot),F.length+l.length≤100000→(∀ p∈l,p.2.length≤100000) →
  ∃ b4 b5,forL (forStep (evSs cx (mB mLc)) (.tp (.cons (.nm 4) (.cons (.nm 5) .nil)))) (l.map stoD) [a0,.val (.int v),.val (.int s),.own F,e4,e5,e6] st=.next [a0,.val (.int v),.val (.int s),.own (F++(l.map (mvP s v)).map stoD),b4,b5,e6] st
 | [],F,e4,e5,e6,_,_=>⟨e4,e5,by simp [forL]⟩
 | p::l,F,e4,e5,e6,hl,hp=>by
  rw [List.length_cons] at hl
  have e:=mv_row (cx:=cx) h1 a0 v F (by omega) p (hp p (by simp)) e4 e5 e6 st
  obtain ⟨b4,b5,e2⟩:=mv_rows h1 a0 v st l (F++[stoD (mvP s v p)]) (.val (begD p.1)) (.val (irD p.2)) e6 (by simp;omega) fun q hq=>hp q (by simp [hq])
  refine ⟨b4,b5,?_⟩
  rw [List.map_cons,forL,e]
  simp only
  rw [e2,List.map_cons,List.map_cons,List.append_assoc]
  rfl
theorem rs_len {s:Nat}{rs:List Int}(h:RsOk s rs):rs.length≤s:=by
 have key:∀ (l:List Int) (a:Int),l.Pairwise (· < ·)→(∀ x∈l,a≤x∧x<s)→(l.length:Int)≤max 0 (s-a):=by
  intro l
  induction l with
  | nil=>intro a _ _;simp;omega
  | cons b l ih =>
   intro a h1 h2
   rw [List.pairwise_cons] at h1
   have hb:=h2 b (by simp)
   have:=ih (b+1) h1.2 fun x hx=>⟨by have:=h1.1 x hx;omega,(h2 x (by simp [hx])).2⟩
   rw [List.length_cons]
   omega
 have:=key rs 0 h.1 h.2
 omega
theorem strs_small {f:SF}(h:f.Ok):(strR f).length≤721∧∀ p∈strR f,p.2.length≤72:=by
 have hs:=h.s1
 refine ⟨?_,fun p hp=>?_⟩
 ·have:=h.few
  have h2:f.F.length+1≤720:=Nat.le_trans (Nat.le_mul_of_pos_right _ h.s0) this
  unfold strR
  rw [List.length_cons,List.length_map]
  omega
 ·unfold strR at hp
  rcases List.mem_cons.1 hp with rfl|hp
  ·have:=rs_len h.r0;simp only;omega
  ·obtain ⟨q,hq,rfl⟩:=List.mem_map.1 hp
   have:=rs_len (h.rs q hq);simp only;omega
theorem shifted_ok {X:Prog}(h:HSh X){f:SF}(hf:f.Ok)(v:Int)(k:Nat)(st:St):run X (k+1) 94 [formD f,.int v] st=.ok (formD (shf f v)) st:=by
 obtain ⟨s1,s2⟩:=strs_small hf
 obtain ⟨b4,b5,e⟩:=mv_rows (cx:=X.cx k) hf.s0 (.val (formD f)) v st (strR f) [] .un .un .un (by simp only [List.length_nil];omega) fun p hp=>by have:=s2 p hp;omega
 rw [strs_D,List.nil_append,← strs_shf,strs_D] at e
 obtain ⟨eB,hB⟩:∃ eB,eB=mB mLc:=⟨_,rfl⟩
 rw [← hB] at e
 rw [run_fn h.f94 rfl]
 show outR (evSs (X.cx k) (.cons (.asgT2 false true 2 3 (.sub (.loc 0) (.cst (.int 0))) (.lst .nil)) (.cons (.for_ (.tp (.cons (.nm 4) (.cons (.nm 5) .nil))) (.seq (.sub (.loc 0) (.cst (.int 1)))) (mB mLc)) (.cons (.frz [3]) (.cons (.ret (.tup (.cons (.loc 2) (.cons (.tof (.loc 3)) .nil)))) .nil)))) [.val (formD f),.val (.int v),.un,.un,.un,.un,.un] st)=_
 rw [← hB]
 have hA:evS (X.cx k) (.asgT2 false true 2 3 (.sub (.loc 0) (.cst (.int 0))) (.lst .nil)) [.val (formD f),.val (.int v),.un,.un,.un,.un,.un] st=.next [.val (formD f),.val (.int v),.val (.int f.s),.own [],.un,.un,.un] st:=by
  unfold formD
  generalize formL f=L at *
  simp [evS,evE,evEs,PL.mk]
 have hI:evI (X.cx k) (.seq (.sub (.loc 0) (.cst (.int 1)))) [.val (formD f),.val (.int v),.val (.int f.s),.own [],.un,.un,.un] st=.ok (formL f) st:=by
  unfold formD
  generalize formL f=L at *
  simp [evI,evE,D.walk]
 rw [evSs,hA,Q.then_next,evSs,for_ofq hI,e,Q.then_next]
 unfold formD
 show _=R.ok (D.tup [.int f.s,.tup (formL (shf f v))]) st
 generalize formL (shf f v)=L at *
 simp [evSs,evS,evE,evEs,freeze,frz1,Slot.frz,D.items]
structure HPl (X:Prog):Prop extends HSh X where
 f69:H69 X
 f95:H95 X
theorem drwB9 {X:Prog}(h:H9 X)(k:Nat){s:Strm}{j m:Int}(hs:Ok j s)(hj:j≤2^50)(hm:0<m)(hm2:divOk m=true):∃ v s',run X (k+1) 9 [.ob 0 [],.int m] (some s)=.ok (.int v) (some s')∧0≤v∧v<m∧Ok (j+1) s':=by
 obtain ⟨h0,h1,h3⟩:=hs
 obtain ⟨v,s',e,v0,v1,⟨o1,o2⟩,hb⟩:=draw_any (X:=X) (f:=9) h k s hm hm2 (by omega) (by omega)
 exact ⟨v,s',e,v0,v1,⟨by omega,by omega,by omega⟩⟩
theorem place_ok {X:Prog}(h:HPl X)(k:Nat){s:Strm}{j:Int}(hs:Ok j s)(hj:j≤2^49) :
  ∃ v s',run X (k+3) 95 [.ob 0 []] (some s)=.ok (.int v) (some s')∧v.natAbs≤10^17∧Ok (j+4) s':=by
 obtain ⟨a,s1,e1,a0,a1,o1⟩:=drwB9 h.f9 (k+1) (m:=2000000000) hs (by omega) (by decide) (by decide)
 obtain ⟨b,s2,e2,b0,b1,o2⟩:=drw9 h.f9 (k+1) (m:=61) o1 (by omega) (by decide) (by decide)
 obtain ⟨c,s3,e3,c0,c1,o3⟩:=drw9 h.f9 k (m:=5) o2 (by omega) (by decide) (by decide)
 obtain ⟨d,s4,e4,d0,d1,o4⟩:=drw9 h.f9 (k+1) (m:=4) o3 (by omega) (by decide) (by decide)
 obtain ⟨w,hw,w1⟩:=ix_mem (l:=[1000000000000,-1000000000000,100000000000000000,-100000000000000000,a-1000000000]) (P:=fun v=>v.natAbs≤10^17) (by
  intro v hv
  simp only [List.mem_cons,List.not_mem_nil,or_false] at hv
  rcases hv with rfl|rfl|rfl|rfl|rfl<;>first|decide|omega) c0 (by simpa using c1)
 obtain ⟨u,hu,u1⟩:=ix_mem (l:=[0,0,b-30,w]) (P:=fun v=>v.natAbs≤10^17) (by
  intro v hv
  simp only [List.mem_cons,List.not_mem_nil,or_false] at hv
  rcases hv with rfl|rfl|rfl|rfl<;>first|decide|omega) d0 (by simpa using d1)
 refine ⟨u,s4,?_,u1,o4.mono (by omega)⟩
 simp only [List.map_cons,List.map_nil] at hw hu
 have ep:run X (k+2) 69 [.ob 0 [],.lst [.int 1000000000000,.int (-1000000000000),.int 100000000000000000,.int (-100000000000000000),.int (a-1000000000)]] (some s2)=.ok (.int w) (some s3):=by
  rw [run_fn h.f69 rfl]
  generalize D.int 1000000000000=z1 at *
  generalize D.int (-1000000000000)=z2 at *
  generalize D.int 100000000000000000=z3 at *
  generalize D.int (-100000000000000000)=z4 at *
  generalize D.int (a-1000000000)=z5 at *
  simp [f69,evSs,evS,evE,evEs,entry,e3,hw]
 rw [run_fn h.f95 rfl]
 simp [f95,evSs,evS,evE,evEs,entry,e1,e2,e4,ep,hu,show mulOk 2 1000000000=true by decide]
end LT
end
section
namespace LT
def cnm (p:Int→Bool)(a:Int):Nat→Nat
 | 0=>0
 | n+1=>cnm p a n+(if p (a+n) then 1 else 0)
def num (p:Int→Bool)(lo hi:Int):Nat:=cnm p lo (hi-lo+1).toNat
end LT
end
section
namespace LT
open PL LB
def nxt:List St2→Option Int
 | []=>none
 | p::_=>p.1
theorem divQ {i s:Int}(h:1≤s)(h2:s≤100):bop .div (.int i) (.int s)=some (.int (i/s)):=by
 show (if divOk s then some (D.int (i.fdiv s)) else none)=_
 have:divOk s=true:=by unfold divOk;simp;left;omega
 rw [if_pos this,Int.fdiv_eq_ediv_of_nonneg _ (by omega)]
def items:List St2→List D
 | []=>[]
 | p::r=>.tup [.tup [begD p.1,begD (nxt r)],stoD p]::items r
section
end
end LT
end
section
namespace LT
open PL LB
structure HHs (X:Prog):Prop where
 f87:H87 X
 f88:H88 X
theorem look_ix {x:Int}:∀ (F:List (Int × List Int)) (b:Option Int) (r0:List Int) (i:Nat),(F.map (·.1)).Pairwise (· < ·)→i≤F.length→(∀ p,0<i→F[i-1]?=some p→p.1≤x)→(∀ p,F[i]?=some p→x<p.1) →
  ∃ q:St2,((b,r0)::F.map fun p=>(some p.1,p.2))[i]?=some q∧look r0 F x=q.2
 | F,b,r0,0,hs,_,_,h2=>by
  refine ⟨(b,r0),rfl,?_⟩
  cases F with
  | nil=>rfl
  | cons p F=>rw [look,if_neg (by have:=h2 p rfl;omega)]
 | [],b,r0,i+1,hs,hi,_,_=>by simp at hi
 | p::F,b,r0,i+1,hs,hi,h1,h2=>by
  rw [List.map_cons,List.pairwise_cons] at hs
  have hp:p.1≤x:=by
   cases i with
   | zero=>exact h1 p (by omega) rfl
   | succ i =>
    have hlt:i<F.length:=by simp at hi;omega
    have:=h1 F[i] (by omega) (by simp [hlt])
    have:=hs.1 F[i].1 (List.mem_map_of_mem (List.getElem_mem hlt))
    omega
  obtain ⟨q,e1,e2⟩:=look_ix F (some p.1) p.2 i hs.2 (by simpa using hi) (fun z hz e=>h1 z (by omega) (by
   obtain ⟨j,rfl⟩:∃ j,i=j+1:=⟨i-1,by omega⟩
   simpa using e)) (fun z e=>h2 z (by simpa using e))
  exact ⟨q,by simpa using e1,by rw [look,if_pos hp];exact e2⟩
section
variable {X:Prog}(h:HHs X)
include h
abbrev plB:Ss:=(.cons (.asg false 4 (.bin .div (.bin .add (.loc 2) (.loc 3)) (.cst (.int 2))))
 (.cons (.ite [] (.cmp .le (.sub (.sub (.loc 0) (.loc 4)) (.cst (.int 0))) (.loc 1))
 (.cons (.asg false 2 (.loc 4))
 .nil)
 (.cons (.asg false 3 (.loc 4))
 .nil))
 .nil))
abbrev plT:E:=(.cmp .gt (.bin .sub (.loc 3) (.loc 2)) (.cst (.int 1)))
theorem pl_loop {f:SF}(hf:f.Ok)(x:Int)(cx:Ctx)(st:St):∀ (n m lo hi:Nat) (a4:Slot),hi-lo≤n→lo<hi→hi≤f.F.length+1→(∀ p,0<lo→f.F[lo-1]?=some p→p.1≤x)→(∀ p,f.F[hi-1]?=some p→x<p.1) →
  ∃ (lo':Nat) (b4:Slot),lo'≤f.F.length∧(∀ p,0<lo'→f.F[lo' - 1]?=some p→p.1≤x)∧(∀ p,f.F[lo']?=some p→x<p.1) ∧
  whlL (whlTest (evE cx plT) []) (evSs cx plB) (m+n+1) [.val (.tup (formL f)),.val (.int x),.val (.int lo),.val (.int hi),a4] st=.next [.val (.tup (formL f)),.val (.int x),.val (.int lo'),.val (.int (lo'+1)),b4] st
 | 0,m,lo,hi,a4,hn,hlt,_,_,_=>by omega
 | n+1,m,lo,hi,a4,hn,hlt,hle,h1,h2=>by
  by_cases c:hi-lo≤1
  ·have e:hi=lo+1:=by omega
   subst e
   refine ⟨lo,a4,by omega,h1,fun p hp=>h2 p (by simpa using hp),?_⟩
   rw [show ((lo+1:Nat):Int)=(lo:Int)+1 by omega]
   refine whlL_done ?_
   have:¬ (1:Int)<(lo:Int)+1-lo:=by omega
   generalize formL f=L at *
   simp [whlTest,evE,this]
  ·obtain ⟨mid,hmid⟩:∃ mid:Nat,mid=(lo+hi)/2:=⟨_,rfl⟩
   have m1:lo<mid∧mid<hi:=by omega
   have hml:mid-1<f.F.length:=by omega
   have hix:ix (formL f) (mid:Int)=some (strD f.F[mid-1]):=by
    unfold ix formL
    rw [if_pos (by omega),Int.toNat_natCast]
    obtain ⟨j,rfl⟩:∃ j,mid=j+1:=⟨mid-1,by omega⟩
    rw [List.getElem?_cons_succ,List.getElem?_map,List.getElem?_eq_getElem (by omega)]
    rfl
   have hq:=divQ (i:=(lo:Int)+hi) (s:=2) (by omega) (by omega)
   have hmi:((lo:Int)+hi)/2=(mid:Int):=by omega
   rw [hmi] at hq
   have hc1:(1:Int)<(hi:Int)-lo:=by omega
   rw [show m+(n+1)+1=(m+n+1)+1 by omega]
   have hA:evS cx (.asg false 4 (.bin .div (.bin .add (.loc 2) (.loc 3)) (.cst (.int 2)))) [.val (.tup (formL f)),.val (.int x),.val (.int lo),.val (.int hi),a4] st=.next [.val (.tup (formL f)),.val (.int x),.val (.int lo),.val (.int hi),.val (.int mid)] st:=by
    generalize formL f=L at *
    simp [evS,evE,hq,PL.mk]
   have hT:whlTest (evE cx plT) [] [.val (.tup (formL f)),.val (.int x),.val (.int lo),.val (.int hi),a4] st=.ok true st:=by
    generalize formL f=L at *
    simp [whlTest,evE,hc1]
   have hC:evE cx (.cmp .le (.sub (.sub (.loc 0) (.loc 4)) (.cst (.int 0))) (.loc 1)) [.val (.tup (formL f)),.val (.int x),.val (.int lo),.val (.int hi),.val (.int mid)] st=.ok (.bl (decide (f.F[mid-1].1≤x))) st:=by
    generalize formL f=L at *
    generalize f.F[mid-1]=q at *
    simp [evE,hix,strD]
   by_cases c2:f.F[mid-1].1≤x
   ·rw [decide_eq_true c2] at hC
    obtain ⟨lo',b4,z1,z2,z3,z4⟩:=pl_loop hf x cx st n m mid hi (.val (.int mid)) (by omega) m1.2 hle (fun p _ hp=>by
     rw [List.getElem?_eq_getElem hml] at hp
     cases hp
     exact c2) h2
    refine ⟨lo',b4,z1,z2,z3,?_⟩
    exact (whlL_next (st2:=st) (env':=[.val (.tup (formL f)),.val (.int x),.val (.int mid),.val (.int hi),.val (.int mid)]) hT (by rw [evSs,hA,Q.then_next,evSs,ite_true hC,evSs,evS,evE];rfl)).trans z4
   ·rw [decide_eq_false c2] at hC
    obtain ⟨lo',b4,z1,z2,z3,z4⟩:=pl_loop hf x cx st n m lo mid (.val (.int mid)) (by omega) m1.1 (by omega) h1 (fun p hp=>by
     rw [List.getElem?_eq_getElem hml] at hp
     cases hp
     omega)
    refine ⟨lo',b4,z1,z2,z3,?_⟩
    exact (whlL_next (st2:=st) (env':=[.val (.tup (formL f)),.val (.int x),.val (.int lo),.val (.int mid),.val (.int mid)]) hT (by rw [evSs,hA,Q.then_next,evSs,ite_false hC,evSs,evS,evE];rfl)).trans z4
theorem place_run {f:SF}(hf:f.Ok)(x:Int)(k:Nat)(st:St):∃ (i:Nat) (q:St2),run X (k+1) 87 [.tup (formL f),.int x] st=.ok (.int i) st∧(strR f)[i]?=some q∧look f.r0 f.F x=q.2:=by
 have fl:(formL f).length=f.F.length+1:=by simp [formL]
 have hfew:f.F.length+1≤720:=Nat.le_trans (Nat.le_mul_of_pos_right _ hf.s0) hf.few
 obtain ⟨i,b4,z1,z2,z3,z4⟩:=pl_loop h hf x (X.cx k) st (f.F.length+1) (turns-(f.F.length+2)) 0 (f.F.length+1) .un (by omega) (by omega) (by omega) (fun p hp=>by omega) (fun p hp=>by simp at hp)
 rw [show turns-(f.F.length+2)+(f.F.length+1)+1=turns by unfold turns;omega] at z4
 obtain ⟨q,e1,e2⟩:=look_ix f.F none f.r0 i hf.bs z1 z2 z3
 refine ⟨i,q,?_,e1,e2⟩
 rw [run_fn h.f87 rfl]
 show outR (evSs (X.cx k) (.cons (.par2 false false 2 3 (.cst (.int 0)) (.bi .len (.cons (.loc 0) .nil))) (.cons (.whl [] plT plB) (.cons (.ret (.loc 2)) .nil))) [.val (.tup (formL f)),.val (.int x),.un,.un,.un] st)=_
 have hA:evS (X.cx k) (.par2 false false 2 3 (.cst (.int 0)) (.bi .len (.cons (.loc 0) .nil))) [.val (.tup (formL f)),.val (.int x),.un,.un,.un] st=.next [.val (.tup (formL f)),.val (.int x),.val (.int ((0:Nat):Int)),.val (.int ((f.F.length+1:Nat):Int)),.un] st:=by
  rw [← fl]
  generalize formL f=L at *
  simp [evS,evE,evEs,PL.mk]
 have hW:evS (X.cx k) (.whl [] plT plB) [.val (.tup (formL f)),.val (.int x),.val (.int ((0:Nat):Int)),.val (.int ((f.F.length+1:Nat):Int)),.un] st=.next [.val (.tup (formL f)),.val (.int x),.val (.int i),.val (.int (i+1)),b4] st:=by
  rw [evS];exact z4
 rw [evSs,hA,Q.then_next,evSs,hW,Q.then_next]
 rfl
theorem has_tup (v:Int)(l:List Int):D.has (.int v) (irD l)=some (decide (v∈l)):=by
 show (if D.flat (.int v)&&(l.map D.int).all D.flat then some ((l.map D.int).any fun y=>D.eqv y (.int v)) else none)=_
 have e1:(l.map D.int).all D.flat=true:=by
  rw [List.all_eq_true]
  intro d hd
  obtain ⟨i,_,rfl⟩:=List.mem_map.1 hd
  rfl
 rw [e1]
 show some _=_
 congr 1
 rw [List.any_map,Bool.eq_iff_iff,List.any_eq_true]
 simp only [decide_eq_true_eq,Function.comp]
 constructor
 ·rintro ⟨i,hi,e⟩
  have:i=v:=by simpa [D.eqv] using e
  rw [← this];exact hi
 ·intro hv
  exact ⟨v,hv,by simp [D.eqv]⟩
theorem has_run {f:SF}(hf:f.Ok)(x:Int)(k:Nat)(st:St):run X (k+2) 88 [formD f,.int x] st=.ok (.bl (decide (f.mem x))) st:=by
 obtain ⟨i,q,e1,e2,e3⟩:=place_run h hf x k st
 have hh:=has_tup h (x%f.s) q.2
 have hq:=modQ (i:=x) (s:=(f.s:Int)) (by have:=hf.s0;omega)
 have hm:decide (x%f.s∈q.2)=decide (f.mem x):=by
  refine decide_eq_decide.2 ?_
  show x%(f.s:Int)∈q.2↔x%(f.s:Int)∈look f.r0 f.F x
  rw [e3]
 rw [hm] at hh
 have hix:ix (formL f) (i:Int)=some (stoD q):=by
  unfold ix
  rw [if_pos (by omega),Int.toNat_natCast,← strs_D,List.getElem?_map,e2]
  rfl
 rw [run_fn h.f88 rfl]
 show outR (evSs (X.cx (k+1)) (.cons (.asgT (.tp (.cons (.nm 2) (.cons (.nm 3) .nil))) (.loc 0)) (.cons (.ret (.cmp .inn (.bin .mod (.loc 1) (.loc 2)) (.sub (.sub (.loc 3) (.call 87 (.cons (.loc 3) (.cons (.loc 1) .nil)))) (.cst (.int 1))))) .nil)) [.val (formD f),.val (.int x),.un,.un] st)=_
 have hA:evS (X.cx (k+1)) (.asgT (.tp (.cons (.nm 2) (.cons (.nm 3) .nil))) (.loc 0)) [.val (formD f),.val (.int x),.un,.un] st=.next [.val (formD f),.val (.int x),.val (.int f.s),.val (.tup (formL f))] st:=rfl
 rw [evSs,hA,Q.then_next,evSs]
 unfold stoD at hix
 generalize decide (f.mem x)=t at *
 generalize irD q.2=R at *
 generalize begD q.1=B at *
 generalize formL f=L at *
 generalize formD f=fD at *
 simp [evS,evE,evEs,e1,hix,hq,hh]
end
end LT
end
section
namespace LT
open PL LB
structure HMd (X:Prog):Prop where
 f89:H89 X
 g1:G1 X
def rowL (s:Nat)(v:Int)(p:St2):D:=.tup [begD p.1,.lst ((mvR s v p.2).map .int)]
section
variable {X:Prog}(h:HMd X)
include h
abbrev mvI:E:=.lc (.bin .mod (.bin .add (.loc 8) (.loc 1)) (.loc 4)) (.nm 8) (.seq (.loc 7)) .no [8]
abbrev mv1:E:=.lc (.tup (.cons (.loc 6) (.cons (.bi .sorted (.cons mvI .nil)) .nil))) (.tp (.cons (.nm 6) (.cons (.nm 7) .nil))) (.seq (.loc 5)) .no [6,7]
abbrev mv2:E:=.lc (.tup (.cons (.ifx (.isn (.loc 6)) (.cst .non) (.bin .add (.loc 6) (.loc 1))) (.cons (.tof (.loc 7)) .nil))) (.tp (.cons (.nm 6) (.cons (.nm 7) .nil))) (.seq (.loc 2)) .no [6,7]
abbrev mv3:E:=.lc (.and (.isnn (.loc 6)) (.cmp .gt (.bi .abs (.cons (.loc 6) .nil)) (.glb 1))) (.tp (.cons (.nm 6) (.cons (.nm 7) .nil))) (.seq (.loc 3)) .no [6,7]
theorem mv1_ok {cx:Ctx}{s:Nat}(h1:1≤s)(l:List St2)(hl:l.length≤1000)(hr:∀ p∈l,p.2.length≤100)(d0:D)(v:Int)(st:St) :
  evE cx mv1 [.val d0,.val (.int v),.un,.un,.val (.int s),.val (.tup (l.map stoD)),.un,.un,.un] st=.ok (.lst (l.map (rowL s v))) st:=by
 refine lc_ofq (ds:=l.map stoD) (st1:=st) (by simp [evI,evE,D.walk]) (mapR_of (g:=rowL s v) fun p hp=>?_) (by simp only [line,List.length_map];omega)
 obtain ⟨b,rs⟩:=p
 have hp':rs.length≤100:=hr _ hp
 have hq:=fun r:Int=>modQ (i:=r+v) (show (1:Int)≤s by omega)
 have hi:evE cx mvI [.val d0,.val (.int v),.un,.un,.val (.int s),.val (.tup (l.map stoD)),.val (begD b),.val (irD rs),.un] st=.ok (.lst ((rs.map fun r=>(r+v)%s).map .int)) st:=by
  generalize D.tup (l.map stoD)=T at *
  refine (lc_ofq (ds:=rs.map .int) (st1:=st) (by simp [evI,evE,irD,D.walk]) (mapR_of (g:=fun r:Int=>D.int ((r+v)%s)) fun r hr=>?_) (by simp only [line,List.length_map];omega)).trans (by rw [List.map_map];rfl)
  simp [lcStep,evB,evE,wipeE,putT,hq]
 have hs:=ints_sorted (rs.map fun r=>(r+v)%s)
 have q1:evE cx (.bi .sorted (.cons mvI .nil)) [.val d0,.val (.int v),.un,.un,.val (.int s),.val (.tup (l.map stoD)),.val (begD b),.val (irD rs),.un] st=.ok (.lst ((mvR s v rs).map .int)) st:=by
  generalize mvI=eL at *
  generalize D.lst ((rs.map fun r=>(r+v)%s).map .int)=L at *
  have hs':biD cx.shown .sorted [L]=some (.lst ((sortI (rs.map fun r=>(r+v)%s)).map .int)):=hs
  rw [evE,evEs,hi,R.bind_ok,evEs,R.bind_ok,R.bind_ok,hs',R.lift_some]
  rfl
 have q0:evE cx (.loc 6) [.val d0,.val (.int v),.un,.un,.val (.int s),.val (.tup (l.map stoD)),.val (begD b),.val (irD rs),.un] st=.ok (begD b) st:=by rw [evE];rfl
 have q2:evE cx (.tup (.cons (.loc 6) (.cons (.bi .sorted (.cons mvI .nil)) .nil))) [.val d0,.val (.int v),.un,.un,.val (.int s),.val (.tup (l.map stoD)),.val (begD b),.val (irD rs),.un] st=.ok (rowL s v (b,rs)) st:=by
  rw [evE,evEs,q0,R.bind_ok,evEs,q1,R.bind_ok,evEs,R.bind_ok,R.bind_ok,R.bind_ok]
  exact if_pos (show 2≤16777216 by decide)
 show (R.opt (some _) fun env'=>(evB cx .no env' st).bind fun t st=>if t then (evE cx _ env' st).bind fun y st=>.ok (some y) st else .ok none st)=_
 show ((evE cx (.tup (.cons (.loc 6) (.cons (.bi .sorted (.cons mvI .nil)) .nil))) [.val d0,.val (.int v),.un,.un,.val (.int s),.val (.tup (l.map stoD)),.val (begD b),.val (irD rs),.un] st).bind fun y st=>.ok (some y) st)=_
 rw [q2]
 rfl
theorem mv2_ok {cx:Ctx}{s:Nat}(l:List St2)(hl:l.length≤1000)(d0 d4 d5:D)(v:Int)(st:St) :
  evE cx mv2 [.val d0,.val (.int v),.val (.lst (l.map (rowL s v))),.un,.val d4,.val d5,.un,.un,.un] st=.ok (.lst ((l.map (mvP s v)).map stoD)) st:=by
 refine (lc_ofq (ds:=l.map (rowL s v)) (st1:=st) (by simp [evI,evE,D.walk]) (mapR_of (g:=fun p=>stoD (mvP s v p)) fun p hp=>?_) (by simp only [line,List.length_map];omega)).trans (by rw [List.map_map];rfl)
 obtain ⟨b,rs⟩:=p
 generalize D.lst (l.map (rowL s v))=T at *
 have q2:evE cx (.ifx (.isn (.loc 6)) (.cst .non) (.bin .add (.loc 6) (.loc 1))) [.val d0,.val (.int v),.val T,.un,.val d4,.val d5,.val (begD b),.val (.lst ((mvR s v rs).map .int)),.un] st=.ok (begD (b.map (·+v))) st:=by
  generalize D.lst ((mvR s v rs).map .int)=M at *
  cases b with
  | none=>simp [evE,begD,show D.non.isN=true from rfl]
  | some b=>simp [evE,begD,show (D.int b).isN=false from rfl]
 have q1:evE cx (.tof (.loc 7)) [.val d0,.val (.int v),.val T,.un,.val d4,.val d5,.val (begD b),.val (.lst ((mvR s v rs).map .int)),.un] st=.ok (irD (mvR s v rs)) st:=rfl
 have q3:evE cx (.tup (.cons (.ifx (.isn (.loc 6)) (.cst .non) (.bin .add (.loc 6) (.loc 1))) (.cons (.tof (.loc 7)) .nil))) [.val d0,.val (.int v),.val T,.un,.val d4,.val d5,.val (begD b),.val (.lst ((mvR s v rs).map .int)),.un] st=.ok (stoD (mvP s v (b,rs))) st:=by
  rw [evE,evEs,q2,R.bind_ok,evEs,q1,R.bind_ok,evEs,R.bind_ok,R.bind_ok,R.bind_ok]
  exact if_pos (show 2≤16777216 by decide)
 show ((evE cx (.tup (.cons (.ifx (.isn (.loc 6)) (.cst .non) (.bin .add (.loc 6) (.loc 1))) (.cons (.tof (.loc 7)) .nil))) [.val d0,.val (.int v),.val T,.un,.val d4,.val d5,.val (begD b),.val (.lst ((mvR s v rs).map .int)),.un] st).bind fun y st=>.ok (some y) st)=_
 rw [q3]
 rfl
def wideP (p:St2):Bool:=match p.1 with
 | none=>false
 | some b=>decide (1000000000000000000<(b.natAbs:Int))
theorem mv3_ok {cx:Ctx}(hg:cx.gl 1=some (.int 1000000000000000000))(l:List St2)(hl:l.length≤1000)(d0 d1 d2 d4 d5:D)(st:St) :
  evE cx mv3 [.val d0,.val d1,.val d2,.val (.tup (l.map stoD)),.val d4,.val d5,.un,.un,.un] st=.ok (.lst (l.map fun p=>.bl (wideP p))) st:=by
 refine lc_ofq (ds:=l.map stoD) (st1:=st) (by simp [evI,evE,D.walk]) (mapR_of (g:=fun p=>.bl (wideP p)) fun p hp=>?_) (by simp only [line,List.length_map];omega)
 obtain ⟨b,rs⟩:=p
 generalize D.tup (l.map stoD)=T at *
 have q:evE cx (.and (.isnn (.loc 6)) (.cmp .gt (.bi .abs (.cons (.loc 6) .nil)) (.glb 1))) [.val d0,.val d1,.val d2,.val T,.val d4,.val d5,.val (begD b),.val (irD rs),.un] st=.ok (.bl (wideP (b,rs))) st:=by
  generalize irD rs=M at *
  cases b with
  | none=>simp [evE,begD,wideP,show D.non.isN=true from rfl]
  | some b =>
   have e:(if b<0 then -b else b)=(b.natAbs:Int):=by split<;>omega
   simp [evE,evEs,begD,wideP,show (D.int b).isN=false from rfl,hg]
   rw [e]
 show ((evE cx (.and (.isnn (.loc 6)) (.cmp .gt (.bi .abs (.cons (.loc 6) .nil)) (.glb 1))) [.val d0,.val d1,.val d2,.val T,.val d4,.val d5,.val (begD b),.val (irD rs),.un] st).bind fun y st=>.ok (some y) st)=_
 rw [q]
 rfl
def wideF (f:SF)(v:Int):Bool:=(strR (shf f v)).any wideP
theorem bools_map {α:Type}(l:List α)(g:α→Bool):D.bools (l.map fun a=>D.bl (g a))=some (l.map g):=by
 induction l with
 | nil=>rfl
 | cons a r ih=>simp [D.bools,ih]
theorem moved_run {f:SF}(hf:f.Ok)(v:Int)(k:Nat)(st:St):run X (k+1) 89 [formD f,.int v] st=if wideF f v then .exc 4 [] st else .ok (formD (shf f v)) st:=by
 obtain ⟨s1,s2⟩:=strs_small hf
 have e1:=mv1_ok h (cx:=X.cx k) hf.s0 (strR f) (by omega) (fun p hp=>by have:=s2 p hp;omega) (formD f) v st
 have e2:=mv2_ok h (cx:=X.cx k) (s:=f.s) (strR f) (by omega) (formD f) (.int f.s) (.tup (formL f)) v st
 rw [← strs_shf] at e2
 have e3:=mv3_ok h (cx:=X.cx k) h.g1 (strR (shf f v)) (by rw [strs_shf,List.length_map];omega) (formD f) (.int v) (.lst ((strR f).map (rowL f.s v))) (.int f.s) (.tup (formL f)) st
 rw [strs_D] at e1
 have hb:=bools_map h (strR (shf f v)) wideP
 have hany:biD (X.cx k).shown .any [.lst ((strR (shf f v)).map fun p=>.bl (wideP p))]=some (.bl (wideF f v)):=by
  show (D.bools _).map _=_
  rw [hb]
  show some (D.bl (((strR (shf f v)).map wideP).any id))=_
  rw [List.any_map]
  rfl
 rw [run_fn h.f89 rfl]
 show outR (evSs (X.cx k) (.cons (.asgT (.tp (.cons (.nm 4) (.cons (.nm 5) .nil))) (.loc 0)) (.cons (.asg false 2 mv1) (.cons (.asg false 3 (.tof mv2)) (.cons (.ite [] (.bi .any (.cons mv3 .nil)) (.cons (.raise 4) .nil) .nil) (.cons (.ret (.tup (.cons (.loc 4) (.cons (.loc 3) .nil)))) .nil))))) [.val (formD f),.val (.int v),.un,.un,.un,.un,.un,.un,.un] st)=_
 have hA:evS (X.cx k) (.asgT (.tp (.cons (.nm 4) (.cons (.nm 5) .nil))) (.loc 0)) [.val (formD f),.val (.int v),.un,.un,.un,.un,.un,.un,.un] st=.next [.val (formD f),.val (.int v),.un,.un,.val (.int f.s),.val (.tup (formL f)),.un,.un,.un] st:=rfl
 have hB:evS (X.cx k) (.asg false 2 mv1) [.val (formD f),.val (.int v),.un,.un,.val (.int f.s),.val (.tup (formL f)),.un,.un,.un] st=.next [.val (formD f),.val (.int v),.val (.lst ((strR f).map (rowL f.s v))),.un,.val (.int f.s),.val (.tup (formL f)),.un,.un,.un] st:=by
  rw [evS,e1,R.use_ok];rfl
 have hC:evS (X.cx k) (.asg false 3 (.tof mv2)) [.val (formD f),.val (.int v),.val (.lst ((strR f).map (rowL f.s v))),.un,.val (.int f.s),.val (.tup (formL f)),.un,.un,.un] st=.next [.val (formD f),.val (.int v),.val (.lst ((strR f).map (rowL f.s v))),.val (.tup ((strR (shf f v)).map stoD)),.val (.int f.s),.val (.tup (formL f)),.un,.un,.un] st:=by
  rw [evS,evE,e2,R.bind_ok];rfl
 have hT:evE (X.cx k) (.bi .any (.cons mv3 .nil)) [.val (formD f),.val (.int v),.val (.lst ((strR f).map (rowL f.s v))),.val (.tup ((strR (shf f v)).map stoD)),.val (.int f.s),.val (.tup (formL f)),.un,.un,.un] st=.ok (.bl (wideF f v)) st:=by
  rw [evE,evEs,e3,R.bind_ok,evEs,R.bind_ok,R.bind_ok,hany,R.lift_some]
 rw [evSs,hA,Q.then_next,evSs,hB,Q.then_next,evSs,hC,Q.then_next,evSs]
 cases hw:wideF f v with
 | true =>
  rw [hw] at hT
  rw [ite_true hT,if_pos rfl]
  rfl
 | false =>
  rw [hw] at hT
  rw [ite_false hT,if_neg (by decide),strs_D]
  rfl
end
end LT
end
section
namespace LT
open PL LB
theorem rs_show {s:Nat}(hs:s≤72):∀ (l:List Int),(∀ x∈l,0≤x∧x<s)→D.smalls (l.map D.int)=true∧D.depths (l.map D.int)=0∧D.wts (l.map D.int)=2002*l.length
 | [],_=>⟨rfl,rfl,rfl⟩
 | x::l,h=>by
  obtain ⟨a,b,c⟩:=rs_show hs l fun y hy=>h y (by simp [hy])
  have hx:=h x (by simp)
  simp only [List.map_cons,D.smalls,D.depths,D.wts,D.small,D.depth,D.wt,a,b,c,bigD (big_small (v:=x) (by omega)),List.length_cons]
  exact ⟨rfl,rfl,by omega⟩
theorem strs_show {s:Nat}(hs:s≤72):∀ (F:List (Int × List Int)),(∀ p∈F,RsOk s p.2)→(∀ p∈F,p.1.natAbs<bigN)→D.smalls (F.map strD)=true∧D.depths (F.map strD)≤2∧D.wts (F.map strD)≤(2100+2002*s)*F.length
 | [],_,_=>⟨rfl,by simp [D.depths],by simp [D.wts]⟩
 | p::F,h,hb=>by
  obtain ⟨a,b,c⟩:=strs_show hs F (fun q hq=>h q (by simp [hq])) fun q hq=>hb q (by simp [hq])
  obtain ⟨r1,r2,r3⟩:=rs_show hs p.2 (h p (by simp)).2
  have hl:=rs_len (h p (by simp))
  simp only [List.map_cons,D.smalls,D.depths,D.wts,strD,irD,D.small,D.depth,D.wt,a,r1,r2,r3,bigD (hb p (by simp)),List.length_cons]
  refine ⟨rfl,by omega,?_⟩
  rw [Nat.mul_add,Nat.mul_one]
  have:2002*p.2.length≤2002*s:=Nat.mul_le_mul_left _ hl
  omega
theorem form_show {f:SF}(hf:f.Ok)(hb:∀ p∈f.F,p.1.natAbs<bigN):(formD f).small=true∧(formD f).depth≤4∧(formD f).wt≤3200000:=by
 obtain ⟨a,b,c⟩:=strs_show hf.s1 f.F hf.rs hb
 obtain ⟨r1,r2,r3⟩:=rs_show hf.s1 f.r0 hf.r0.2
 have hl:=rs_len hf.r0
 have hs:=hf.s1
 have few:=hf.few
 have s0:=hf.s0
 have hsm:(2100+2002*f.s)*f.F.length≤2100*720+2002*720:=by
  have e:f.F.length*f.s+f.s≤720:=by rw [Nat.add_mul,Nat.one_mul] at few;exact few
  have h1:f.F.length≤720:=Nat.le_trans (Nat.le_mul_of_pos_right _ s0) (by omega)
  rw [Nat.add_mul,Nat.mul_assoc]
  have h2:f.s*f.F.length≤720:=by rw [Nat.mul_comm];omega
  have:=Nat.mul_le_mul_left 2100 h1
  have:=Nat.mul_le_mul_left 2002 h2
  omega
 unfold formD formL
 simp only [D.small,D.smalls,D.depth,D.depths,D.wt,D.wts,irD,a,r1,r2,r3,bigD (big_small (v:=(f.s:Int)) (by omega))]
 refine ⟨rfl,by omega,?_⟩
 omega
theorem form_rep {f:SF}(hf:f.Ok)(hb:∀ p∈f.F,p.1.natAbs<bigN):(formD f).reprOk=true:=by
 obtain ⟨a,b,c⟩:=form_show hf hb
 unfold D.reprOk
 simp [a]
 omega
theorem form_rep2 {f g:SF}(hf:f.Ok)(hb:∀ p∈f.F,p.1.natAbs<bigN)(hg:g.Ok)(hc:∀ p∈g.F,p.1.natAbs<bigN):(D.lst [formD f,formD g]).reprOk=true:=by
 obtain ⟨a,b,c⟩:=form_show hf hb
 obtain ⟨a2,b2,c2⟩:=form_show hg hc
 unfold D.reprOk
 simp only [D.small,D.smalls,D.depth,D.depths,D.wt,D.wts,a,a2]
 simp
 omega
theorem shf_begins {f:SF}{v:Int}(hb:∀ p∈f.F,-399≤p.1∧p.1≤299)(hv:(v.natAbs:Int)≤1000000000000000000000000000000000000000):∀ p∈(shf f v).F,p.1.natAbs<bigN:=by
 intro p hp
 obtain ⟨q,hq,rfl⟩:=List.mem_map.1 hp
 have:=hb q hq
 exact big_bits (n:=140) (by simp only;omega) (by decide)
theorem wide_false {f:SF}{v:Int}(h:∀ p∈f.F,(p.1+v).natAbs≤1000000000000000000):wideF f v=false:=by
 unfold wideF
 rw [List.any_eq_false]
 intro p hp
 rw [strs_shf] at hp
 obtain ⟨q,hq,rfl⟩:=List.mem_map.1 hp
 unfold strR at hq
 rcases List.mem_cons.1 hq with rfl|hq
 ·simp [wideP,mvP]
 ·obtain ⟨z,hz,rfl⟩:=List.mem_map.1 hq
  have:=h z hz
  simp [wideP,mvP]
  omega
theorem wide_true {f:SF}{v:Int}{p:Int × List Int}(hp:p∈f.F)(h:1000000000000000000<(p.1+v).natAbs):wideF f v=true:=by
 unfold wideF
 rw [List.any_eq_true]
 refine ⟨mvP f.s v (some p.1,p.2),?_,?_⟩
 ·rw [strs_shf]
  refine List.mem_map_of_mem ?_
  unfold strR
  exact List.mem_cons_of_mem _ (List.mem_map_of_mem (f:=fun p:Int × List Int=>(some p.1,p.2)) hp)
 ·simp [wideP,mvP]
  omega
end LT
end
section
namespace LB
open PL
end LB
end
section
namespace LB
open PL
end LB
end
section
namespace LB
open PL
end LB
end
section
namespace LB
open PL
end LB
end
section
namespace LB
open PL
end LB
end
section
namespace LB
open PL
end LB
end
section
namespace LB
open PL
end LB
end
section
namespace LB
open PL
end LB
end
section
namespace LB
open PL
end LB
end
section
namespace LB
open PL
end LB
end
section
namespace LB
open PL
end LB
end
section
namespace LB
open PL
end LB
end
section
namespace LB
open PL
end LB
end
section
namespace LB
open PL
end LB
end
section
namespace LB
open PL
end LB
end
section
namespace LB
open PL
end LB
end
section
namespace LB
open PL
end LB
end
section
namespace LB
open PL
end LB
end
section
namespace LB
open PL
end LB
end
section
namespace LB
open PL
end LB
end
section
namespace LB
open PL
end LB
end
section
namespace LB
open PL
end LB
end
section
namespace LB
open PL
end LB
end
section
namespace LB
open PL
end LB
end
section
namespace LB
open PL
end LB
end
section
namespace LB
open PL
end LB
end
section
namespace LB
open PL
end LB
end
section
namespace LB
open PL
end LB
end
section
namespace LB
open PL
end LB
end
section
namespace LB
open PL
end LB
end
section
namespace LB
open PL
end LB
end
section
namespace LB
open PL
end LB
end
section
namespace LB
open PL
end LB
end
section
namespace Lk31
open PL LB
def fl:List (Nat × Fn):=[(87,.fn 2 5 f87),(88,.fn 2 4 f88),(89,.fn 2 9 f89),(8,.fn 1 3 f8),(9,.fn 2 6 f9),(69,.fn 2 2 f69),(90,.fn 1 6 f90),(91,.fn 2 6 f91),(92,.fn 1 2 f92),(93,.fn 1 9 f93),(94,.fn 2 7 f94),(95,.fn 1 2 f95),(96,.fn 2 3 f96),(97,.fn 1 16 f97)]
def gl:List (Nat × D):=[(1,(.int 1000000000000000000))]
theorem fs {X:Prog}(h:X.fns=fun f=>fl.lookup f){f:Nat}{F:Fn}(e:fl.lookup f=some F):X.fns f=some F:=by rw [h];exact e
theorem gsd {X:Prog}(h:X.gl=fun f=>gl.lookup f){f:Nat}{F:D}(e:gl.lookup f=some F):X.gl f=some F:=by rw [h];exact e
end Lk31
end
section
namespace LT
open PL LB
theorem addL_of {a b:List D}(h:a.length+b.length≤16777216):bop .add (.lst a) (.lst b)=some (.lst (a++b)):=if_pos h
section
end
end LT
end
section
namespace Lk31
open PL LB LT
structure H (X:Prog):Prop extends HPl X,HHs X,HMd X where
 f8:H8 X
 f96:H96 X
 f97:H97 X
def Cn (f:SF):Prop:=f.Ok∧∀ p∈f.F,-399≤p.1∧p.1≤299
theorem cn_rep {f:SF}(g:Cn f){v:Int}(hv:(v.natAbs:Int)≤1000000000000000000000000000000000000000):(formD (shf f v)).reprOk=true:=form_rep (shf_ok g.1 v) (shf_begins g.2 hv)
theorem cn_rep0 {f:SF}(g:Cn f):(formD f).reprOk=true:=by
 have:=cn_rep g (v:=0) (by decide)
 rwa [shf_zero g.1] at this
theorem cn_rep2 {f:SF}(g:Cn f){v w:Int}(hv:(v.natAbs:Int)≤1000000000000000000000000000000000000000)(hw:(w.natAbs:Int)≤1000000000000000000000000000000000000000):(D.lst [formD (shf f v),formD (shf f w)]).reprOk=true:=form_rep2 (shf_ok g.1 v) (shf_begins g.2 hv) (shf_ok g.1 w) (shf_begins g.2 hw)
section
variable {X:Prog}(h:H X)
include h
theorem mv_ok {f:SF}(g:f.Ok){v:Int}(hw:∀ p∈f.F,(p.1+v).natAbs≤1000000000000000000)(k:Nat)(st:St):run X (k+1) 89 [formD f,.int v] st=.ok (formD (shf f v)) st:=by
 rw [moved_run h.toHMd g v k st,wide_false hw,if_neg (by decide)]
theorem wide_run {f:SF}(g:f.Ok){v:Int}(hw:wideF f v=true)(k:Nat)(st:St):run X (k+2) 96 [formD f,.int v] st=.ok (.bl true) st:=by
 have e:=moved_run h.toHMd g v k st
 rw [hw,if_pos rfl] at e
 rw [run_fn h.f96 rfl]
 generalize formD f=fD at *
 simp [f96,evSs,evS,evE,evEs,entry,e]
abbrev xB:Ss:=(.cons (.ite [] (.cmp .ne (.bi .repr (.cons (.call 88 (.cons (.loc 4) (.cons (.bin .add (.loc 6) (.sub (.loc 9) (.cst (.int 0)))) .nil))) .nil)) (.bi .repr (.cons (.call 88 (.cons (.loc 8) (.cons (.loc 6) .nil))) .nil)))
 (.cons (.ret (.cst (.bl false)))
 .nil)
 .nil)
 .nil)
theorem x_ok {f:SF}(g:f.Ok)(v w x:Int)(k:Nat)(a0 a1 a2 a3 a5 a6 a7 a10 a11 a12 a13 a14 a15:Slot)(st:St) :
  forStep (evSs (X.cx (k+2)) xB) (.nm 6) (.int x) [a0,a1,a2,a3,.val (formD (shf f v)),a5,a6,a7,.val (formD f),.val (.lst [.int v,.int w]),a10,a11,a12,a13,a14,a15] st=.next [a0,a1,a2,a3,.val (formD (shf f v)),a5,.val (.int x),a7,.val (formD f),.val (.lst [.int v,.int w]),a10,a11,a12,a13,a14,a15] st:=by
 have e1:=has_run h.toHHs (shf_ok g v) (x+v) k st
 have e2:=has_run h.toHHs g x k st
 have hm:decide ((shf f v).mem (x+v))=decide (f.mem x):=decide_eq_decide.2 (shf_mem g v x)
 rw [hm] at e1
 have r:∀ b:Bool,(D.bl b).reprOk=true:=by decide
 generalize formD (shf f v)=gD at *
 generalize formD f=fD at *
 generalize decide (f.mem x)=t at *
 simp [forStep,evSs,evS,evE,evEs,e1,e2,r]
theorem xs_ok {f:SF}(g:f.Ok)(v w:Int)(k:Nat)(a0 a1 a2 a3 a5 a7 a10 a11 a12 a13 a14 a15:Slot)(st:St):∀ (l:List Int) (a6:Slot),∃ b6,
  forL (forStep (evSs (X.cx (k+2)) xB) (.nm 6)) (l.map .int) [a0,a1,a2,a3,.val (formD (shf f v)),a5,a6,a7,.val (formD f),.val (.lst [.int v,.int w]),a10,a11,a12,a13,a14,a15] st=.next [a0,a1,a2,a3,.val (formD (shf f v)),a5,b6,a7,.val (formD f),.val (.lst [.int v,.int w]),a10,a11,a12,a13,a14,a15] st
 | [],a6=>⟨a6,rfl⟩
 | x::l,a6=>by
  obtain ⟨b6,e⟩:=xs_ok g v w k a0 a1 a2 a3 a5 a7 a10 a11 a12 a13 a14 a15 st l (.val (.int x))
  refine ⟨b6,?_⟩
  rw [List.map_cons,forL,x_ok h g v w x k a0 a1 a2 a3 a5 a6 a7 a10 a11 a12 a13 a14 a15 st]
  exact e
abbrev s1:S:=(.par2 false false 8 9 (.call 93 (.cons (.call 92 (.cons (.call 90 (.cons (.loc 1) .nil)) .nil)) .nil)) (.lst (.cons (.call 95 (.cons (.loc 1) .nil)) (.cons (.call 95 (.cons (.loc 1) .nil)) .nil))))
abbrev s2:S:=(.par2 false false 10 4 (.bi .repr (.cons (.loc 8) .nil)) (.call 94 (.cons (.loc 8) (.cons (.sub (.loc 9) (.cst (.int 0))) .nil))))
abbrev s3:S:=(.asg false 5 (.lst (.cons (.call 89 (.cons (.loc 8) (.cons (.sub (.loc 9) (.cst (.int 0))) .nil))) (.cons (.call 89 (.cons (.loc 8) (.cons (.sub (.loc 9) (.cst (.int 0))) .nil))) .nil))))
abbrev s4:S:=(.ite [] (.or (.cmp .ne (.bi .repr (.cons (.loc 5) .nil)) (.bi .repr (.cons (.lst (.cons (.loc 4) (.cons (.loc 4) .nil))) .nil))) (.cmp .ne (.bi .repr (.cons (.loc 8) .nil)) (.loc 10)))
 (.cons (.ret (.cst (.bl false)))
 .nil)
 .nil)
abbrev s5:S:=(.ite [] (.or (.cmp .ne (.bi .repr (.cons (.call 89 (.cons (.loc 4) (.cons (.bin .sub (.cst (.int 0)) (.sub (.loc 9) (.cst (.int 0)))) .nil))) .nil)) (.bi .repr (.cons (.loc 8) .nil))) (.cmp .ne (.bi .repr (.cons (.call 89 (.cons (.loc 4) (.cons (.sub (.loc 9) (.cst (.int 1))) .nil))) .nil)) (.bi .repr (.cons (.call 89 (.cons (.loc 8) (.cons (.bin .add (.sub (.loc 9) (.cst (.int 0))) (.sub (.loc 9) (.cst (.int 1)))) .nil))) .nil))))
 (.cons (.ret (.cst (.bl false)))
 .nil)
 .nil)
theorem s1_ok (a0 a2 a3 a4 a5 a6 a7 a8 a9 a10 a11 a12 a13 a14 a15:Slot){s:Strm}{j:Int}(hs:Ok j s)(hj:j≤2^47) :
  ∃ (f:SF) (v w:Int) (s':Strm),evS (X.cx 199) s1 [a0,.val (.ob 0 []),a2,a3,a4,a5,a6,a7,a8,a9,a10,a11,a12,a13,a14,a15] (some s)=.next [a0,.val (.ob 0 []),a2,a3,a4,a5,a6,a7,.val (formD f),.val (.lst [.int v,.int w]),a10,a11,a12,a13,a14,a15] (some s')∧Cn f∧v.natAbs≤10^17∧w.natAbs≤10^17∧Ok (j+40) s':=by
 obtain ⟨l,u1,e1,hl,o1⟩:=rows_ok h.toHRw 197 hs (by omega)
 have e2:=near_ok h.toHRw hl 197 (some u1)
 obtain ⟨t,t1,t2,e3⟩:=canon_ok h.toHCn (nrR l hl) 198 (some u1)
 obtain ⟨v,u2,e4,v1,o2⟩:=place_ok h.toHPl 196 o1 (by omega)
 obtain ⟨w,u3,e5,w1,o3⟩:=place_ok h.toHPl 196 o2 (by omega)
 refine ⟨lst (nrR l hl).g t,v,w,u3,?_,⟨lst_ok t1 t2,lst_begin⟩,v1,w1,o3.mono (by omega)⟩
 have e2':run X 199 92 [.lst (l.map rowD)] (some u1)=.ok (.lst (nb (nrR l hl).g)) (some u1):=e2
 generalize D.lst (nb (nrR l hl).g)=N at *
 generalize formD (lst (nrR l hl).g t)=fD at *
 generalize D.lst (l.map rowD)=L at *
 simp [evS,evE,evEs,e1,e2',e3,e4,e5,PL.mk]
theorem s25_ok {f:SF}(g:Cn f){v w:Int}(hv:v.natAbs≤10^17)(hw:w.natAbs≤10^17)(a0 a2 a3 a4 a5 a6 a7 a10 a11 a12 a13 a14 a15:Slot)(st:St)(r:Ss) :
  ∃ b5 b10,evSs (X.cx 199) (.cons s2 (.cons s3 (.cons s4 (.cons s5 r)))) [a0,.val (.ob 0 []),a2,a3,a4,a5,a6,a7,.val (formD f),.val (.lst [.int v,.int w]),a10,a11,a12,a13,a14,a15] st=evSs (X.cx 199) r [a0,.val (.ob 0 []),a2,a3,.val (formD (shf f v)),b5,a6,a7,.val (formD f),.val (.lst [.int v,.int w]),b10,a11,a12,a13,a14,a15] st:=by
 have r0:=cn_rep0 g
 have r1:=cn_rep g (v:=v) (by omega)
 have r2:=cn_rep2 g (v:=v) (w:=v) (by omega) (by omega)
 have r3:=cn_rep g (v:=v+w) (by omega)
 have e1:=shifted_ok h.toHSh g.1 v 198 st
 have e2:=mv_ok h g.1 (v:=v) (fun p hp=>by have:=g.2 p hp;omega) 198 st
 have e3:=mv_ok h (shf_ok g.1 v) (v:=-v) (fun p hp=>by
  obtain ⟨q,hq,rfl⟩:=List.mem_map.1 hp
  have:=g.2 q hq
  simp only
  omega) 198 st
 have e4:=mv_ok h (shf_ok g.1 v) (v:=w) (fun p hp=>by
  obtain ⟨q,hq,rfl⟩:=List.mem_map.1 hp
  have:=g.2 q hq
  simp only
  omega) 198 st
 have e5:=mv_ok h g.1 (v:=v+w) (fun p hp=>by have:=g.2 p hp;omega) 198 st
 rw [shf_shf g.1,show v+-v=0 by omega,shf_zero g.1] at e3
 rw [shf_shf g.1] at e4
 refine ⟨.val (.lst [formD (shf f v),formD (shf f v)]),.val (.str (X.shown (formD f))),?_⟩
 generalize formD (shf f v)=gD at *
 generalize formD (shf f (v+w))=hD at *
 generalize formD f=fD at *
 simp [evSs,evS,evE,evEs,e1,e2,e3,e4,e5,r0,r1,r2,r3,PL.mk]
abbrev i6:It:=(.seq (.bin .add (.lc (.bin .sub (.call 9 (.cons (.loc 1) (.cons (.cst (.int 81)) .nil))) (.cst (.int 40))) (.nm 13) (.rng1 (.cst (.int 8))) .no [13]) (.lst (.cons (.bin .pow (.cst (.int 10)) (.cst (.int 20))) (.cons (.neg (.bin .pow (.cst (.int 10)) (.cst (.int 20)))) .nil)))))
theorem i6_ok (a0 a2 a3 a4 a5 a6 a7 a8 a9 a10 a11 a12 a13 a14 a15:Slot){s:Strm}{j:Int}(hs:Ok j s)(hj:j≤2^47) :
  ∃ (l:List Int) (s':Strm),evI (X.cx 199) i6 [a0,.val (.ob 0 []),a2,a3,a4,a5,a6,a7,a8,a9,a10,a11,a12,a13,a14,a15] (some s)=.ok (l.map .int) (some s')∧Ok (j+10) s':=by
 obtain ⟨ys,st2,m1,m2,m3,⟨u2,rfl,o2⟩⟩:=mapR_inv (f:=lcStep (evE (X.cx 199) (.bin .sub (.call 9 (.cons (.loc 1) (.cons (.cst (.int 81)) .nil))) (.cst (.int 40)))) (evB (X.cx 199) .no) (.nm 13) [13] [a0,.val (.ob 0 []),a2,a3,a4,a5,a6,a7,a8,a9,a10,a11,a12,a13,a14,a15])
  (ds:=rngI 0 8) (i:=0) (st:=some s) (I:=fun i st=>∃ s',st=some s'∧Ok (j+i) s') (P:=fun y=>∃ i,y=.int i∧True) ⟨s,rfl,hs.mono (by omega)⟩ (by
   rintro i d' st' hd ⟨s',rfl,ho⟩
   obtain ⟨hi,rfl⟩:=rng_get hd
   rw [Nat.zero_add] at *
   have hi:i<8:=hi
   obtain ⟨w,s3,e3,w0,w1,o3⟩:=drw9 h.f9 198 (m:=81) ho (by omega) (by decide) (by decide)
   exact ⟨.int (w-40),some s3,by simp [lcStep,evB,evE,evEs,wipeE,putT,e3],⟨w-40,rfl,trivial⟩,s3,rfl,o3.mono (by omega)⟩)
 obtain ⟨zs,rfl,_⟩:=ints_of m2
 rw [rng_len] at m3 o2
 rw [List.length_map] at m3
 have hlc:evE (X.cx 199) (.lc (.bin .sub (.call 9 (.cons (.loc 1) (.cons (.cst (.int 81)) .nil))) (.cst (.int 40))) (.nm 13) (.rng1 (.cst (.int 8))) .no [13]) [a0,.val (.ob 0 []),a2,a3,a4,a5,a6,a7,a8,a9,a10,a11,a12,a13,a14,a15] (some s)=.ok (.lst (zs.map .int)) (some u2) :=
  lc_ofq (ev_rng1 (v:=8) (by simp [evE]) (by decide) (by decide)) m1 (by rw [List.length_map,m3];decide)
 refine ⟨zs++[100000000000000000000,-100000000000000000000],u2,?_,o2.mono (by omega)⟩
 have hle:(zs.map D.int).length+2≤16777216:=by rw [List.length_map,m3];decide
 rw [List.map_append]
 generalize zs.map D.int=Z at *
 have q2:evE (X.cx 199) (.lst (.cons (.bin .pow (.cst (.int 10)) (.cst (.int 20))) (.cons (.neg (.bin .pow (.cst (.int 10)) (.cst (.int 20)))) .nil))) [a0,.val (.ob 0 []),a2,a3,a4,a5,a6,a7,a8,a9,a10,a11,a12,a13,a14,a15] (some u2)=.ok (.lst [.int 100000000000000000000,.int (-100000000000000000000)]) (some u2):=by
  simp [evE,evEs]
 rw [evI,evE,hlc,R.bind_ok,q2,R.bind_ok,addL_of hle,R.lift_some,R.bind_ok]
 rfl
abbrev s7:S:=(.asg false 7 (.lc (.loc 14) (.tp (.cons (.nm 14) (.cons (.nm 15) .nil))) (.seq (.slc (.sub (.loc 8) (.cst (.int 1))) (.so (.cst (.int 1))) .no)) .no [14,15]))
def bgs (f:SF):List Int:=f.F.map (·.1)
theorem s7_ok {f:SF}(g:f.Ok)(a0 a1 a2 a3 a4 a5 a6 a7 a9 a10 a11 a12 a13 a14 a15:Slot)(st:St) :
  evS (X.cx 199) s7 [a0,a1,a2,a3,a4,a5,a6,a7,.val (formD f),a9,a10,a11,a12,a13,a14,a15] st=.next [a0,a1,a2,a3,a4,a5,a6,.val (.lst ((bgs f).map .int)),.val (formD f),a9,a10,a11,a12,a13,a14,a15] st:=by
 have hc:cut (formL f) (some 1) none=f.F.map LT.strD:=by
  show ((formL f).take (formL f).length).drop (clampI (formL f).length 1)=_
  rw [List.take_length]
  unfold formL clampI
  rw [if_pos (by decide),List.length_cons,show min (Int.toNat 1) ((f.F.map LT.strD).length+1)=1 from by show min 1 _=1;omega]
  rfl
 have hl:f.F.length≤720:=by
  have:=Nat.le_trans (Nat.le_mul_of_pos_right _ g.s0) g.few
  omega
 have hi:evI (X.cx 199) (.seq (.slc (.sub (.loc 8) (.cst (.int 1))) (.so (.cst (.int 1))) .no)) [a0,a1,a2,a3,a4,a5,a6,a7,.val (formD f),a9,a10,a11,a12,a13,a14,a15] st=.ok (f.F.map LT.strD) st:=by
  unfold formD
  generalize formL f=L at *
  simp [evI,evE,evO,D.part,cutD,hc,D.walk]
 have hlc:evE (X.cx 199) (.lc (.loc 14) (.tp (.cons (.nm 14) (.cons (.nm 15) .nil))) (.seq (.slc (.sub (.loc 8) (.cst (.int 1))) (.so (.cst (.int 1))) .no)) .no [14,15]) [a0,a1,a2,a3,a4,a5,a6,a7,.val (formD f),a9,a10,a11,a12,a13,a14,a15] st=.ok (.lst ((bgs f).map .int)) st:=by
  refine (lc_ofq hi (mapR_of (g:=fun p:Int × List Int=>D.int p.1) fun p hp=>?_) (by simp only [line,List.length_map];omega)).trans (by unfold bgs;rw [List.map_map];rfl)
  generalize formD f=fD at *
  simp [lcStep,evB,evE,wipeE,putT,putTs,LT.strD]
 rw [evS,hlc,R.use_ok]
 rfl
abbrev s8a:Ss:=(.cons (.par2 false false 11 12 (.bin .sub (.bin .pow (.cst (.int 10)) (.cst (.int 18))) (.sub (.loc 7) (.neg (.cst (.int 1))))) (.bin .sub (.bin .sub (.cst (.int 0)) (.bin .pow (.cst (.int 10)) (.cst (.int 18)))) (.sub (.loc 7) (.cst (.int 0)))))
 (.cons (.ite [] (.cmp .ne (.bi .repr (.cons (.lst (.cons (.call 89 (.cons (.loc 8) (.cons (.loc 11) .nil))) (.cons (.call 89 (.cons (.loc 8) (.cons (.loc 12) .nil))) .nil))) .nil)) (.bi .repr (.cons (.lst (.cons (.call 94 (.cons (.loc 8) (.cons (.loc 11) .nil))) (.cons (.call 94 (.cons (.loc 8) (.cons (.loc 12) .nil))) .nil))) .nil)))
 (.cons (.ret (.cst (.bl false)))
 .nil)
 .nil)
 (.cons (.ite [] (.or (.not (.call 96 (.cons (.loc 8) (.cons (.bin .add (.loc 11) (.cst (.int 1))) .nil)))) (.not (.call 96 (.cons (.loc 8) (.cons (.bin .sub (.bin .sub (.loc 12) (.cst (.int 1))) (.call 9 (.cons (.loc 1) (.cons (.bin .pow (.cst (.int 10)) (.cst (.int 20))) .nil)))) .nil)))))
 (.cons (.ret (.cst (.bl false)))
 .nil)
 .nil)
 .nil)))
abbrev s8b:Ss:=(.cons (.ite [] (.cmp .ne (.bi .repr (.cons (.call 89 (.cons (.loc 8) (.cons (.bin .pow (.cst (.int 10)) (.cst (.int 39))) .nil))) .nil)) (.bi .repr (.cons (.call 94 (.cons (.loc 8) (.cons (.bin .pow (.cst (.int 10)) (.cst (.int 39))) .nil))) .nil)))
 (.cons (.ret (.cst (.bl false)))
 .nil)
 .nil)
 .nil)
theorem s8_ok {f:SF}(g:Cn f)(a0 a2 a3 a4 a5 a6 a9 a10 a11 a12 a13 a14 a15:Slot){s:Strm}{j:Int}(hs:Ok j s)(hj:j≤2^47) :
  ∃ b11 b12 s',evS (X.cx 199) (.ite [] (.cmp .ne (.loc 7) (.lst .nil)) s8a s8b) [a0,.val (.ob 0 []),a2,a3,a4,a5,a6,.val (.lst ((bgs f).map .int)),.val (formD f),a9,a10,a11,a12,a13,a14,a15] (some s)=.next [a0,.val (.ob 0 []),a2,a3,a4,a5,a6,.val (.lst ((bgs f).map .int)),.val (formD f),a9,a10,b11,b12,a13,a14,a15] (some s')∧Ok (j+1) s':=by
 have hsh:(D.lst ((bgs f).map .int)).shaped=true:=shI _ fun d hd=>by
  obtain ⟨i,_,rfl⟩:=List.mem_map.1 hd
  exact ⟨i,rfl⟩
 by_cases hF:f.F=[]
 ·refine ⟨a11,a12,s,?_,hs.mono (by omega)⟩
  have e1:=mv_ok h g.1 (v:=1000000000000000000000000000000000000000) (fun p hp=>by rw [hF] at hp;simp at hp) 198 (some s)
  have e2:=shifted_ok h.toHSh g.1 1000000000000000000000000000000000000000 198 (some s)
  have r1:=cn_rep g (v:=1000000000000000000000000000000000000000) (by decide)
  have hT:evE (X.cx 199) (.cmp .ne (.loc 7) (.lst .nil)) [a0,.val (.ob 0 []),a2,a3,a4,a5,a6,.val (.lst ((bgs f).map .int)),.val (formD f),a9,a10,a11,a12,a13,a14,a15] (some s)=.ok (.bl false) (some s):=by
   generalize formD f=fD at *
   simp [evE,evEs,bgs,hF,show (D.lst []).shaped=true by decide]
  rw [LT.ite_false hT]
  generalize D.lst ((bgs f).map .int)=B at *
  generalize formD (shf f 1000000000000000000000000000000000000000)=gD at *
  generalize formD f=fD at *
  simp [evSs,evS,evE,evEs,e1,e2,r1]
 ·obtain ⟨y,F',hy⟩:∃ y F',f.F=y::F':=by
   cases e:f.F with
   | nil=>exact absurd e hF
   | cons y F'=>exact ⟨y,F',rfl⟩
  obtain ⟨I,z,hz⟩:∃ I z,f.F=I++[z]:=⟨_,_,(List.dropLast_concat_getLast hF).symm⟩
  have lo:∀ p∈f.F,y.1≤p.1:=by
   have hb:=g.1.bs
   rw [hy,List.map_cons,List.pairwise_cons] at hb
   intro p hp
   rw [hy] at hp
   rcases List.mem_cons.1 hp with rfl|hp
   ·exact Int.le_refl _
   ·have:=hb.1 p.1 (List.mem_map_of_mem hp);omega
  have hi:∀ p∈f.F,p.1≤z.1:=by
   have hb:=g.1.bs
   rw [hz,List.map_append,List.pairwise_append] at hb
   intro p hp
   rw [hz] at hp
   rcases List.mem_append.1 hp with hp|hp
   ·have:=hb.2.2 p.1 (List.mem_map_of_mem hp) z.1 (by simp);omega
   ·simp at hp;rw [hp];exact Int.le_refl _
  have hym:y∈f.F:=by rw [hy];simp
  have hzm:z∈f.F:=by rw [hz];simp
  have by_:=g.2 y hym
  have bz:=g.2 z hzm
  have i1:ix ((bgs f).map D.int) (-1)=some (.int z.1):=by unfold bgs;rw [hz,List.map_append,List.map_append];exact ixm1 _ _
  have i0:ix ((bgs f).map D.int) 0=some (.int y.1):=by unfold bgs;rw [hy];rfl
  have hne:((bgs f).map D.int).isEmpty=false:=by unfold bgs;rw [hy];rfl
  obtain ⟨d,u1,e0,d0,d1,o1⟩:=drwB9 h.f9 198 (m:=100000000000000000000) hs (by omega) (by decide) (by decide)
  refine ⟨.val (.int (1000000000000000000-z.1)),.val (.int (-1000000000000000000-y.1)),u1,?_,o1⟩
  have e1:=mv_ok h g.1 (v:=1000000000000000000-z.1) (fun p hp=>by have:=hi p hp;have:=g.2 p hp;omega) 198 (some s)
  have e2:=mv_ok h g.1 (v:=-1000000000000000000-y.1) (fun p hp=>by have:=lo p hp;have:=g.2 p hp;omega) 198 (some s)
  have e3:=shifted_ok h.toHSh g.1 (1000000000000000000-z.1) 198 (some s)
  have e4:=shifted_ok h.toHSh g.1 (-1000000000000000000-y.1) 198 (some s)
  have e5:=wide_run h g.1 (v:=1000000000000000000-z.1+1) (wide_true hzm (by omega)) 197 (some s)
  have e6:=wide_run h g.1 (v:=-1000000000000000000-y.1-1-d) (wide_true hym (by omega)) 197 (some u1)
  have r2:=cn_rep2 g (v:=1000000000000000000-z.1) (w:=-1000000000000000000-y.1) (by omega) (by omega)
  have hT:evE (X.cx 199) (.cmp .ne (.loc 7) (.lst .nil)) [a0,.val (.ob 0 []),a2,a3,a4,a5,a6,.val (.lst ((bgs f).map .int)),.val (formD f),a9,a10,a11,a12,a13,a14,a15] (some s)=.ok (.bl true) (some s):=by
   generalize formD f=fD at *
   generalize (bgs f).map D.int=B at *
   simp [evE,evEs,hsh,hne]
  rw [LT.ite_true hT]
  generalize (bgs f).map D.int=B at *
  generalize formD (shf f (1000000000000000000-z.1))=gD at *
  generalize formD (shf f (-1000000000000000000-y.1))=hD at *
  generalize formD f=fD at *
  generalize z.1=zz at *
  generalize y.1=yy at *
  simp [evSs,evS,evE,evEs,i0,i1,e0,e1,e2,e3,e4,e5,e6,r2,PL.mk]
abbrev lB (x:Ss)(a b:Ss):Ss:=(.cons s1 (.cons s2 (.cons s3 (.cons s4 (.cons s5 (.cons (.for_ (.nm 6) i6 x) (.cons s7 (.cons (.ite [] (.cmp .ne (.loc 7) (.lst .nil)) a b) .nil))))))))
theorem turn_ok (a0 a2 a3 a4 a5 a6 a7 a8 a9 a10 a11 a12 a13 a14 a15:Slot){s:Strm}{j:Int}(hs:Ok j s)(hj:j≤2^46) :
  ∃ b4 b5 b6 b7 b8 b9 b10 b11 b12 s',evSs (X.cx 199) (lB xB s8a s8b) [a0,.val (.ob 0 []),a2,a3,a4,a5,a6,a7,a8,a9,a10,a11,a12,a13,a14,a15] (some s)=.next [a0,.val (.ob 0 []),a2,a3,b4,b5,b6,b7,b8,b9,b10,b11,b12,a13,a14,a15] (some s')∧Ok (j+60) s':=by
 obtain ⟨f,v,w,u1,e1,g,hv,hw,o1⟩:=s1_ok h a0 a2 a3 a4 a5 a6 a7 a8 a9 a10 a11 a12 a13 a14 a15 hs (by omega)
 obtain ⟨b5,b10,e2⟩:=s25_ok h g hv hw a0 a2 a3 a4 a5 a6 a7 a10 a11 a12 a13 a14 a15 (some u1) (.cons (.for_ (.nm 6) i6 xB) (.cons s7 (.cons (.ite [] (.cmp .ne (.loc 7) (.lst .nil)) s8a s8b) .nil)))
 obtain ⟨l,u2,e3,o2⟩:=i6_ok h a0 a2 a3 (.val (formD (shf f v))) b5 a6 a7 (.val (formD f)) (.val (.lst [.int v,.int w])) b10 a11 a12 a13 a14 a15 o1 (by omega)
 obtain ⟨b6,e4⟩:=xs_ok h g.1 v w 197 a0 (.val (.ob 0 [])) a2 a3 b5 a7 b10 a11 a12 a13 a14 a15 (some u2) l a6
 have e5:=s7_ok h g.1 a0 (.val (.ob 0 [])) a2 a3 (.val (formD (shf f v))) b5 b6 a7 (.val (.lst [.int v,.int w])) b10 a11 a12 a13 a14 a15 (some u2)
 obtain ⟨b11,b12,u3,e6,o3⟩:=s8_ok h g a0 a2 a3 (.val (formD (shf f v))) b5 b6 (.val (.lst [.int v,.int w])) b10 a11 a12 a13 a14 a15 o2 (by omega)
 refine ⟨.val (formD (shf f v)),b5,b6,.val (.lst ((bgs f).map .int)),.val (formD f),.val (.lst [.int v,.int w]),b10,b11,b12,u3,?_,o3.mono (by omega)⟩
 rw [evSs,e1,Q.then_next,e2,evSs,for_ofq e3,e4,Q.then_next,evSs,e5,Q.then_next,evSs,e6,Q.then_next,evSs]
end
def odd:SF:=⟨2,[1],[(4,[0])]⟩
def mny:SF:=⟨72,[5,71],[]⟩
theorem odd_ok:odd.Ok:=⟨by decide,by decide,⟨by decide,by decide⟩,fun p hp=>by simp [odd] at hp;subst hp;exact ⟨by decide,by decide⟩,by decide,by decide⟩
theorem mny_ok:mny.Ok:=⟨by decide,by decide,⟨by decide,by decide⟩,fun p hp=>by simp [mny] at hp,by decide,by decide⟩
theorem go0 {X:Prog}(h:H X):∀ ns:List Int,ns.length≤63→∃ st',run X 200 97 [.ob 1 (ns.map D.int)] none=.ok (.bl true) st':=by
 intro ns hl
 obtain ⟨s0,e0,t1,b0⟩:=stream_ok (X:=X) (f:=8) h.f8 198 ns (by omega)
 have o0:Ok 0 s0:=⟨by omega,by omega,by omega⟩
 obtain ⟨sc,hsc⟩:∃ sc,sc=D.ob 1 (ns.map D.int):=⟨_,rfl⟩
 rw [← hsc] at e0 ⊢
 obtain ⟨eB,hB⟩:∃ eB,eB=lB xB s8a s8b:=⟨_,rfl⟩
 have tk:=fun a0 a2 a3 a4 a5 a6 a7 a8 a9 a10 a11 a12 a13 a14 a15 (s:Strm) (j:Int) hs hj=>turn_ok h a0 a2 a3 a4 a5 a6 a7 a8 a9 a10 a11 a12 a13 a14 a15 (s:=s) (j:=j) hs hj
 rw [← hB] at tk
 have loop:∃ b2 b4 b5 b6 b7 b8 b9 b10 b11 b12 s',evS (X.cx 199) (.for_ (.nm 2) (.rng1 (.cst (.int 8))) eB) [.val sc,.val (.ob 0 []),.un,.un,.un,.un,.un,.un,.un,.un,.un,.un,.un,.un,.un,.un] (some s0)=.next [.val sc,.val (.ob 0 []),b2,.un,b4,b5,b6,b7,b8,b9,b10,b11,b12,.un,.un,.un] (some s'):=by
  rw [for_ofq (ds:=rngI 0 8) (st1:=some s0) (by simp [evI,evE,rngD,show okR 0=true by decide,show okR 8=true by decide])]
  obtain ⟨env',st',e,⟨b2,b4,b5,b6,b7,b8,b9,b10,b11,b12,s',he,hst,ho⟩⟩:=forL_inv (f:=forStep (evSs (X.cx 199) eB) (.nm 2)) (ds:=rngI 0 8) (i:=0)
   (P:=fun i env st'=>∃ (b2 b4 b5 b6 b7 b8 b9 b10 b11 b12:Slot) (s':Strm),env=[.val sc,.val (.ob 0 []),b2,.un,b4,b5,b6,b7,b8,b9,b10,b11,b12,.un,.un,.un]∧st'=some s'∧Ok (60*i) s') (env:=_) (st:=some s0) ⟨.un,.un,.un,.un,.un,.un,.un,.un,.un,.un,s0,rfl,rfl,o0.mono (by omega)⟩ (by
    rintro i d env st' hd ⟨b2,b4,b5,b6,b7,b8,b9,b10,b11,b12,s1,rfl,rfl,ho⟩
    obtain ⟨hi,rfl⟩:=rng_get hd
    rw [Nat.zero_add] at *
    have hi:i<8:=hi
    obtain ⟨c4,c5,c6,c7,c8,c9,c10,c11,c12,s2,e2,o2⟩:=tk (.val sc) (.val (.int i)) .un b4 b5 b6 b7 b8 b9 b10 b11 b12 .un .un .un s1 _ ho (by omega)
    refine ⟨_,some s2,?_,⟨.val (.int i),c4,c5,c6,c7,c8,c9,c10,c11,c12,s2,rfl,rfl,o2.mono (by omega)⟩⟩
    simp only [forStep,q_putN,List.set_cons_succ,List.set_cons_zero,Q.opt_some,Int.zero_add]
    exact e2)
  rw [e,hst,he]
  exact ⟨_,_,_,_,_,_,_,_,_,_,_,rfl⟩
 obtain ⟨b2,b4,b5,b6,b7,b8,b9,b10,b11,b12,s1',e1⟩:=loop
 have m1:=mv_ok h odd_ok (v:=1) (by decide) 198 (some s1')
 have m2:=mv_ok h odd_ok (v:=-2) (by decide) 198 (some s1')
 have m3:=mv_ok h mny_ok (v:=70) (by decide) 198 (some s1')
 rw [show shf odd 1=⟨2,[0],[(5,[1])]⟩ from rfl] at m1
 rw [show shf odd (-2)=⟨2,[1],[(2,[0])]⟩ from rfl] at m2
 rw [show shf mny 70=⟨72,[3,69],[]⟩ from rfl] at m3
 simp only [formD,formL,odd,mny,irD,LT.strD,List.map_cons,List.map_nil] at m1 m2 m3
 have rr:(D.lst [.tup [.int 2,.tup [.tup [.non,.tup [.int 0]],.tup [.int 5,.tup [.int 1]]]],.tup [.int 2,.tup [.tup [.non,.tup [.int 1]],.tup [.int 2,.tup [.int 0]]]],.tup [.int 72,.tup [.tup [.non,.tup [.int 3,.int 69]]]]]).reprOk=true:=by decide +kernel
 rw [run_fn h.f97 rfl]
 obtain ⟨eF,hF⟩:∃ eF,eF=S.for_ (.nm 2) (.rng1 (.cst (.int 8))) eB:=⟨_,rfl⟩
 rw [← hF] at e1
 refine ⟨some s1',?_⟩
 show outR (evSs (X.cx 199) (.cons (.asg false 1 (.call 8 (.cons (.loc 0) .nil))) (.cons (.for_ (.nm 2) (.rng1 (.cst (.int 8))) (lB xB s8a s8b)) _)) _ _)=_
 rw [← hB,← hF]
 push_cast at m1 m2 m3
 simp [evSs,evS,evE,evEs,entry,e0,e1,m1,m2,m3,rr,PL.mk]
theorem go (X:Prog)(h:X.fns=fun f=>fl.lookup f)(h2:X.gl=fun g=>gl.lookup g):∀ ns:List Int,ns.length≤63→∃ st',run X 200 97 [.ob 1 (ns.map D.int)] none=.ok (.bl true) st' :=
 go0 { f8:=fs h rfl,f9:=fs h rfl,f69:=fs h rfl,f87:=fs h rfl,f88:=fs h rfl,f89:=fs h rfl,f90:=fs h rfl,f91:=fs h rfl,f92:=fs h rfl,f93:=fs h rfl,f94:=fs h rfl,f95:=fs h rfl,f96:=fs h rfl,f97:=fs h rfl,g1:=gsd h2 rfl }
end Lk31
end
section
set_option maxHeartbeats 0
namespace Lk31
open PL LB PySem PySem.Spec PyProof.Rows L2
def top (i : Nat) : Stmt := PySem.Challenge.pw_restpieces_k31_sets_moved.main.body.getD i (.Pass ⟨0, 0, 0, 0⟩)
def d87 : DefP := ⟨"place_of", ["stretches", "x"], ["stretches", "x", "low", "high", "middle"], top 6⟩
def d88 : DefP := ⟨"has", ["chosen", "x"], ["chosen", "x", "step", "stretches"], top 8⟩
def d89 : DefP := ⟨"moved", ["chosen", "by"], ["chosen", "by", "rows", "found", "step", "stretches", "begin", "remainders", "rest"], top 9⟩
def d8 : DefP := ⟨"_law_stream", ["_law_script"], ["_law_script", "_law_cells", "_law_cell"], top 11⟩
def d9 : DefP := ⟨"_law_draw", ["_law_stream_here", "_law_many"], ["_law_stream_here", "_law_many", "_law_turn", "_law_cell", "_law_mixed", "_law_rest"], top 12⟩
def d69 : DefP := ⟨"_law_pick", ["_law_stream_here", "_law_items"], ["_law_stream_here", "_law_items"], top 13⟩
def d90 : DefP := ⟨"_law_rows", ["_law_stream_here"], ["_law_stream_here", "_law_found", "_law_begin", "_law_step", "_law_k", "_law_rest"], top 14⟩
def d91 : DefP := ⟨"_law_member", ["_law_rows_here", "_law_x"], ["_law_rows_here", "_law_x", "_law_begin", "_law_step", "_law_rests", "_law_row"], top 15⟩
def d92 : DefP := ⟨"_law_near", ["_law_rows_here"], ["_law_rows_here", "_law_x"], top 16⟩
def d93 : DefP := ⟨"_law_canonical", ["_law_near_here"], ["_law_near_here", "_law_best", "_law_step", "_law_left", "_law_right", "_law_found", "_law_k", "_law_own", "_law_rest"], top 17⟩
def d94 : DefP := ⟨"_law_shifted", ["_law_form", "_law_by"], ["_law_form", "_law_by", "_law_step", "_law_found", "_law_begin", "_law_rests", "_law_rest"], top 18⟩
def d95 : DefP := ⟨"_law_place", ["_law_stream_here"], ["_law_stream_here", "_law_far"], top 19⟩
def d96 : DefP := ⟨"_law_is_wide", ["_law_chosen", "_law_by"], ["_law_chosen", "_law_by", "error"], top 20⟩
def d97 : DefP := ⟨"law", ["_law_script"], ["_law_script", "_law_stream_here", "_law_turn", "_law_odd", "_law_due", "_law_found", "_law_x", "_law_begins", "_law_form", "_law_by", "_law_shown", "_law_up", "_law_down", "_law_k", "_law_begin", "_law_rests"], top 21⟩
def defs:List (Nat × DefP):=[(87,d87),(88,d88),(89,d89),(8,d8),(9,d9),(69,d69),(90,d90),(91,d91),(92,d92),(93,d93),(94,d94),(95,d95),(96,d96),(97,d97)]
def gs : List (Nat × Str) := [(1, "MAX_REACH")]
def xt : XT := ⟨[(4, "TooWide", ["PieceError", "TooWide"])], ["PieceError", "TooWide", "TooLarge"], []⟩
abbrev BiP (o:Str)(d:DefP):Prop:=∀ (kV doc pm:Value) (an:Option Addr) (cdv ct:Value) (us:List Value),us.length=d.ps.length→bindArgs (PySem.W.fnOf o o (defArgs d.sd) (defBody d.sd) (defScope d.sd) .none kV doc pm an cdv ct) ⟨us,[]⟩=pure (d.ps.zip us)
abbrev OkP (d:DefP)(f:Ss):Prop:=chkFn (fnameL defs) (gnameL gs) xt d.N d.ps f d.sd=true
theorem ok87:OkP d87 f87:=by decide +kernel
theorem ok88:OkP d88 f88:=by decide +kernel
theorem ok89:OkP d89 f89:=by decide +kernel
theorem ok8:OkP d8 f8:=by decide +kernel
theorem ok9:OkP d9 f9:=by decide +kernel
theorem ok69:OkP d69 f69:=by decide +kernel
theorem ok90:OkP d90 f90:=by decide +kernel
theorem ok91:OkP d91 f91:=by decide +kernel
theorem ok92:OkP d92 f92:=by decide +kernel
theorem ok93:OkP d93 f93:=by decide +kernel
theorem ok94:OkP d94 f94:=by decide +kernel
theorem ok95:OkP d95 f95:=by decide +kernel
theorem ok96:OkP d96 f96:=by decide +kernel
theorem ok97:OkP d97 f97:=by decide +kernel
theorem bi87:BiP d87.nm d87:=fun _ _ _ _ _ _ us hl=>match us,hl with|[_,_],_=>rfl
theorem bi88:BiP d88.nm d88:=fun _ _ _ _ _ _ us hl=>match us,hl with|[_,_],_=>rfl
theorem bi89:BiP d89.nm d89:=fun _ _ _ _ _ _ us hl=>match us,hl with|[_,_],_=>rfl
theorem bi8:BiP d8.nm d8:=fun _ _ _ _ _ _ us hl=>match us,hl with|[_],_=>rfl
theorem bi9:BiP d9.nm d9:=fun _ _ _ _ _ _ us hl=>match us,hl with|[_,_],_=>rfl
theorem bi69:BiP d69.nm d69:=fun _ _ _ _ _ _ us hl=>match us,hl with|[_,_],_=>rfl
theorem bi90:BiP d90.nm d90:=fun _ _ _ _ _ _ us hl=>match us,hl with|[_],_=>rfl
theorem bi91:BiP d91.nm d91:=fun _ _ _ _ _ _ us hl=>match us,hl with|[_,_],_=>rfl
theorem bi92:BiP d92.nm d92:=fun _ _ _ _ _ _ us hl=>match us,hl with|[_],_=>rfl
theorem bi93:BiP d93.nm d93:=fun _ _ _ _ _ _ us hl=>match us,hl with|[_],_=>rfl
theorem bi94:BiP d94.nm d94:=fun _ _ _ _ _ _ us hl=>match us,hl with|[_,_],_=>rfl
theorem bi95:BiP d95.nm d95:=fun _ _ _ _ _ _ us hl=>match us,hl with|[_],_=>rfl
theorem bi96:BiP d96.nm d96:=fun _ _ _ _ _ _ us hl=>match us,hl with|[_,_],_=>rfl
theorem bi97:BiP d97.nm d97:=fun _ _ _ _ _ _ us hl=>match us,hl with|[_],_=>rfl
theorem text_ok:TextOk (fnameL defs) (gnameL gs) xt defs fl:=⟨⟨rfl,rfl,rfl,ok87⟩,⟨rfl,rfl,rfl,ok88⟩,⟨rfl,rfl,rfl,ok89⟩,⟨rfl,rfl,rfl,ok8⟩,⟨rfl,rfl,rfl,ok9⟩,⟨rfl,rfl,rfl,ok69⟩,⟨rfl,rfl,rfl,ok90⟩,⟨rfl,rfl,rfl,ok91⟩,⟨rfl,rfl,rfl,ok92⟩,⟨rfl,rfl,rfl,ok93⟩,⟨rfl,rfl,rfl,ok94⟩,⟨rfl,rfl,rfl,ok95⟩,⟨rfl,rfl,rfl,ok96⟩,⟨rfl,rfl,rfl,ok97⟩,trivial⟩
end Lk31
end
open PySem PySem.W PyProof.Rows
set_option maxRecDepth 100000 in
set_option maxHeartbeats 0 in
theorem PySem.Challenge.cw_restpieces_k31_sets_moved_holds : PySem.Challenge.rw_restpieces_k31_sets_moved.Holds := by
 refine head ?_
 k_fill
 refine PL.law_endX (l := PySem.Challenge.rw_restpieces_k31_sets_moved) (m := 63) (k := 200) (f := 97) (x := "_law_script") (xt := Lk31.xt) (pr := PL.progL Lk31.fl Lk31.gl) (fname := PL.fnameL Lk31.defs) (gname := PL.gnameL Lk31.gs) (par := PL.parL Lk31.defs) rfl (by decide) rfl ⟨rfl, by decide, by decide⟩ (fun w h Y => PySem.W.kIn_of Y) rfl rfl ?M ?go
 case go=>exact Lk31.go _ rfl rfl
 case M =>
  intro w mg NS base
  refine' PL.mod_of (ds:=Lk31.defs) (gs:=Lk31.gs) NS Lk31.text_ok ?A ?C ?Z ?E ?N
  case N =>
   refine' PL.nam_at ?n0 ?nr0
   (case n0=>k_is)
   refine' PL.nam_at ?n1 ?nr1
   (case n1=>k_is)
   refine' PL.nam_at ?n2 ?nr2
   (case n2=>k_is)
   trivial
  case E =>
   refine' PL.err_at PySem.F.excBase_ValueError ?d_0 ?m0_0 ?m1_0 ?m2_0 ?m3_0 ?x0_0 ?x1_0 ?x3_0 ?x4_0 ?x5_0 ?x6_0 ?x7_0 rfl ?ask_0 ?more0
   (case d_0=>k_is)
   (case m0_0=>k_exc)
   (case m1_0|m2_0|m3_0|x0_0|x1_0|x3_0|x4_0|x5_0|x6_0|x7_0=>k_is)
   (case ask_0 =>
    refine' PL.ask_at ?qu0_0 ?qb0_0 ?qi0_0 ?qt0_0 ?qs0_0 ?qh0_0 ?qr0_0
    (case qu0_0|qb0_0|qi0_0|qt0_0|qs0_0=>k_is)
    (case qh0_0=>first|rfl|decide)
    refine' PL.ask_at ?qu0_1 ?qb0_1 ?qi0_1 ?qt0_1 ?qs0_1 ?qh0_1 ?qr0_1
    (case qu0_1|qb0_1|qi0_1|qt0_1|qs0_1=>k_is)
    (case qh0_1=>first|rfl|decide)
    refine' PL.ask_at ?qu0_2 ?qb0_2 ?qi0_2 ?qt0_2 ?qs0_2 ?qh0_2 ?qr0_2
    (case qu0_2|qb0_2|qi0_2|qt0_2|qs0_2=>k_is)
    (case qh0_2=>first|rfl|decide)
    trivial)
   trivial
  case Z =>
   refine' ⟨?z0,?z1,?z2,?z3,?z4,?z5,?z6,?z7,?z8,?z9,?z10,?z11,?z12,?z13,?z14,?z15,?z16,?z17,?z18,?z19,?z20,trivial⟩
   (case z0|z1|z2|z3|z4|z5|z6|z7|z8|z9|z10|z11|z12|z13|z14|z15|z16|z17|z18|z19|z20=>k_is)
  case A =>
   refine' ⟨?z87,?r87⟩
   (case z87=>as_aux_lemma=>(refine' PL.def_at Lk31.d87 Lk31.bi87 ?a87 ?l87 ?c87 ?k87;(case a87|l87|c87|k87=>k_is)))
   refine' ⟨?z88,?r88⟩
   (case z88=>as_aux_lemma=>(refine' PL.def_at Lk31.d88 Lk31.bi88 ?a88 ?l88 ?c88 ?k88;(case a88|l88|c88|k88=>k_is)))
   refine' ⟨?z89,?r89⟩
   (case z89=>as_aux_lemma=>(refine' PL.def_at Lk31.d89 Lk31.bi89 ?a89 ?l89 ?c89 ?k89;(case a89|l89|c89|k89=>k_is)))
   refine' ⟨?z8,?r8⟩
   (case z8=>as_aux_lemma=>(refine' PL.def_at Lk31.d8 Lk31.bi8 ?a8 ?l8 ?c8 ?k8;(case a8|l8|c8|k8=>k_is)))
   refine' ⟨?z9,?r9⟩
   (case z9=>as_aux_lemma=>(refine' PL.def_at Lk31.d9 Lk31.bi9 ?a9 ?l9 ?c9 ?k9;(case a9|l9|c9|k9=>k_is)))
   refine' ⟨?z69,?r69⟩
   (case z69=>as_aux_lemma=>(refine' PL.def_at Lk31.d69 Lk31.bi69 ?a69 ?l69 ?c69 ?k69;(case a69|l69|c69|k69=>k_is)))
   refine' ⟨?z90,?r90⟩
   (case z90=>as_aux_lemma=>(refine' PL.def_at Lk31.d90 Lk31.bi90 ?a90 ?l90 ?c90 ?k90;(case a90|l90|c90|k90=>k_is)))
   refine' ⟨?z91,?r91⟩
   (case z91=>as_aux_lemma=>(refine' PL.def_at Lk31.d91 Lk31.bi91 ?a91 ?l91 ?c91 ?k91;(case a91|l91|c91|k91=>k_is)))
   refine' ⟨?z92,?r92⟩
   (case z92=>as_aux_lemma=>(refine' PL.def_at Lk31.d92 Lk31.bi92 ?a92 ?l92 ?c92 ?k92;(case a92|l92|c92|k92=>k_is)))
   refine' ⟨?z93,?r93⟩
   (case z93=>as_aux_lemma=>(refine' PL.def_at Lk31.d93 Lk31.bi93 ?a93 ?l93 ?c93 ?k93;(case a93|l93|c93|k93=>k_is)))
   refine' ⟨?z94,?r94⟩
   (case z94=>as_aux_lemma=>(refine' PL.def_at Lk31.d94 Lk31.bi94 ?a94 ?l94 ?c94 ?k94;(case a94|l94|c94|k94=>k_is)))
   refine' ⟨?z95,?r95⟩
   (case z95=>as_aux_lemma=>(refine' PL.def_at Lk31.d95 Lk31.bi95 ?a95 ?l95 ?c95 ?k95;(case a95|l95|c95|k95=>k_is)))
   refine' ⟨?z96,?r96⟩
   (case z96=>as_aux_lemma=>(refine' PL.def_at Lk31.d96 Lk31.bi96 ?a96 ?l96 ?c96 ?k96;(case a96|l96|c96|k96=>k_is)))
   refine' ⟨?z97,?r97⟩
   (case z97=>as_aux_lemma=>(refine' PL.def_at Lk31.d97 Lk31.bi97 ?a97 ?l97 ?c97 ?k97;(case a97|l97|c97|k97=>k_is)))
   trivial
  case C =>
   refine' ⟨⟨rfl,PL.con_int ?h1⟩,?y0⟩
   (case h1=>k_is)
   trivial
