import PyProof.Rows.All
import HandS.Ends
import HandS.Words
import HandS.Iter
import HandS.Zip
import HandS.TryOnly
import KE.GoesEnum
import HandS.WrittenGet
import HandS.Text
import HandS.Star
import PyProof.StrLawsRepr
import KE.DataMinMax
import KE.KSortedM
import PyProof.ReprLen
import PyProof.FitsInt
import HandS.TupAny
import HandS.SortInts
import HandS.IsInst
import HandS.Conv
import HandS.ExcIs
import HandS.ForMost
import HandS.Flow
import HandS.More
import HandS.Wide
import HandS.Deep
import HandS.Exc
import HandS.ExcOwn
import PySem.Syntax
import HandS.TupMul
import KE.SortData
import HandS.SortRule
import PyProof.Rows.CountFlat
import PyProof.LongRange
import KE.KDictZip
import PyProof.ListNew
import HandS.Small
import HandS.DictComp
import HandS.SetFor
import HandS.Strs
import HandS.Style
import HandS.List
import KE.KRevSl
import KE.GoesOver
import PyProof.RulesMatch
import PyProof.Rows.MatchSeqLen
import PySem.Challenge.RW_restpieces_k06_whole_parts_of_equal_valu
import Wide.All
import OpenK.AllK
import Wide.FinOn
set_option Elab.async false
set_option maxHeartbeats 8000000
set_option linter.all false
set_option maxRecDepth 100000
set_option exponentiation.threshold 3000
section
set_option Elab.async false
def PySem.W.Fast.tw10752144545080417059:Unit:=()
def PySem.W.Fast.tw14238647983479506857:Unit:=()
def PySem.W.Fast.tw1938993925902452620:Unit:=()
def PySem.W.Fast.tw5556409147390740367:Unit:=()
def PySem.W.Fast.tw17847650733935569616:Unit:=()
def PySem.W.Fast.tw16834437885055654645:Unit:=()
def PySem.W.Fast.tw360689658293235736:Unit:=()
open PySem PySem.W PyProof.Rows
set_option maxHeartbeats 0 in
set_option maxRecDepth 100000 in
open_top head for PySem.Challenge.rw_restpieces_k06_whole_parts_of_equal_valu
end
section
namespace PL
inductive K0 where
 | i (n:Int)|s (x:List Nat)
 deriving DecidableEq,Inhabited
def K0.isS:K0→Bool
 | .s _=>true
 | .i _=>false
inductive D where
 | non|bl (b:Bool)|int (i:Int)|str (s:List Nat)
 | tup (xs:List D)|lst (xs:List D)|dct (ks:List K0) (vs:List D)|ob (t:Nat) (xs:List D)
 deriving Inhabited
structure Strm where
 big:List Int
 cells:List Int
 turn:Int
abbrev St:=Option Strm
inductive R (α:Type) where
 | ok (a:α) (st:St)|exc (c:Nat) (fs:List D) (st:St)|no
def R.bind {α β:Type}:R α→(α→St→R β)→R β
 | .ok a st,f=>f a st
 | .exc c fs st,_=>.exc c fs st
 | .no,_=>.no
@[simp] theorem R.bind_ok {α β:Type} (a:α) (st:St) (f:α→St→R β):(R.ok a st).bind f=f a st:=rfl
@[simp] theorem R.bind_exc {α β:Type} (c:Nat) (fs:List D) (st:St) (f:α→St→R β):(R.exc c fs st).bind f=.exc c fs st:=rfl
@[simp] theorem R.bind_no {α β:Type} (f:α→St→R β):(R.no:R α).bind f=.no:=rfl
def R.lift {α:Type}:Option α→St→R α
 | some a,st=>.ok a st
 | none,_=>.no
@[simp] theorem R.lift_some {α:Type} (a:α) (st:St):R.lift (some a) st=.ok a st:=rfl
@[simp] theorem R.lift_none {α:Type} (st:St):(R.lift (none:Option α) st)=.no:=rfl
mutual
def D.depth:D→Nat
 | .tup xs=>D.depths xs+1
 | .lst xs=>D.depths xs+1
 | .dct _ vs=>D.depths vs+1
 | .ob _ xs=>D.depths xs+1
 | _=>0
def D.depths:List D→Nat
 | []=>0
 | x::r=>max (D.depth x) (D.depths r)
end
mutual
/-- no dict, no object within -/
def D.plain:D→Bool
 | .tup xs=>D.plains xs
 | .lst xs=>D.plains xs
 | .str s=>s.all fun c=>decide (c<1114112)
 | .dct _ _=>false
 | .ob _ _=>false
 | _=>true
def D.plains:List D→Bool
 | []=>true
 | x::r=>D.plain x&&D.plains r
end
def D.shaped (d:D):Bool:=d.plain&&decide (d.depth≤60)
def D.flat:D→Bool
 | .non=>true
 | .bl _=>true
 | .int _=>true
 | .str _=>true
 | _=>false
mutual
/-- no list, no dict, no object within -/
def D.nol:D→Bool
 | .tup xs=>D.nols xs
 | .lst _=>false
 | .dct _ _=>false
 | .ob _ _=>false
 | _=>true
def D.nols:List D→Bool
 | []=>true
 | x::r=>D.nol x&&D.nols r
end
mutual
/-- Python's == of plain data -/
def D.eqv:D→D→Bool
 | .non,.non=>true
 | .bl a,.bl b=>a==b
 | .bl a,.int j=>(if a then 1 else 0)==j
 | .int i,.bl b=>i==(if b then 1 else 0)
 | .int i,.int j=>i==j
 | .str a,.str b=>a==b
 | .tup xs,.tup ys=>D.eqvs xs ys
 | .lst xs,.lst ys=>D.eqvs xs ys
 | _,_=>false
def D.eqvs:List D→List D→Bool
 | [],[]=>true
 | x::r,y::s=>D.eqv x y&&D.eqvs r s
 | _,_=>false
end
mutual
/-- repr's text has at most so many signs; ints below 2 ^ 1900 -/
def D.wt:D→Nat
 | .int _=>2000
 | .str s=>10*s.length+2
 | .tup xs=>D.wts xs+3
 | .lst xs=>D.wts xs+3
 | .dct _ _=>0
 | .ob _ _=>0
 | _=>5
def D.wts:List D→Nat
 | []=>0
 | x::r=>D.wt x+2+D.wts r
end
def bigN:Nat:=2^1900
mutual
def D.small:D→Bool
 | .int i=>decide (i.natAbs<bigN)
 | .str s=>s.all fun c=>decide (c<1114112)
 | .tup xs=>D.smalls xs
 | .lst xs=>D.smalls xs
 | .dct _ _=>false
 | .ob _ _=>false
 | _=>true
def D.smalls:List D→Bool
 | []=>true
 | x::r=>D.small x&&D.smalls r
end
abbrev line:Nat:=16777216
def D.reprOk (d:D):Bool:=d.small&&decide (d.depth≤150)&&decide (d.wt≤line)
def D.truth:D→Option Bool
 | .non=>some false
 | .bl b=>some b
 | .int i=>some (i != 0)
 | .str s=>if s.length≤line then some (!s.isEmpty) else none
 | .tup xs=>some (!xs.isEmpty)
 | .lst xs=>some (!xs.isEmpty)
 | _=>none
@[simp] theorem D.truth_bl (b:Bool):(D.bl b).truth=some b:=rfl
def D.ints:List D→Option (List Int)
 | []=>some []
 | .int i::r=>(D.ints r).map (i :: ·)
 | _=>none
def D.bools:List D→Option (List Bool)
 | []=>some []
 | .bl b::r=>(D.bools r).map (b :: ·)
 | _=>none
@[simp] theorem D.ints_map (l:List Int):D.ints (l.map D.int)=some l:=by
 induction l with
 | nil=>rfl
 | cons a r ih=>simp [D.ints,ih]
@[simp] theorem D.bools_map (l:List Bool):D.bools (l.map D.bl)=some l:=by
 induction l with
 | nil=>rfl
 | cons a r ih=>simp [D.bools,ih]
def ix {α:Type}(xs:List α)(i:Int):Option α :=
 if 0≤i then xs[i.toNat]? else if 0≤i+xs.length then xs[(i+xs.length).toNat]? else none
def clampI (n:Nat)(i:Int):Nat:=if 0≤i then min i.toNat n else (i+n).toNat
def endI (n d:Nat):Option Int→Nat
 | none=>d
 | some i=>clampI n i
def cut {α:Type}(xs:List α)(lo hi:Option Int):List α:=(xs.take (endI xs.length xs.length hi)).drop (endI xs.length 0 lo)
inductive Bop where
 | add|sub|mul|div|mod|pow|shl
 deriving DecidableEq
inductive Cop where
 | eq|ne|lt|le|gt|ge|inn|nin
 deriving DecidableEq
inductive Bi where
 | len|abs|max2|min2|maxL|minL|sum|int|bool|repr|sorted|any|all|divmod
 deriving DecidableEq
inductive Ty where
 | int|str|bool|tuple|list|dict
 deriving DecidableEq
def mulOk (a b:Int):Bool:=decide (a.natAbs.log2+b.natAbs.log2<1000000)
def divOk (b:Int):Bool:=(decide (b≠0)&&decide (b.natAbs<1073741824)) || (decide (0<b)&&decide (b.natAbs.log2<9000))
def bop:Bop→D→D→Option D
 | .add,.int a,.int b=>some (.int (a+b))
 | .add,.str a,.str b=>if a.length+b.length≤line then some (.str (a++b)) else none
 | .add,.lst a,.lst b=>if a.length+b.length≤line then some (.lst (a++b)) else none
 | .add,.tup a,.tup b=>if a.length+b.length≤line then some (.tup (a++b)) else none
 | .sub,.int a,.int b=>some (.int (a-b))
 | .mul,.int a,.int b=>if mulOk a b then some (.int (a*b)) else none
 | .mul,.lst a,.int n=>if 0≤n∧n<1000000∧a.length*n.toNat≤line then some (.lst (List.replicate n.toNat a).flatten) else none
 | .mul,.tup a,.int n=>if 1≤n∧n≤1000∧a≠[]∧a.length≤1000 then some (.tup (List.replicate n.toNat a).flatten) else none
 | .shl,.int a,.int b=>if 0≤b∧b≤1000000∧a.natAbs<2^64 then some (.int (a*2^b.toNat)) else none
 | .div,.int a,.int b=>if divOk b then some (.int (a.fdiv b)) else none
 | .mod,.int a,.int b=>if b≠0 then some (.int (a.fmod b)) else none
 | .pow,.int a,.int b=>if 0≤b∧b≤1000000∧a.natAbs<2^64 then some (.int (a^b.toNat)) else none
 | _,_,_=>none
def D.has (k:D):D→Option Bool
 | .lst ys=>if k.shaped&&ys.all D.shaped then some (ys.any fun y=>D.eqv y k) else none
 | .tup ys=>if k.flat&&ys.all D.flat then some (ys.any fun y=>D.eqv y k) else none
 | .dct ks _=>match k with
  | .int i=>if ks.any K0.isS then none else some (ks.contains (K0.i i))
  | .str s=>some (ks.contains (K0.s s))
  | _=>none
 | _=>none
def eqD:D→D→Option Bool
 | .str a,.str b=>some (a==b)
 | x,y=>if x.shaped&&y.shaped then some (D.eqv x y) else none
def cop:Cop→D→D→Option Bool
 | .eq,x,y=>eqD x y
 | .ne,x,y=>(eqD x y).map not
 | .lt,.int a,.int b=>some (decide (a<b))
 | .le,.int a,.int b=>some (decide (a≤b))
 | .gt,.int a,.int b=>some (decide (b<a))
 | .ge,.int a,.int b=>some (decide (b≤a))
 | .inn,x,y=>D.has x y
 | .nin,x,y=>(D.has x y).map not
 | _,_,_=>none
def findK {α:Type}(k:K0):List K0→List α→Option α
 | a::r,v::vs=>if a=k then some v else findK k r vs
 | _,_=>none
def subD:D→D→Option D
 | .tup xs,.int i=>ix xs i
 | .lst xs,.int i=>ix xs i
 | .str s,.int i=>if s.length≤line then (ix s i).map fun c=>.str [c] else none
 | .dct ks vs,.int i=>if ks.any K0.isS then none else findK (.i i) ks vs
 | .dct ks vs,.str s=>findK (.s s) ks vs
 | _,_=>none
def cutD:D→Option Int→Option Int→Option D
 | .tup xs,lo,hi=>some (.tup (cut xs lo hi))
 | .lst xs,lo,hi=>some (.lst (cut xs lo hi))
 | .str xs,lo,hi=>if xs.length≤line then some (.str (cut xs lo hi)) else none
 | _,_,_=>none
def insI (a:Int):List Int→List Int
 | []=>[a]
 | b::r=>if a≤b then a::b::r else b::insI a r
def sortI:List Int→List Int
 | []=>[]
 | a::r=>insI a (sortI r)
def insU (a:Int):List Int→List Int
 | []=>[a]
 | b::r=>if a<b then a::b::r else if a=b then b::r else b::insU a r
def sortU:List Int→List Int
 | []=>[]
 | a::r=>insU a (sortU r)
def maxI:List Int→Option Int
 | []=>none
 | a::r=>some (r.foldl max a)
def minI:List Int→Option Int
 | []=>none
 | a::r=>some (r.foldl min a)
def lenD:List D→Option D
 | [.lst xs]=>some (.int xs.length)
 | [.tup xs]=>some (.int xs.length)
 | [.str xs]=>if xs.length≤line then some (.int xs.length) else none
 | _=>none
def absD:List D→Option D
 | [.int i]=>some (.int (if i<0 then -i else i))
 | _=>none
def max2D:List D→Option D
 | [.int i,.int j]=>some (.int (if j > i then j else i))
 | _=>none
def min2D:List D→Option D
 | [.int i,.int j]=>some (.int (if j<i then j else i))
 | _=>none
def maxLD:List D→Option D
 | [.lst xs]=>(D.ints xs).bind fun l=>(maxI l).map .int
 | [.tup xs]=>(D.ints xs).bind fun l=>(maxI l).map .int
 | _=>none
mutual
/-- ints, tuples and lists of them to any depth, of one shape -/
def D.like:D→D→Bool
 | .int _,.int _=>true
 | .tup xs,.tup ys=>D.likes xs ys
 | .lst xs,.lst ys=>D.likes xs ys
 | _,_=>false
def D.likes:List D→List D→Bool
 | [],[]=>true
 | x::r,y::s=>D.like x y&&D.likes r s
 | _,_=>false
end
mutual
/-- Python's < of these -/
def D.ltN:D→D→Bool
 | .int a,.int b=>decide (a<b)
 | .tup xs,.tup ys=>D.ltNs xs ys
 | .lst xs,.lst ys=>D.ltNs xs ys
 | _,_=>false
def D.ltNs:List D→List D→Bool
 | x::r,y::s=>if D.eqv x y then D.ltNs r s else D.ltN x y
 | _,_=>false
end
def D.mins (xs:List D):Bool:=xs.all fun x=>decide (x.depth≤60)&&xs.all fun y=>D.like x y
def minDt:D→List D→D
 | b,[]=>b
 | b,x::r=>minDt (if D.ltN x b then x else b) r
def minT:List D→Option D
 | []=>none
 | x::r=>if D.mins (x::r) then some (minDt x r) else none
def minLD:List D→Option D
 | [.lst xs]=>match D.ints xs with
  | some l=>(minI l).map .int
  | none=>minT xs
 | [.tup xs]=>(D.ints xs).bind fun l=>(minI l).map .int
 | _=>none
def sumD:List D→Option D
 | [.lst xs]=>(D.ints xs).map fun l=>.int l.sum
 | _=>none
def intD:List D→Option D
 | [.int i]=>some (.int i)
 | [.bl b]=>some (.int (if b then 1 else 0))
 | _=>none
def boolD:List D→Option D
 | [.int i]=>some (.bl (i != 0))
 | [.bl b]=>some (.bl b)
 | _=>none
def reprD (shown:D→List Nat):List D→Option D
 | [d]=>if d.reprOk then some (.str (shown d)) else none
 | _=>none
def D.isTup1:D→Bool
 | .tup (_::_)=>true
 | _=>false
def D.sorts (xs:List D):Bool:=xs.all fun x=>x.isTup1&&(decide (x.depth≤60)&&xs.all fun y=>D.like x y)
def sortedD:List D→Option D
 | [.lst xs]=>match D.ints xs with
  | some l=>some (.lst ((sortI l).map .int))
  | none=>if D.sorts xs then some (.lst (xs.mergeSort fun a b=>!D.ltN b a)) else none
 | _=>none
def anyD:List D→Option D
 | [.lst xs]=>(D.bools xs).map fun l=>.bl (l.any id)
 | _=>none
def allD:List D→Option D
 | [.lst xs]=>(D.bools xs).map fun l=>.bl (l.all id)
 | _=>none
def divmodD:List D→Option D
 | [.int i,.int j]=>if 0<j∧j<1073741824 then some (.tup [.int (i/j),.int (i%j)]) else none
 | _=>none
def biD (shown:D→List Nat):Bi→List D→Option D
 | .len,ds=>lenD ds
 | .abs,ds=>absD ds
 | .max2,ds=>max2D ds
 | .min2,ds=>min2D ds
 | .maxL,ds=>maxLD ds
 | .minL,ds=>minLD ds
 | .sum,ds=>sumD ds
 | .int,ds=>intD ds
 | .bool,ds=>boolD ds
 | .repr,ds=>reprD shown ds
 | .sorted,ds=>sortedD ds
 | .any,ds=>anyD ds
 | .all,ds=>allD ds
 | .divmod,ds=>divmodD ds
def isTy:D→Ty→Option Bool
 | .non,_=>some false
 | .bl _,t=>some (t==.bool || t==.int)
 | .int _,t=>some (t==.int)
 | .str _,t=>some (t==.str)
 | .tup _,t=>some (t==.tuple)
 | .lst _,t=>some (t==.list)
 | .dct _ _,t=>some (t==.dict)
 | .ob _ _,_=>none
mutual
inductive E where
 | loc (i:Nat)|cst (d:D)|glb (g:Nat)
 | bin (o:Bop) (a b:E)|neg (a:E)
 | cmp (o:Cop) (a b:E)|chn (o1 o2:Cop) (a b c:E)|isn (a:E)|isnn (a:E)
 | and (a b:E)|or (a b:E)|not (a:E)|ifx (c a b:E)
 | call (f:Nat) (es:Es)|bi (b:Bi) (es:Es)|isi (a:E) (t:Ty)
 | tup (es:Es)|lst (es:Es)|dct (ks:List K0) (es:Es)
 | sub (a i:E)|slc (a:E) (lo hi:Eo)|get (a k d:E)|get1 (a k:E)
 | tof (a:E)|lof (t:It)|cnt (a b:E)
 | lc (e:E) (tg:Tg) (it:It) (c:Eo) (own:List Nat)
 | sHas (i:Nat)|sBig (i:Nat)|sTurn (i:Nat)|sCell (i j:Nat)
 | isE (a:E) (cs:List Nat)
 | lc2 (e:E) (tg:Tg) (it:It) (tg1:Tg) (it1:It) (own own1:List Nat)
 | dc (k v:E) (tg:Tg) (it:It) (c:Eo) (own:List Nat)|dc2 (k v:E) (tg:Tg) (it:It) (tg1:Tg) (it1:It) (own own1:List Nat)
 | sst (a:E)|rev (a:E)|isB (a:E) (b neg:Bool)|lsq (a:E)
 | zl (a b:E)|zls (a:E)|cat (a b:E)|dpl (a:E)
inductive Es where
 | nil|cons (e:E) (r:Es)|star (e:E) (r:Es)
inductive Eo where
 | no|so (e:E)
inductive It where
 | seq (e:E)|rng1 (a:E)|rng2 (a b:E)|rng3 (a b c:E)|rngL (a b:E)|enm (e:E) (s:Int)|zp (a b:E)|zp3 (a b c:E)|enmz (a b:E) (s:Int)
inductive Tg where
 | nm (i:Nat)|tp (ts:Tgs)
inductive Tgs where
 | nil|cons (t:Tg) (r:Tgs)
end
inductive Slot where
 | un|val (d:D)|own (ds:List D)|dow (ks:List K0) (ds:List D)
 deriving Inhabited
abbrev Env:=List Slot
def Slot.get:Slot→Option D
 | .val d=>some d
 | _=>none
def Env.get (env:Env)(i:Nat):Option D:=(env[i]?).bind Slot.get
def wipeE (env:Env):List Nat→Env
 | []=>env
 | v::vs=>(wipeE env vs).set v .un
mutual
/-- a target is stored to -/
def putT:Tg→D→Env→Option Env
 | .nm i,d,env=>some (env.set i (.val d))
 | .tp ts,.tup xs,env=>putTs ts xs env
 | .tp ts,.lst xs,env=>putTs ts xs env
 | .tp _,_,_=>none
def putTs:Tgs→List D→Env→Option Env
 | .nil,[],env=>some env
 | .cons t r,x::xs,env=>(putT t x env).bind (putTs r xs)
 | _,_,_=>none
end
def mapR (f:D→St→R (Option D)):List D→St→R (List D)
 | [],st=>.ok [] st
 | x::r,st=>(f x st).bind fun y st=>(mapR f r st).bind fun ys st=>.ok (match y with|some y=>y::ys|none=>ys) st
def rngI (a b:Int):List D:=(List.range (b-a).toNat).map fun k:Nat=>D.int (a+k)
def downI (a b:Int):List D:=(List.range (a-b).toNat).map fun k:Nat=>D.int (a-k)
def upI (a b c:Int):List D:=(List.range (if a<b then (b-a-1)/c+1 else 0).toNat).map fun k:Nat=>D.int (a+k*c)
def okR (a:Int):Bool:=decide (-(2^62)≤a∧a<2^62)
def D.items:D→Option (List D)
 | .tup xs=>some xs
 | .lst xs=>some xs
 | _=>none
def D.walk:D→Option (List D)
 | .tup xs=>some xs
 | .lst xs=>some xs
 | .ob 1 xs=>some xs
 | _=>none
def enmD (s:Int):List D→List D
 | []=>[]
 | x::r=>.tup [.int s,x]::enmD (s+1) r
def zipD:List D→List D→List D
 | x::r,y::s=>.tup [x,y]::zipD r s
 | _,_=>[]
def zip3D:List D→List D→List D→List D
 | x::r,y::s,z::t=>.tup [x,y,z]::zip3D r s t
 | _,_,_=>[]
def negD:D→Option D
 | .int i=>some (.int (-i))
 | _=>none
def D.isN:D→Bool
 | .non=>true
 | _=>false
def D.part:D→Option (Option Int)
 | .int i=>some (some i)
 | .non=>some none
 | _=>none
def D.isDct:D→Option Unit
 | .dct _ _=>some ()
 | _=>none
def getD:D→D→D→Option D
 | .dct ks vs,.int i,z=>if ks.any K0.isS then none else some ((findK (.i i) ks vs).getD z)
 | .dct ks vs,.str s,z=>some ((findK (.s s) ks vs).getD z)
 | _,_,_=>none
def D.isLst:D→Option Unit
 | .lst _=>some ()
 | _=>none
def cntD:D→D→Option D
 | .lst xs,.bl b=>(D.bools xs).map fun l=>.int (l.count b:Nat)
 | _,_=>none
def sstD:D→Option D
 | .lst xs=>(D.ints xs).bind fun l=>if l.length<64 then some (.lst ((sortU l).map .int)) else none
 | _=>none
def revD:D→Option D
 | .lst xs=>some (.lst xs.reverse)
 | .tup xs=>some (.tup xs.reverse)
 | _=>none
def isBD (b neg:Bool):D→Option D
 | .bl t=>some (.bl ((t==b) != neg))
 | _=>none
def K0.toD:K0→D
 | .i n=>.int n
 | .s x=>.str x
def lsqD:D→Option (List D)
 | .tup xs=>some xs
 | .lst xs=>some xs
 | .dct ks _=>if ks.any K0.isS then none else some (ks.map K0.toD)
 | _=>none
def rngD:D→D→Option (List D)
 | .int m,.int n=>if okR m&&okR n then some (rngI m n) else none
 | _,_=>none
def rngW:D→D→Option (List D)
 | .int m,.int n=>some (rngI m n)
 | _,_=>none
def rng3D:D→D→D→Option (List D)
 | .int m,.int n,.int k=>if (okR m&&okR n)&&k == -1 then some (downI m n) else if (0≤m∧m≤100000)∧(0≤n∧n≤100000)∧(1≤k∧k≤100000) then some (upI m n k) else none
 | _,_,_=>none
def strAt (env:Env)(i:Nat):St→Option Strm
 | none=>none
 | some s=>match env.get i with
  | some (.ob 0 [])=>some s
  | _=>none
def cellD (s:Strm):D→Option D
 | .int t=>some (.int (s.cells.getD (t%s.cells.length).toNat 0))
 | _=>none
def enmO (s:Int):D→Option (List D)
 | .lst ds=>if s=0 then some (enmD 0 ds) else none
 | .tup ds=>if s=0 then some (enmD 0 ds) else none
 | _=>none
def catO:D→D→Option (List D)
 | .lst a,.lst b=>some (a++b)
 | _,_=>none
def zipO (x y:D):Option (List D):=x.items.bind fun ds=>y.items.map fun es=>zipD ds es
def zip3O (x y z:D):Option (List D):=x.items.bind fun ds=>y.items.bind fun es=>z.items.map fun fs=>zip3D ds es fs
def zipsO (x:D):Option (List D):=x.items.bind fun l=>match l with
 | [a,b]=>zipO a b
 | [a,b,c]=>zip3O a b c
 | _=>none
def R.made:R (List D)→R D
 | .ok ys st=>if ys.length≤line then .ok (.lst ys) st else .no
 | _=>.no
def R.opt {α β:Type}(o:Option α)(f:α→R β):R β :=
 match o with
 | some a=>f a
 | none=>.no
@[simp] theorem R.opt_some {α β:Type} (a:α) (f:α→R β):R.opt (some a) f=f a:=rfl
@[simp] theorem R.opt_none {α β:Type} (f:α→R β):R.opt none f=.no:=rfl
def lcStep (fe:Env→St→R D)(fc:Env→St→R Bool)(tg:Tg)(own:List Nat)(env:Env)(d:D)(st:St):R (Option D) :=
 R.opt (putT tg d (wipeE env own)) fun env'=>(fc env' st).bind fun t st=>if t then (fe env' st).bind fun y st=>.ok (some y) st else .ok none st
def D.key:D→Option K0
 | .int n=>some (.i n)
 | .str s=>some (.s s)
 | _=>none
def putVs (k:K0)(v:D):List K0→List D→List D
 | a::ks,d::ds=>if a=k then v::ds else d::putVs k v ks ds
 | _,_=>[v]
def putKs (k:K0):List K0→List K0
 | a::ks=>if a=k then a::ks else a::putKs k ks
 | []=>[k]
def pairE (fk fv:Env→St→R D)(env:Env)(st:St):R D:=(fk env st).bind fun k st=>(fv env st).bind fun v st=>.ok (.tup [k,v]) st
def dctL:List K0→List D→List D→Option D
 | ks,ds,[]=>some (.dct ks ds)
 | ks,ds,.tup [k,v]::r=>k.key.bind fun k=>if ks.length<line then dctL (putKs k ks) (putVs k v ks ds) r else none
 | _,_,_=>none
def dplO:D→Option D
 | .lst ys=>dctL [] [] ys
 | _=>none
def R.dmade:R (List D)→R D
 | .ok ys st=>R.lift (dctL [] [] ys) st
 | _=>.no
def catR (f:D→St→R (List D)):List D→St→R (List D)
 | [],st=>.ok [] st
 | x::r,st=>(f x st).bind fun ys st=>(catR f r st).bind fun zs st=>.ok (ys++zs) st
def lc2Step (fi:Env→St→R (List D))(fe:Env→St→R D)(tg tg1:Tg)(own own1:List Nat)(env:Env)(d:D)(st:St):R (List D) :=
 R.opt (putT tg d (wipeE env own)) fun env1=>(fi env1 st).bind fun ds st=>mapR (lcStep fe (fun _ st=>.ok true st) tg1 own1 env1) ds st
structure Ctx where
 gl:Nat→Option D
 shown:D→List Nat
 cal:Nat→List D→St→R D
 er:Option (Nat × Nat):=none
def isED:Option (Nat × Nat)→List Nat→D→Option D
 | some (c,k),cs,.ob 2 [.int a]=>if a=k then some (.bl (cs.contains c)) else none
 | _,_,_=>none
@[simp] theorem isED_some (c k:Nat) (cs:List Nat):isED (some (c,k)) cs (.ob 2 [.int k])=some (.bl (cs.contains c)):=by simp [isED]
mutual
def evE (X:Ctx):E→Env→St→R D
 | .loc i,env,st=>R.lift (env.get i) st
 | .cst d,_,st=>.ok d st
 | .glb g,_,st=>R.lift (X.gl g) st
 | .bin o a b,env,st=>(evE X a env st).bind fun x st=>(evE X b env st).bind fun y st=>R.lift (bop o x y) st
 | .neg a,env,st=>(evE X a env st).bind fun x st=>R.lift (negD x) st
 | .cmp o a b,env,st=>(evE X a env st).bind fun x st=>(evE X b env st).bind fun y st=>R.lift ((cop o x y).map .bl) st
 | .chn o1 o2 a b c,env,st=>(evE X a env st).bind fun x st=>(evE X b env st).bind fun y st=>(R.lift (cop o1 x y) st).bind fun t st =>
   if t then (evE X c env st).bind fun z st=>R.lift ((cop o2 y z).map .bl) st else .ok (.bl false) st
 | .isn a,env,st=>(evE X a env st).bind fun x st=>.ok (.bl x.isN) st
 | .isnn a,env,st=>(evE X a env st).bind fun x st=>.ok (.bl (!x.isN)) st
 | .and a b,env,st=>(evE X a env st).bind fun x st=>(R.lift x.truth st).bind fun t st=>if t then evE X b env st else .ok x st
 | .or a b,env,st=>(evE X a env st).bind fun x st=>(R.lift x.truth st).bind fun t st=>if t then .ok x st else evE X b env st
 | .not a,env,st=>(evE X a env st).bind fun x st=>(R.lift x.truth st).bind fun t st=>.ok (.bl (!t)) st
 | .ifx c a b,env,st=>(evE X c env st).bind fun x st=>(R.lift x.truth st).bind fun t st=>if t then evE X a env st else evE X b env st
 | .call f es,env,st=>(evEs X es env st).bind fun ds st=>X.cal f ds st
 | .bi b es,env,st=>(evEs X es env st).bind fun ds st=>R.lift (biD X.shown b ds) st
 | .isi a t,env,st=>(evE X a env st).bind fun x st=>R.lift ((isTy x t).map .bl) st
 | .tup es,env,st=>(evEs X es env st).bind fun ds st=>if ds.length≤line then .ok (.tup ds) st else .no
 | .lst es,env,st=>(evEs X es env st).bind fun ds st=>if ds.length≤line then .ok (.lst ds) st else .no
 | .dct ks es,env,st=>(evEs X es env st).bind fun ds st=>if ds.length=ks.length∧ks.length≤15∧ks.Nodup then .ok (.dct ks ds) st else .no
 | .sub a i,env,st=>(evE X a env st).bind fun x st=>(evE X i env st).bind fun y st=>R.lift (subD x y) st
 | .slc a lo hi,env,st=>(evE X a env st).bind fun x st=>(evO X lo env st).bind fun l st=>(evO X hi env st).bind fun h st=>R.lift (cutD x l h) st
 | .get a k d,env,st=>(evE X a env st).bind fun x st=>(R.lift x.isDct st).bind fun _ st=>(evE X k env st).bind fun y st=>(evE X d env st).bind fun z st=>R.lift (getD x y z) st
 | .get1 a k,env,st=>(evE X a env st).bind fun x st=>(R.lift x.isDct st).bind fun _ st=>(evE X k env st).bind fun y st=>R.lift (getD x y .non) st
 | .tof a,env,st=>(evE X a env st).bind fun x st=>R.lift (x.items.map .tup) st
 | .cnt a b,env,st=>(evE X a env st).bind fun x st=>(R.lift x.isLst st).bind fun _ st=>(evE X b env st).bind fun y st=>R.lift (cntD x y) st
 | .lof t,env,st=>(evI X t env st).bind fun ds st=>if ds.length≤line then .ok (.lst ds) st else .no
 | .lc e tg it c own,env,st=>R.made ((evI X it env st).bind fun ds st=>mapR (lcStep (evE X e) (evB X c) tg own env) ds st)
 | .dc k v tg it c own,env,st=>R.dmade ((evI X it env st).bind fun ds st=>mapR (lcStep (pairE (evE X k) (evE X v)) (evB X c) tg own env) ds st)
 | .dc2 k v tg it tg1 it1 own own1,env,st=>R.dmade ((evI X it env st).bind fun ds st=>catR (lc2Step (evI X it1) (pairE (evE X k) (evE X v)) tg tg1 own own1 env) ds st)
 | .lc2 e tg it tg1 it1 own own1,env,st=>R.made ((evI X it env st).bind fun ds st=>catR (lc2Step (evI X it1) (evE X e) tg tg1 own own1 env) ds st)
 | .sHas i,env,st=>R.lift ((strAt env i st).map fun s=>.bl (!s.big.isEmpty)) st
 | .sBig i,env,st=>R.lift ((strAt env i st).bind fun s=>s.big.head?.map .int) st
 | .sTurn i,env,st=>R.lift ((strAt env i st).map fun s=>.int s.turn) st
 | .sCell i j,env,st=>R.lift ((strAt env i st).bind fun s=>(env.get j).bind (cellD s)) st
 | .isE a cs,env,st=>(evE X a env st).bind fun x st=>R.lift (isED X.er cs x) st
 | .sst a,env,st=>(evE X a env st).bind fun x st=>R.lift (sstD x) st
 | .rev a,env,st=>(evE X a env st).bind fun x st=>R.lift (revD x) st
 | .isB a b neg,env,st=>(evE X a env st).bind fun x st=>R.lift (isBD b neg x) st
 | .lsq a,env,st=>(evE X a env st).bind fun x st=>(R.lift (lsqD x) st).bind fun ds st=>if ds.length≤line then .ok (.lst ds) st else .no
 | .zl a b,env,st=>(evE X a env st).bind fun x st=>(evE X b env st).bind fun y st=>(R.lift (zipO x y) st).bind fun ds st=>if ds.length≤line then .ok (.lst ds) st else .no
 | .zls a,env,st=>(evE X a env st).bind fun x st=>(R.lift (zipsO x) st).bind fun ds st=>if ds.length≤line then .ok (.lst ds) st else .no
 | .dpl a,env,st=>(evE X a env st).bind fun x st=>R.lift (dplO x) st
 | .cat a b,env,st=>(evE X a env st).bind fun x st=>(evE X b env st).bind fun y st=>(R.lift (catO x y) st).bind fun ds st=>if ds.length≤line then .ok (.lst ds) st else .no
def evEs (X:Ctx):Es→Env→St→R (List D)
 | .nil,_,st=>.ok [] st
 | .cons e r,env,st=>(evE X e env st).bind fun x st=>(evEs X r env st).bind fun xs st=>.ok (x::xs) st
 | .star e r,env,st=>(evE X e env st).bind fun x st=>(R.lift x.items st).bind fun ys st=>(evEs X r env st).bind fun xs st=>.ok (ys++xs) st
def evO (X:Ctx):Eo→Env→St→R (Option Int)
 | .no,_,st=>.ok none st
 | .so e,env,st=>(evE X e env st).bind fun x st=>R.lift x.part st
/-- the test of a comprehension -/
def evB (X:Ctx):Eo→Env→St→R Bool
 | .no,_,st=>.ok true st
 | .so e,env,st=>(evE X e env st).bind fun x st=>R.lift x.truth st
def evI (X:Ctx):It→Env→St→R (List D)
 | .seq e,env,st=>(evE X e env st).bind fun x st=>R.lift x.walk st
 | .rng1 a,env,st=>(evE X a env st).bind fun x st=>R.lift (rngD (.int 0) x) st
 | .rng2 a b,env,st=>(evE X a env st).bind fun x st=>(evE X b env st).bind fun y st=>R.lift (rngD x y) st
 | .rngL a b,env,st=>(evE X a env st).bind fun x st=>(evE X b env st).bind fun y st=>R.lift (rngW x y) st
 | .rng3 a b c,env,st=>(evE X a env st).bind fun x st=>(evE X b env st).bind fun y st=>(evE X c env st).bind fun z st=>R.lift (rng3D x y z) st
 | .enm e s,env,st=>(evE X e env st).bind fun x st=>R.lift (enmO s x) st
 | .zp a b,env,st=>(evE X a env st).bind fun x st=>(evE X b env st).bind fun y st=>R.lift (zipO x y) st
 | .zp3 a b c,env,st=>(evE X a env st).bind fun x st=>(evE X b env st).bind fun y st=>(evE X c env st).bind fun z st=>R.lift (zip3O x y z) st
 | .enmz a b s,env,st=>(evE X a env st).bind fun x st=>(evE X b env st).bind fun y st=>R.lift ((zipO x y).map (enmD s)) st
end
inductive Pt where
 | cap (i:Nat)|any|val (s:List Nat)
inductive Pat where
 | any|vals (ss:List (List Nat))|seq (ps:List Pt)
mutual
inductive S where
 | asg (own:Bool) (i:Nat) (e:E)|asgs (fz:List Nat) (i:Nat) (e:E)
 | par2 (o1 o2:Bool) (i j:Nat) (a b:E)|par3 (o1 o2 o3:Bool) (i j k:Nat) (a b c:E)|asgT (tg:Tg) (e:E)
 | asgT2 (o1 o2:Bool) (i j:Nat) (a b:E)
 | frz (is:List Nat)
 | dnew (i:Nat)|dput (i:Nat) (k e:E)|aug (i:Nat) (e:E)
 | app (fz:List Nat) (i:Nat) (e:E)|ext (fz:List Nat) (i:Nat) (e:E)
 | exp (e:E)
 | ite (fz:List Nat) (c:E) (a b:Ss)
 | whl (fz:List Nat) (c:E) (b:Ss)
 | for_ (tg:Tg) (it:It) (b:Ss)
 | ret (e:E)|retN|pass|brk|cnt
 | mtch (e:E) (cs:Cs)|never
 | sPutB (i:Nat) (e:E)|sPop (i:Nat)|sPutT (i:Nat) (e:E)|retS (e:E) (j:Nat)
 | raise (c:Nat)|tryA (cs:List Nat) (i:Nat) (b h:Ss)|tryO (cs:List Nat) (b h:Ss)
inductive Ss where
 | nil|cons (s:S) (r:Ss)
inductive Cs where
 | nil|cons (p:Pat) (b:Ss) (r:Cs)
end
inductive Q where
 | next (env:Env) (st:St)|ret (d:D) (st:St)|brk (env:Env) (st:St)|cnt (env:Env) (st:St)
 | exc (c:Nat) (fs:List D) (env:Env) (st:St)|no
def augD:D→D→Option D
 | .int a,.int b=>some (.int (a+b))
 | _,_=>none
def Slot.frz:Slot→Slot
 | .own ds=>.val (.lst ds)
 | .dow ks ds=>.val (.dct ks ds)
 | s=>s
def frz1 (env:Env)(i:Nat):Env :=
 match env[i]? with
 | some s=>env.set i s.frz
 | none=>env
def freeze (env:Env):List Nat→Env
 | []=>env
 | i::r=>freeze (frz1 env i) r
def R.use {α:Type}(r:R α)(env:Env)(k:α→St→Q):Q :=
 match r with
 | .ok a st=>k a st
 | .exc c fs st=>.exc c fs env st
 | .no=>.no
@[simp] theorem R.use_ok {α:Type} (a:α) (st:St) (env:Env) (k:α→St→Q):(R.ok a st).use env k=k a st:=rfl
@[simp] theorem R.use_exc {α:Type} (c:Nat) (fs:List D) (st:St) (env:Env) (k:α→St→Q):(R.exc c fs st:R α).use env k=.exc c fs env st:=rfl
@[simp] theorem R.use_no {α:Type} (env:Env) (k:α→St→Q):(R.no:R α).use env k=.no:=rfl
def Q.then (q:Q)(k:Env→St→Q):Q :=
 match q with
 | .next env st=>k env st
 | q=>q
@[simp] theorem Q.then_next (env:Env) (st:St) (k:Env→St→Q):(Q.next env st).then k=k env st:=rfl
@[simp] theorem Q.then_ret (d:D) (st:St) (k:Env→St→Q):(Q.ret d st).then k=.ret d st:=rfl
@[simp] theorem Q.then_no (k:Env→St→Q):Q.no.then k=.no:=rfl
@[simp] theorem Q.then_brk (env:Env) (st:St) (k:Env→St→Q):(Q.brk env st).then k=.brk env st:=rfl
@[simp] theorem Q.then_cnt (env:Env) (st:St) (k:Env→St→Q):(Q.cnt env st).then k=.cnt env st:=rfl
@[simp] theorem Q.then_exc (c:Nat) (fs:List D) (env:Env) (st:St) (k:Env→St→Q):(Q.exc c fs env st).then k=.exc c fs env st:=rfl
def Q.opt {α:Type}(o:Option α)(f:α→Q):Q :=
 match o with
 | some a=>f a
 | none=>.no
@[simp] theorem Q.opt_some {α:Type} (a:α) (f:α→Q):Q.opt (some a) f=f a:=rfl
@[simp] theorem Q.opt_none {α:Type} (f:α→Q):Q.opt none f=.no:=rfl
def ownAt (env:Env)(i:Nat):Option (List D) :=
 match env[i]? with
 | some (.own ds)=>some ds
 | _=>none
def dowAt (env:Env)(i:Nat):Option (List K0 × List D) :=
 match env[i]? with
 | some (.dow ks ds)=>some (ks,ds)
 | _=>none
def putB (env:Env)(i:Nat)(d:D)(st:St):Option St :=
 match strAt env i st,d with
 | some s,.int v=>match s.big with
  | _::r=>some (some { s with big:=v::r })
  | []=>none
 | _,_=>none
def popB (env:Env)(i:Nat)(st:St):Option St :=
 match strAt env i st with
 | some s=>match s.big with
  | _::r=>some (some { s with big:=r })
  | []=>none
 | none=>none
def putU (env:Env)(i:Nat)(d:D)(st:St):Option St :=
 match strAt env i st,d with
 | some s,.int v=>some (some { s with turn:=v })
 | _,_=>none
def mkS (d:D)(own:Option (List D))(st:St):Option St :=
 match d,own,st with
 | .lst xs,some ds,none=>match D.ints xs,D.ints ds with
  | some big,some l=>some (some ⟨big,if l=[] then [47] else l,0⟩)
  | _,_=>none
 | _,_,_=>none
def lstAt (fz:List Nat):D→Option (List D)
 | .lst xs=>if fz=[]∨D.nols xs=true then some xs else none
 | _=>none
def mk (own:Bool)(d:D):Slot:=match own,d with
 | true,.lst ds=>.own ds
 | _,_=>.val d
def forL (f:D→Env→St→Q):List D→Env→St→Q
 | [],env,st=>.next env st
 | x::r,env,st=>match f x env st with
  | .next env st=>forL f r env st
  | .cnt env st=>forL f r env st
  | .brk env st=>.next env st
  | q=>q
def whlL (c:Env→St→R Bool)(f:Env→St→Q):Nat→Env→St→Q
 | 0,_,_=>.no
 | n+1,env,st=>(c env st).use env fun t st=>if t then
   (match f env st with
   | .next env st=>whlL c f n env st
   | .cnt env st=>whlL c f n env st
   | .brk env st=>.next env st
   | q=>q) else .next env st
def whlTest (f:Env→St→R D)(fz:List Nat)(env:Env)(st:St):R Bool:=(f (freeze env fz) st).bind fun x st=>R.lift x.truth st
def forStep (f:Env→St→Q)(tg:Tg)(d:D)(env:Env)(st:St):Q:=Q.opt (putT tg d env) fun env=>f env st
def turns:Nat:=1000000000
def ptIn:Pt→D→Option Bool
 | .cap _,_=>some true
 | .any,_=>some true
 | .val s,d=>eqD d (.str s)
def ptsIn:List Pt→List D→Option Bool
 | [],[]=>some true
 | p::ps,d::ds=>(ptIn p d).bind fun t=>if t then ptsIn ps ds else some false
 | _,_=>some false
def ptBind:List Pt→List D→Env→Env
 | .cap i::ps,d::ds,env=>ptBind ps ds (env.set i (.val d))
 | _::ps,_::ds,env=>ptBind ps ds env
 | _,_,env=>env
def valIn (d:D):List (List Nat)→Option Bool
 | []=>some false
 | s::r=>(eqD d (.str s)).bind fun t=>if t then some true else valIn d r
def patIn:Pat→D→Option Bool
 | .any,_=>some true
 | .vals ss,d=>valIn d ss
 | .seq ps,.tup xs=>if xs.length=ps.length then ptsIn ps xs else some false
 | .seq _,.non=>some false
 | .seq _,.int _=>some false
 | .seq _,.bl _=>some false
 | .seq _,.str _=>some false
 | .seq _,_=>none
def patBind:Pat→D→Env→Env
 | .seq ps,.tup xs,env=>ptBind ps xs env
 | _,_,env=>env
def evS_try (q:Q)(f:Nat→List D→Env→St→Q):Q :=
 match q with
 | .exc c fs env st=>f c fs env st
 | q=>q
@[simp] theorem evS_try_next (env:Env) (st:St) (f):evS_try (.next env st) f=.next env st:=rfl
@[simp] theorem evS_try_ret (d:D) (st:St) (f):evS_try (.ret d st) f=.ret d st:=rfl
@[simp] theorem evS_try_exc (c:Nat) (fs:List D) (env:Env) (st:St) (f):evS_try (.exc c fs env st) f=f c fs env st:=rfl
@[simp] theorem evS_try_no (f):evS_try .no f=.no:=rfl
def Q.gone (i:Nat):Q→Q
 | .next env st=>.next (env.set i .un) st
 | .brk env st=>.brk (env.set i .un) st
 | .cnt env st=>.cnt (env.set i .un) st
 | .ret d st=>.ret d st
 | _=>.no
def Q.noX:Q→Q
 | .exc _ _ _ _=>.no
 | q=>q
@[simp] theorem Q.gone_ret (i:Nat) (d:D) (st:St):(Q.ret d st).gone i=.ret d st:=rfl
@[simp] theorem Q.gone_next (i:Nat) (env:Env) (st:St):(Q.next env st).gone i=.next (env.set i .un) st:=rfl
@[simp] theorem Q.noX_ret (d:D) (st:St):(Q.ret d st).noX=.ret d st:=rfl
@[simp] theorem Q.noX_next (env:Env) (st:St):(Q.next env st).noX=.next env st:=rfl
open Classical in
noncomputable def tryQ (i:Nat)(f:Nat→Q):Q:=if ∀ a,(f a).gone i=(f 0).gone i then (f 0).gone i else .no
def E.disp:E→Bool
 | .lst _=>true
 | _=>false
def D.nolL:D→Bool
 | .lst xs=>D.nols xs
 | d=>d.nol
mutual
noncomputable def evS:Ctx→S→Env→St→Q
 | X,.asg o i e,env,st=>(evE X e env st).use env fun d st=>.next (env.set i (mk o d)) st
 | X,.asgs fz i e,env,st=>(evE X e (freeze env fz) st).use env fun d st=>if d.nol then .next (env.set i (.val d)) st else .no
 | X,.par2 o1 o2 i j a b,env,st=>(evE X a env st).use env fun x st=>(evE X b env st).use env fun y st =>
   if i<env.length∧j<env.length∧i≠j then .next ((env.set i (mk o1 x)).set j (mk o2 y)) st else .no
 | X,.par3 o1 o2 o3 i j k a b c,env,st=>(evE X a env st).use env fun x st=>(evE X b env st).use env fun y st=>(evE X c env st).use env fun z st =>
   if i<env.length∧j<env.length∧k<env.length∧i≠j∧i≠k∧j≠k then .next (((env.set i (mk o1 x)).set j (mk o2 y)).set k (mk o3 z)) st else .no
 | X,.asgT2 o1 o2 i j a b,env,st=>(evE X a env st).use env fun x st=>(evE X b env st).use env fun y st =>
   if i<env.length∧j<env.length∧i≠j then .next ((env.set i (mk o1 x)).set j (mk o2 y)) st else .no
 | X,.asgT tg e,env,st=>(evE X e env st).use env fun d st=>Q.opt (putT tg d env) fun env=>.next env st
 | X,.frz is,env,st=>.next (freeze env is) st
 | X,.aug i e,env,st=>Q.opt (env.get i) fun x=>(evE X e env st).use env fun y st=>Q.opt (augD x y) fun d=>.next (env.set i (.val d)) st
 | _,.dnew i,env,st=>.next (env.set i (.dow [] [])) st
 | X,.dput i k e,env,st=>(evE X e env st).use env fun v st=>Q.opt (dowAt env i) fun kd=>(evE X k env st).use env fun kv st=>Q.opt kv.key fun k=>if kd.1.length<line then .next (env.set i (.dow (putKs k kd.1) (putVs k v kd.1 kd.2))) st else .no
 | X,.app fz i e,env,st=>Q.opt (ownAt env i) fun ds=>(evE X e (freeze env fz) st).use env fun d st=>if ds.length<line∧(fz=[]∨d.nol=true∨(e.disp=true∧d.nolL=true)) then .next (env.set i (.own (ds++[d]))) st else .no
 | X,.ext fz i e,env,st=>Q.opt (ownAt env i) fun ds=>(evE X e (freeze env fz) st).use env fun d st=>Q.opt (lstAt fz d) fun xs=>if ds.length+xs.length≤line then .next (env.set i (.own (ds++xs))) st else .no
 | X,.exp e,env,st=>(evE X e env st).use env fun _ st=>.next env st
 | X,.ite fz c a b,env,st=>(evE X c (freeze env fz) st).use env fun x st=>(R.lift x.truth st).use env fun t st=>if t then evSs X a env st else evSs X b env st
 | X,.whl fz c b,env,st=>whlL (whlTest (evE X c) fz) (evSs X b) turns env st
 | X,.for_ tg it b,env,st=>(evI X it env st).use env fun ds st=>forL (forStep (evSs X b) tg) ds env st
 | X,.ret e,env,st=>(evE X e env st).use env fun d st=>.ret d st
 | X,.retN,_,st=>.ret .non st
 | X,.pass,env,st=>.next env st
 | X,.brk,env,st=>.brk env st
 | X,.cnt,env,st=>.cnt env st
 | X,.mtch e cs,env,st=>(evE X e env st).use env fun d st=>evC X cs d env st
 | X,.never,_,_=>.no
 | X,.sPutB i e,env,st=>(evE X e env st).use env fun d st=>Q.opt (putB env i d st) fun st=>.next env st
 | X,.sPop i,env,st=>Q.opt (popB env i st) fun st=>.next env st
 | X,.sPutT i e,env,st=>(evE X e env st).use env fun d st=>Q.opt (putU env i d st) fun st=>.next env st
 | X,.retS e j,env,st=>(evE X e (freeze env [j]) st).use env fun d st=>Q.opt (mkS d (ownAt env j) st) fun st=>.ret (.ob 0 []) st
 | _,.raise c,env,st=>.exc c [] env st
 | X,.tryA cs i b h,env,st=>(evS_try (evSs X b env st)) fun c fs env st=>if cs.contains c then (if fs=[] then tryQ i fun a=>evSs { X with er:=some (c,a) } h (env.set i (.val (.ob 2 [.int a]))) st else .no) else .exc c fs env st
 | X,.tryO cs b h,env,st=>(evS_try (evSs X b env st)) fun c fs env st=>if cs.contains c then (evSs { X with er:=none } h env st).noX else .exc c fs env st
noncomputable def evSs:Ctx→Ss→Env→St→Q
 | X,.nil,env,st=>.next env st
 | X,.cons s r,env,st=>(evS X s env st).then (evSs X r)
noncomputable def evC:Ctx→Cs→D→Env→St→Q
 | X,.nil,_,env,st=>.next env st
 | X,.cons p b r,d,env,st=>Q.opt (patIn p d) fun t=>if t then evSs X b (patBind p d env) st else evC X r d env st
end
inductive Fn where
 | fn (ps ns:Nat) (body:Ss)
 | prim (f:List D→St→R D)
structure Prog where
 fns:Nat→Option Fn
 gl:Nat→Option D
 shown:D→List Nat
 er:Option (Nat × Nat):=none
def outR:Q→R D
 | .ret d st=>.ok d st
 | .next _ st=>.ok .non st
 | .exc c fs _ st=>.exc c fs st
 | _=>.no
@[simp] theorem outR_ret (d:D) (st:St):outR (.ret d st)=.ok d st:=rfl
@[simp] theorem outR_next (env:Env) (st:St):outR (.next env st)=.ok .non st:=rfl
@[simp] theorem outR_no:outR .no=.no:=rfl
def entry (ns:Nat)(ds:List D):Env:=ds.map .val++List.replicate (ns-ds.length) .un
noncomputable def run (P:Prog):Nat→Nat→List D→St→R D
 | 0,_,_,_=>.no
 | k+1,f,ds,st=>match P.fns f with
  | none=>.no
  | some (.prim g)=>g ds st
  | some (.fn ps ns b)=>if ds.length=ps then outR (evSs ⟨P.gl,P.shown,run P k,none⟩ b (entry ns ds) st) else .no
noncomputable abbrev Prog.cx (P:Prog)(k:Nat):Ctx:=⟨P.gl,P.shown,run P k,none⟩
noncomputable abbrev Prog.cxe (P:Prog)(k:Nat):Ctx:=⟨P.gl,P.shown,run P k,P.er⟩
end PL
end
section
namespace PL
open PySem
mutual
def toPy:D→PyData
 | .non=>.none
 | .bl b=>.bool b
 | .int i=>.int i
 | .str s=>.str ⟨s.toArray⟩
 | .tup xs=>.tuple (toPys xs)
 | .lst xs=>.list (toPys xs)
 | .dct _ _=>.none
 | .ob _ _=>.none
def toPys:List D→List PyData
 | []=>[]
 | x::r=>toPy x::toPys r
end
def shownD (d:D):List Nat:=(toPy d).shown.cps.toList
structure XT where
 cls:List (Nat × Str × List Str)
 nms:List Str
structure SC where
 sc:Scope
 st:Str→Bool
 N:List Str
 fname:Nat→Option Str
 gname:Nat→Option Str
 xt:XT
 cal:Bool
def okName (x : Str) : Bool := !(x == ("__debug__" : Str)) && (!(x == ("__classdict__" : Str)) && !(x == ("__name__" : Str)))
def isLoc (sc:Scope)(x:Str):Bool:=match sc.names.lookup x with|some .local=>true|some .cell=>true|_=>false
def visB (sc:Scope)(x:Str):Bool:=match sc.names.lookup x with|some .local=>true|some .cell=>true|some .free=>true|_=>false
def globB (sc:Scope)(x:Str):Bool:=match sc.names.lookup x with|some .globalImplicit=>okName x|_=>false
def isStar:Expr→Bool
 | .Starred _ _=>true
 | _=>false
def isSlice:Expr→Bool
 | .Slice _ _ _ _=>true
 | _=>false
def isLC:Expr→Bool
 | .ListComp _ _ _ _=>true
 | .SetComp _ _ _ _=>true
 | .DictComp _ _ _ _ _=>true
 | _=>false
def bopOf:Bop→Operator
 | .add=>.Add|.sub=>.Sub|.mul=>.Mult|.div=>.FloorDiv|.mod=>.Mod|.pow=>.Pow|.shl=>.LShift
def copOf:Cop→CmpOp
 | .eq=>.Eq|.ne=>.NotEq|.lt=>.Lt|.le=>.LtE|.gt=>.Gt|.ge=>.GtE|.inn=>.In|.nin=>.NotIn
def biName:Bi→Str
 | .len => "len" | .abs => "abs" | .max2 => "max" | .min2 => "min" | .maxL => "max" | .minL => "min" | .sum => "sum"
 | .int => "int" | .bool => "bool" | .repr => "repr" | .sorted => "sorted" | .any => "any" | .all => "all" | .divmod => "divmod"
def tyName:Ty→Str
 | .int => "int" | .str => "str" | .bool => "bool" | .tuple => "tuple" | .list => "list" | .dict => "dict"
def bltNames : List Str := ["len", "abs", "max", "min", "sum", "int", "bool", "repr", "sorted", "any", "all", "divmod", "isinstance", "str", "tuple", "list", "dict", "range", "enumerate", "zip", "set"]
def keyB (k:K0):Option Expr→Bool
 | some (.Constant (.int i) _ _)=>decide (k=.i i)
 | some (.Constant (.str x) _ _)=>decide (k=.s x.cps.toList)
 | _=>false
def keysB:List K0→List (Option Expr)→Bool
 | [],[]=>true
 | k::r,e::s=>keyB k e&&keysB r s
 | _,_=>false
def ownN (N:List Str):List Nat→List (Str × Nat)
 | []=>[]
 | i::r=>match N[i]? with
  | some x=>(x,i)::ownN N r
  | none=>ownN N r
def SC.blk (C:SC)(scope:Scope):SC:={ C with sc:=L2.relS scope C.sc,st:=fun x=>isLoc scope x }
def okBase:Expr→Bool
 | .Call _ [] _ _=>false
 | _=>true
mutual
/-- the slots that a target stores to -/
def tgIn (own:List Nat):Tg→Bool
 | .nm i=>own.contains i
 | .tp ts=>tgsIn own ts
def tgsIn (own:List Nat):Tgs→Bool
 | .nil=>true
 | .cons t r=>tgIn own t&&tgsIn own r
end
def itOk:It→Expr→Bool
 | .enm _ _,.Tuple _ _ _=>true
 | .enm _ _,_=>false
 | .zp _ _,.Tuple _ _ _=>true
 | .zp _ _,_=>false
 | .zp3 _ _ _,.Tuple _ _ _=>true
 | .zp3 _ _ _,_=>false
 | .enmz _ _ _,.Tuple _ _ _=>true
 | .enmz _ _ _,_=>false
 | _,_=>true
mutual
def chkT (C:SC):Tg→Expr→Bool
 | .nm i,.Name x _=>decide (C.N[i]?=some x)&&C.st x
 | .tp ts,.Tuple es _ _=>C.cal&&chkTs C ts es
 | _,_=>false
def chkTs (C:SC):Tgs→List Expr→Bool
 | .nil,[]=>true
 | .cons t r,e::es=>chkT C t e&&chkTs C r es
 | _,_=>false
end
mutual
def chkE (C:SC):E→Expr→Bool
 | .loc i,.Name x _=>okName x&&visB C.sc x&&decide (C.N[i]?=some x)
 | .cst .non,.Constant .none _ _=>true
 | .cst (.bl b),.Constant (.bool c) _ _=>b==c
 | .cst (.int i),.Constant (.int j) _ _=>i==j
 | .cst (.str s),.Constant (.str x) _ _=>decide (x.cps.toList=s)
 | .glb g,.Name x _=>globB C.sc x&&decide (C.gname g=some x)
 | .bin o a b,.BinOp p op q _=>decide (op=bopOf o)&&(chkE C a p&&chkE C b q)
 | .neg a,.UnaryOp .USub p _=>chkE C a p
 | .cmp o a b,.Compare p [op] [q] _=>decide (op=copOf o)&&(!behindInMarks op q&&(chkE C a p&&chkE C b q))
 | .chn o1 o2 a b c,.Compare p [x,y] [q,r] _=>decide (x=copOf o1)&&(decide (y=copOf o2)&&(!lastMarks [x,y] [q,r]&&(chkE C a p&&(chkE C b q&&chkE C c r))))
 | .isn a,.Compare p [.Is] [.Constant .none _ _] _=>chkE C a p
 | .isnn a,.Compare p [.IsNot] [.Constant .none _ _] _=>chkE C a p
 | .and a b,.BoolOp .And (p::q::r) pos=>chkE C a p&&chkE C b (match r with|[]=>q|_::_=>.BoolOp .And (q::r) pos)
 | .or a b,.BoolOp .Or (p::q::r) pos=>chkE C a p&&chkE C b (match r with|[]=>q|_::_=>.BoolOp .Or (q::r) pos)
 | .not a,.UnaryOp .Not p _=>chkE C a p
 | .ifx c a b,.IfExp t p q _=>chkE C c t&&(chkE C a p&&chkE C b q)
 | .call f es,.Call (.Name x _) (p::ps) [] _=>C.cal&&(globB C.sc x&&(decide (C.fname f=some x)&&(!isStar p&&(ps.all (fun p=>!isStar p)&&chkEs C es (p::ps)))))
 | .bi b es,.Call (.Name x _) (p::ps) [] _=>C.cal&&(globB C.sc x&&(decide (x=biName b)&&(!isStar p&&(ps.all (fun p=>!isStar p)&&chkEs C es (p::ps)))))
 | .isi a t, .Call (.Name x _) [p, .Name y _] [] _ => globB C.sc x && (globB C.sc y && (decide (x = "isinstance") && (decide (y = tyName t) && (!isStar p && chkE C a p))))
 | .tup es,.Tuple ps _ _=>chkEs C es ps
 | .lst es,.List ps _=>chkEs C es ps
 | .dct ks es,.Dict ks' ps _=>keysB ks ks'&&(decide (ks'.length=ps.length)&&(decide (ks.length≤15)&&(decide ks.Nodup&&(!ks'.isEmpty&&(ps.all (fun p=>!isStar p)&&chkEs C es ps)))))
 | .sub a i,.Subscript p q _=>!isSlice q&&(chkE C a p&&chkE C i q)
 | .slc a lo hi,.Subscript p (.Slice l h none _) _=>chkE C a p&&(chkO C lo l&&chkO C hi h)
 | .get a k d, .Call (.Attribute p m apos) [q, r] [] cpos => decide (m = "get") && (okBase p && (apos.endLine == cpos.line && (!isStar q && (!isStar r && (chkE C a p && (chkE C k q && chkE C d r))))))
 | .get1 a k, .Call (.Attribute p m apos) [q] [] cpos => decide (m = "get") && (okBase p && (apos.endLine == cpos.line && (!isStar q && (chkE C a p && chkE C k q))))
 | .dpl a, .Call (.Name x _) [p] [] _ => C.cal && (globB C.sc x && (decide (x = "dict") && (!isStar p && chkE C a p)))
 | .sHas i,.Compare (.Subscript (.Name x _) (.Constant (.int k) _ _) _) [.NotEq] [.List [] _] _=>decide (k=0)&&(okName x&&(visB C.sc x&&decide (C.N[i]?=some x)))
 | .sBig i,.Subscript (.Subscript (.Name x _) (.Constant (.int k) _ _) _) (.Constant (.int l) _ _) _=>decide (k=0)&&(decide (l=0)&&(okName x&&(visB C.sc x&&decide (C.N[i]?=some x))))
 | .sTurn i,.Subscript (.Name x _) (.Constant (.int k) _ _) _=>decide (k=2)&&(okName x&&(visB C.sc x&&decide (C.N[i]?=some x)))
 | .sCell i j,.Subscript (.Subscript (.Name x _) (.Constant (.int k) _ _) _) (.BinOp (.Name y _) .Mod (.Call (.Name z _) [.Subscript (.Name x2 _) (.Constant (.int k2) _ _) _] [] _) _) _=>decide (k=1)&&(decide (k2=1)&&(decide (x2=x)&&(okName x&&(visB C.sc x&&(decide (C.N[i]?=some x) &&
   (okName y && (visB C.sc y && (decide (C.N[j]? = some y) && (globB C.sc z && decide (z = "len"))))))))))
 | .lc e tg it c own,.ListComp pe [⟨ptg,pit,ifs,asy⟩] scope _ =>
  C.cal&&(decide (asy=0)&&(decide (own.length=(ownN C.N own).length)&&(L2.blkC C.N C.sc scope (ownN C.N own)&&(itOk it ptg&&(tgIn own tg&&(chkI C it pit&&(chkT (C.blk scope) tg ptg &&
   (chkE (C.blk scope) e pe&&(match c,ifs with|.no,[]=>true|.so c,[p]=>chkE (C.blk scope) c p|_,_=>false)))))))))
 | .dc k v tg it c own,p=>match p with
  | .DictComp pk pv [⟨ptg,pit,ifs,asy⟩] scope _ =>
   C.cal&&(decide (asy=0)&&(decide (own.length=(ownN C.N own).length)&&(L2.blkC C.N C.sc scope (ownN C.N own)&&(itOk it ptg&&(tgIn own tg&&(chkI C it pit&&(chkT (C.blk scope) tg ptg &&
    (chkE (C.blk scope) k pk&&(chkE (C.blk scope) v pv&&(match c,ifs with|.no,[]=>true|.so c,[p]=>chkE (C.blk scope) c p|_,_=>false))))))))))
  | _=>false
 | .dc2 k v tg it tg1 it1 own own1,p=>match p with
  | .DictComp pk pv [⟨ptg,pit,[],asy⟩,⟨ptg1,pit1,[],asy1⟩] scope _ =>
   C.cal&&(decide (asy=0)&&(decide (asy1=0)&&(decide (own.length=(ownN C.N own).length)&&(L2.blkC C.N C.sc scope (ownN C.N own)&&(own1.all (fun i=>own.contains i)&&(itOk it ptg&&(tgIn own tg&&(tgIn own1 tg1&&(chkI C it pit&&(chkT (C.blk scope) tg ptg &&
    (itOk it1 ptg1&&(chkI (C.blk scope) it1 pit1&&(chkT (C.blk scope) tg1 ptg1&&(chkE (C.blk scope) k pk&&chkE (C.blk scope) v pv))))))))))))))
  | _=>false
 | .lc2 e tg it tg1 it1 own own1,.ListComp pe [⟨ptg,pit,[],asy⟩,⟨ptg1,pit1,[],asy1⟩] scope _ =>
  C.cal&&(decide (asy=0)&&(decide (asy1=0)&&(decide (own.length=(ownN C.N own).length)&&(L2.blkC C.N C.sc scope (ownN C.N own)&&(own1.all (fun i=>own.contains i)&&(itOk it ptg&&(tgIn own tg&&(tgIn own1 tg1&&(chkI C it pit&&(chkT (C.blk scope) tg ptg &&
   (itOk it1 ptg1&&(chkI (C.blk scope) it1 pit1&&(chkT (C.blk scope) tg1 ptg1&&chkE (C.blk scope) e pe)))))))))))))
 | _,_=>false
def chkEs (C:SC):Es→List Expr→Bool
 | .nil,[]=>true
 | .cons e r,p::ps=>!isStar p&&(chkE C e p&&chkEs C r ps)
 | .star e r,.Starred p _::ps=>chkE C e p&&chkEs C r ps
 | _,_=>false
def chkO (C:SC):Eo→Option Expr→Bool
 | .no,none=>true
 | .so e,some p=>chkE C e p
 | _,_=>false
def chkI (C:SC):It→Expr→Bool
 | .seq e,p=>(match p with|.Set _ _ _=>false|_=>true)&&chkE C e p
 | .rng1 a, .Call (.Name x _) [p] [] _ => globB C.sc x && (decide (x = "range") && (!isStar p && chkE C a p))
 | .enm e s, .Call (.Name x _) ps [] _ => globB C.sc x && (decide (x = "enumerate") && (match ps with
   | [p]=>decide (s=0)&&(!isStar p&&chkE C e p)
   | _=>false))
 | .zp a b, .Call (.Name x _) [p, q] [] _ => globB C.sc x && (decide (x = "zip") && (!isStar p && (!isStar q && (chkE C a p && chkE C b q))))
 | .enmz a b s,p=>match p with
  | .Call (.Name x _) [.Call (.Name y _) [p, q] [] _, .Constant (.int k) _ _] [] _ => globB C.sc x && (globB C.sc y && (decide (x = "enumerate") && (decide (y = "zip") && (decide (k = s) && (decide (0 ≤ s ∧ s < 1000000) && (!isStar p && (!isStar q && (chkE C a p && chkE C b q))))))))
  | _=>false
 | _,_=>false
end
def swapC (sc:Scope)(targets:List Expr)(value:Expr):Option (Option (List Str)) :=
 match (match targets,value with
  | [.Tuple ts _ _],.Tuple vs _ _=>some (ts,vs)
  | [.List ts _],.Tuple vs _ _=>some (ts,vs)
  | _,_=>none) with
 | none=>some none
 | some (ts,vs) =>
  if !(ts.length==2 || ts.length==3) || vs.length != ts.length then some none
  else if vs.any (fun|.Starred ..=>true|_=>false) then some none
  else
   let line:=(ts.head?.map (·.pos.line)).getD 0
   let names:=ts.filterMap fun
    | .Name id pos=>if sc.names.lookup id==some .local&&pos.line==line then some id else none
    | _=>none
   if names.length != ts.length || names.eraseDups.length != names.length then some none
   else if vs.all (foldedForSure 8) then some none
   else if vs.all (constantsAlone 8) then none
   else some (some names)
def chkPt (C:SC):Pt→Pattern→Bool
 | .cap i,.MatchAs none (some x) _=>decide (C.N[i]?=some x)&&C.st x
 | .any,.MatchAs none none _=>true
 | .val s,.MatchValue (.Constant (.str x) _ _) _=>decide (x.cps.toList=s)
 | _,_=>false
def chkPts (C:SC):List Pt→List Pattern→Bool
 | [],[]=>true
 | p::r,q::s=>chkPt C p q&&chkPts C r s
 | _,_=>false
def chkVals:List (List Nat)→List Pattern→Bool
 | [],[]=>true
 | s::r,.MatchValue (.Constant (.str x) _ _) _::ps=>decide (x.cps.toList=s)&&chkVals r ps
 | _,_=>false
def chkP (C:SC):Pat→Pattern→Bool
 | .any,.MatchAs none none _=>true
 | .vals [s],.MatchValue (.Constant (.str x) _ _) _=>decide (x.cps.toList=s)
 | .vals ss,.MatchOr ps _=>chkVals ss ps
 | .seq ps,.MatchSequence pps _=>chkPts C ps pps&&!(pps.all fun p=>p.isWildcard || (p.isStar&&p.names.isEmpty))
 | _,_=>false
def fresh:E→Bool
 | .lst _=>true
 | .lc _ _ _ _ _=>true
 | .lc2 _ _ _ _ _ _ _=>true
 | .lof _=>true
 | .lsq _=>true
 | .zl _ _=>true
 | .zls _=>true
 | .cat _ _=>true
 | _=>false
def lcSwap (sc:Scope)(x:Str)(px:Pos):Expr→Bool
 | .ListComp _ _ scope pos=>(sc.names.lookup x==some .local)&&((px.line==pos.line)&&!(scope.names.any fun (n,k)=>n==x&&(k==.local || k==.cell)))
 | .DictComp _ _ _ scope pos=>(sc.names.lookup x==some .local)&&((px.line==pos.line)&&!(scope.names.any fun (n,k)=>n==x&&(k==.local || k==.cell)))
 | _=>false
def locB (sc:Scope)(x:Str):Bool:=decide (sc.names.lookup x=some .local)
mutual
def chkS:SC→S→Stmt→Bool
 | C,.asg o i e,.Assign [.Name x p] pe _=>(!o || fresh e)&&(decide (C.N[i]?=some x)&&(C.st x&&chkE C e pe))
 | C,.par2 o1 o2 i j a b,.Assign [.Tuple [.Name x px,.Name y py] k p] (.Tuple [pa,pb] k2 p2) _=>C.cal&&(((!o1 || fresh a)&&(!o2 || fresh b))&&((decide (C.N[i]?=some x)&&(decide (C.N[j]?=some y)&&decide (i≠j)))&&((locB C.sc x&&locB C.sc y) &&
   (decide (swapC C.sc [.Tuple [.Name x px,.Name y py] k p] (.Tuple [pa,pb] k2 p2)=some (some [x,y]))&&((!isStar pa&&!isStar pb)&&(chkE C a pa&&chkE C b pb))))))
 | C,.asgT tg e,.Assign [.Tuple ts k p] pe _=>decide (swapC C.sc [.Tuple ts k p] pe=some none)&&(chkT C tg (.Tuple ts k p)&&chkE C e pe)
 | C, .ext _ i e, .Expr (.Call (.Attribute (.Name x _) m apos) [pe] [] cpos) _ => decide (m = "extend") && (apos.endLine == cpos.line && (okName x && (visB C.sc x && (decide (C.N[i]? = some x) && (!isStar pe && chkE C e pe)))))
 | C,.ite _ c a b,.If pc pa pb _=>chkE C c pc&&(chkSs C a pa&&chkSs C b pb)
 | C,.whl _ c b,.While pc pb [] _=>C.cal&&(chkE C c pc&&chkSs C b pb)
 | C,.for_ tg it b,.For pt pi pb [] _=>C.cal&&(itOk it pt&&(chkT C tg pt&&(chkI C it pi&&chkSs C b pb)))
 | C,.ret e,.Return (some pe) _=>chkE C e pe
 | C,.never,.Raise _ _ _=>true
 | C,.sPutB i e,.Assign [.Subscript (.Subscript (.Name x _) (.Constant (.int k) _ _) _) (.Constant (.int l) _ _) _] pe _=>decide (k=0)&&(decide (l=0)&&(okName x&&(visB C.sc x&&(decide (C.N[i]?=some x)&&(!isLC pe&&chkE C e pe)))))
 | C, .sPop i, .Expr (.Call (.Attribute (.Subscript (.Name x _) (.Constant (.int k) _ _) _) m apos) [.Constant (.int l) _ _] [] cpos) _ => decide (k = 0) && (decide (l = 0) && (decide (m = "pop") && (apos.endLine == cpos.line && (okName x && (visB C.sc x && decide (C.N[i]? = some x))))))
 | C,.sPutT i e,.Assign [.Subscript (.Name x _) (.Constant (.int k) _ _) _] pe _=>decide (k=2)&&(okName x&&(visB C.sc x&&(decide (C.N[i]?=some x)&&(!isLC pe&&chkE C e pe))))
 | C,.retS e j,.Return (some (.List [pe,.IfExp (.Compare (.Name x _) [.NotEq] [.List [] _] _) (.Name y _) (.List [.Constant (.int k) _ _] _) _,.Constant (.int l) _ _] _)) _=>decide (k=47)&&(decide (l=0)&&(decide (x=y)&&(okName x&&(visB C.sc x&&(decide (C.N[j]?=some x)&&(fresh e&&(!isStar pe&&chkE C e pe)))))))
 | C,.mtch e cs,.Match pe pcs _=>C.cal&&(chkE C e pe&&chkC C cs pcs)
 | _,_,_=>false
def chkSs:SC→Ss→List Stmt→Bool
 | C,.nil,[]=>true
 | C,.cons (.frz _) r,ps=>chkSs C r ps
 | C,.cons s r,p::ps=>chkS C s p&&chkSs C r ps
 | _,_,_=>false
def chkC:SC→Cs→List MatchCase→Bool
 | C,.nil,[]=>true
 | C,.cons p b r,⟨pp,none,pb⟩::pr=>chkP C p pp&&(chkSs C b pb&&chkC C r pr)
 | _,_,_=>false
end
def fnSC (fname gname:Nat→Option Str)(xt:XT)(sc:Scope)(N:List Str):SC:=⟨sc,isLoc sc,N,fname,gname,xt,true⟩
def scopeOk (N ps:List Str)(sc:Scope):Bool :=
 (match sc.kind with|.function=>true|_=>false)&&(!sc.isCoroutine&&(!sc.isGenerator&&(decide N.Nodup&&(decide (N.take ps.length=ps)&&(ps.all (isLoc sc)&&(N.all okName&&sc.names.all fun y=>match y.2 with|.free=>false|_=>true))))))
def chkFn (fname gname:Nat→Option Str)(xt:XT)(N ps:List Str)(b:Ss)(st:Stmt):Bool :=
 scopeOk N ps (L2.defScope st)&&chkSs (fnSC fname gname xt (L2.defScope st) N) b (L2.defBody st)
end PL
end
section
namespace PL
open PySem PySem.Spec PyProof.Rows L2
structure Foot where
 at_:Option Addr
 inn:Addr→Prop
def kOf:K0→Key
 | .i n=>.inl n
 | .s x=>.inr ⟨x.toArray⟩
mutual
inductive Rep (K:PySem.W.Frag) (w:World) (F:Foot) (B:Addr→Prop) (H:Hp):V→D→Prop
 | non:Rep K w F B H .non .non
 | bl (b:Bool):Rep K w F B H (.bl b) (.bl b)
 | int (i:Int):Rep K w F B H (.int i) (.int i)
 | str (x:Str) (s:List Nat) (e:x.cps.toList=s):Rep K w F B H (.str x) (.str s)
 | tup {a:Addr} {xs:List V} {ds:List D} (h:H a=some (.tup xs)) (f:¬ F.inn a) (b:¬ B a) (r:RepL K w F B H xs ds):Rep K w F B H (.ref a) (.tup ds)
 | lst {a:Addr} {xs:List V} {ds:List D} (h:H a=some (.lst xs)) (f:¬ F.inn a) (b:¬ B a) (r:RepL K w F B H xs ds):Rep K w F B H (.ref a) (.lst ds)
 | dct {a:Addr} {kvs:List (Key × V)} {ks:List K0} {ds:List D} (h:H a=some (.dK kvs)) (f:¬ F.inn a) (b:¬ B a) (e:kvs.map (·.1)=ks.map kOf) (r:RepL K w F B H (kvs.map (·.2)) ds):Rep K w F B H (.ref a) (.dct ks ds)
 | tupW {a : Addr} {xs : List V} {ds : List D} {o : Obj} {its : Array Value} {n : Nat} (l : K.lookup a = some o) (c : o.cls = .type "tuple") (d : o.data = .seq its n) (z : its.size ≤ sizeLine) (v : Vals xs its.toList) (r : RepL K w F B H xs ds) : Rep K w F B H (.ref a) (.tup ds)
 | dctW {a:Addr} {es:Array DictEntry} {n:Nat} {ks:List K0} {xs:List V} {ds:List D} (kd:KDict K w a es n) (hs:ks.any K0.isS=true) (hl:ks.length=xs.length)
   (g:∀ z:Str,∃ r,PySem.W.nsIn K a z=some r∧match findK (.s z.cps.toList) ks xs with|some v=>∃ u,r=some u∧RelV v u|none=>r=none) (r:RepL K w F B H xs ds):Rep K w F B H (.ref a) (.dct ks ds)
 | ob0 {a:Addr} (h:F.at_=some a):Rep K w F B H (.ref a) (.ob 0 [])
 | ob1 {a:Addr} {o:Obj} (l:List Int) (h:H a=some (.frz o (.lst (l.map V.int)))) (f:¬ F.inn a) (b:¬ B a):Rep K w F B H (.ref a) (.ob 1 (l.map D.int))
 | ob1W {a:Addr} (l:List Int) (h:SqL K (fun _=>none) a (l.map V.int)):Rep K w F B H (.ref a) (.ob 1 (l.map D.int))
 | err {a:Addr}:Rep K w F B H (.ref a) (.ob 2 [.int (a:Nat)])
inductive RepL (K:PySem.W.Frag) (w:World) (F:Foot) (B:Addr→Prop) (H:Hp):List V→List D→Prop
 | nil:RepL K w F B H [] []
 | cons {v:V} {d:D} {vs:List V} {ds:List D} (r:Rep K w F B H v d) (t:RepL K w F B H vs ds):RepL K w F B H (v::vs) (d::ds)
end
section
variable {K:PySem.W.Frag}{w:World}{F F':Foot}{B B':Addr→Prop}{H H':Hp}
mutual
theorem Rep.move (m:∀ a,¬ F.inn a→¬ B a→H a≠none→H' a=H a∧¬ F'.inn a∧¬ B' a)(mt:∀ a,F.at_=some a→F'.at_=some a):∀ {v:V} {d:D},Rep K w F B H v d→Rep K w F' B' H' v d
 | _,_,.non=>.non
 | _,_,.bl b=>.bl b
 | _,_,.int i=>.int i
 | _,_,.str x s e=>.str x s e
 | _,_,.tup (a:=a) h f b r=>by
  have q:=m a f b (by rw [h];simp)
  exact .tup (by rw [q.1];exact h) q.2.1 q.2.2 (RepL.move m mt r)
 | _,_,.lst (a:=a) h f b r=>by
  have q:=m a f b (by rw [h];simp)
  exact .lst (by rw [q.1];exact h) q.2.1 q.2.2 (RepL.move m mt r)
 | _,_,.dct (a:=a) h f b e r=>by
  have q:=m a f b (by rw [h];simp)
  exact .dct (by rw [q.1];exact h) q.2.1 q.2.2 e (RepL.move m mt r)
 | _,_,.tupW l c d z v r=>.tupW l c d z v (RepL.move m mt r)
 | _,_,.dctW kd hs hl g r=>.dctW kd hs hl g (RepL.move m mt r)
 | _,_,.ob0 h=>.ob0 (mt _ h)
 | _,_,.ob1 (a:=a) l h f b=>by
  have q:=m a f b (by rw [h];simp)
  exact .ob1 l (by rw [q.1];exact h) q.2.1 q.2.2
 | _,_,.ob1W l h=>.ob1W l h
 | _,_,.err=>.err
theorem RepL.move (m:∀ a,¬ F.inn a→¬ B a→H a≠none→H' a=H a∧¬ F'.inn a∧¬ B' a)(mt:∀ a,F.at_=some a→F'.at_=some a):∀ {vs:List V} {ds:List D},RepL K w F B H vs ds→RepL K w F' B' H' vs ds
 | _,_,.nil=>.nil
 | _,_,.cons r t=>.cons (Rep.move m mt r) (RepL.move m mt t)
end
theorem Rep.anti (r:Rep K w F B H v d)(h:∀ a,B' a→B a):Rep K w F B' H v d:=r.move (fun a f b _=>⟨rfl,f,fun z=>b (h a z)⟩) fun _ e=>e
theorem RepL.anti (r:RepL K w F B H vs ds)(h:∀ a,B' a→B a):RepL K w F B' H vs ds:=r.move (fun a f b _=>⟨rfl,f,fun z=>b (h a z)⟩) fun _ e=>e
theorem RepL.length:∀ {vs:List V} {ds:List D},RepL K w F B H vs ds→vs.length=ds.length
 | _,_,.nil=>rfl
 | _,_,.cons _ t=>by rw [List.length_cons,List.length_cons,t.length]
theorem RepL.append:∀ {vs us:List V} {ds es:List D},RepL K w F B H vs ds→RepL K w F B H us es→RepL K w F B H (vs++us) (ds++es)
 | _,_,_,_,.nil,s=>s
 | _,_,_,_,.cons r t,s=>.cons r (t.append s)
theorem RepL.get:∀ {vs:List V} {ds:List D} {i:Nat} {d:D},RepL K w F B H vs ds→ds[i]?=some d→∃ v,vs[i]?=some v∧Rep K w F B H v d
 | _,_,_,_,.nil,e=>by simp at e
 | _,_,0,_,.cons r _,e=>by simp at e;subst e;exact ⟨_,rfl,r⟩
 | _,_,i+1,_,.cons _ t,e=>by
  obtain ⟨v,h1,h2⟩:=RepL.get (i:=i) t (by simpa using e)
  exact ⟨v,by simpa using h1,h2⟩
theorem RepL.take:∀ (n:Nat) {vs:List V} {ds:List D},RepL K w F B H vs ds→RepL K w F B H (vs.take n) (ds.take n)
 | 0,_,_,_=>.nil
 | _+1,_,_,.nil=>.nil
 | n+1,_,_,.cons r t=>.cons r (RepL.take n t)
theorem RepL.drop:∀ (n:Nat) {vs:List V} {ds:List D},RepL K w F B H vs ds→RepL K w F B H (vs.drop n) (ds.drop n)
 | 0,_,_,r=>r
 | _+1,_,_,.nil=>.nil
 | n+1,_,_,.cons _ t=>RepL.drop n t
theorem RepL.ints:∀ {vs:List V} {ds:List D} {l:List Int},RepL K w F B H vs ds→D.ints ds=some l→vs=l.map V.int
 | _,_,_,.nil,e=>by simp [D.ints] at e;subst e;rfl
 | _,_,l,.cons (d:=d) r t,e=>by
  cases r with
  | int i =>
   simp only [D.ints,Option.map_eq_some_iff] at e
   obtain ⟨l',e1,rfl⟩:=e
   rw [RepL.ints t e1];rfl
  | _=>simp [D.ints] at e
theorem RepL.bools:∀ {vs:List V} {ds:List D} {l:List Bool},RepL K w F B H vs ds→D.bools ds=some l→vs=l.map V.bl
 | _,_,_,.nil,e=>by simp [D.bools] at e;subst e;rfl
 | _,_,l,.cons (d:=d) r t,e=>by
  cases r with
  | bl i =>
   simp only [D.bools,Option.map_eq_some_iff] at e
   obtain ⟨l',e1,rfl⟩:=e
   rw [RepL.bools t e1];rfl
  | _=>simp [D.bools] at e
theorem RepL.of_ints (l:List Int):RepL K w F B H (l.map V.int) (l.map D.int):=by
 induction l with
 | nil=>exact .nil
 | cons a r ih=>exact .cons (.int a) ih
theorem Rep.flat {v:V}{d:D}(r:Rep K w F B H v d)(h:d.flat=true){F':Foot}{B':Addr→Prop}{H':Hp}:Rep K w F' B' H' v d:=by
 cases r with
 | non=>exact .non
 | bl b=>exact .bl b
 | int i=>exact .int i
 | str x s e=>exact .str x s e
 | _=>simp [D.flat] at h
theorem RepL.flat:∀ {vs:List V} {ds:List D},RepL K w F B H vs ds→ds.all D.flat=true→∀ {F':Foot} {B':Addr→Prop} {H':Hp},RepL K w F' B' H' vs ds
 | _,_,.nil,_,_,_,_=>.nil
 | _,_,.cons r t,h,_,_,_=>by
  simp only [List.all_cons,Bool.and_eq_true] at h
  exact .cons (r.flat h.1) (t.flat h.2)
def Own (H:Hp)(a:Addr):Prop:=(∃ xs,H a=some (HO.lst xs))∨∃ kvs,H a=some (HO.dK kvs)
mutual
/-- data without lists stands apart from lists that are set free -/
theorem Rep.nol (k:∀ a,B a→¬ B' a→Own H a):∀ {v:V} {d:D},Rep K w F B' H v d→d.nol=true→Rep K w F B H v d
 | _,_,.non,_=>.non
 | _,_,.bl b,_=>.bl b
 | _,_,.int i,_=>.int i
 | _,_,.str x s e,_=>.str x s e
 | _,_,.tup (a:=a) h f b r,z=>.tup h f (fun q=>by
   rcases k a q b with ⟨xs,e⟩|⟨xs,e⟩<;>(rw [h] at e;cases e)) (RepL.nol k r (by simpa [D.nol] using z))
 | _,_,.lst _ _ _ _,z=>by simp [D.nol] at z
 | _,_,.dct _ _ _ _ _,z=>by simp [D.nol] at z
 | _,_,.tupW l c d z' v r,z=>.tupW l c d z' v (RepL.nol k r (by simpa [D.nol] using z))
 | _,_,.dctW _ _ _ _ _,z=>by simp [D.nol] at z
 | _,_,.ob0 _,z=>by simp [D.nol] at z
 | _,_,.ob1 _ _ _ _,z=>by simp [D.nol] at z
 | _,_,.ob1W _ _,z=>by simp [D.nol] at z
 | _,_,.err,z=>by simp [D.nol] at z
theorem RepL.nol (k:∀ a,B a→¬ B' a→Own H a):∀ {vs:List V} {ds:List D},RepL K w F B' H vs ds→D.nols ds=true→RepL K w F B H vs ds
 | _,_,.nil,_=>.nil
 | _,_,.cons r t,z=>by
  simp only [D.nols,Bool.and_eq_true] at z
  exact .cons (Rep.nol k r z.1) (RepL.nol k t z.2)
end
theorem Rep.isL {v:V}{ds:List D}(r:Rep K w F B H v (.lst ds)):∃ a xs,v=.ref a∧H a=some (.lst xs)∧RepL K w F B H xs ds:=by
 cases r with
 | lst h f b r=>exact ⟨_,_,rfl,h,r⟩
theorem Rep.isT {v:V}{ds:List D}(r:Rep K w F B H v (.tup ds)):∃ a xs,v=.ref a∧SqT K H a xs∧RepL K w F B H xs ds:=by
 cases r with
 | tup h f b r=>exact ⟨_,_,rfl,.of h,r⟩
 | tupW l c d z vs r=>exact ⟨_,_,rfl,.inr ⟨_,_,_,l,c,d,z,vs⟩,r⟩
theorem Rep.isScr {v:V}{ds:List D}(r:Rep K w F B H v (.ob 1 ds)):∃ (a:Addr) (l:List Int),v=.ref a∧SqL K H a (l.map V.int)∧ds=l.map D.int:=by
 cases r with
 | ob1 l h f b=>exact ⟨_,l,rfl,.inl (.inr ⟨_,h⟩),rfl⟩
 | ob1W l h =>
  refine ⟨_,l,rfl,?_,rfl⟩
  rcases h with (h|⟨o,h⟩)|h
  ·cases h
  ·cases h
  ·exact .inr h
theorem str_of (x:Str):(⟨x.cps.toList.toArray⟩:Str)=x:=by
 cases x;simp
mutual
theorem Rep.dp:∀ {d:D} {v:V},Rep K w F B H v d→d.plain=true→Dp K H v (toPy d)
 | _,_,.non,_=>.non
 | _,_,.bl b,_=>.bl b
 | _,_,.int i,_=>.int i
 | _,_,.str x s e,_=>by subst e;unfold toPy;rw [str_of];exact .str x
 | _,_,.tup h f b r,p=>by unfold toPy;exact .tup (.of h) (RepL.dp r (by simpa [D.plain] using p))
 | _,_,.lst h f b r,p=>by unfold toPy;exact .lst (.of h) (RepL.dp r (by simpa [D.plain] using p))
 | _,_,.tupW l c d z v r,p=>by unfold toPy;exact .tup (.inr ⟨_,_,_,l,c,d,z,v⟩) (RepL.dp r (by simpa [D.plain] using p))
 | _,_,.dct h f b e r,p=>by simp [D.plain] at p
 | _,_,.dctW kd hs hl g r,p=>by simp [D.plain] at p
 | _,_,.ob0 h,p=>by simp [D.plain] at p
 | _,_,.ob1 _ h _ _,p=>by simp [D.plain] at p
 | _,_,.ob1W _ h,p=>by simp [D.plain] at p
theorem RepL.dp:∀ {ds:List D} {vs:List V},RepL K w F B H vs ds→D.plains ds=true→DpAll K H vs (toPys ds)
 | _,_,.nil,_=>.nil
 | _,_,.cons r t,p=>by
  simp only [D.plains,Bool.and_eq_true] at p
  unfold toPys
  exact .cons (Rep.dp r p.1) (RepL.dp t p.2)
end
end
def SR:St→Foot→Hp→Prop
 | none,F,_=>F.at_=none∧∀ b,¬ F.inn b
 | some s,F,H=>∃ a0 a1 a2:Addr,F.at_=some a0∧(∀ b,F.inn b↔b=a0∨b=a1∨b=a2)∧a0≠a1∧a0≠a2∧a1≠a2 ∧
   H a0=some (.lst [.ref a1,.ref a2,.int s.turn])∧H a1=some (.lst (s.big.map V.int))∧H a2=some (.lst (s.cells.map V.int))∧s.cells≠[]
theorem SR.occ {st:St}{F:Foot}{H:Hp}(s:SR st F H):∀ b,F.inn b→H b≠none:=by
 cases st with
 | none=>exact fun b h=>absurd h (s.2 b)
 | some s' =>
  obtain ⟨a0,a1,a2,_,i,_,_,_,h0,h1,h2,_⟩:=s
  intro b h
  rcases (i b).mp h with e|e|e<;>subst e
  ·rw [h0];simp
  ·rw [h1];simp
  ·rw [h2];simp
theorem SR.keep {st:St}{F:Foot}{H H':Hp}(s:SR st F H)(k:∀ b,F.inn b→H' b=H b):SR st F H':=by
 cases st with
 | none=>exact s
 | some s' =>
  obtain ⟨a0,a1,a2,e,i,n1,n2,n3,h0,h1,h2,c⟩:=s
  exact ⟨a0,a1,a2,e,i,n1,n2,n3,by rw [k _ ((i _).mpr (.inl rfl))];exact h0,by rw [k _ ((i _).mpr (.inr (.inl rfl)))];exact h1,by rw [k _ ((i _).mpr (.inr (.inr rfl)))];exact h2,c⟩
structure Ext (F:Foot)(H:Hp)(F':Foot)(H':Hp):Prop where
 keep:∀ b,¬ F.inn b→H b≠none→H' b=H b∧¬ F'.inn b
 occ:∀ b,H b≠none→H' b≠none
 at_:∀ a,F.at_=some a→F'.at_=some a
theorem Ext.refl (F:Foot)(H:Hp):Ext F H F H:=⟨fun _ f _=>⟨rfl,f⟩,fun _ h=>h,fun _ h=>h⟩
theorem Ext.trans {F F1 F2:Foot}{H H1 H2:Hp}(a:Ext F H F1 H1)(b:Ext F1 H1 F2 H2):Ext F H F2 H2 where
 keep:=fun c f h=>by
  obtain ⟨e1,f1⟩:=a.keep c f h
  obtain ⟨e2,f2⟩:=b.keep c f1 (a.occ c h)
  exact ⟨e2.trans e1,f2⟩
 occ:=fun c h=>b.occ c (a.occ c h)
 at_:=fun c h=>b.at_ c (a.at_ c h)
theorem upd_occ {H:Hp}{a b:Addr}{o:HO}(h:H b≠none):upd H a o b≠none:=by
 unfold upd;split<;>simp [h]
theorem Ext.new {F:Foot}{H:Hp}{p:Addr}{o:HO}(hp:H p=none):Ext F H F (upd H p o) where
 keep:=fun b f h=>⟨by rw [upd_ne (fun e=>h (by rw [e];exact hp))],f⟩
 occ:=fun b h=>upd_occ h
 at_:=fun _ h=>h
theorem SR.new {st:St}{F:Foot}{H:Hp}{p:Addr}{o:HO}(s:SR st F H)(hp:H p=none):SR st F (upd H p o) :=
 s.keep fun b h=>upd_ne (fun e=>s.occ b h (by rw [e];exact hp))
section
variable {K:PySem.W.Frag}{w:World}{F F':Foot}{B:Addr→Prop}{H H':Hp}
theorem Rep.ext (r:Rep K w F B H v d)(x:Ext F H F' H'):Rep K w F' B H' v d:=r.move (fun a f b h=>⟨(x.keep a f h).1,(x.keep a f h).2,b⟩) x.at_
theorem RepL.ext (r:RepL K w F B H vs ds)(x:Ext F H F' H'):RepL K w F' B H' vs ds:=r.move (fun a f b h=>⟨(x.keep a f h).1,(x.keep a f h).2,b⟩) x.at_
theorem Rep.newL {p:Addr}{xs:List V}{ds:List D}(hp:H p=none)(st:SR s F H)(ob:∀ b,B b→H b≠none)(r:RepL K w F B H xs ds):Rep K w F B (upd H p (.lst xs)) (.ref p) (.lst ds) :=
 .lst upd_same (fun f=>st.occ p f hp) (fun b=>ob p b hp) (r.ext (Ext.new hp))
theorem Rep.newT {p:Addr}{xs:List V}{ds:List D}(hp:H p=none)(st:SR s F H)(ob:∀ b,B b→H b≠none)(r:RepL K w F B H xs ds):Rep K w F B (upd H p (.tup xs)) (.ref p) (.tup ds) :=
 .tup upd_same (fun f=>st.occ p f hp) (fun b=>ob p b hp) (r.ext (Ext.new hp))
end
def _root_.PL.Slot.isOwn:Slot→Bool
 | .own _=>true
 | .dow _ _=>true
 | _=>false
def OwnR (K:PySem.W.Frag)(w:World)(F:Foot)(B:Addr→Prop)(H:Hp)(a:Addr):Slot→Prop
 | .own ds=>∃ xs,H a=some (.lst xs)∧RepL K w F B H xs ds
 | .dow ks ds=>∃ kvs:List (Key × V),H a=some (.dK kvs)∧(kvs.map (·.1)=ks.map kOf∧ks.Nodup)∧RepL K w F B H (kvs.map (·.2)) ds
 | _=>False
theorem OwnR.occ {K:PySem.W.Frag}{w:World}{F:Foot}{B:Addr→Prop}{H:Hp}{a:Addr}:∀ {s:Slot},OwnR K w F B H a s→H a≠none
 | .own _,⟨_,h,_⟩=>by rw [h];simp
 | .dow _ _,⟨_,h,_⟩=>by rw [h];simp
theorem OwnR.is {K:PySem.W.Frag}{w:World}{F:Foot}{B:Addr→Prop}{H:Hp}{a:Addr}:∀ {s:Slot},OwnR K w F B H a s→Own H a
 | .own _,⟨xs,h,_⟩=>.inl ⟨xs,h⟩
 | .dow _ _,⟨kvs,h,_⟩=>.inr ⟨kvs,h⟩
theorem OwnR.move {K:PySem.W.Frag}{w:World}{F F':Foot}{B B':Addr→Prop}{H H':Hp}{a:Addr}(m:∀ {vs:List V} {ds:List D},RepL K w F B H vs ds→RepL K w F' B' H' vs ds)(h:H' a=H a):∀ {s:Slot},OwnR K w F B H a s→OwnR K w F' B' H' a s
 | .own _,⟨xs,e,r⟩=>⟨xs,by rw [h];exact e,m r⟩
 | .dow _ _,⟨kvs,e,q,r⟩=>⟨kvs,by rw [h];exact e,q,m r⟩
structure OkE (K:PySem.W.Frag)(w:World)(F:Foot)(B:Addr→Prop)(σ:L2.St)(H:Hp)(env:Env)(st:St):Prop where
 len:env.length=σ.length
 val:∀ (i:Nat) (d:D),env[i]?=some (.val d)→∃ v,σ[i]?=some (some v)∧Rep K w F B H v d
 own:∀ (i:Nat) (s:Slot),s.isOwn=true→env[i]?=some s→∃ a,σ[i]?=some (some (.ref a))∧OwnR K w F B H a s∧B a∧¬ F.inn a
 apart:∀ (i j:Nat) (s t:Slot) (a:Addr),s.isOwn=true→t.isOwn=true→env[i]?=some s→env[j]?=some t→σ[i]?=some (some (.ref a))→σ[j]?=some (some (.ref a))→i=j
 occ:∀ b,B b→H b≠none
 sr:SR st F H
section
variable {K:PySem.W.Frag}{w:World}{F F':Foot}{B:Addr→Prop}{σ:L2.St}{H H':Hp}{env:Env}{st st':St}
theorem OkE.ext (o:OkE K w F B σ H env st)(x:Ext F H F' H')(s:SR st' F' H'):OkE K w F' B σ H' env st' where
 len:=o.len
 val:=fun i d e=>by
  obtain ⟨v,h1,h2⟩:=o.val i d e
  exact ⟨v,h1,h2.ext x⟩
 own:=fun i s os e=>by
  obtain ⟨a,h1,h2,h4,h5⟩:=o.own i s os e
  have q:=x.keep a h5 h2.occ
  exact ⟨a,h1,h2.move (fun r=>r.ext x) q.1,h4,q.2⟩
 apart:=o.apart
 occ:=fun b h=>x.occ b (o.occ b h)
 sr:=s
theorem OkE.get (o:OkE K w F B σ H env st){i:Nat}{d:D}(h:env.get i=some d):∃ v,σ[i]?=some (some v)∧Rep K w F B H v d:=by
 unfold Env.get at h
 cases e:env[i]? with
 | none=>rw [e] at h;simp at h
 | some s =>
  rw [e] at h
  cases s with
  | val d' =>
   have h':d'=d:=by simpa [Slot.get] using h
   subst h'
   exact o.val i _ e
  | un=>simp [Slot.get] at h
  | own ds=>simp [Slot.get] at h
  | dow ks ds=>simp [Slot.get] at h
end
end PL
end
section
namespace PL
open PySem PySem.Spec PyProof.Rows L2
structure FnG (P:Program)(w:World)(K:PySem.W.Frag)(mg:Str→Option Value)(base:Heap)(k:Nat)(f:Addr)(fd:FuncData)(ps:List Str)(sp:Sp):Prop where
 len:∀ vs H Q E,sp vs H Q E→vs.length=ps.length
 run:∀ (A:Around) (outer:List PySem.Env) (s:Shared) (H:Hp) (args:Args) (us:List Value) (vs:List V) (Q:VK) (E:XK),Room k A→A.guards=some [] →
  Env0 P w K mg base A outer s H→BindsTo s fd args (ps.zip us)→Vals vs us→sp vs H Q E→codeAny (model P w) A (.call (.ref f) args) (CR (CX P w) outer P w H s Q E) s
theorem FnG.of {P:Program}{w:World}{K:PySem.W.Frag}{mg:Str→Option Value}{base:Heap}{x qual:Str}{sd:Stmt}{f:Addr}{fd:FuncData}{N ps:List Str}{k:Nat}{sp:Sp}
  (F:Fun K x qual sd f fd) (S:FnScope N ps (defScope sd)) (len:∀ vs H Q E,sp vs H Q E→vs.length=ps.length)
  (body:∀ (cdv:Value) (A:Around) (outer:List PySem.Env) (s:Shared) (H:Hp) (vs:List V) (Q:VK) (E:XK),
   Room k (A.deeper (envOfC qual (defScope sd) s.heap.objs.size f cdv))→A.guards=some []→sp vs H Q E →
   ∃ t,PSs (cxOf (CX P w) P w K mg base N qual (defScope sd) f cdv A outer s H E) (defBody sd) t ∧
    t { nx:=fun _ H'=>Q .non H',rt:=Q } (start N vs) H) :
  FnG P w K mg base (k+1) f fd ps sp:=by
 obtain ⟨oc,od,kV,doc,pm,an,cdv,ct,osl,rfl,lk,hcd⟩:=F.ex
 constructor
 ·exact len
 ·intro A outer s H args us vs Q E hr hgd e0 hb r hsp
  have inK:=e0.mod.kin.keeps fun b o e=>(e0.bs b o e).1
  have lim:=e0.mod.nolimit.keeps fun b o e=>(e0.bs b o e).1
  refine codeAny_call_function hr.depth (inK _ _ lk) rfl S.co S.gen rfl (PySem.W.codeRec_of inK hcd) (hb _ _ _ _ ?_)
  refine wpAny_newFunctionEnv_cells S.kind ?_ fun env he s1 x=>?_
  ·intro y hy
   rcases S.par y.1 (List.of_mem_zip (show (y.1,y.2)∈ps.zip us from hy)).1 with q|q
   ·exact Or.inl q
   ·exact Or.inr ⟨q,PySem.W.cellsFrom_some _ _ _ (Or.inl q)⟩
  ·subst he
   refine ⟨lim.keeps x.toInCall.keep,codeAny_func ?_⟩
   obtain ⟨t,ht,hq⟩:=body cdv A outer s H vs Q E (hr.deeper _) hgd hsp
   have I:=inv_start (CX:=CX P w) (E:=E) S hr.hd e0 (len _ _ _ _ hsp) r x
   refine wpAny_mono (ht.run [] s1 (start N vs) H _ I hq) (fun fl s' hs=>?_) fun e s' hs=>hs
   cases fl with
   | ret u =>
    obtain ⟨v,σ',H',J,rv,q⟩:=hs
    exact ⟨v,H',J.os,J.bare,J.base,J.hok,rv,q⟩
   | next =>
    obtain ⟨σ',H',J,q⟩:=hs
    exact ⟨V.non,H',J.os,J.bare,J.base,J.hok,rfl,q⟩
   | brk=>obtain ⟨_,_,_,q⟩:=hs;exact q.elim
   | cont=>obtain ⟨_,_,_,q⟩:=hs;exact q.elim
abbrev XRel:=Nat→List D→Value→Option Addr→Foot→Hp→Prop
def spG (K:PySem.W.Frag)(w:World)(XR:XRel)(pr:Prog)(n f np:Nat):Sp:=fun vs H Q E =>
 ∃ (F:Foot) (B:Addr→Prop) (st:St) (ds:List D),vs.length=np∧(∀ b,B b→H b≠none)∧SR st F H∧RepL K w F B H vs ds ∧
  match run pr n f ds st with
  | .ok d st'=>∀ v F' H',Ext F H F' H'→SR st' F' H'→Rep K w F' B H' v d→Q v H'
  | .exc c fs st'=>∀ cls dx F' H',Ext F H F' H'→SR st' F' H'→XR c fs cls dx F' H'→E cls dx H'
  | .no=>False
structure ClsX (K:PySem.W.Frag)(mg:Str→Option Value)(T:XT)(c:Nat)(D:Addr):Prop where
 exc:ExcC K D
 sub:∀ nm anc,T.cls.lookup c=some (nm,anc)→∀ x∈T.nms,∃ E:Addr,mg x=some (.ref E)∧PySem.W.kitOne K (.ref D) (.ref E)=some (anc.contains x)∧PySem.W.exmOne K (.ref D) (.ref E)=some (anc.contains x)
def MadeK (K : PySem.W.Frag)(D : Addr) : Prop := ∃ (B newId initId : String) (bmB : List Value), ExcBaseFacts B newId initId bmB ∧ PySem.W.excIn K D bmB newId = true ∧ PySem.W.keepIn K (.ref D) = true ∧ PySem.W.subIn K (.ref D) (.type "BaseException") = some true ∧ PySem.W.typeIn K (.ref D) = some (.type "type")
abbrev Made (X:Cx)(D:Addr):Prop:=MadeK X.K D
def Held (X:Cx)(T:XT)(c:Nat)(k:Nat):Prop:=∃ (D:Addr) (nm:Str) (anc:List Str) (oe:Obj),T.cls.lookup c=some (nm,anc)∧ClsX X.K X.mg T c D∧Zc (.ref D) none oe∧(∃ vs,oe.data=.fields vs)∧(k,oe)∈X.pn
structure Good (X:Cx)(pr:Prog)(XR:XRel)(C:SC)(n:Nat):Prop where
 sc:X.env.scope=C.sc
 kind:X.env.scope.kind=.function
 N:X.N=C.N
 nd:X.N.Nodup
 st:∀ x,C.st x=true→Loc X.env.scope x∧(X.fn x=true∨X.env.scope.names.lookup x=some .local)
 calm:C.cal=true→X.calm=true
 made:∀ c nm anc,C.xt.cls.lookup c=some (nm,anc)→∃ D:Addr,X.mg nm=some (.ref D)∧Made X D∧∀ F H,XR c [] (.ref D) none F H
 err:∀ c fs cls dx F H,XR c fs cls dx F H→∃ (D:Addr) (nm:Str) (anc:List Str),cls=.ref D∧C.xt.cls.lookup c=some (nm,anc)∧ClsX X.K X.mg C.xt c D∧(fs=[]→dx=none)
 held:∀ c k,pr.er=some (c,k)→C.cal=false→Held X C.xt c k
 nms:∀ x∈C.xt.nms,∃ E:Addr,X.mg x=some (.ref E)
 room:C.cal=true→Room n X.A
 un:X.A.units+16*n+200<cLine
 gd:X.A.guards=some []
 fns:∀ f nm,C.fname f=some nm→∃ (a:Addr) (fd:FuncData) (ps:List Str),X.mg nm=some (.ref a)∧PySem.W.keepIn X.K (.ref a)=true∧Binds X.K fd ps []∧(∀ ds st,run pr n f ds st≠.no→ds.length=ps.length) ∧
  FnG X.prog X.w X.K X.mg X.base n a fd ps (spG X.K X.w XR pr n f ps.length)
 gls:∀ g nm d,C.gname g=some nm→pr.gl g=some d→∃ (u:Value) (v:V),X.mg nm=some u∧RelV v u∧∀ F B H,Rep X.K X.w F B H v d
 blt:∀ x∈bltNames,X.mg x=none
 shown:pr.shown=shownD
def Fresh (K:PySem.W.Frag)(w:World)(B:Addr→Prop)(H:Hp)(F':Foot)(H':Hp)(v:V)(d:D):Prop :=
 ∃ (a:Addr) (xs:List V) (ds:List D),v=.ref a∧d=.lst ds∧H a=none∧H' a=some (.lst xs)∧¬ F'.inn a∧RepL K w F' (fun b=>B b∨b=a) H' xs ds
def RE (K:PySem.W.Frag)(w:World)(XR:XRel)(W:WX)(F:Foot)(B:Addr→Prop)(σ:L2.St)(H:Hp)(fr:Bool)(r:R D)(Q:VK):Prop :=
 match r with
 | .ok d st'=>∀ v F' H',Ext F H F' H'→SR st' F' H'→Rep K w F' B H' v d→(fr=true→Fresh K w B H F' H' v d)→Q v H'
 | .exc c fs st'=>∀ cls dx F' H',Ext F H F' H'→SR st' F' H'→XR c fs cls dx F' H'→W cls dx σ H'
 | .no=>False
def tE (K:PySem.W.Frag)(w:World)(XR:XRel)(W:WX)(cx:Ctx)(e:E):TE:=fun σ H Q =>
 ∃ F B env st,OkE K w F B σ H env st∧RE K w XR W F B σ H (fresh e) (evE cx e env st) Q
def REs (K:PySem.W.Frag)(w:World)(XR:XRel)(W:WX)(F:Foot)(B:Addr→Prop)(σ:L2.St)(H:Hp)(r:R (List D))(Q:List V→Hp→Prop):Prop :=
 match r with
 | .ok ds st'=>∀ vs F' H',Ext F H F' H'→SR st' F' H'→RepL K w F' B H' vs ds→Q vs H'
 | .exc c fs st'=>∀ cls dx F' H',Ext F H F' H'→SR st' F' H'→XR c fs cls dx F' H'→W cls dx σ H'
 | .no=>False
def tEs (K:PySem.W.Frag)(w:World)(XR:XRel)(W:WX)(cx:Ctx)(es:Es):TA:=fun σ H Q =>
 ∃ F B env st,OkE K w F B σ H env st∧REs K w XR W F B σ H (evEs cx es env st) Q
def RB (XR:XRel)(W:WX)(F:Foot)(σ:L2.St)(H:Hp)(r:R Bool)(Q:Bool→Hp→Prop):Prop :=
 match r with
 | .ok b st'=>∀ F' H',Ext F H F' H'→SR st' F' H'→Q b H'
 | .exc c fs st'=>∀ cls dx F' H',Ext F H F' H'→SR st' F' H'→XR c fs cls dx F' H'→W cls dx σ H'
 | .no=>False
def evT (cx:Ctx)(e:E)(env:Env)(st:St):R Bool:=(evE cx e env st).bind fun x st=>R.lift x.truth st
def tT (K:PySem.W.Frag)(w:World)(XR:XRel)(W:WX)(cx:Ctx)(e:E):TT:=fun σ H Q =>
 ∃ F B env st,OkE K w F B σ H env st∧RB XR W F σ H (evT cx e env st) Q
theorem PE.of {X:Cx}{e:Expr}{t t':TE}(h:PE X e t)(i:∀ σ H Q,t' σ H Q→t σ H Q):PE X e t':=⟨fun pins s σ H Q I q=>h.run pins s σ H Q I (i _ _ _ q)⟩
theorem PT.of {X:Cx}{e:Expr}{t t':TT}(h:PT X e t)(i:∀ σ H Q,t' σ H Q→t σ H Q):PT X e t':=⟨fun pins s σ H Q I q=>h.run pins s σ H Q I (i _ _ _ q)⟩
theorem PA.of {X:Cx}{es:List Expr}{t t':TA}(h:PA X es t)(i:∀ σ H Q,t' σ H Q→t σ H Q):PA X es t':=⟨fun pos pins s σ H Q I q=>h.run pos pins s σ H Q I (i _ _ _ q)⟩
theorem PS.of {X:Cx}{st:Stmt}{t t':TS}(h:PS X st t)(i:∀ D σ H,t' D σ H→t D σ H):PS X st t':=⟨fun pins s σ H D I q=>h.run pins s σ H D I (i _ _ _ q)⟩
theorem PSs.of {X:Cx}{st:List Stmt}{t t':TS}(h:PSs X st t)(i:∀ D σ H,t' D σ H→t D σ H):PSs X st t':=⟨fun pins s σ H D I q=>h.run pins s σ H D I (i _ _ _ q)⟩
section
variable {K:PySem.W.Frag}{w:World}{XR:XRel}{W:WX}{cx:Ctx}{F:Foot}{B:Addr→Prop}{σ:L2.St}{H:Hp}{env:Env}{st:St}
theorem tE.mk (o:OkE K w F B σ H env st){e:E}{Q:VK}(h:RE K w XR W F B σ H (fresh e) (evE cx e env st) Q):tE K w XR W cx e σ H Q:=⟨F,B,env,st,o,h⟩
theorem tE.first (o:OkE K w F B σ H env st){e:E}{f:D→St→R D}{Q:VK}{fr:Bool}{Q':VK}
  (h:RE K w XR W F B σ H fr ((evE cx e env st).bind f) Q)
  (k:∀ d st' v F' H',Ext F H F' H'→OkE K w F' B σ H' env st'→Rep K w F' B H' v d→RE K w XR W F B σ H fr (f d st') Q→Q' v H'):tE K w XR W cx e σ H Q':=by
 refine ⟨F,B,env,st,o,?_⟩
 cases q:evE cx e env st with
 | ok d st' =>
  rw [q,R.bind_ok] at h
  intro v F' H' x s r _
  exact k d st' v F' H' x (o.ext x s) r h
 | exc c fs st' =>
  rw [q,R.bind_exc] at h
  exact h
 | no=>rw [q,R.bind_no] at h;exact h
theorem tEs.first (o:OkE K w F B σ H env st){es:Es}{f:List D→St→R D}{Q:VK}{fr:Bool}{Q':List V→Hp→Prop}
  (h:RE K w XR W F B σ H fr ((evEs cx es env st).bind f) Q)
  (k:∀ ds st' vs F' H',Ext F H F' H'→OkE K w F' B σ H' env st'→RepL K w F' B H' vs ds→RE K w XR W F B σ H fr (f ds st') Q→Q' vs H'):tEs K w XR W cx es σ H Q':=by
 refine ⟨F,B,env,st,o,?_⟩
 cases q:evEs cx es env st with
 | ok d st' =>
  rw [q,R.bind_ok] at h
  intro v F' H' x s r
  exact k d st' v F' H' x (o.ext x s) r h
 | exc c fs st' =>
  rw [q,R.bind_exc] at h
  exact h
 | no=>rw [q,R.bind_no] at h;exact h
theorem tT.first (o:OkE K w F B σ H env st){e:E}{f:Bool→St→R D}{Q:VK}{fr:Bool}{Q':Bool→Hp→Prop}
  (h:RE K w XR W F B σ H fr ((evE cx e env st).bind fun x st=>(R.lift x.truth st).bind f) Q)
  (k:∀ t st' F' H',Ext F H F' H'→OkE K w F' B σ H' env st'→RE K w XR W F B σ H fr (f t st') Q→Q' t H'):tT K w XR W cx e σ H Q':=by
 refine ⟨F,B,env,st,o,?_⟩
 unfold evT
 cases q:evE cx e env st with
 | ok d st' =>
  rw [q,R.bind_ok] at h
  rw [R.bind_ok]
  cases t:d.truth with
  | none=>rw [t] at h;exact h
  | some b =>
   rw [t,R.lift_some,R.bind_ok] at h
   rw [R.lift_some]
   intro F' H' x s
   exact k b st' F' H' x (o.ext x s) h
 | exc c fs st' =>
  rw [q,R.bind_exc] at h
  exact h
 | no=>rw [q,R.bind_no] at h;exact h
theorem RE.shift {F1:Foot}{H1:Hp}(x:Ext F H F1 H1){r:R D}{Q:VK}(h:RE K w XR W F B σ H false r Q):RE K w XR W F1 B σ H1 false r Q:=by
 cases r with
 | ok d st'=>exact fun v F' H' y s r _=>h v F' H' (x.trans y) s r (fun z=>by cases z)
 | exc c fs st'=>exact fun cls dx F' H' y s r=>h cls dx F' H' (x.trans y) s r
 | no=>exact h
theorem RE.fin {F':Foot}{H':Hp}{st':St}{v:V}{o:Option D}{d:D}{Q:VK}(h:RE K w XR W F B σ H false (R.lift o st') Q)(e:o=some d)(x:Ext F H F' H')(s:SR st' F' H')(r:Rep K w F' B H' v d):Q v H':=by
 subst e
 exact h v F' H' x s r (fun z=>by cases z)
theorem RE.some_of {st':St}{o:Option D}{fr:Bool}{Q:VK}(h:RE K w XR W F B σ H fr (R.lift o st') Q):∃ d,o=some d:=by
 cases o with
 | none=>exact h.elim
 | some d=>exact ⟨d,rfl⟩
end
end PL
end
section
set_option Elab.async false
namespace PL
open PySem PySem.Spec PyProof.Rows L2
theorem once_mul (l:Addr)(items:Array Value)(n:Nat)(dd:Option Addr)(sl:Array (Option Value))(u:Tok) :
  Meets (Builtin.«tuple.__mul__» ⟨[.ref l, .int 1 u], []⟩) (fun _ R s => s.heap.get? l = some { cls := .type "tuple", dict := dd, data := .seq items n, slots := sl } ∧ R (.ok (.ret (Value.ref l))) s) :=
 .of_wp fun prog w A R s h=>by
  obtain ⟨hp,g,d,tk,os⟩:=s
  obtain ⟨hl,h⟩:=h
  have f1:=AutoSeq1.idx_int
  have c0:(decide ((1:Int) < -(2^63)) || decide ((1:Int) ≥ 2^63))=false:=by decide
  have c1:(items.isEmpty || (1:Int)==1)=true:=by simp
  wp_walk using wpAny_loadPart' hl
  repeat (first
   | (refine wpAny_ite_false (decide_eq_false (by rw [c0];exact Bool.false_ne_true)) ?_;wp_walk using wpAny_loadPart' hl)
   | (refine wpAny_ite_true (decide_eq_true c1) ?_;wp_walk using wpAny_loadPart' hl))
  exact ⟨_,rfl,h⟩
def rOnce (K:PySem.W.Frag):R2:=fun x y H Q=>∃ l xs,x=.ref l∧y=.int 1∧SqT K H l xs∧Q (.ref l) H
theorem op_once {X:Cx}:OpR X (binaryOp .Mult) (rOnce X.K):=by
 intro pins s σ H x y v u Q I rx ry h
 obtain ⟨l,xs,rfl,rfl,hT,q⟩:=h
 cases rx
 obtain ⟨t,rfl⟩:=ry
 obtain ⟨its,r,⟨⟨cls,dd,data,sl⟩,ho,hc,n,hd⟩,hs⟩:=I.tuple hT
 simp only at hc hd
 subst hc hd
 refine wpAny_binaryOp_repeat_ref (T := "tuple") (U := "int") (by decide) ⟨_, ho, rfl⟩ (fun s' => typeIs_int s' 1 t) noFill_tuple_mul F.fills_int_mul F.slot_int_rmul repeat_tuple F.slot_int_index.lookup
  (call_meets F.slot_int_rmul (typeIs_int s 1 t) F.entry_int_rmul (F.args_int_rmul_2 _ _) (int_rmul_tuple 1 t l its.toArray n dd sl)
   ⟨ho,rfl,⟨_,ho,rfl⟩,call_meets F.slot_tuple_mul ⟨_,ho,rfl⟩ F.entry_tuple_mul (F.args_tuple_mul_2 _ _) (once_mul l its.toArray n dd sl t) ⟨ho,?_⟩⟩)
 exact ⟨.ref l,H,I,rfl,q⟩
end PL
end
section
namespace PL
open PySem PySem.Spec PyProof.Rows L2
def K1 (K:PySem.W.Frag)(w:World)(F:Foot)(B:Addr→Prop)(H:Hp)(st:St)(d:D)(Q:VK):Prop :=
 ∀ v F' H',Ext F H F' H'→SR st F' H'→Rep K w F' B H' v d→Q v H'
section
variable {K:PySem.W.Frag}{w:World}{F:Foot}{B:Addr→Prop}{H:Hp}{st:St}{d d1 d2:D}{Q:VK}{v u:V}
theorem K1.same (q:K1 K w F B H st d Q)(s:SR st F H)(r:Rep K w F B H v d):Q v H:=q v F H (Ext.refl F H) s r
theorem K1.newL {xs:List V}{ds:List D}(q:K1 K w F B H st (.lst ds) Q)(s:SR st F H)(ob:∀ b,B b→H b≠none)(r:RepL K w F B H xs ds):∀ p,H p=none→Q (.ref p) (upd H p (.lst xs)) :=
 fun p hp=>q _ F _ (Ext.new hp) (s.new hp) (Rep.newL hp s ob r)
theorem K1.newT {xs:List V}{ds:List D}(q:K1 K w F B H st (.tup ds) Q)(s:SR st F H)(ob:∀ b,B b→H b≠none)(r:RepL K w F B H xs ds):∀ p,H p=none→Q (.ref p) (upd H p (.tup xs)) :=
 fun p hp=>q _ F _ (Ext.new hp) (s.new hp) (Rep.newT hp s ob r)
theorem lineEq:line=sizeLine:=by rw [sizeLine_eq]
def rAddA (K:PySem.W.Frag):R2:=fun x y H Q=>rI0 (fun i j=>V.int (i+j)) x y H Q∨((∃ i j,x=.str i∧y=.str j∧i.length+j.length≤sizeLine∧Q (.str (i++j)) H)∨(rCat x y H Q∨rCatA K x y H Q))
theorem or_add {X:Cx}:OpR X (binaryOp .Add) (rAddA X.K):=op_add.or (op_add_str.or (op_cat.or op_catA))
def rMulA (K:PySem.W.Frag):R2:=fun x y H Q=>rI CMulW (fun i j=>V.int (i*j)) x y H Q∨(rRep x y H Q∨(rRepT K x y H Q∨rOnce K x y H Q))
theorem or_mul {X:Cx}:OpR X (binaryOp .Mult) (rMulA X.K):=op_mulW.or (op_rep.or (op_repT.or op_once))
def rDivA:R2:=fun x y H Q=>rI CDivN (fun i j=>V.int (i.fdiv j)) x y H Q∨rI CDivW (fun i j=>V.int (i/j)) x y H Q
theorem or_div {X:Cx}:OpR X (binaryOp .FloorDiv) rDivA:=op_fdivN.or op_fdivW
def rBin (K:PySem.W.Frag):Bop→R2
 | .add=>rAddA K
 | .sub=>rI0 fun i j=>V.int (i-j)
 | .mul=>rMulA K
 | .div=>rDivA
 | .mod=>rI (fun _ j=>j≠0) fun i j=>V.int (i.fmod j)
 | .pow=>rI CPow fun i j=>V.int (i^j.toNat)
 | .shl=>rI CPow fun i j=>V.int (i*2^j.toNat)
theorem bin_R {X:Cx}:∀ o,OpR X (binaryOp (bopOf o)) (rBin X.K o)
 | .add=>or_add
 | .sub=>op_sub
 | .mul=>or_mul
 | .div=>or_div
 | .mod=>op_modN
 | .pow=>op_pow
 | .shl=>op_shl
theorem strLen (x:Str):x.length=x.cps.toList.length:=by simp [Str.length]
theorem repL_nil {vs:List V}{ds:List D}(r:RepL K w F B H vs ds):vs=[]↔ds=[]:=by
 cases r<;>simp
theorem bin_ok {o:Bop}(e:bop o d1 d2=some d)(r1:Rep K w F B H v d1)(r2:Rep K w F B H u d2)(ob:∀ b,B b→H b≠none)(s:SR st F H)(q:K1 K w F B H st d Q):rBin K o v u H Q:=by
 have hl:line=sizeLine:=lineEq
 cases o with
 | add =>
  cases d1<;>cases d2<;>simp only [bop,Option.some.injEq] at e<;>try (cases e;done)
  case int.int i j=>subst e;cases r1;cases r2;exact .inl ⟨i,j,rfl,rfl,q.same s (.int _)⟩
  case str.str a b =>
   split at e
   ·rename_i hz
    cases e
    cases r1 with
    | str x _ ex =>
     cases r2 with
     | str y _ ey =>
      subst ex ey
      exact .inr (.inl ⟨x,y,rfl,rfl,by rw [strLen,strLen,← hl];exact hz,q.same s (.str _ _ (PySem.W.KAf.app_list x y))⟩)
   ·cases e
  case tup.tup a b =>
   split at e
   ·rename_i hz
    cases e
    obtain ⟨a1,xs,rfl,h1,l1⟩:=r1.isT
    obtain ⟨a2,ys,rfl,h2,l2⟩:=r2.isT
    refine .inr (.inr (.inr ⟨a1,a2,xs,ys,rfl,rfl,h1,h2,by rw [l1.length,l2.length,← hl];exact hz,fun z=>?_,fun _ z=>?_,fun _ _ p hp=>?_⟩))
    ·have z':=(repL_nil l1).mp z
     subst z'
     exact q.same s (by simpa using r2)
    ·have z':=(repL_nil l2).mp z
     subst z'
     exact q.same s (by simpa using r1)
    ·exact q.newT s ob (l1.append l2) p hp
   ·cases e
  case lst.lst a b =>
   split at e
   ·rename_i hz
    cases e
    obtain ⟨a1,xs,rfl,h1,l1⟩:=r1.isL
    obtain ⟨a2,ys,rfl,h2,l2⟩:=r2.isL
    exact .inr (.inr (.inl ⟨a1,a2,xs,ys,rfl,rfl,h1,h2,by rw [l1.length,l2.length,← hl];exact hz,q.newL s ob (l1.append l2)⟩))
   ·cases e
 | sub =>
  cases d1<;>cases d2<;>simp only [bop,Option.some.injEq] at e<;>try (cases e;done)
  case int.int i j=>subst e;cases r1;cases r2;exact ⟨i,j,rfl,rfl,q.same s (.int _)⟩
 | mul =>
  cases d1<;>cases d2<;>simp only [bop,Option.some.injEq] at e<;>try (cases e;done)
  case int.int i j =>
   split at e
   ·rename_i hz
    cases e
    cases r1;cases r2
    exact .inl ⟨i,j,rfl,rfl,(by unfold mulOk at hz;show _<_;simpa using hz),q.same s (.int _)⟩
   ·cases e
  case lst.int a n =>
   split at e
   ·rename_i hz
    cases e
    obtain ⟨a1,xs,rfl,h1,l1⟩:=r1.isL
    cases r2
    refine .inr (.inl ⟨a1,n,xs,rfl,rfl,h1,by omega,by omega,by rw [l1.length,← hl];exact hz.2.2,q.newL s ob ?_⟩)
    generalize n.toNat=m
    induction m with
    | zero=>exact .nil
    | succ m ih=>rw [List.replicate_succ,List.replicate_succ,List.flatten_cons,List.flatten_cons];exact l1.append ih
   ·cases e
  case tup.int a n =>
   split at e
   ·rename_i hz
    cases e
    obtain ⟨a1,xs,rfl,h1,l1⟩:=r1.isT
    cases r2
    obtain ⟨z1,z2,z3,z4⟩:=hz
    by_cases hn:n=1
    ·subst hn
     refine .inr (.inr (.inr ⟨a1,xs,rfl,rfl,h1,q.same s ?_⟩))
     have e1:(List.replicate (1:Int).toNat a).flatten=a:=by simp
     rw [e1]
     exact r1
    ·refine .inr (.inr (.inl ⟨a1,n,xs,rfl,rfl,h1,fun e=>z3 ((repL_nil l1).mp e),by omega,z2,by rw [l1.length];exact z4,q.newT s ob ?_⟩))
     generalize n.toNat=m
     induction m with
     | zero=>exact .nil
     | succ m ih=>rw [List.replicate_succ,List.replicate_succ,List.flatten_cons,List.flatten_cons];exact l1.append ih
   ·cases e
 | div =>
  cases d1<;>cases d2<;>simp only [bop,Option.some.injEq] at e<;>try (cases e;done)
  case int.int i j =>
   split at e
   ·rename_i hz
    cases e
    cases r1;cases r2
    unfold divOk at hz
    simp only [Bool.or_eq_true,Bool.and_eq_true,decide_eq_true_eq] at hz
    rcases hz with hz|hz
    ·exact .inl ⟨i,j,rfl,rfl,hz,q.same s (.int _)⟩
    ·refine .inr ⟨i,j,rfl,rfl,hz,?_⟩
     have z:i.fdiv j=i/j:=Int.fdiv_eq_ediv_of_nonneg i (by omega)
     rw [z] at q
     exact q.same s (.int _)
   ·cases e
 | mod =>
  cases d1<;>cases d2<;>simp only [bop,Option.some.injEq] at e<;>try (cases e;done)
  case int.int i j =>
   split at e
   ·rename_i hz
    cases e
    cases r1;cases r2
    exact ⟨i,j,rfl,rfl,hz,q.same s (.int _)⟩
   ·cases e
 | pow =>
  cases d1<;>cases d2<;>simp only [bop,Option.some.injEq] at e<;>try (cases e;done)
  case int.int i j =>
   split at e
   ·rename_i hz
    cases e
    cases r1;cases r2
    exact ⟨i,j,rfl,rfl,hz,q.same s (.int _)⟩
   ·cases e
 | shl =>
  cases d1<;>cases d2<;>simp only [bop,Option.some.injEq] at e<;>try (cases e;done)
  case int.int i j =>
   split at e
   ·rename_i hz
    cases e
    cases r1;cases r2
    exact ⟨i,j,rfl,rfl,hz,q.same s (.int _)⟩
   ·cases e
mutual
theorem eqv_py:∀ (a b:D),a.plain=true→b.plain=true→PyData.eqv (toPy a) (toPy b)=D.eqv a b
 | .non,b,_,hb=>by cases b<;>first|rfl|(simp [D.plain] at hb)
 | .bl x,b,_,hb=>by cases b<;>first|rfl|(simp [D.plain] at hb)|(simp [toPy,PyData.eqv,D.eqv])
 | .int x,b,_,hb=>by cases b<;>first|rfl|(simp [D.plain] at hb)|(simp [toPy,PyData.eqv,D.eqv])
 | .str x,b,_,hb=>by
  cases b with
  | str y =>
   simp only [toPy,PyData.eqv,D.eqv]
   have z:((⟨x.toArray⟩:Str)==⟨y.toArray⟩)=(x==y):=by
    rw [Bool.eq_iff_iff]
    simp
   first|exact z|simpa using z
  | _=>first|rfl|(simp [D.plain] at hb)
 | .tup xs,b,ha,hb=>by
  cases b with
  | tup ys=>simp only [toPy,PyData.eqv,D.eqv];exact eqvs_py xs ys (by simpa [D.plain] using ha) (by simpa [D.plain] using hb)
  | _=>first|rfl|(simp [D.plain] at hb)
 | .lst xs,b,ha,hb=>by
  cases b with
  | lst ys=>simp only [toPy,PyData.eqv,D.eqv];exact eqvs_py xs ys (by simpa [D.plain] using ha) (by simpa [D.plain] using hb)
  | _=>first|rfl|(simp [D.plain] at hb)
 | .dct _ _,_,ha,_=>by simp [D.plain] at ha
 | .ob _ _,_,ha,_=>by simp [D.plain] at ha
theorem eqvs_py:∀ (a b:List D),D.plains a=true→D.plains b=true→PyData.eqvAll (toPys a) (toPys b)=D.eqvs a b
 | [],[],_,_=>rfl
 | [],_::_,_,_=>rfl
 | _::_,[],_,_=>rfl
 | x::r,y::s,ha,hb=>by
  simp only [D.plains,Bool.and_eq_true] at ha hb
  simp only [toPys,PyData.eqvAll,D.eqvs]
  rw [eqv_py x y ha.1 hb.1,eqvs_py r s ha.2 hb.2]
end
end
end PL
end
section
namespace PL
open PySem PySem.Spec PyProof.Rows L2
section
variable {K:PySem.W.Frag}{w:World}{F:Foot}{B:Addr→Prop}{H:Hp}{st:St}{d d1 d2:D}{Q:VK}{v u:V}
mutual
theorem depth_py:∀ d:D,d.plain=true→(toPy d).depth=d.depth
 | .non,_=>rfl
 | .bl _,_=>rfl
 | .int _,_=>rfl
 | .str _,_=>rfl
 | .tup xs,h=>by simp only [toPy,PyData.depth,D.depth];rw [depths_py xs (by simpa [D.plain] using h)]
 | .lst xs,h=>by simp only [toPy,PyData.depth,D.depth];rw [depths_py xs (by simpa [D.plain] using h)]
 | .dct _ _,h=>by simp [D.plain] at h
 | .ob _ _,h=>by simp [D.plain] at h
theorem depths_py:∀ ds:List D,D.plains ds=true→PyData.depthAll (toPys ds)=D.depths ds
 | [],_=>rfl
 | x::r,h=>by
  simp only [D.plains,Bool.and_eq_true] at h
  simp only [toPys,PyData.depthAll,D.depths]
  rw [depth_py x h.1,depths_py r h.2]
end
mutual
theorem lay_py:∀ d:D,d.plain=true→(toPy d).canLay0=true
 | .non,_=>rfl
 | .bl _,_=>rfl
 | .int _,_=>rfl
 | .str s,h=>by
  simp only [toPy,PyData.canLay0,PyData.strOk]
  simpa [D.plain] using h
 | .tup xs,h=>by simp only [toPy,PyData.canLay0];exact lays_py xs (by simpa [D.plain] using h)
 | .lst xs,h=>by simp only [toPy,PyData.canLay0];exact lays_py xs (by simpa [D.plain] using h)
 | .dct _ _,h=>by simp [D.plain] at h
 | .ob _ _,h=>by simp [D.plain] at h
theorem lays_py:∀ ds:List D,D.plains ds=true→PyData.canLayAll0 (toPys ds)=true
 | [],_=>rfl
 | x::r,h=>by
  simp only [D.plains,Bool.and_eq_true] at h
  simp only [toPys,PyData.canLayAll0,Bool.and_eq_true]
  exact ⟨lay_py x h.1,lays_py r h.2⟩
end
theorem shaped_py (h:d.shaped=true):d.plain=true∧SeqAt.shaped (toPy d)=true:=by
 unfold D.shaped at h
 simp only [Bool.and_eq_true,decide_eq_true_eq] at h
 refine ⟨h.1,?_⟩
 unfold SeqAt.shaped
 rw [lay_py d h.1,depth_py d h.1]
 simp;omega
theorem str_eq (x y:Str):decide (V.str x=V.str y)=(x.cps.toList==y.cps.toList):=by
 rw [Bool.eq_iff_iff]
 simp only [decide_eq_true_eq,V.str.injEq,beq_iff_eq]
 constructor
 ·intro e;rw [e]
 ·intro e
  rw [← str_of x,← str_of y,e]
def rEqA (K:PySem.W.Frag):R2:=fun x y H Q=>rEq x y H Q∨rEqD K x y H Q
def rNeA (K:PySem.W.Frag):R2:=fun x y H Q=>rNe x y H Q∨rNeD K x y H Q
theorem eq_ok {b:Bool}(e:eqD d1 d2=some b)(r1:Rep K w F B H v d1)(r2:Rep K w F B H u d2)(q:Q (.bl b) H):rEqA K v u H Q:=by
 have two:∀ {d1 d2:D},(if d1.shaped&&d2.shaped then some (D.eqv d1 d2) else none)=some b→Rep K w F B H v d1→Rep K w F B H u d2→rEqA K v u H Q:=by
  intro d1 d2 e r1 r2
  split at e
  ·rename_i hz
   cases e
   simp only [Bool.and_eq_true] at hz
   obtain ⟨p1,s1⟩:=shaped_py hz.1
   obtain ⟨p2,s2⟩:=shaped_py hz.2
   exact .inr ⟨_,_,r1.dp p1,r2.dp p2,s1,s2,by rw [eqv_py _ _ p1 p2];exact q⟩
  ·cases e
 unfold eqD at e
 split at e
 ·cases e
  cases r1 with
  | str x _ ex =>
   cases r2 with
   | str y _ ey =>
    subst ex ey
    exact .inl ⟨rfl,by rw [str_eq];exact q⟩
 ·exact two e r1 r2
theorem ne_ok {b:Bool}(e:eqD d1 d2=some b)(r1:Rep K w F B H v d1)(r2:Rep K w F B H u d2)(q:Q (.bl (!b)) H):rNeA K v u H Q:=by
 have two:∀ {d1 d2:D},(if d1.shaped&&d2.shaped then some (D.eqv d1 d2) else none)=some b→Rep K w F B H v d1→Rep K w F B H u d2→rNeA K v u H Q:=by
  intro d1 d2 e r1 r2
  split at e
  ·rename_i hz
   cases e
   simp only [Bool.and_eq_true] at hz
   obtain ⟨p1,s1⟩:=shaped_py hz.1
   obtain ⟨p2,s2⟩:=shaped_py hz.2
   exact .inr ⟨_,_,r1.dp p1,r2.dp p2,s1,s2,by rw [eqv_py _ _ p1 p2];exact q⟩
  ·cases e
 unfold eqD at e
 split at e
 ·cases e
  cases r1 with
  | str x _ ex =>
   cases r2 with
   | str y _ ey =>
    subst ex ey
    exact .inl ⟨rfl,by rw [str_eq];exact q⟩
 ·exact two e r1 r2
theorem valV_findK:∀ {kvs:List (Key × V)} {ks:List K0} {ds:List D},kvs.map (·.1)=ks.map kOf→RepL K w F B H (kvs.map (·.2)) ds→∀ k:K0,
  match findK k ks ds with
  | some d=>∃ v,valV kvs (kOf k)=some v∧Rep K w F B H v d
  | none=>valV kvs (kOf k)=none
 | [],ks,ds,e,r,k=>by
  cases ks with
  | nil=>simp [findK,valV]
  | cons _ _=>simp at e
 | p::kvs,[],ds,e,r,k=>by simp at e
 | p::kvs,k'::ks,ds,e,r,k=>by
  simp only [List.map_cons,List.cons.injEq] at e
  cases ds with
  | nil=>cases r
  | cons d ds =>
   cases r with
   | cons r t =>
    have inj:∀ {a b:K0},kOf a=kOf b→a=b:=by
     intro a b h
     cases a<;>cases b<;>simp [kOf] at h ⊢ <;> exact h
    by_cases hk:k'=k
    ·subst hk
     simp only [findK,if_true]
     refine ⟨p.2,?_,r⟩
     unfold valV
     simp [e.1]
    ·simp only [findK,hk,if_false]
     have ih:=valV_findK e.2 t k
     have hne:¬ p.1=kOf k:=fun z=>hk (inj (by rw [← z,e.1]))
     have z:valV (p::kvs) (kOf k)=valV kvs (kOf k):=by
      conv=>lhs;unfold valV
      simp [hne]
      rfl
     rw [z]
     exact ih
end
end PL
end
section
namespace PL
open PySem PySem.Spec PyProof.Rows L2
section
variable {K:PySem.W.Frag}{w:World}{F:Foot}{B:Addr→Prop}{H:Hp}{st:St}{d d1 d2:D}{Q:VK}{v u:V}
def rInA (K : PySem.W.Frag)(w : World)(neg : Bool) : R2 := fun x y H Q => rIn K neg x y H Q ∨ ((if neg then rNotInD K x y H Q else rInD K x y H Q) ∨
  ((∃ a o, y = .ref a ∧ DGet H a x o ∧ Q (.bl (if neg then !o.isSome else o.isSome)) H) ∨
   (∃ a es n z r, KDict K w a es n ∧ x = .str z ∧ y = .ref a ∧ PySem.W.nsIn K a z = some r ∧ Q (.bl (if neg then !r.isSome else r.isSome)) H)))
theorem in_R {X:Cx}(hu:X.A.units+65<cLine):OpR X (compareOp .In) (rInA X.K X.w false):=by
 refine op_in_seq.or ?_
 refine OpR.or (r:=rInD X.K) (op_inD hu) ?_
 refine OpR.or ?_ ?_
 ·intro pins s σ H x y v u Q I rx ry h
  obtain ⟨a,o,rfl,g,q⟩:=h
  obtain rfl:u=Value.ref a:=ry
  exact d_in (by omega) I g rx fun s' I'=>⟨.bl o.isSome,H,I',rfl,q⟩
 ·intro pins s σ H x y v u Q I rx ry h
  obtain ⟨a,es,n,z,r,kd,e1,e2,e3,q⟩:=h
  exact op_in_kd kd pins s σ H x y v u Q I rx ry ⟨z,r,e1,e2,e3,q⟩
theorem notin_R {X:Cx}(hu:X.A.units+65<cLine):OpR X (compareOp .NotIn) (rInA X.K X.w true):=by
 refine op_notIn_seq.or ?_
 refine OpR.or (r:=rNotInD X.K) (op_notInD hu) ?_
 refine OpR.or ?_ ?_
 ·intro pins s σ H x y v u Q I rx ry h
  obtain ⟨a,o,rfl,g,q⟩:=h
  obtain rfl:u=Value.ref a:=ry
  exact d_notIn (by omega) I g rx fun s' I'=>⟨.bl (!o.isSome),H,I',rfl,q⟩
 ·intro pins s σ H x y v u Q I rx ry h
  obtain ⟨a,es,n,z,r,kd,e1,e2,e3,q⟩:=h
  exact op_notIn_kd kd pins s σ H x y v u Q I rx ry ⟨z,r,e1,e2,e3,q⟩
theorem flatV_of (r:Rep K w F B H v d)(h:d.flat=true):flatV v=true:=by
 cases r<;>first|rfl|(simp [D.flat] at h)
theorem flatV_all:∀ {vs:List V} {ds:List D},RepL K w F B H vs ds→ds.all D.flat=true→vs.all flatV=true
 | _,_,.nil,_=>rfl
 | _,_,.cons r t,h=>by
  simp only [List.all_cons,Bool.and_eq_true] at h ⊢
  exact ⟨flatV_of r h.1,flatV_all t h.2⟩
theorem eqV_of (r1:Rep K w F B H v d1)(r2:Rep K w F B H u d2)(h1:d1.flat=true)(h2:d2.flat=true):eqV v u=D.eqv d1 d2:=by
 cases r1 with
 | non=>cases r2<;>first|rfl|(simp [D.flat] at h2)
 | bl a=>cases r2<;>first|rfl|(simp [D.flat] at h2)
 | int a=>cases r2<;>first|rfl|(simp [D.flat] at h2)
 | str x s e =>
  cases r2 with
  | str y t e' =>
   subst e e'
   show (x==y)=(x.cps.toList==y.cps.toList)
   have z:=str_eq x y
   rw [Bool.eq_iff_iff] at z ⊢
   simp only [decide_eq_true_eq,V.str.injEq,beq_iff_eq] at z ⊢
   exact z
  | _=>first|rfl|(simp [D.flat] at h2)
 | _=>simp [D.flat] at h1
theorem inV_of (r:Rep K w F B H u d)(h:d.flat=true):∀ {vs:List V} {ds:List D},RepL K w F B H vs ds→ds.all D.flat=true→inV u vs=ds.any fun y=>D.eqv y d
 | _,_,.nil,_=>rfl
 | _,_,.cons r' t,h'=>by
  simp only [List.all_cons,Bool.and_eq_true] at h'
  have ih:=inV_of r h t h'.2
  unfold inV at ih ⊢
  rw [List.any_cons,List.any_cons,eqV_of r' r h'.1 h,ih]
theorem plains_of:∀ {ds:List D},ds.all D.shaped=true→D.plains ds=true∧D.depths ds≤60
 | [],_=>⟨rfl,by simp [D.depths]⟩
 | x::r,h=>by
  simp only [List.all_cons,Bool.and_eq_true] at h
  obtain ⟨h1,h2⟩:=plains_of h.2
  have h3:=h.1
  unfold D.shaped at h3
  simp only [Bool.and_eq_true,decide_eq_true_eq] at h3
  simp only [D.plains,D.depths,Bool.and_eq_true]
  exact ⟨⟨h3.1,h1⟩,by omega⟩
theorem any_py (p:d.plain=true):∀ {ds:List D},D.plains ds=true→((toPys ds).any fun z=>PyData.eqv z (toPy d))=ds.any fun y=>D.eqv y d
 | [],_=>rfl
 | x::r,h=>by
  simp only [D.plains,Bool.and_eq_true] at h
  simp only [toPys,List.any_cons]
  rw [eqv_py x d h.1 p,any_py p h.2]
theorem in_ok {b:Bool}(neg:Bool)(e:D.has d1 d2=some b)(r1:Rep K w F B H v d1)(r2:Rep K w F B H u d2)(q:Q (.bl (if neg then !b else b)) H):rInA K w neg v u H Q:=by
 unfold D.has at e
 split at e
 ·split at e
  ·rename_i hz
   cases e
   simp only [Bool.and_eq_true] at hz
   obtain ⟨p1,s1⟩:=shaped_py hz.1
   obtain ⟨p2,s2⟩:=plains_of hz.2
   rename_i ys
   have sh:SeqAt.shaped (.list (toPys ys))=true:=by
    have z1:(PyData.list (toPys ys)).canLay0=true:=lays_py _ p2
    have z2:(PyData.list (toPys ys)).depth=D.depths ys+1:=by
     show PyData.depthAll (toPys ys)+1=_
     rw [depths_py _ p2]
    unfold SeqAt.shaped
    rw [z1,z2]
    simp;omega
   have hd:=r2.dp (by simpa [D.plain] using p2)
   simp only [toPy] at hd
   refine .inr (.inl ?_)
   cases neg with
   | true=>exact ⟨_,_,r1.dp p1,hd,s1,sh,by rw [any_py p1 p2];exact q⟩
   | false=>exact ⟨_,_,r1.dp p1,hd,s1,sh,by rw [any_py p1 p2];exact q⟩
  ·cases e
 ·split at e
  ·rename_i hz
   cases e
   simp only [Bool.and_eq_true] at hz
   obtain ⟨a,xs,rfl,h2,l2⟩:=r2.isT
   refine .inl ⟨a,xs,rfl,.inr h2,flatV_of r1 hz.1,flatV_all l2 hz.2,?_⟩
   rw [inV_of r1 hz.1 l2 hz.2]
   exact q
  ·cases e
 ·rename_i ks vs
  have memF:∀ {α:Type} {ks:List K0} {ds:List α} (k:K0),ks.length=ds.length→(findK k ks ds).isSome=ks.contains k:=by
   intro α ks
   induction ks with
   | nil=>intro ds k _;simp [findK]
   | cons a r ih =>
    intro ds k hl
    cases ds with
    | nil=>simp at hl
    | cons x xs =>
     by_cases h:a=k
     ·subst h;simp [findK]
     ·have h':¬ k=a:=fun z=>h z.symm
      simp only [findK,h,if_false,List.contains_cons]
      rw [ih k (by simpa using hl)]
      simp [h']
  have key:∀ (k:K0),b=ks.contains k→v=kV (kOf k)→(ks.any K0.isS=true→∃ x:Str,k=.s x.cps.toList∧v=.str x)→rInA K w neg v u H Q:=by
   intro k eb ev es
   cases r2 with
   | dct h f hb e2 r =>
    have z:=valV_findK e2 r k
    refine .inr (.inr (.inl ⟨_,_,rfl,.inl ⟨_,kOf k,.inl h,ev,rfl⟩,?_⟩))
    have hl:ks.length=vs.length:=by
     have:=congrArg List.length e2
     have:=r.length
     simp at *;omega
    have z2:=memF (ds:=vs) k hl
    cases q':findK k ks vs with
    | none =>
     rw [q'] at z z2
     rw [z]
     rw [← z2] at eb;subst eb
     exact q
    | some d' =>
     rw [q'] at z z2
     obtain ⟨v',e',_⟩:=z
     rw [e']
     rw [← z2] at eb;subst eb
     exact q
   | dctW kd hs hl g r =>
    obtain ⟨x,rfl,rfl⟩:=es hs
    obtain ⟨o,h1,h2⟩:=g x
    refine .inr (.inr (.inr ⟨_,_,_,x,o,kd,rfl,rfl,h1,?_⟩))
    have z2:=memF (K0.s x.cps.toList) hl
    rw [← z2] at eb
    cases q':findK (K0.s x.cps.toList) ks _ with
    | none =>
     rw [q'] at h2 eb
     subst h2 eb
     exact q
    | some v' =>
     rw [q'] at h2 eb
     obtain ⟨u',rfl,_⟩:=h2
     subst eb
     exact q
  split at e
  ·rename_i i
   split at e
   ·cases e
   ·rename_i hn
    cases e
    cases r1
    exact key (.i i) rfl rfl fun z=>absurd z hn
  ·cases e
   cases r1 with
   | str x s ex =>
    subst ex
    refine key (.s _) rfl ?_ fun _=>⟨x,rfl,rfl⟩
    show V.str x=V.str _
    rw [str_of]
  ·cases e
 ·cases e
def rSubA (K:PySem.W.Frag)(w:World):R2:=fun x y H Q=>rIx K x y H Q∨((∃ a o,x=.ref a∧DGet H a y (some o)∧Q o H)∨rIxD K w x y H Q)
theorem sub_R {X:Cx}(hu:X.A.units+65<cLine):IxR X (rSubA X.K X.w):=by
 refine IxR.or ix_seq (IxR.or ?_ ix_kdict)
 intro value slice pins s σ H x y v u Q I rx ry h hs
 obtain ⟨a,o,rfl,g,q⟩:=h
 obtain rfl:v=Value.ref a:=rx
 exact tail_any (dict_typeIs I g) PySem.F.slot_dict_getitem.lookup (d_getItem (by omega) I g ry fun w' s' I' r'=>⟨o,H,I',r',q⟩) hs
theorem ix_at {α:Type}{xs:List α}{i:Int}{x:α}(h:ix xs i=some x):atI xs i=some x:=by
 unfold ix at h
 unfold atI ixN
 by_cases h0:0≤i
 ·rw [if_pos h0] at h ⊢
  have hl:i.toNat<xs.length:=(List.getElem?_eq_some_iff.mp h).1
  rw [if_pos (by omega)]
  exact h
 ·rw [if_neg h0] at h ⊢
  split at h
  ·rename_i h1
   rw [if_pos (by omega)]
   exact h
  ·cases h
theorem repL_ix {vs:List V}{ds:List D}(r:RepL K w F B H vs ds){i:Int}(h:ix ds i=some d):∃ x,atI vs i=some x∧Rep K w F B H x d:=by
 have hl:=r.length
 have h':=ix_at h
 unfold atI at h' ⊢
 rw [hl]
 cases q:ixN ds.length i with
 | none=>rw [q] at h';cases h'
 | some j =>
  rw [q] at h'
  obtain ⟨x,h1,h2⟩:=r.get h'
  exact ⟨x,h1,h2⟩
theorem sub_ok (e:subD d1 d2=some d)(r1:Rep K w F B H v d1)(r2:Rep K w F B H u d2)(s:SR st F H)(q:K1 K w F B H st d Q):rSubA K w v u H Q:=by
 unfold subD at e
 split at e
 ·obtain ⟨a,xs,rfl,h1,l1⟩:=r1.isT
  cases r2
  obtain ⟨x,h2,r⟩:=repL_ix l1 e
  exact .inl (.inr (.inl ⟨a,xs,_,x,rfl,rfl,h1,h2,q.same s r⟩))
 ·obtain ⟨a,xs,rfl,h1,l1⟩:=r1.isL
  cases r2
  obtain ⟨x,h2,r⟩:=repL_ix l1 e
  exact .inl (.inl ⟨a,xs,_,x,rfl,rfl,.of h1,h2,q.same s r⟩)
 ·split at e
  ·rename_i hz
   obtain ⟨c,e1,rfl⟩:=Option.map_eq_some_iff.mp e
   cases r2
   cases r1 with
   | str x _ ex =>
    subst ex
    exact .inl (.inr (.inr ⟨x,_,c,rfl,rfl,by rw [strLen,← lineEq];exact hz,ix_at e1,q.same s (.str _ _ (by simp))⟩))
  ·cases e
 ·split at e
  ·cases e
  ·rename_i hn
   cases r2
   cases r1 with
   | dct h f hb e2 r =>
    rename_i i _ _
    have z:=valV_findK e2 r (.i i)
    rw [e] at z
    obtain ⟨x,e',r'⟩:=z
    exact .inr (.inl ⟨_,x,rfl,.inl ⟨_,kOf (.i i),.inl h,rfl,e'.symm⟩,q.same s r'⟩)
   | dctW kd hs hl g r=>exact absurd hs hn
 ·cases r2 with
  | str x _ ex =>
   subst ex
   cases r1 with
   | dct h f hb e2 r =>
    have z:=valV_findK e2 r (.s x.cps.toList)
    rw [e] at z
    obtain ⟨y,e',r'⟩:=z
    refine .inr (.inl ⟨_,y,rfl,.inl ⟨_,kOf (.s x.cps.toList),.inl h,?_,e'.symm⟩,q.same s r'⟩)
    show V.str x=V.str _
    rw [str_of]
   | dctW kd hs hl g r =>
    obtain ⟨o,h1,h2⟩:=g x
    have two:∀ {ks:List K0} {xs:List V} {ds:List D},RepL K w F B H xs ds→∀ {k:K0} {d:D},findK k ks ds=some d→∃ x,findK k ks xs=some x∧Rep K w F B H x d:=by
     intro ks
     induction ks with
     | nil=>intro xs ds _ k d e;simp [findK] at e
     | cons a t ih =>
      intro xs ds r k d e
      cases r with
      | nil=>simp [findK] at e
      | cons r t' =>
       by_cases hk:a=k
       ·simp only [findK,hk,if_true,Option.some.injEq] at e ⊢
        subst e;exact ⟨_,rfl,r⟩
       ·simp only [findK,hk,if_false] at e ⊢
        exact ih t' e
    obtain ⟨y,e',r'⟩:=two r e
    rw [e'] at h2
    obtain ⟨u',rfl,ru⟩:=h2
    refine .inr (.inr ⟨_,x,y,rfl,rfl,⟨_,_,u',kd.at_,kd.lit,h1,ru⟩,q.same s r'⟩)
 ·cases e
theorem clamp_eq (n d:Nat):∀ i:Option Int,HT.sIx n d i=endI n d i
 | none=>rfl
 | some i=>by
  show (if i<0 then (i+(n:Int)).toNat else min i.toNat n)=if 0≤i then min i.toNat n else (i+n).toNat
  by_cases h:0≤i
  ·rw [if_pos h,if_neg (by omega)]
  ·rw [if_neg h,if_pos (by omega)]
theorem cut_eq (vs:List V)(lo hi:Option Int):cutV vs lo hi=cut vs lo hi:=by
 unfold cutV cut
 rw [clamp_eq,clamp_eq,List.take_drop]
 generalize endI vs.length 0 lo=a
 generalize endI vs.length vs.length hi=b
 by_cases h:a≤b
 ·rw [Nat.add_sub_cancel' h]
 ·rw [show a+(b-a)=a by omega,List.drop_of_length_le (by simp;omega),List.drop_of_length_le (by simp;omega)]
theorem repL_cut {vs:List V}{ds:List D}(r:RepL K w F B H vs ds)(lo hi:Option Int):RepL K w F B H (cutV vs lo hi) (cut ds lo hi):=by
 rw [cut_eq]
 unfold cut
 rw [r.length]
 exact (r.take _).drop _
end
end PL
end
section
namespace PL
open PySem PySem.Spec PyProof.Rows L2
mutual
theorem shown_len : ∀ d : D, d.small = true → (toPy d).shown.length ≤ d.wt
  | .non, _ => by show (Str.ofString "None").length ≤ 5; decide
  | .bl b, _ => by
    cases b
    · show (Str.ofString "False").length ≤ 5; decide
    · show (Str.ofString "True").length ≤ 5; decide
  | .int i, h => by
    have h' : i.natAbs < bigN := by simpa [D.small] using h
    have hl : i.natAbs.log2 < 1900 := PySem.Flt.log2_lt_of (by decide) (show i.natAbs < 2 ^ 1900 from h')
    have z := int_text_length_le (a := i) (k := 1900) (by decide) hl
    show (Str.ofString (toString i)).length ≤ 2000
    rw [PySem.ofString_length]; omega
  | .str s, h => by
    have h' : ∀ c ∈ s, c < 1114112 := by simpa [D.small] using h
    have z := PySem.StrLaws.reprText_len ⟨s.toArray⟩ (fun c hc => by
      have := h' c (by simpa using hc)
      omega)
    have e : (⟨s.toArray⟩ : Str).length = s.length := by simp [Str.length]
    show (reprText ⟨s.toArray⟩).length ≤ 10 * s.length + 2
    rw [e] at z
    exact z
  | .tup xs, h => by
    have z := tupleText_len_le (PyData.shownAll (toPys xs))
    have z2 := showns_len xs (by simpa [D.small] using h)
    show (tupleText (PyData.shownAll (toPys xs))).length ≤ D.wts xs + 3
    omega
  | .lst xs, h => by
    have z := listText_len_le (PyData.shownAll (toPys xs))
    have z2 := showns_len xs (by simpa [D.small] using h)
    show (listText (PyData.shownAll (toPys xs))).length ≤ D.wts xs + 3
    omega
  | .dct _ _, h => by simp [D.small] at h
  | .ob _ _, h => by simp [D.small] at h
theorem showns_len:∀ ds:List D,D.smalls ds=true→((PyData.shownAll (toPys ds)).map (·.length)).sum+2*(PyData.shownAll (toPys ds)).length≤D.wts ds
 | [],_=>by simp [toPys,PyData.shownAll,D.wts]
 | x::r,h=>by
  simp only [D.smalls,Bool.and_eq_true] at h
  have h1:=shown_len x h.1
  have h2:=showns_len r h.2
  simp only [toPys,PyData.shownAll,D.wts,List.map_cons,List.sum_cons,List.length_cons] at h2 ⊢
  omega
end
mutual
theorem show_py:∀ d:D,d.small=true→(toPy d).showable=true∧(toPy d).hasDict=false∧d.plain=true
 | .non,_=>⟨rfl,rfl,rfl⟩
 | .bl _,_=>⟨rfl,rfl,rfl⟩
 | .int i,h=>by
  have h':i.natAbs<bigN:=by simpa [D.small] using h
  have hl:i.natAbs.log2<1900:=PySem.Flt.log2_lt_of (by decide) (show i.natAbs<2^1900 from h')
  refine ⟨?_,rfl,rfl⟩
  show decide (i.natAbs.log2<1920)=true
  simp;omega
 | .str s,h=>⟨rfl,rfl,by simpa [D.small,D.plain] using h⟩
 | .tup xs,h=>by
  obtain ⟨h1,h2,h3⟩:=shows_py xs (by simpa [D.small] using h)
  exact ⟨h1,h2,by simpa [D.plain] using h3⟩
 | .lst xs,h=>by
  obtain ⟨h1,h2,h3⟩:=shows_py xs (by simpa [D.small] using h)
  exact ⟨h1,h2,by simpa [D.plain] using h3⟩
 | .dct _ _,h=>by simp [D.small] at h
 | .ob _ _,h=>by simp [D.small] at h
theorem shows_py:∀ ds:List D,D.smalls ds=true→PyData.showableAll (toPys ds)=true∧PyData.hasDictAll (toPys ds)=false∧D.plains ds=true
 | [],_=>⟨rfl,rfl,rfl⟩
 | x::r,h=>by
  simp only [D.smalls,Bool.and_eq_true] at h
  obtain ⟨a1,a2,a3⟩:=show_py x h.1
  obtain ⟨b1,b2,b3⟩:=shows_py r h.2
  exact ⟨by simp only [toPys,PyData.showableAll,a1,b1,Bool.and_self],by simp only [toPys,PyData.hasDictAll,a2,b2,Bool.or_self],by simp only [D.plains,a3,b3,Bool.and_self]⟩
end
def biF:Bi→Value
 | .len => .builtin "len" | .abs => .builtin "abs" | .max2 => .builtin "max" | .min2 => .builtin "min" | .maxL => .builtin "max" | .minL => .builtin "min"
 | .sum => .builtin "sum" | .int => .type "int" | .bool => .type "bool" | .repr => .builtin "repr" | .sorted => .builtin "sorted" | .any => .builtin "any"
 | .all => .builtin "all" | .divmod => .builtin "divmod"
def rBi (K:PySem.W.Frag)(w:World)(b:Bi):List V→Hp→VK→Prop:=fun vs H Q =>
 ∃ (F:Foot) (B:Addr→Prop) (st:St) (ds:List D) (d:D),(∀ b,B b→H b≠none)∧SR st F H∧RepL K w F B H vs ds∧biD shownD b ds=some d∧K1 K w F B H st d Q
section
variable {K:PySem.W.Frag}{w:World}{F:Foot}{B:Addr→Prop}{H:Hp}{st:St}{d:D}{Q:VK}{v u:V}{vs:List V}
theorem RepL.one {d:D}(r:RepL K w F B H vs [d]):∃ v,vs=[v]∧Rep K w F B H v d:=by
 cases r with
 | cons r t=>cases t;exact ⟨_,rfl,r⟩
theorem RepL.two {d e:D}(r:RepL K w F B H vs [d,e]):∃ v u,vs=[v,u]∧Rep K w F B H v d∧Rep K w F B H u e:=by
 cases r with
 | cons r t =>
  cases t with
  | cons r2 t=>cases t;exact ⟨_,_,rfl,r,r2⟩
theorem SqL.ints {a:Addr}{xs:List V}{ds:List D}{l:List Int}(h:H a=some (.lst xs))(r:RepL K w F B H xs ds)(e:D.ints ds=some l):SqL K H a (l.map V.int):=by
 rw [r.ints e] at h
 exact .of h
theorem SqL.bools {a:Addr}{xs:List V}{ds:List D}{l:List Bool}(h:H a=some (.lst xs))(r:RepL K w F B H xs ds)(e:D.bools ds=some l):SqL K H a (l.map V.bl):=by
 rw [r.bools e] at h
 exact .of h
theorem foldl_max_ge:∀ (l:List Int) (a:Int),a≤l.foldl max a∧(∀ y∈l,y≤l.foldl max a)∧(l.foldl max a=a∨l.foldl max a∈l)
 | [],a=>⟨Int.le_refl _,by simp,.inl rfl⟩
 | b::r,a=>by
  obtain ⟨h1,h2,h3⟩:=foldl_max_ge r (max a b)
  simp only [List.foldl_cons,List.mem_cons]
  refine ⟨by omega,?_,?_⟩
  ·rintro y (rfl|hy)
   ·omega
   ·exact h2 y hy
  ·rcases h3 with h3|h3
   ·rw [h3]
    by_cases h:a≤b
    ·exact .inr (.inl (by omega))
    ·exact .inl (by omega)
   ·exact .inr (.inr h3)
theorem foldl_min_le:∀ (l:List Int) (a:Int),l.foldl min a≤a∧(∀ y∈l,l.foldl min a≤y)∧(l.foldl min a=a∨l.foldl min a∈l)
 | [],a=>⟨Int.le_refl _,by simp,.inl rfl⟩
 | b::r,a=>by
  obtain ⟨h1,h2,h3⟩:=foldl_min_le r (min a b)
  simp only [List.foldl_cons,List.mem_cons]
  refine ⟨by omega,?_,?_⟩
  ·rintro y (rfl|hy)
   ·omega
   ·exact h2 y hy
  ·rcases h3 with h3|h3
   ·rw [h3]
    by_cases h:a≤b
    ·exact .inl (by omega)
    ·exact .inr (.inl (by omega))
   ·exact .inr (.inr h3)
theorem max_one {l:List Int}{M m:Int}(e:maxI l=some M)(h1:m∈l)(h2:∀ y,y∈l→y≤m):m=M:=by
 cases l with
 | nil=>cases h1
 | cons a r =>
  simp only [maxI,Option.some.injEq] at e
  subst e
  obtain ⟨a1,a2,a3⟩:=foldl_max_ge r a
  have b1:m≤r.foldl max a:=by
   rcases List.mem_cons.mp h1 with rfl|h
   ·exact a1
   ·exact a2 m h
  have b2:r.foldl max a≤m:=by
   rcases a3 with z|z
   ·rw [z];exact h2 a List.mem_cons_self
   ·exact h2 _ (List.mem_cons_of_mem _ z)
  omega
theorem min_one {l:List Int}{M m:Int}(e:minI l=some M)(h1:m∈l)(h2:∀ y,y∈l→m≤y):m=M:=by
 cases l with
 | nil=>cases h1
 | cons a r =>
  simp only [minI,Option.some.injEq] at e
  subst e
  obtain ⟨a1,a2,a3⟩:=foldl_min_le r a
  have b1:r.foldl min a≤m:=by
   rcases List.mem_cons.mp h1 with rfl|h
   ·exact a1
   ·exact a2 m h
  have b2:m≤r.foldl min a:=by
   rcases a3 with z|z
   ·rw [z];exact h2 a List.mem_cons_self
   ·exact h2 _ (List.mem_cons_of_mem _ z)
  omega
theorem ne_len {l:List Int}{M:Int}(e:maxI l=some M∨minI l=some M):0<l.length:=by
 cases l with
 | nil=>simp [maxI,minI] at e
 | cons a r=>simp
theorem insI_perm (a:Int):∀ l:List Int,(insI a l).Perm (a::l)
 | []=>List.Perm.refl _
 | b::r=>by
  unfold insI
  split
  ·exact List.Perm.refl _
  ·exact (List.Perm.cons b (insI_perm a r)).trans (List.Perm.swap a b r)
theorem sortI_perm:∀ l:List Int,(sortI l).Perm l
 | []=>List.Perm.refl _
 | a::r=>(insI_perm a _).trans (List.Perm.cons a (sortI_perm r))
theorem insI_pw (a:Int):∀ l:List Int,l.Pairwise (·≤·)→(insI a l).Pairwise (·≤·)
 | [],_=>by simp [insI]
 | b::r,h=>by
  unfold insI
  rw [List.pairwise_cons] at h
  split
  ·rename_i hab
   rw [List.pairwise_cons]
   refine ⟨fun y hy=>?_,List.pairwise_cons.mpr h⟩
   rcases List.mem_cons.mp hy with rfl|hy
   ·exact hab
   ·exact Int.le_trans hab (h.1 y hy)
  ·rename_i hab
   rw [List.pairwise_cons]
   refine ⟨fun y hy=>?_,insI_pw a r h.2⟩
   rcases List.mem_cons.mp ((insI_perm a r).mem_iff.mp hy) with rfl|hy
   ·omega
   ·exact h.1 y hy
theorem sortI_pw:∀ l:List Int,(sortI l).Pairwise (·≤·)
 | []=>List.Pairwise.nil
 | a::r=>insI_pw a _ (sortI_pw r)
end
section
variable {X:Cx}
theorem ints_reads {h:Heap}:∀ {ns:List Int} {us:List Value},Vals (ns.map V.int) us→∃ as,ReadsAll h us (ns.map PyData.int) as
 | [],_,.nil=>⟨_,.nil⟩
 | n::r,_,.cons rv t=>by
  obtain ⟨as,h2⟩:=ints_reads t
  obtain ⟨tk,rfl⟩:=rv
  exact ⟨_,.cons (.int n tk) h2⟩
theorem ints_alike (ns:List Int):PySem.W.AlikeAll (ns.map PyData.int):=by
 constructor
 ·intro x hx y hy
  obtain ⟨i,_,rfl⟩:=List.mem_map.mp hx
  obtain ⟨j,_,rfl⟩:=List.mem_map.mp hy
  rfl
 ·intro x hx
  obtain ⟨i,_,rfl⟩:=List.mem_map.mp hx
  exact fun z=>nomatch z
theorem ints_depth:∀ ns:List Int,PyData.depthAll (ns.map PyData.int)=0
 | []=>rfl
 | _::r=>by simp [PyData.depthAll,PyData.depth,ints_depth r]
theorem max_tup (hc:X.calm=true)(hu:X.A.units+64<cLine){pins:List (Addr × Obj)}{σ:L2.St}{H:Hp}{s:Shared}{a:Addr}{n:Int}{ns:List Int}{Q:VK}(I:Inv X pins σ H s)(hq:SqT X.K H a ((n::ns).map V.int))
  (q : Q (.int (ns.foldl max n)) H) : wpAny (model X.prog X.w) X.A (call (.builtin "max") [.ref a]) (EP X pins σ Q) X.xe s := by
 obtain ⟨its,rv,ht,_⟩:=I.tuple hq
 obtain ⟨as,hr⟩:=ints_reads (h:=s.heap) rv
 refine PySem.W.max_tuple_data (x:=.int n) (xs:=ns.map .int) (I.ok.hd hc) (show s.heap.IsTuple a its.toArray from ht) (by simpa using hr) (ints_alike (n::ns)) ?_ fun i v h' tk bs _ hv hk=>?_
 ·have:=ints_depth (n::ns)
  simp only [List.map_cons] at this
  rw [this];omega
 ·rw [PySem.W.maxD_ints] at hv
  cases hv with
  | int i t=>exact ⟨.int _,H,I.kept hk,⟨_,rfl⟩,q⟩
theorem min_tup (hc:X.calm=true)(hu:X.A.units+64<cLine){pins:List (Addr × Obj)}{σ:L2.St}{H:Hp}{s:Shared}{a:Addr}{n:Int}{ns:List Int}{Q:VK}(I:Inv X pins σ H s)(hq:SqT X.K H a ((n::ns).map V.int))
  (q : Q (.int (ns.foldl min n)) H) : wpAny (model X.prog X.w) X.A (call (.builtin "min") [.ref a]) (EP X pins σ Q) X.xe s := by
 obtain ⟨its,rv,ht,_⟩:=I.tuple hq
 obtain ⟨as,hr⟩:=ints_reads (h:=s.heap) rv
 refine PySem.W.min_tuple_data (x:=.int n) (xs:=ns.map .int) (I.ok.hd hc) (show s.heap.IsTuple a its.toArray from ht) (by simpa using hr) (ints_alike (n::ns)) ?_ fun i v h' tk bs _ hv hk=>?_
 ·have:=ints_depth (n::ns)
  simp only [List.map_cons] at this
  rw [this];omega
 ·rw [PySem.W.minD_ints] at hv
  cases hv with
  | int i t=>exact ⟨.int _,H,I.kept hk,⟨_,rfl⟩,q⟩
end
end PL
end
section
namespace PL
open PySem PySem.Spec PyProof.Rows L2
mutual
theorem like_plain:∀ x y:D,D.like x y=true→x.plain=true
 | .int _,.int _,_=>rfl
 | .tup xs,.tup ys,h=>likes_plain xs ys h
 | .lst xs,.lst ys,h=>likes_plain xs ys h
theorem likes_plain:∀ xs ys:List D,D.likes xs ys=true→D.plains xs=true
 | [],[],_=>rfl
 | x::r,y::s,h=>by
  simp only [D.likes,Bool.and_eq_true] at h
  simp only [D.plains,Bool.and_eq_true]
  exact ⟨like_plain x y h.1,likes_plain r s h.2⟩
end
mutual
theorem like_symm:∀ x y:D,D.like x y=true→D.like y x=true
 | .int _,.int _,_=>rfl
 | .tup xs,.tup ys,h=>likes_symm xs ys h
 | .lst xs,.lst ys,h=>likes_symm xs ys h
theorem likes_symm:∀ xs ys:List D,D.likes xs ys=true→D.likes ys xs=true
 | [],[],_=>rfl
 | x::r,y::s,h=>by
  simp only [D.likes,Bool.and_eq_true] at h ⊢
  exact ⟨like_symm x y h.1,likes_symm r s h.2⟩
end
mutual
theorem alike_py:∀ x y:D,D.like x y=true→PySem.W.alike (toPy x) (toPy y)=true
 | .int _,.int _,_=>rfl
 | .tup xs,.tup ys,h=>alikes_py xs ys h
 | .lst xs,.lst ys,h=>alikes_py xs ys h
theorem alikes_py:∀ xs ys:List D,D.likes xs ys=true→PySem.W.alikeAll (toPys xs) (toPys ys)=true
 | [],[],_=>rfl
 | x::r,y::s,h=>by
  simp only [D.likes,Bool.and_eq_true] at h
  show PySem.W.alikeAll (toPy x::toPys r) (toPy y::toPys s)=true
  rw [PySem.W.alikeAll,alike_py x y h.1,alikes_py r s h.2]
  rfl
end
mutual
theorem lt_py:∀ x y:D,D.like x y=true→PySem.W.dataLt (toPy x) (toPy y)=D.ltN x y
 | .int a,.int b,_=>PySem.W.dataLt_int a b
 | .tup xs,.tup ys,h=>by
  show PySem.W.dataLt (.tuple (toPys xs)) (.tuple (toPys ys))=D.ltNs xs ys
  rw [PySem.W.dataLt_tuple]
  exact lts_py xs ys h
 | .lst xs,.lst ys,h=>lts_py xs ys h
theorem lts_py:∀ xs ys:List D,D.likes xs ys=true→PyProof.Rows.lexLt itemOrd (PySem.W.keyToksAll (toPys xs)) (PySem.W.keyToksAll (toPys ys))=D.ltNs xs ys
 | [],[],_=>by
  show PyProof.Rows.lexLt itemOrd (PySem.W.keyToksAll []) (PySem.W.keyToksAll [])=D.ltNs [] []
  rw [PyProof.Rows.lex_irrefl]
  rfl
 | x::r,y::s,h=>by
  simp only [D.likes,Bool.and_eq_true] at h
  show PyProof.Rows.lexLt itemOrd (PySem.W.keyToksAll (toPy x::toPys r)) (PySem.W.keyToksAll (toPy y::toPys s))=D.ltNs (x::r) (y::s)
  rw [PySem.W.dataLt_cons (alike_py x y h.1),eqv_py x y (like_plain x y h.1) (like_plain y x (like_symm x y h.1)),D.ltNs,lts_py r s h.2,lt_py x y h.1]
end
mutual
theorem toPy_inj:∀ x y:D,D.like x y=true→toPy x=toPy y→x=y
 | .int a,.int b,_,e=>by
  have e:=PyData.int.inj (show PyData.int a=PyData.int b from e)
  rw [e]
 | .tup xs,.tup ys,h,e=>by rw [toPys_inj xs ys h (PyData.tuple.inj (show PyData.tuple (toPys xs)=PyData.tuple (toPys ys) from e))]
 | .lst xs,.lst ys,h,e=>by rw [toPys_inj xs ys h (PyData.list.inj (show PyData.list (toPys xs)=PyData.list (toPys ys) from e))]
theorem toPys_inj:∀ xs ys:List D,D.likes xs ys=true→toPys xs=toPys ys→xs=ys
 | [],[],_,_=>rfl
 | x::r,y::s,h,e=>by
  simp only [D.likes,Bool.and_eq_true] at h
  have e:=List.cons.inj (show toPy x::toPys r=toPy y::toPys s from e)
  rw [toPy_inj x y h.1 e.1,toPys_inj r s h.2 e.2]
end
theorem minDt_mem:∀ (r:List D) (b:D),minDt b r=b∨minDt b r∈r
 | [],_=>.inl rfl
 | x::r,b=>by
  rw [minDt]
  rcases minDt_mem r (if D.ltN x b then x else b) with h|h
  ·split at h
   ·exact .inr (by rw [if_pos (by assumption),h];simp)
   ·exact .inl (by rw [if_neg (by assumption),h])
  ·exact .inr (by simp [h])
theorem minD_py (all:D→Prop)(hl:∀ x y,all x→all y→D.like x y=true):∀ (r:List D) (b:D),all b→(∀ x∈r,all x)→PySem.W.minD (toPy b) (r.map toPy)=toPy (minDt b r)
 | [],_,_,_=>rfl
 | x::r,b,hb,hr=>by
  have hx:=hr x (by simp)
  show (r.map toPy).foldl (fun a y=>if PySem.W.dataLt y a then y else a) (if PySem.W.dataLt (toPy x) (toPy b) then toPy x else toPy b)=_
  rw [lt_py x b (hl x b hx hb),minDt]
  split
  ·exact minD_py all hl r x hx fun y hy=>hr y (by simp [hy])
  ·exact minD_py all hl r b hb fun y hy=>hr y (by simp [hy])
section
variable {K:PySem.W.Frag}{w:World}{F:Foot}{B:Addr→Prop}{H:Hp}
def Std (K:PySem.W.Frag)(w:World)(F:Foot)(B:Addr→Prop)(H:Hp)(u:Value)(d:D):Prop:=∃ y,RelV y u∧Rep K w F B H y d
theorem each_std:∀ {ys:List V} {its:List Value} {ds:List D},Vals ys its→RepL K w F B H ys ds→PySem.W.EachIs (Std K w F B H) its ds
 | _,_,_,.nil,.nil=>.nil
 | _,_,_,.cons a as,.cons r rs=>.cons ⟨_,a,r⟩ (each_std as rs)
theorem std_each:∀ {its:List Value} {ds:List D},PySem.W.EachIs (Std K w F B H) its ds→∃ ys,Vals ys its∧RepL K w F B H ys ds
 | _,_,.nil=>⟨[],.nil,.nil⟩
 | _,_,.cons ⟨y,a,r⟩ t=>by
  obtain ⟨ys,b,c⟩:=std_each t
  exact ⟨y::ys,.cons a b,.cons r c⟩
end
section
variable {X:Cx}
theorem each_reads {pins:List (Addr × Obj)}{σ:L2.St}{H:Hp}{s:Shared}{F:Foot}{B:Addr→Prop}(I:Inv X pins σ H s):∀ {its:List Value} {ds:List D},PySem.W.EachIs (Std X.K X.w F B H) its ds→(∀ d∈ds,d.plain=true)→PySem.W.EachIs (fun v d=>∃ as,Reads s.heap v (toPy d) as) its ds
 | _,_,.nil,_=>.nil
 | _,_,.cons ⟨y,a,r⟩ t,h=>.cons (Dp.reads I _ _ _ (r.dp (h _ (by simp))) a) (each_reads I t fun d hd=>h d (by simp [hd]))
theorem call_sortedD (hu:X.A.units+200<cLine){pins:List (Addr × Obj)}{σ:L2.St}{H:Hp}{s:Shared}{us:List Value}{F:Foot}{B:Addr→Prop}{st:St}{a:Addr}{ys:List V}{ds:List D}{Q:VK}(I:Inv X pins σ H s)(r:Vals [V.ref a] us)(h1:H a=some (.lst ys))(l1:RepL X.K X.w F B H ys ds)(hz:D.sorts ds=true)(sr:SR st F H)(ob:∀ b,B b→H b≠none)(q:K1 X.K X.w F B H st (.lst (ds.mergeSort fun a b=>!D.ltN b a)) Q) :
  wpAny (model X.prog X.w) X.A (call (biF .sorted) us) (EP X pins σ Q) X.xe s:=by
 have all:∀ d∈ds,d.isTup1=true∧d.depth≤60∧∀ e∈ds,D.like d e=true:=by
  intro d hd
  have:=List.all_eq_true.1 hz d hd
  simp only [Bool.and_eq_true,decide_eq_true_eq] at this
  exact ⟨this.1,this.2.1,fun e he=>List.all_eq_true.1 this.2.2 e he⟩
 have plain:∀ d∈ds,d.plain=true:=fun d hd=>like_plain d d ((all d hd).2.2 d hd)
 obtain ⟨its,rv,hl,hn⟩:=I.list (.of h1)
 obtain ⟨u,rfl,ru⟩:=vals1 r
 obtain rfl:u=Value.ref a:=ru
 have e:=each_std rv l1
 have er:=each_reads I e plain
 have hlen:=l1.length
 have hsort:ds.mergeSort (PySem.W.dataLe false toPy)=ds.mergeSort fun a b=>!D.ltN b a:=PySem.W.sort_congr fun x hx y hy=>by
  rw [PySem.W.dataLe_eq]
  show (!PySem.W.dataLt (toPy y) (toPy x))=!D.ltN y x
  rw [lt_py y x ((all y hy).2.2 x hx)]
 refine PySem.W.sorted_data (enc:=toPy) hl.isList e er ?_ ?_ (by omega) ?_ fun out ho eo=>?_
 ·intro d hd d' hd'
  obtain ⟨x,hx,rfl⟩:=List.mem_map.1 hd
  obtain ⟨y,hy,rfl⟩:=List.mem_map.1 hd'
  exact alike_py x y ((all x hx).2.2 y hy)
 ·refine .inl fun d hd=>?_
  obtain ⟨x,hx,rfl⟩:=List.mem_map.1 hd
  have:=(all x hx).1
  cases x with
  | tup xs =>
   cases xs with
   | nil=>cases this
   | cons z zs=>exact ⟨toPy z,toPys zs,rfl⟩
  | _=>cases this
 ·intro d hd
  rw [depth_py d (plain d hd)]
  have:=(all d hd).2.1
  omega
 ·rw [hsort] at eo
  obtain ⟨ys',v',r'⟩:=std_each eo
  obtain ⟨n,hn'⟩:=PyProof.Rows.sortedAll_at s.heap its (List.toArray out)
  have hd:s.heap.objs.size≤s.heap.objs.size+1:=Nat.le_succ _
  have kp:∀ (b:Addr) (o:Obj),s.heap.get? b=some o→(PyProof.Rows.sortedAll s.heap its (List.toArray out)).get? b=some o:=fun b o e=>PyProof.Rows.sortedAll_old e
  have hz:ys'.length≤sizeLine:=by
   have:=v'.length
   omega
  have new:ObjOk X.prog X.w (upd H (s.heap.objs.size+1) (.lst ys')) (PyProof.Rows.sortedAll s.heap its (List.toArray out)) (s.heap.objs.size+1) (.lst ys'):=⟨hz,out,n,v',hn'⟩
  have inv:=I.laid (t':=s.toks) kp hd new
  exact ⟨.ref (s.heap.objs.size+1),upd H (s.heap.objs.size+1) (.lst ys'),inv,rfl,q.newL sr ob r' _ (I.hok.fresh hd)⟩
theorem each_at {P:Value→D→Prop}:∀ {its:List Value} {ds:List D},PySem.W.EachIs P its ds→∀ (i:Nat) (v:Value),its[i]?=some v→∃ d,ds[i]?=some d∧P v d
 | _,_,.nil,_,_,h=>by simp at h
 | _,_,.cons p t,0,v,h=>by
  simp only [List.getElem?_cons_zero,Option.some.injEq] at h
  subst h
  exact ⟨_,rfl,p⟩
 | _,_,.cons p t,i+1,v,h=>each_at t i v (by simpa using h)
theorem depthAll_le {m:Nat}:∀ ds:List D,(∀ d∈ds,(toPy d).depth≤m)→PyData.depthAll (ds.map toPy)≤m
 | [],_=>Nat.zero_le _
 | d::r,h=>by
  show max (toPy d).depth (PyData.depthAll (r.map toPy))≤m
  have:=h d (by simp)
  have:=depthAll_le r fun e he=>h e (by simp [he])
  omega
theorem call_minD (hc:X.A.handled=none)(hu:X.A.units+200<cLine){pins:List (Addr × Obj)}{σ:L2.St}{H:Hp}{s:Shared}{us:List Value}{F:Foot}{B:Addr→Prop}{st:St}{a:Addr}{ys:List V}{x:D}{ds:List D}{Q:VK}(I:Inv X pins σ H s)(r:Vals [V.ref a] us)(h1:H a=some (.lst ys))(l1:RepL X.K X.w F B H ys (x::ds))(hz:D.mins (x::ds)=true)(sr:SR st F H)(q:K1 X.K X.w F B H st (minDt x ds) Q) :
  wpAny (model X.prog X.w) X.A (call (biF .minL) us) (EP X pins σ Q) X.xe s:=by
 have all:∀ d∈x::ds,d.depth≤60∧∀ e∈x::ds,D.like d e=true:=by
  intro d hd
  have:=List.all_eq_true.1 hz d hd
  simp only [Bool.and_eq_true,decide_eq_true_eq] at this
  exact ⟨this.1,fun e he=>List.all_eq_true.1 this.2 e he⟩
 have plain:∀ d∈x::ds,d.plain=true:=fun d hd=>like_plain d d ((all d hd).2 d hd)
 obtain ⟨its,rv,hl,hn⟩:=I.list (.of h1)
 obtain ⟨u,rfl,ru⟩:=vals1 r
 obtain rfl:u=Value.ref a:=ru
 have e:=each_std rv l1
 have er:=each_reads I e plain
 obtain ⟨as,ra⟩:=PySem.W.each_readsAll toPy er
 have dp:PyData.depthAll (toPy x::ds.map toPy)≤60:=depthAll_le (x::ds) fun d hd=>by rw [depth_py d (plain d hd)];exact (all d hd).1
 refine PySem.W.min_list_data (x:=toPy x) (xs:=ds.map toPy) hc hl.isList ra ⟨fun d hd e he=>?_,fun d hd=>?_⟩ (by omega) fun i v h' tk bs hv hr' hk=>?_
 ·rw [← List.map_cons (f:=toPy)] at hd he
  obtain ⟨d,hd',rfl⟩:=List.mem_map.1 hd
  obtain ⟨e,he',rfl⟩:=List.mem_map.1 he
  exact alike_py d e ((all d hd').2 e he')
 ·rw [← List.map_cons (f:=toPy)] at hd
  obtain ⟨d,hd',rfl⟩:=List.mem_map.1 hd
  have:=(all d hd').2 d hd'
  cases d<;>first|(intro z;cases z;done)|exact (Bool.false_ne_true this).elim
 ·obtain ⟨d,hd,y,ry,rp⟩:=each_at e i v (by simpa using hv)
  have dm:d∈x::ds:=List.mem_of_getElem? hd
  obtain ⟨d',hd',as',rd⟩:=each_at er i v (by simpa using hv)
  obtain rfl:d=d':=Option.some.inj (hd.symm.trans hd')
  have mm:minDt x ds∈x::ds:=by
   rcases minDt_mem ds x with z|z
   ·rw [z];simp
   ·simp [z]
  rw [minD_py (fun d=>d∈x::ds) (fun d e hd he=>(all d hd).2 e he) ds x (by simp) fun d hd=>by simp [hd]] at hr'
  have same:d=minDt x ds:=by
   refine toPy_inj _ _ ((all d dm).2 _ mm) ?_
   exact PySem.W.alike_unique _ _ v _ _ (alike_py _ _ ((all d dm).2 _ mm)) (PySem.W.reads_keeps hk rd) hr'
  have rp:Rep X.K X.w F B H y (minDt x ds):=same ▸ rp
  exact ⟨y,H,I.kept hk,ry,q.same sr rp⟩
end
end PL
end
section
namespace PL
open PySem PySem.Spec PyProof.Rows L2
section
variable {K:PySem.W.Frag}{w:World}{F:Foot}{B:Addr→Prop}{H:Hp}{st:St}{d:D}{Q:VK}{v u:V}{vs:List V}
theorem tru_of {t:Bool}(r:Rep K w F B H v d)(e:d.truth=some t):TruV K v H t:=by
 cases r with
 | non=>simp only [D.truth,Option.some.injEq] at e;exact e.symm
 | bl b=>simp only [D.truth,Option.some.injEq] at e;exact e.symm
 | int i=>simp only [D.truth,Option.some.injEq] at e;exact e.symm
 | str x s es =>
  subst es
  simp only [D.truth] at e
  split at e
  ·rename_i hz
   cases e
   refine ⟨by rw [strLen,← lineEq];exact hz,?_⟩
   rw [strLen]
   cases x.cps.toList with
   | nil=>rfl
   | cons a r=>simp;omega
  ·cases e
 | tup h f b r =>
  simp only [D.truth,Option.some.injEq] at e
  refine .inr (.inl ⟨_,.of h,?_⟩)
  rw [← e]
  cases r<;>rfl
 | lst h f b r =>
  simp only [D.truth,Option.some.injEq] at e
  refine .inl ⟨_,.of h,?_⟩
  rw [← e]
  cases r<;>rfl
 | tupW l c dd z vv r =>
  simp only [D.truth,Option.some.injEq] at e
  refine .inr (.inl ⟨_,.inr ⟨_,_,_,l,c,dd,z,vv⟩,?_⟩)
  rw [← e]
  cases r<;>rfl
 | dct=>simp [D.truth] at e
 | dctW=>simp [D.truth] at e
 | ob0=>simp [D.truth] at e
 | ob1=>simp [D.truth] at e
 | ob1W=>simp [D.truth] at e
 | err=>simp [D.truth] at e
end
section
variable {X:Cx}
theorem bi_R (hc:X.calm=true)(hu:X.A.units+200<cLine)(hg:X.A.guards=some []):∀ b:Bi,CallR X (biF b) (rBi X.K X.w b)
 | .len=>by
  intro pins s σ H xs us Q I r h
  obtain ⟨F,B,st,ds,d,ob,sr,rl,e,q⟩:=h
  change lenD _=_ at e
  unfold lenD at e
  split at e<;>try (cases e;done)
  ·cases e
   obtain ⟨v,rfl,rv⟩:=rl.one
   obtain ⟨a,ys,rfl,h1,l1⟩:=rv.isL
   exact call_len_seq pins s σ H _ us Q I r ⟨a,ys,rfl,.inl (.of h1),by rw [l1.length];exact q.same sr (.int _)⟩
  ·cases e
   obtain ⟨v,rfl,rv⟩:=rl.one
   obtain ⟨a,ys,rfl,h1,l1⟩:=rv.isT
   exact call_len_seq pins s σ H _ us Q I r ⟨a,ys,rfl,.inr h1,by rw [l1.length];exact q.same sr (.int _)⟩
  ·split at e
   ·rename_i hz
    cases e
    obtain ⟨v,rfl,rv⟩:=rl.one
    cases rv with
    | str x _ ex =>
     subst ex
     exact call_len pins s σ H _ us Q I r ⟨.str x,x.length,rfl,⟨by rw [strLen,← lineEq];exact hz,rfl⟩,by rw [strLen];exact q.same sr (.int _)⟩
   ·cases e
 | .abs=>by
  intro pins s σ H xs us Q I r h
  obtain ⟨F,B,st,ds,d,ob,sr,rl,e,q⟩:=h
  change absD _=_ at e
  unfold absD at e
  split at e<;>try (cases e;done)
  cases e
  obtain ⟨v,rfl,rv⟩:=rl.one
  cases rv
  exact call_abs pins s σ H _ us Q I r ⟨_,rfl,q.same sr (.int _)⟩
 | .max2=>by
  intro pins s σ H xs us Q I r h
  obtain ⟨F,B,st,ds,d,ob,sr,rl,e,q⟩:=h
  change max2D _=_ at e
  unfold max2D at e
  split at e<;>try (cases e;done)
  cases e
  obtain ⟨v,v2,rfl,rv,rv2⟩:=rl.two
  cases rv
  cases rv2
  exact call_max2 hc pins s σ H _ us Q I r ⟨_,_,rfl,q.same sr (.int _)⟩
 | .min2=>by
  intro pins s σ H xs us Q I r h
  obtain ⟨F,B,st,ds,d,ob,sr,rl,e,q⟩:=h
  change min2D _=_ at e
  unfold min2D at e
  split at e<;>try (cases e;done)
  cases e
  obtain ⟨v,v2,rfl,rv,rv2⟩:=rl.two
  cases rv
  cases rv2
  exact call_min2 hc pins s σ H _ us Q I r ⟨_,_,rfl,q.same sr (.int _)⟩
 | .maxL=>by
  intro pins s σ H xs us Q I r h
  obtain ⟨F,B,st,ds,d,ob,sr,rl,e,q⟩:=h
  change maxLD _=_ at e
  unfold maxLD at e
  split at e<;>try (cases e;done)
  ·obtain ⟨l,e1,e2⟩:=Option.bind_eq_some_iff.mp e
   obtain ⟨M,e3,rfl⟩:=Option.map_eq_some_iff.mp e2
   obtain ⟨v,rfl,rv⟩:=rl.one
   obtain ⟨a,ys,rfl,h1,l1⟩:=rv.isL
   refine cr_max hc pins s σ H _ us Q I r ⟨a,l,rfl,SqL.ints h1 l1 e1,ne_len (.inl e3),fun m m1 m2=>?_⟩
   rw [max_one e3 m1 m2]
   exact q.same sr (.int _)
  ·obtain ⟨l,e1,e2⟩:=Option.bind_eq_some_iff.mp e
   obtain ⟨M,e3,rfl⟩:=Option.map_eq_some_iff.mp e2
   obtain ⟨v,rfl,rv⟩:=rl.one
   obtain ⟨a,ys,rfl,h1,l1⟩:=rv.isT
   rw [l1.ints e1] at h1
   obtain ⟨u,rfl,ru⟩:=vals1 r
   obtain rfl:u=Value.ref a:=ru
   cases l with
   | nil=>cases e3
   | cons n ns =>
    refine max_tup hc (by omega) I h1 ?_
    simp only [maxI,Option.some.injEq] at e3
    rw [e3]
    exact q.same sr (.int _)
 | .minL=>by
  intro pins s σ H xs us Q I r h
  obtain ⟨F,B,st,ds,d,ob,sr,rl,e,q⟩:=h
  change minLD _=_ at e
  unfold minLD at e
  split at e<;>try (cases e;done)
  ·obtain ⟨v,rfl,rv⟩:=rl.one
   obtain ⟨a,ys,rfl,h1,l1⟩:=rv.isL
   split at e
   ·rename_i l e1
    obtain ⟨M,e3,rfl⟩:=Option.map_eq_some_iff.mp e
    refine cr_min hc pins s σ H _ us Q I r ⟨a,l,rfl,SqL.ints h1 l1 e1,ne_len (.inr e3),fun m m1 m2=>?_⟩
    rw [min_one e3 m1 m2]
    exact q.same sr (.int _)
   ·rename_i xs _ _
    cases xs with
    | nil=>cases e
    | cons x ds =>
     by_cases hz:D.mins (x::ds)=true
     ·rw [minT,if_pos hz] at e
      obtain rfl:=Option.some.inj e
      exact call_minD (I.ok.hd hc) hu I r h1 l1 hz sr q
     ·rw [minT,if_neg hz] at e
      cases e
  ·obtain ⟨l,e1,e2⟩:=Option.bind_eq_some_iff.mp e
   obtain ⟨M,e3,rfl⟩:=Option.map_eq_some_iff.mp e2
   obtain ⟨v,rfl,rv⟩:=rl.one
   obtain ⟨a,ys,rfl,h1,l1⟩:=rv.isT
   rw [l1.ints e1] at h1
   obtain ⟨u,rfl,ru⟩:=vals1 r
   obtain rfl:u=Value.ref a:=ru
   cases l with
   | nil=>cases e3
   | cons n ns =>
    refine min_tup hc (by omega) I h1 ?_
    simp only [minI,Option.some.injEq] at e3
    rw [e3]
    exact q.same sr (.int _)
 | .sum=>by
  intro pins s σ H xs us Q I r h
  obtain ⟨F,B,st,ds,d,ob,sr,rl,e,q⟩:=h
  change sumD _=_ at e
  unfold sumD at e
  split at e<;>try (cases e;done)
  obtain ⟨l,e1,rfl⟩:=Option.map_eq_some_iff.mp e
  obtain ⟨v,rfl,rv⟩:=rl.one
  obtain ⟨a,ys,rfl,h1,l1⟩:=rv.isL
  exact cr_sum hc pins s σ H _ us Q I r ⟨a,l,rfl,SqL.ints h1 l1 e1,q.same sr (.int _)⟩
 | .int=>by
  intro pins s σ H xs us Q I r h
  obtain ⟨F,B,st,ds,d,ob,sr,rl,e,q⟩:=h
  change intD _=_ at e
  unfold intD at e
  split at e<;>try (cases e;done)
  ·cases e
   obtain ⟨v,rfl,rv⟩:=rl.one
   cases rv
   exact call_int1 pins s σ H _ us Q I r (.inl ⟨_,rfl,q.same sr (.int _)⟩)
  ·cases e
   obtain ⟨v,rfl,rv⟩:=rl.one
   cases rv
   exact call_int1 pins s σ H _ us Q I r (.inr ⟨_,rfl,q.same sr (.int _)⟩)
 | .bool=>by
  intro pins s σ H xs us Q I r h
  obtain ⟨F,B,st,ds,d,ob,sr,rl,e,q⟩:=h
  change boolD _=_ at e
  unfold boolD at e
  split at e<;>try (cases e;done)
  ·cases e
   obtain ⟨v,rfl,rv⟩:=rl.one
   cases rv
   exact call_bool1 pins s σ H _ us Q I r (.inl ⟨_,rfl,q.same sr (.bl _)⟩)
  ·cases e
   obtain ⟨v,rfl,rv⟩:=rl.one
   cases rv
   exact call_bool1 pins s σ H _ us Q I r (.inr ⟨_,rfl,q.same sr (.bl _)⟩)
 | .repr=>by
  intro pins s σ H xs us Q I r h
  obtain ⟨F,B,st,ds,d,ob,sr,rl,e,q⟩:=h
  change reprD _ _=_ at e
  unfold reprD at e
  split at e<;>try (cases e;done)
  rename_i d0
  split at e
  ·rename_i hz
   cases e
   obtain ⟨v,rfl,rv⟩:=rl.one
   unfold D.reprOk at hz
   simp only [Bool.and_eq_true,decide_eq_true_eq] at hz
   obtain ⟨⟨h1,h2⟩,h3⟩:=hz
   obtain ⟨s1,s2,s3⟩:=show_py d0 h1
   have hl:(toPy d0).shown.length≤sizeLine:=by
    have:=shown_len d0 h1
    rw [← lineEq];omega
   obtain ⟨u,rfl,ru⟩:=vals1 r
   have fin:∀ h' u' tk,(∀ b o,s.heap.get? b=some o→h'.get? b=some o)→EP X pins σ Q (.str (toPy d0).shown u') { s with heap:=h',toks:=tk }:=fun h' u' tk hk =>
    ⟨.str _,H,I.kept hk,⟨_,rfl⟩,q.same sr (.str _ _ rfl)⟩
   obtain ⟨as,rd⟩:=Dp.reads I _ _ u (rv.dp s3) ru
   have big:∀ a,u=.ref a→wpAny (model X.prog X.w) X.A (call (biF .repr) [u]) (EP X pins σ Q) X.xe s:=by
    intro a ea
    subst ea
    refine repr_of_reads' rd s1 (fun z=>by rw [s2] at z;cases z) hg ?_ (fun _ _ z=>z) (fun h' u' tk hk=>fin h' u' tk hk) hl
    rw [depth_py d0 s3];omega
   cases rv with
   | non=>obtain rfl:u=Value.none:=ru;exact PySem.P.repr_of_none (fin s.heap _ _ fun _ _ z=>z)
   | bl b=>obtain rfl:u=Value.bool b:=ru;exact PySem.P.repr_of_bool (fin s.heap _ _ fun _ _ z=>z)
   | int i =>
    obtain ⟨t,rfl⟩:=ru
    have s1':i.natAbs.log2<1920:=by simpa [toPy,PyData.showable] using s1
    exact PySem.P.repr_of_int s1' (fin s.heap _ _ fun _ _ z=>z)
   | str x s0 ex =>
    subst ex
    obtain ⟨t,rfl⟩:=ru
    have ee:(toPy (.str x.cps.toList)).shown=reprText x:=by
     show reprText ⟨x.cps.toList.toArray⟩=_
     rw [str_of]
    rw [ee] at fin hl
    exact PySem.P.repr_of_str (fin s.heap _ _ fun _ _ z=>z) hl
   | tup h f b r=>exact big _ ru
   | lst h f b r=>exact big _ ru
   | tupW l c dd z vv r=>exact big _ ru
   | dct=>simp [D.plain] at s3
   | dctW=>simp [D.plain] at s3
   | ob0=>simp [D.plain] at s3
   | ob1=>simp [D.plain] at s3
   | ob1W=>simp [D.plain] at s3
   | err=>simp [D.plain] at s3
  ·cases e
 | .sorted=>by
  intro pins s σ H xs us Q I r h
  obtain ⟨F,B,st,ds,d,ob,sr,rl,e,q⟩:=h
  change sortedD _=_ at e
  unfold sortedD at e
  split at e<;>try (cases e;done)
  split at e
  ·rename_i l e1
   cases e
   obtain ⟨v,rfl,rv⟩:=rl.one
   obtain ⟨a,ys,rfl,h1,l1⟩:=rv.isL
   refine cr_sortedI pins s σ H _ us Q I r ⟨a,l,rfl,SqL.ints h1 l1 e1,fun ns p hp hs hn=>?_⟩
   have e:ns=sortI l:=PySem.W.ksm_same (hp.trans (sortI_perm l).symm) hs (sortI_pw l)
   subst e
   exact q.newL sr ob (RepL.of_ints _) p hn
  ·split at e
   ·rename_i hz
    cases e
    obtain ⟨v,rfl,rv⟩:=rl.one
    obtain ⟨a,ys,rfl,h1,l1⟩:=rv.isL
    exact call_sortedD hu I r h1 l1 hz sr ob q
   ·cases e
 | .any=>by
  intro pins s σ H xs us Q I r h
  obtain ⟨F,B,st,ds,d,ob,sr,rl,e,q⟩:=h
  change anyD _=_ at e
  unfold anyD at e
  split at e<;>try (cases e;done)
  obtain ⟨l,e1,rfl⟩:=Option.map_eq_some_iff.mp e
  obtain ⟨v,rfl,rv⟩:=rl.one
  obtain ⟨a,ys,rfl,h1,l1⟩:=rv.isL
  exact cr_any hc pins s σ H _ us Q I r ⟨a,l,rfl,SqL.bools h1 l1 e1,q.same sr (.bl _)⟩
 | .all=>by
  intro pins s σ H xs us Q I r h
  obtain ⟨F,B,st,ds,d,ob,sr,rl,e,q⟩:=h
  change allD _=_ at e
  unfold allD at e
  split at e<;>try (cases e;done)
  obtain ⟨l,e1,rfl⟩:=Option.map_eq_some_iff.mp e
  obtain ⟨v,rfl,rv⟩:=rl.one
  obtain ⟨a,ys,rfl,h1,l1⟩:=rv.isL
  exact cr_all hc pins s σ H _ us Q I r ⟨a,l,rfl,SqL.bools h1 l1 e1,q.same sr (.bl _)⟩
 | .divmod=>by
  intro pins s σ H xs us Q I r h
  obtain ⟨F,B,st,ds,d,ob,sr,rl,e,q⟩:=h
  change divmodD _=_ at e
  unfold divmodD at e
  split at e<;>try (cases e;done)
  split at e
  ·rename_i hz
   cases e
   obtain ⟨v,v2,rfl,rv,rv2⟩:=rl.two
   cases rv
   cases rv2
   exact call_divmod pins s σ H _ us Q I r ⟨_,_,rfl,hz,q.newT sr ob (.cons (.int _) (.cons (.int _) .nil))⟩
  ·cases e
end
end PL
end
section
namespace PL
open PySem PySem.Spec PyProof.Rows L2
section
variable {K:PySem.W.Frag}{w:World}{XR:XRel}{W:WX}{cx:Ctx}{F:Foot}{B:Addr→Prop}{σ:L2.St}{H:Hp}{env:Env}{st:St}
theorem RE.weak {r:R D}{Q:VK}{fr:Bool}(h:RE K w XR W F B σ H false r Q):RE K w XR W F B σ H fr r Q:=by
 cases r with
 | ok d st'=>exact fun v F' H' x s r _=>h v F' H' x s r (fun z=>by cases z)
 | exc c fs st'=>exact h
 | no=>exact h
theorem RE.k1 {F':Foot}{H':Hp}{st':St}{o:Option D}{d:D}{Q:VK}(h:RE K w XR W F B σ H false (R.lift o st') Q)(e:o=some d)(x:Ext F H F' H'):K1 K w F' B H' st' d Q:=by
 subst e
 exact fun v F2 H2 y s r=>h v F2 H2 (x.trans y) s r (fun z=>by cases z)
theorem tE.last (o:OkE K w F B σ H env st){e:E}{Q:VK}(h:RE K w XR W F B σ H false (evE cx e env st) Q):tE K w XR W cx e σ H Q:=⟨F,B,env,st,o,h.weak⟩
end
section
variable {X:Cx}{pr:Prog}{XR:XRel}{C:SC}{n:Nat}{W:WX}{cx:Ctx}
abbrev gE (X:Cx)(XR:XRel)(W:WX)(cx:Ctx)(e:E):TE:=tE X.K X.w XR W cx e
abbrev gEs (X:Cx)(XR:XRel)(W:WX)(cx:Ctx)(es:Es):TA:=tEs X.K X.w XR W cx es
abbrev gT (X:Cx)(XR:XRel)(W:WX)(cx:Ctx)(e:E):TT:=tT X.K X.w XR W cx e
variable {p q r:Expr}{a b c:E}{pos:Pos}
theorem x_loc {i:Nat}{x:Str}(hN:X.N[i]?=some x)(hv:Vis X.env.scope x)(hd:okName x=true):PE X (.Name x pos) (gE X XR W cx (.loc i)):=by
 unfold okName at hd
 simp only [Bool.and_eq_true,Bool.not_eq_true'] at hd
 refine PE.of (pe_var hN hv hd.1 hd.2.1) fun σ H Q h=>?_
 obtain ⟨F,B,env,st,o,h⟩:=h
 unfold evE at h
 obtain ⟨d,e⟩:=RE.some_of h
 obtain ⟨v,h1,h2⟩:=o.get e
 exact ⟨v,h1,RE.fin h e (Ext.refl F H) o.sr h2⟩
theorem x_glb (G:Good X pr XR C n){g:Nat}{x:Str}(hg:Gl X x)(hx:C.gname g=some x)(hd:okName x=true):PE X (.Name x pos) (gE X XR W (pr.cxe n) (.glb g)):=by
 unfold okName at hd
 simp only [Bool.and_eq_true,Bool.not_eq_true'] at hd
 refine ⟨fun pins s σ H Q I h=>?_⟩
 obtain ⟨F,B,env,st,o,h⟩:=h
 unfold evE at h
 obtain ⟨d,e⟩:=RE.some_of h
 obtain ⟨u,v,h1,h2,h3⟩:=G.gls g x d hx e
 exact (pe_glob hg h1 h2 hd.1).run pins s σ H Q I (RE.fin h e (Ext.refl F H) o.sr (h3 F B H))
theorem x_cst (d:D){v:V}(h:PE X p (tC v))(r:∀ F B H,Rep X.K X.w F B H v d):PE X p (gE X XR W cx (.cst d)):=by
 refine PE.of h fun σ H Q h=>?_
 obtain ⟨F,B,env,st,o,h⟩:=h
 unfold evE at h
 exact h v F H (Ext.refl F H) o.sr (r F B H) (fun z=>by cases z)
theorem x_bin (o:Bop)(ha:PE X p (gE X XR W cx a))(hb:PE X q (gE X XR W cx b)):PE X (.BinOp p (bopOf o) q pos) (gE X XR W cx (.bin o a b)):=by
 refine PE.of (pe_op (bin_R o) ha hb) fun σ H Q h=>?_
 obtain ⟨F,B,env,st,ok,h⟩:=h
 unfold evE at h
 refine tE.first ok h fun d1 st1 v1 F1 H1 x1 ok1 r1 h=>?_
 refine tE.first ok1 (h.shift x1) fun d2 st2 v2 F2 H2 x2 ok2 r2 h=>?_
 obtain ⟨d,e⟩:=RE.some_of h
 exact bin_ok e (r1.ext x2) r2 ok2.occ ok2.sr (RE.k1 h e x2)
theorem x_neg (ha:PE X p (gE X XR W cx a)):PE X (.UnaryOp .USub p pos) (gE X XR W cx (.neg a)):=by
 refine PE.of (pe_un un_neg ha) fun σ H Q h=>?_
 obtain ⟨F,B,env,st,ok,h⟩:=h
 unfold evE at h
 refine tE.first ok h fun d1 st1 v1 F1 H1 x1 ok1 r1 h=>?_
 cases d1 with
 | int i =>
  cases r1
  exact ⟨i,rfl,h _ F1 H1 x1 ok1.sr (.int _) (fun z=>by cases z)⟩
 | _=>exact h.elim
def rCop (K:PySem.W.Frag)(w:World):Cop→R2
 | .eq=>rEqA K
 | .ne=>rNeA K
 | .lt=>rI0 fun i j=>V.bl (decide (i<j))
 | .le=>rI0 fun i j=>V.bl (decide (i≤j))
 | .gt=>rI0 fun i j=>V.bl (decide (j<i))
 | .ge=>rI0 fun i j=>V.bl (decide (j≤i))
 | .inn=>rInA K w false
 | .nin=>rInA K w true
theorem cop_R (hu:X.A.units+65<cLine):∀ o:Cop,OpR X (compareOp (copOf o)) (rCop X.K X.w o)
 | .eq=>op_eq.or (op_eqD (by omega))
 | .ne=>op_ne.or (op_neD (by omega))
 | .lt=>op_lt
 | .le=>op_le
 | .gt=>op_gt
 | .ge=>op_ge
 | .inn=>in_R hu
 | .nin=>notin_R hu
theorem cop_ok {K : PySem.W.Frag}{w : World}{F : Foot}{B : Addr → Prop}{H : Hp}{v u : V}{d1 d2 : D}{Q : VK}{o : Cop}{t : Bool}(e : cop o d1 d2 = some t)(r1 : Rep K w F B H v d1)(r2 : Rep K w F B H u d2)(q : Q (.bl t) H) : rCop K w o v u H Q := by
  cases o with
  | eq => exact eq_ok e r1 r2 q
  | ne =>
    obtain ⟨t', e1, rfl⟩ := Option.map_eq_some_iff.mp e
    exact ne_ok e1 r1 r2 q
  | lt => cases d1 <;> cases d2 <;> simp only [cop, Option.some.injEq] at e <;> try (cases e; done)
          subst e; cases r1; cases r2; exact ⟨_, _, rfl, rfl, q⟩
  | le => cases d1 <;> cases d2 <;> simp only [cop, Option.some.injEq] at e <;> try (cases e; done)
          subst e; cases r1; cases r2; exact ⟨_, _, rfl, rfl, q⟩
  | gt => cases d1 <;> cases d2 <;> simp only [cop, Option.some.injEq] at e <;> try (cases e; done)
          subst e; cases r1; cases r2; exact ⟨_, _, rfl, rfl, q⟩
  | ge => cases d1 <;> cases d2 <;> simp only [cop, Option.some.injEq] at e <;> try (cases e; done)
          subst e; cases r1; cases r2; exact ⟨_, _, rfl, rfl, q⟩
  | inn => exact in_ok false e r1 r2 q
  | nin =>
    obtain ⟨t', e1, rfl⟩ := Option.map_eq_some_iff.mp e
    exact in_ok true e1 r1 r2 q
theorem cmp_in (o:Cop){σ:L2.St}{H:Hp}{Q:VK}(h:gE X XR W cx (.cmp o a b) σ H Q):tOp (rCop X.K X.w o) (gE X XR W cx a) (gE X XR W cx b) σ H Q:=by
 obtain ⟨F,B,env,st,ok,h⟩:=h
 unfold evE at h
 refine tE.first ok h fun d1 st1 v1 F1 H1 x1 ok1 r1 h=>?_
 refine tE.first ok1 (h.shift x1) fun d2 st2 v2 F2 H2 x2 ok2 r2 h=>?_
 obtain ⟨d,e⟩:=RE.some_of h
 obtain ⟨t,e1,e2⟩:=Option.map_eq_some_iff.mp e
 subst e2
 exact cop_ok e1 (r1.ext x2) r2 ((RE.k1 h e x2).same ok2.sr (.bl t))
theorem chn_in (o1 o2:Cop){σ:L2.St}{H:Hp}{Q:VK}(h:gE X XR W cx (.chn o1 o2 a b c) σ H Q):tChain (rCop X.K X.w o1) (rCop X.K X.w o2) (gE X XR W cx a) (gE X XR W cx b) (gE X XR W cx c) σ H Q:=by
 obtain ⟨F,B,env,st,ok,h⟩:=h
 unfold evE at h
 refine tE.first ok h fun d1 st1 v1 F1 H1 x1 ok1 r1 h=>?_
 refine tE.first ok1 (h.shift x1) fun d2 st2 v2 F2 H2 x2 ok2 r2 h=>?_
 cases e1:cop o1 d1 d2 with
 | none=>rw [e1] at h;exact h.elim
 | some t =>
  rw [e1,R.lift_some,R.bind_ok] at h
  refine cop_ok e1 (r1.ext x2) r2 ⟨t,rfl,?_⟩
  cases t with
  | false =>
   simp only [Bool.false_eq_true,if_false] at h ⊢
   exact h _ F2 H2 x2 ok2.sr (.bl _) (fun z=>by cases z)
  | true =>
   simp only [if_true] at h ⊢
   refine tE.first ok2 (h.shift x2) fun d3 st3 v3 F3 H3 x3 ok3 r3 h=>?_
   obtain ⟨d,e⟩:=RE.some_of h
   obtain ⟨t,e1,e2⟩:=Option.map_eq_some_iff.mp e
   subst e2
   exact cop_ok e1 (r2.ext x3) r3 ((RE.k1 h e x3).same ok3.sr (.bl t))
theorem x_cmp (hu:X.A.units+65<cLine)(o:Cop)(ha:PE X p (gE X XR W cx a))(hb:PE X q (gE X XR W cx b))(hm:behindInMarks (copOf o) q=false):PE X (.Compare p [copOf o] [q] pos) (gE X XR W cx (.cmp o a b)) :=
 PE.of (pe_cmpR (cop_R hu o) ha hb hm) fun σ H Q h=>cmp_in o h
theorem x_chn (hu:X.A.units+65<cLine)(o1 o2:Cop)(ha:PE X p (gE X XR W cx a))(hb:PE X q (gE X XR W cx b))(hc:PE X r (gE X XR W cx c))(hm:lastMarks [copOf o1,copOf o2] [q,r]=false) :
  PE X (.Compare p [copOf o1,copOf o2] [q,r] pos) (gE X XR W cx (.chn o1 o2 a b c)) :=
 PE.of (pe_chain (cop_R hu o1) (cop_R hu o2) ha hb hc hm) fun σ H Q h=>chn_in o1 o2 h
theorem isN_v {F:Foot}{B:Addr→Prop}{H:Hp}{K:PySem.W.Frag}{w:World}{v:V}{d:D}(r:Rep K w F B H v d):decide (v=.non)=d.isN:=by
 cases r<;>first|rfl|(simp;done)
theorem x_isn {j pos'}(ha:PE X p (gE X XR W cx a)):PE X (.Compare p [.Is] [.Constant .none j pos'] pos) (gE X XR W cx (.isn a)):=by
 refine PE.of (pe_cmp (pc_isN ha) rfl) fun σ H Q h=>?_
 obtain ⟨F,B,env,st,ok,h⟩:=h
 unfold evE at h
 refine tE.first ok h fun d1 st1 v1 F1 H1 x1 ok1 r1 h=>?_
 rw [isN_v r1]
 exact h _ F1 H1 x1 ok1.sr (.bl _) (fun z=>by cases z)
theorem x_isnn {j pos'}(ha:PE X p (gE X XR W cx a)):PE X (.Compare p [.IsNot] [.Constant .none j pos'] pos) (gE X XR W cx (.isnn a)):=by
 refine PE.of (pe_cmp (pc_notN ha) rfl) fun σ H Q h=>?_
 obtain ⟨F,B,env,st,ok,h⟩:=h
 unfold evE at h
 refine tE.first ok h fun d1 st1 v1 F1 H1 x1 ok1 r1 h=>?_
 rw [isN_v r1]
 exact h _ F1 H1 x1 ok1.sr (.bl _) (fun z=>by cases z)
theorem x_and {rest:List Expr}(ha:PE X p (gE X XR W cx a))(hb:PE X (.BoolOp .And (q::rest) pos) (gE X XR W cx b)):PE X (.BoolOp .And (p::q::rest) pos) (gE X XR W cx (.and a b)):=by
 refine PE.of (pe_andT ha hb) fun σ H Q h=>?_
 obtain ⟨F,B,env,st,ok,h⟩:=h
 unfold evE at h
 refine tE.first ok h fun d1 st1 v1 F1 H1 x1 ok1 r1 h=>?_
 cases e:d1.truth with
 | none=>rw [e] at h;exact h.elim
 | some t =>
  rw [e,R.lift_some,R.bind_ok] at h
  refine ⟨t,tru_of r1 e,?_⟩
  cases t with
  | true=>simp only [if_true] at h ⊢;exact tE.last ok1 (h.shift x1)
  | false=>simp only [Bool.false_eq_true,if_false] at h ⊢;exact h _ F1 H1 x1 ok1.sr r1 (fun z=>by cases z)
theorem x_or {rest:List Expr}(ha:PE X p (gE X XR W cx a))(hb:PE X (.BoolOp .Or (q::rest) pos) (gE X XR W cx b)):PE X (.BoolOp .Or (p::q::rest) pos) (gE X XR W cx (.or a b)):=by
 refine PE.of (pe_orT ha hb) fun σ H Q h=>?_
 obtain ⟨F,B,env,st,ok,h⟩:=h
 unfold evE at h
 refine tE.first ok h fun d1 st1 v1 F1 H1 x1 ok1 r1 h=>?_
 cases e:d1.truth with
 | none=>rw [e] at h;exact h.elim
 | some t =>
  rw [e,R.lift_some,R.bind_ok] at h
  refine ⟨t,tru_of r1 e,?_⟩
  cases t with
  | true=>simp only [if_true] at h ⊢;exact h _ F1 H1 x1 ok1.sr r1 (fun z=>by cases z)
  | false=>simp only [Bool.false_eq_true,if_false] at h ⊢;exact tE.last ok1 (h.shift x1)
theorem x_not (ha:PE X p (gE X XR W cx a)):PE X (.UnaryOp .Not p pos) (gE X XR W cx (.not a)):=by
 refine PE.of (pe_notT ha) fun σ H Q h=>?_
 obtain ⟨F,B,env,st,ok,h⟩:=h
 unfold evE at h
 refine tE.first ok h fun d1 st1 v1 F1 H1 x1 ok1 r1 h=>?_
 cases e:d1.truth with
 | none=>rw [e] at h;exact h.elim
 | some t =>
  rw [e,R.lift_some,R.bind_ok] at h
  exact ⟨t,tru_of r1 e,h _ F1 H1 x1 ok1.sr (.bl _) (fun z=>by cases z)⟩
theorem x_ifx (hc:PT X r (gT X XR W cx c))(ha:PE X p (gE X XR W cx a))(hb:PE X q (gE X XR W cx b)):PE X (.IfExp r p q pos) (gE X XR W cx (.ifx c a b)):=by
 refine PE.of (pe_ifExp hc ha hb) fun σ H Q h=>?_
 obtain ⟨F,B,env,st,ok,h⟩:=h
 unfold evE at h
 refine tT.first ok h fun t st1 F1 H1 x1 ok1 h=>?_
 cases t with
 | true=>simp only [if_true] at h ⊢;exact tE.last ok1 (h.shift x1)
 | false=>simp only [Bool.false_eq_true,if_false] at h ⊢;exact tE.last ok1 (h.shift x1)
end
end PL
end
section
namespace PL
open PySem PySem.Spec PyProof.Rows L2
theorem star_ns {e:Expr}(h:isStar e=false)(es:List Expr)(env:PySem.Env):starEach (e::es) env=(false,eval e env)::starEach es env:=by
 cases e<;>first|rfl|(simp [isStar] at h)
theorem back_any (pos:Pos):∀ (ps:List Expr) (env:PySem.Env),(ps.all fun p=>!isStar p)=true→(backTo pos (starEach ps env)).any (·.1)=false
 | [],env,_=>rfl
 | p::ps,env,h=>by
  simp only [List.all_cons,Bool.and_eq_true,Bool.not_eq_true'] at h
  rw [star_ns h.1]
  show (false || (backTo pos (starEach ps env)).any (·.1))=false
  rw [back_any pos ps env h.2]
  rfl
section
variable {X:Cx}{pr:Prog}{XR:XRel}{C:SC}{n:Nat}{W:WX}{cx:Ctx}
variable {p q r:Expr}{ps:List Expr}{a b c:E}{es:Es}{pos:Pos}
theorem a_nil:PA X [] (gEs X XR W cx .nil):=PA.of pa_nil fun σ H Q h=>by
 obtain ⟨F,B,env,st,ok,h⟩:=h
 unfold evEs at h
 exact h [] F H (Ext.refl F H) ok.sr .nil
theorem tE.firstS {K:PySem.W.Frag}{w:World}{F:Foot}{B:Addr→Prop}{σ:L2.St}{H:Hp}{env:Env}{st:St}(o:OkE K w F B σ H env st){e:E}{f:D→St→R (List D)}{Q:List V→Hp→Prop}{Q':VK}
  (h:REs K w XR W F B σ H ((evE cx e env st).bind f) Q)
  (k:∀ d st' v F' H',Ext F H F' H'→OkE K w F' B σ H' env st'→Rep K w F' B H' v d→REs K w XR W F B σ H (f d st') Q→Q' v H'):tE K w XR W cx e σ H Q':=by
 refine ⟨F,B,env,st,o,?_⟩
 cases q:evE cx e env st with
 | ok d st' =>
  rw [q,R.bind_ok] at h
  intro v F' H' x s r _
  exact k d st' v F' H' x (o.ext x s) r h
 | exc c fs st'=>rw [q,R.bind_exc] at h;exact h
 | no=>rw [q,R.bind_no] at h;exact h
theorem tEs.firstS {K:PySem.W.Frag}{w:World}{F:Foot}{B:Addr→Prop}{σ:L2.St}{H:Hp}{env:Env}{st:St}(o:OkE K w F B σ H env st){es:Es}{f:List D→St→R (List D)}{Q Q':List V→Hp→Prop}
  (h:REs K w XR W F B σ H ((evEs cx es env st).bind f) Q)
  (k:∀ ds st' vs F' H',Ext F H F' H'→OkE K w F' B σ H' env st'→RepL K w F' B H' vs ds→REs K w XR W F B σ H (f ds st') Q→Q' vs H'):tEs K w XR W cx es σ H Q':=by
 refine ⟨F,B,env,st,o,?_⟩
 cases q:evEs cx es env st with
 | ok d st' =>
  rw [q,R.bind_ok] at h
  intro v F' H' x s r
  exact k d st' v F' H' x (o.ext x s) r h
 | exc c fs st'=>rw [q,R.bind_exc] at h;exact h
 | no=>rw [q,R.bind_no] at h;exact h
theorem REs.shift {K:PySem.W.Frag}{w:World}{F:Foot}{B:Addr→Prop}{σ:L2.St}{H:Hp}{F1:Foot}{H1:Hp}(x:Ext F H F1 H1){r:R (List D)}{Q:List V→Hp→Prop}(h:REs K w XR W F B σ H r Q):REs K w XR W F1 B σ H1 r Q:=by
 cases r with
 | ok d st'=>exact fun v F' H' y s r=>h v F' H' (x.trans y) s r
 | exc c fs st'=>exact fun cls dx F' H' y s r=>h cls dx F' H' (x.trans y) s r
 | no=>exact h
theorem a_cons (hp:isStar p=false)(ha:PE X p (gE X XR W cx a))(hr:PA X ps (gEs X XR W cx es)):PA X (p::ps) (gEs X XR W cx (.cons a es)):=by
 refine PA.of (pa_cons ha hr (star_ns hp ps _)) fun σ H Q h=>?_
 obtain ⟨F,B,env,st,ok,h⟩:=h
 unfold evEs at h
 refine tE.firstS ok h fun d1 st1 v1 F1 H1 x1 ok1 r1 h=>?_
 refine tEs.firstS ok1 (h.shift x1) fun ds st2 vs F2 H2 x2 ok2 r2 h=>?_
 exact h _ F2 H2 x2 ok2.sr (.cons (r1.ext x2) r2)
theorem a_star {p2:Pos}(ha:PE X p (gE X XR W cx a))(hr:PA X ps (gEs X XR W cx es)):PA X (.Starred p p2::ps) (gEs X XR W cx (.star a es)):=by
 refine PA.of (StX.pa_star ha hr) fun σ H Q h=>?_
 obtain ⟨F,B,env,st,ok,h⟩:=h
 unfold evEs at h
 refine tE.firstS ok h fun d1 st1 v1 F1 H1 x1 ok1 r1 h=>?_
 have go:∀ (ys:List D) (a:Addr) (xs:List V),v1=.ref a→(SqT X.K H1 a xs∨SqL X.K H1 a xs)→RepL X.K X.w F1 B H1 xs ys→d1.items=some ys→∃ a xs,v1=.ref a∧(SqT X.K H1 a xs∨SqL X.K H1 a xs)∧gEs X XR W cx es σ H1 fun vs H2=>Q (xs++vs) H2:=by
  intro ys a xs e1 hq rl e2
  refine ⟨a,xs,e1,hq,?_⟩
  rw [e2,R.lift_some,R.bind_ok] at h
  refine tEs.firstS ok1 (h.shift x1) fun ds st2 vs F2 H2 x2 ok2 r2 h=>?_
  exact h _ F2 H2 x2 ok2.sr ((rl.ext x2).append r2)
 cases d1 with
 | tup ys =>
  obtain ⟨a,xs,e1,h1,l1⟩:=r1.isT
  exact go ys a xs e1 (.inl h1) l1 rfl
 | lst ys =>
  obtain ⟨a,xs,e1,h1,l1⟩:=r1.isL
  exact go ys a xs e1 (.inr (.of h1)) l1 rfl
 | _=>exact h.elim
theorem x_tup {k}(h:PA X ps (gEs X XR W cx es)):PE X (.Tuple ps k pos) (gE X XR W cx (.tup es)):=by
 refine PE.of (pe_tup h) fun σ H Q h=>?_
 obtain ⟨F,B,env,st,ok,h⟩:=h
 unfold evE at h
 refine tEs.first ok h fun ds st1 vs F1 H1 x1 ok1 r1 h=>?_
 split at h
 ·rename_i hz
  refine ⟨by rw [r1.length,← lineEq];exact hz,fun p hp=>?_⟩
  exact h _ F1 _ (x1.trans (Ext.new hp)) (ok1.sr.new hp) (Rep.newT hp ok1.sr ok1.occ r1) (fun z=>by cases z)
 ·exact h.elim
theorem freshL {K:PySem.W.Frag}{w:World}{F F1:Foot}{B:Addr→Prop}{H H1:Hp}{st1:St}{vs:List V}{ds:List D}{p:Addr}(x1:Ext F H F1 H1)(sr:SR st1 F1 H1)(hp:H1 p=none)(r1:RepL K w F1 B H1 vs ds) :
  Fresh K w B H F1 (upd H1 p (.lst vs)) (.ref p) (.lst ds):=by
 refine ⟨p,vs,ds,rfl,rfl,?_,upd_same,fun f=>sr.occ p f hp,r1.move (fun a f b hn=>⟨upd_ne fun e=>hn (by rw [e];exact hp),f,fun z=>?_⟩) fun _ e=>e⟩
 ·cases e:H p with
  | none=>rfl
  | some o=>exact absurd hp (x1.occ p (by rw [e];simp))
 ·rcases z with z|z
  ·exact b z
  ·exact hn (by rw [z];exact hp)
theorem x_lst (h:PA X ps (gEs X XR W cx es)):PE X (.List ps pos) (gE X XR W cx (.lst es)):=by
 refine PE.of (pe_lst h) fun σ H Q h=>?_
 obtain ⟨F,B,env,st,ok,h⟩:=h
 unfold evE at h
 refine tEs.first ok h fun ds st1 vs F1 H1 x1 ok1 r1 h=>?_
 split at h
 ·rename_i hz
  refine ⟨by rw [r1.length,← lineEq];exact hz,fun p hp=>?_⟩
  exact h _ F1 _ (x1.trans (Ext.new hp)) (ok1.sr.new hp) (Rep.newL hp ok1.sr ok1.occ r1) fun _=>freshL x1 ok1.sr hp r1
 ·exact h.elim
theorem x_bi (G:Good X pr XR C n)(hcal:C.cal=true)(bi:Bi){x:Str}{pp:Pos}(hg:Gl X x)(hx:x=biName bi)(hs:isStar p=false)(hss:(ps.all fun p=>!isStar p)=true)(ha:PA X (p::ps) (gEs X XR W (pr.cxe n) es)) :
  PE X (.Call (.Name x pp) (p::ps) [] pos) (gE X XR W (pr.cxe n) (.bi bi es)):=by
 have hR:CallR X (biF bi) (rBi X.K X.w bi):=bi_R (G.calm hcal) (by have:=G.un;omega) G.gd bi
 have i:∀ σ H Q,gE X XR W (pr.cxe n) (.bi bi es) σ H Q→tCB (rBi X.K X.w bi) (gEs X XR W (pr.cxe n) es) σ H Q:=by
  intro σ H Q h
  obtain ⟨F,B,env,st,ok,h⟩:=h
  unfold evE at h
  refine tEs.first ok h fun ds st1 vs F1 H1 x1 ok1 r1 h=>?_
  obtain ⟨d,e⟩:=RE.some_of h
  have e':biD shownD bi ds=some d:=by rw [← e];show _=biD pr.shown bi ds;rw [G.shown]
  exact ⟨F1,B,st1,ds,d,ok1.occ,ok1.sr,r1,e',RE.k1 h e x1⟩
 have he:=star_ns hs ps X.env
 have hb:=back_any pos ps X.env hss
 subst hx
 cases bi
 case len=>exact PE.of (pe_callB hR hg (G.blt _ (by decide)) (by decide +kernel) ha (by decide) (by decide) he hb) i
 case abs=>exact PE.of (pe_callB hR hg (G.blt _ (by decide)) (by decide +kernel) ha (by decide) (by decide) he hb) i
 case max2=>exact PE.of (pe_callB hR hg (G.blt _ (by decide)) (by decide +kernel) ha (by decide) (by decide) he hb) i
 case min2=>exact PE.of (pe_callB hR hg (G.blt _ (by decide)) (by decide +kernel) ha (by decide) (by decide) he hb) i
 case maxL=>exact PE.of (pe_callB hR hg (G.blt _ (by decide)) (by decide +kernel) ha (by decide) (by decide) he hb) i
 case minL=>exact PE.of (pe_callB hR hg (G.blt _ (by decide)) (by decide +kernel) ha (by decide) (by decide) he hb) i
 case sum=>exact PE.of (pe_callB hR hg (G.blt _ (by decide)) (by decide +kernel) ha (by decide) (by decide) he hb) i
 case int=>exact PE.of (pe_callTy hR hg (G.blt _ (by decide)) (by decide +kernel) ha (by decide) (by decide) he hb) i
 case bool=>exact PE.of (pe_callTy hR hg (G.blt _ (by decide)) (by decide +kernel) ha (by decide) (by decide) he hb) i
 case repr=>exact PE.of (pe_callB hR hg (G.blt _ (by decide)) (by decide +kernel) ha (by decide) (by decide) he hb) i
 case sorted=>exact PE.of (pe_callB hR hg (G.blt _ (by decide)) (by decide +kernel) ha (by decide) (by decide) he hb) i
 case any=>exact PE.of (pe_callB hR hg (G.blt _ (by decide)) (by decide +kernel) ha (by decide) (by decide) he hb) i
 case all=>exact PE.of (pe_callB hR hg (G.blt _ (by decide)) (by decide +kernel) ha (by decide) (by decide) he hb) i
 case divmod=>exact PE.of (pe_callB hR hg (G.blt _ (by decide)) (by decide +kernel) ha (by decide) (by decide) he hb) i
theorem x_call (G:Good X pr XR C n)(hcal:C.cal=true)(tk:Takes X W){f:Nat}{x:Str}{pp:Pos}(hg:Gl X x)(hx:C.fname f=some x)(hd:okName x=true)(hs:isStar p=false)(hss:(ps.all fun p=>!isStar p)=true)(ha:PA X (p::ps) (gEs X XR W (pr.cxe n) es)) :
  PE X (.Call (.Name x pp) (p::ps) [] pos) (gE X XR W (pr.cxe n) (.call f es)):=by
 unfold okName at hd
 simp only [Bool.and_eq_true,Bool.not_eq_true'] at hd
 obtain ⟨fa,fd,par,h1,h2,h3,hl,h4⟩:=G.fns f x hx
 refine ⟨fun pins s σ H Q I h=>?_⟩
 refine wpAny_Call_Name_kw (ld_glob I hg h1 ?_ hd.1)
 have h':gEs X XR W (pr.cxe n) es σ H fun vs H1=>spG X.K X.w XR pr n f par.length vs H1 Q (WE W σ):=by
  obtain ⟨F,B,env,st,ok,h⟩:=h
  unfold evE at h
  refine tEs.first ok h fun ds st1 vs F1 H1 x1 ok1 r1 h=>?_
  refine ⟨F1,B,st1,ds,?_,ok1.occ,ok1.sr,r1,?_⟩
  ·rw [r1.length]
   refine hl ds st1 fun e=>?_
   have h2:RE X.K X.w XR W F B σ H (fresh (.call f es)) (run pr n f ds st1) Q:=h
   rw [e] at h2
   exact h2
  ·have h2:RE X.K X.w XR W F1 B σ H1 false (run pr n f ds st1) Q:=RE.shift x1 h
   generalize run pr n f ds st1=rr at h2
   cases rr with
   | ok d st2=>exact fun v F' H' x s r=>h2 v F' H' x s r (fun z=>by cases z)
   | exc c fs st2=>exact fun cls dx F' H' x s r=>h2 cls dx F' H' x s r
   | no=>exact h2
 refine PySem.W.callWith_K (h₀:=X.base) I.ok.mod.kin h2 (thn (ha.run pos pins s σ H _ I h') fun us s1 ⟨vs,H1,I1,r,q⟩=>⟨I1.kIn,?_⟩) (star_ns hs ps _) (back_any pos ps _ hss)
 have hln:us.length=par.length:=by rw [← r.length];exact h4.len _ _ _ _ q
 have bb:=h3 s1 us I1.kIn (by rw [List.append_nil];exact hln)
 rw [List.append_nil] at bb
 refine wpAny_call (codeAny_mono (h4.run X.A X.stack s1 H1 ⟨us,[]⟩ us vs Q (WE W σ) (G.room hcal) G.gd I1.env0 bb r q) fun r s' hq=>?_)
 cases r with
 | error e=>exact tk e s' (XE.of_call I1 (fun _ _ _ h=>h) hq)
 | ok fl =>
  cases fl with
  | ret u=>exact I1.after hq
  | next=>exact False.elim hq
  | brk=>exact False.elim hq
  | cont=>exact False.elim hq
def tyName':Ty→String
 | .int => "int" | .str => "str" | .bool => "bool" | .tuple => "tuple" | .list => "list" | .dict => "dict"
theorem isTy_ok {K:PySem.W.Frag}{w:World}{F:Foot}{B:Addr→Prop}{H:Hp}{v:V}{d:D}{t:Ty}{k:Bool}(e:isTy d t=some k)(r:Rep K w F B H v d):∃ T:String,TyX K H v (.type T)∧kitB T (tyName' t)=some k:=by
 cases r with
 | non => exact ⟨"NoneType", .base .non, by simp only [isTy, Option.some.injEq] at e; subst e; cases t <;> decide +kernel⟩
 | bl b => exact ⟨"bool", .base (.bl b), by simp only [isTy, Option.some.injEq] at e; subst e; cases t <;> decide +kernel⟩
 | int i => exact ⟨"int", .base (.int i), by simp only [isTy, Option.some.injEq] at e; subst e; cases t <;> decide +kernel⟩
 | str x s ex => exact ⟨"str", .base (.str x), by simp only [isTy, Option.some.injEq] at e; subst e; cases t <;> decide +kernel⟩
 | tup h f b r => exact ⟨"tuple", .base (.tup h), by simp only [isTy, Option.some.injEq] at e; subst e; cases t <;> decide +kernel⟩
 | lst h f b r => exact ⟨"list", .base (.lst h), by simp only [isTy, Option.some.injEq] at e; subst e; cases t <;> decide +kernel⟩
 | dct h f b e2 r => exact ⟨"dict", .base (.dK h), by simp only [isTy, Option.some.injEq] at e; subst e; cases t <;> decide +kernel⟩
 | tupW l c dd z vv r => exact ⟨"tuple", .kTuple l c, by simp only [isTy, Option.some.injEq] at e; subst e; cases t <;> decide +kernel⟩
 | dctW kd hs hl g r => exact ⟨"dict", .kDict kd.at_ rfl, by simp only [isTy, Option.some.injEq] at e; subst e; cases t <;> decide +kernel⟩
 | ob0 h=>cases e
 | ob1 _ h _ _=>cases e
 | ob1W _ h=>cases e
 | err=>cases e
end
end PL
end
section
namespace PL
open PySem PySem.Spec PyProof.Rows L2
section
variable {X:Cx}{pr:Prog}{XR:XRel}{C:SC}{n:Nat}{W:WX}{cx:Ctx}
variable {p q r:Expr}{ps:List Expr}{a b c:E}{es:Es}{pos:Pos}
theorem x_isi (G : Good X pr XR C n){t : Ty}{pp pp2 : Pos}{y : Str}(hg : Gl X "isinstance")(hy : Gl X y)(ey : y = tyName t)(hs : isStar p = false)(ha : PE X p (gE X XR W (pr.cxe n) a)) :
  PE X (.Call (.Name "isinstance" pp) [p, .Name y pp2] [] pos) (gE X XR W (pr.cxe n) (.isi a t)) := by
 have i:∀ σ H Q,gE X XR W (pr.cxe n) (.isi a t) σ H Q→tCB (rIsi X.K) (tCons (gE X XR W (pr.cxe n) a) (tCons (tC (.ty (tyName' t))) tNil)) σ H Q:=by
  intro σ H Q h
  obtain ⟨F,B,env,st,ok,h⟩:=h
  unfold evE at h
  refine tE.first ok h fun d1 st1 v1 F1 H1 x1 ok1 r1 h=>?_
  obtain ⟨d,e⟩:=RE.some_of h
  obtain ⟨k,e1,e2⟩:=Option.map_eq_some_iff.mp e
  subst e2
  obtain ⟨T,h1,h2⟩:=isTy_ok e1 r1
  exact ⟨v1,_,_,_,k,rfl,.ty _,h1,kit_ty h2,RE.fin h e x1 ok1.sr (.bl k)⟩
 have yy:PE X (.Name y pp2) (tC (.ty (tyName' t))):=by
  subst ey
  cases t
  ·exact pe_bltn hy (G.blt _ (by decide)) (by decide +kernel) rfl (by decide) (by decide)
  ·exact pe_bltn hy (G.blt _ (by decide)) (by decide +kernel) rfl (by decide) (by decide)
  ·exact pe_bltn hy (G.blt _ (by decide)) (by decide +kernel) rfl (by decide) (by decide)
  ·exact pe_bltn hy (G.blt _ (by decide)) (by decide +kernel) rfl (by decide) (by decide)
  ·exact pe_bltn hy (G.blt _ (by decide)) (by decide +kernel) rfl (by decide) (by decide)
  ·exact pe_bltn hy (G.blt _ (by decide)) (by decide +kernel) rfl (by decide) (by decide)
 have he:=star_ns hs [.Name y pp2] X.env
 exact PE.of (pe_callB call_isi hg (G.blt _ (by decide)) (by decide +kernel) (pa_cons ha (pa_cons yy pa_nil) he) (by decide) (by decide) he rfl) i
theorem x_sub (G:Good X pr XR C n)(hs:isSlice q=false)(ha:PE X p (gE X XR W cx a))(hb:PE X q (gE X XR W cx b)):PE X (.Subscript p q pos) (gE X XR W cx (.sub a b)):=by
 have hp:PlainIx q:=by
  intro o i
  cases q<;>first|rfl|(simp [isSlice] at hs)
 refine PE.of (pe_ix (sub_R (by have:=G.un;omega)) ha hb hp) fun σ H Q h=>?_
 obtain ⟨F,B,env,st,ok,h⟩:=h
 unfold evE at h
 refine tE.first ok h fun d1 st1 v1 F1 H1 x1 ok1 r1 h=>?_
 refine tE.first ok1 (h.shift x1) fun d2 st2 v2 F2 H2 x2 ok2 r2 h=>?_
 obtain ⟨d,e⟩:=RE.some_of h
 exact sub_ok e (r1.ext x2) r2 ok2.sr (RE.k1 h e x2)
def tO (K:PySem.W.Frag)(w:World)(XR:XRel)(W:WX)(cx:Ctx)(o:Eo):TO:=fun σ H Q =>
 ∃ F B env st,OkE K w F B σ H env st∧match evO cx o env st with
  | .ok i st'=>∀ F' H',Ext F H F' H'→SR st' F' H'→Q i H'
  | .exc c fs st'=>∀ cls dx F' H',Ext F H F' H'→SR st' F' H'→XR c fs cls dx F' H'→W cls dx σ H'
  | .no=>False
abbrev gO (X:Cx)(XR:XRel)(W:WX)(cx:Ctx)(o:Eo):TO:=tO X.K X.w XR W cx o
theorem PO.of {e:Option Expr}{t t':TO}(h:PO X e t)(i:∀ σ H Q,t' σ H Q→t σ H Q):PO X e t':=⟨fun pins s σ H Q I q=>h.run pins s σ H Q I (i _ _ _ q)⟩
theorem o_no:PO X none (gO X XR W cx .no):=PO.of po_none fun σ H Q h=>by
 obtain ⟨F,B,env,st,ok,h⟩:=h
 unfold evO at h
 exact h F H (Ext.refl F H) ok.sr
theorem po_any {te:TE}(h:PE X p te):PO X (some p) (fun σ H Q=>te σ H fun x H1=>(∃ i,x=.int i∧Q (some i) H1)∨(x=.non∧Q none H1)):=by
 refine ⟨fun pins s σ H Q I hw=>?_⟩
 rw [evalPart_some]
 refine thn (h.run pins s σ H _ I hw) fun u s1 ⟨x,H1,I1,r1,q1⟩=>?_
 rcases q1 with ⟨i,rfl,q⟩|⟨rfl,q⟩
 ·obtain ⟨t,rfl⟩:=r1
  exact ⟨some i,H1,I1,.int i t,q⟩
 ·cases r1
  exact ⟨none,H1,I1,.none,q⟩
theorem o_so (ha:PE X p (gE X XR W cx a)):PO X (some p) (gO X XR W cx (.so a)):=PO.of (po_any ha) fun σ H Q h=>by
 obtain ⟨F,B,env,st,ok,h⟩:=h
 unfold evO at h
 refine ⟨F,B,env,st,ok,?_⟩
 cases e:evE cx a env st with
 | ok d st' =>
  rw [e,R.bind_ok] at h
  intro v F' H' x s r _
  cases r<;>simp only [D.part,R.lift_some,R.lift_none] at h
  case non=>exact .inr ⟨rfl,h F' H' x s⟩
  case int i _=>exact .inl ⟨_,rfl,h F' H' x s⟩
 | exc c fs st'=>rw [e,R.bind_exc] at h;exact h
 | no=>rw [e,R.bind_no] at h;exact h
theorem tO.first {K:PySem.W.Frag}{w:World}{F:Foot}{B:Addr→Prop}{σ:L2.St}{H:Hp}{env:Env}{st:St}(o:OkE K w F B σ H env st){e:Eo}{f:Option Int→St→R D}{Q:VK}{fr:Bool}{Q':Option Int→Hp→Prop}
  (h:RE K w XR W F B σ H fr ((evO cx e env st).bind f) Q)
  (k:∀ i st' F' H',Ext F H F' H'→OkE K w F' B σ H' env st'→RE K w XR W F B σ H fr (f i st') Q→Q' i H'):tO K w XR W cx e σ H Q':=by
 refine ⟨F,B,env,st,o,?_⟩
 cases q:evO cx e env st with
 | ok d st' =>
  rw [q,R.bind_ok] at h
  intro F' H' x s
  exact k d st' F' H' x (o.ext x s) h
 | exc c fs st'=>rw [q,R.bind_exc] at h;exact h
 | no=>rw [q,R.bind_no] at h;exact h
def rCut (K:PySem.W.Frag):V→Option Int→Option Int→Hp→VK→Prop:=fun x lo hi H Q=>rSlL K x lo hi H Q∨(rSlA K x lo hi H Q∨rSlS x lo hi H Q)
theorem cut_gen {α:Type}(vs:List α)(lo hi:Option Int):(vs.drop (HT.sIx vs.length 0 lo)).take (HT.sIx vs.length vs.length hi-HT.sIx vs.length 0 lo)=cut vs lo hi:=by
 unfold cut
 rw [clamp_eq,clamp_eq,List.take_drop]
 generalize endI vs.length 0 lo=a
 generalize endI vs.length vs.length hi=b
 by_cases h:a≤b
 ·rw [Nat.add_sub_cancel' h]
 ·rw [show a+(b-a)=a by omega,List.drop_of_length_le (by simp;omega),List.drop_of_length_le (by simp;omega)]
theorem cut_whole {α:Type}(ds:List α)(lo hi:Option Int)(h1:HT.sIx ds.length 0 lo=0)(h2:HT.sIx ds.length ds.length hi=ds.length):cut ds lo hi=ds:=by
 rw [← cut_gen,h1,h2]
 simp
theorem cutS_of (x:Str)(lo hi:Option Int):(cutS x lo hi).cps.toList=cut x.cps.toList lo hi:=by
 rw [← cut_gen]
 unfold cutS
 rw [strLen]
theorem x_slc (G:Good X pr XR C n){lo hi:Eo}{l h:Option Expr}{p2:Pos}(ha:PE X p (gE X XR W cx a))(hl:PO X l (gO X XR W cx lo))(hh:PO X h (gO X XR W cx hi)):PE X (.Subscript p (.Slice l h none p2) pos) (gE X XR W cx (.slc a lo hi)):=by
 refine PE.of (pe_slice (r:=rCut X.K) (sl_list.or (sl_tupA.or sl_str)) ha hl hh) fun σ H Q h=>?_
 obtain ⟨F,B,env,st,ok,h⟩:=h
 unfold evE at h
 refine tE.first ok h fun d1 st1 v1 F1 H1 x1 ok1 r1 h=>?_
 refine tO.first ok1 (h.shift x1) fun i2 st2 F2 H2 x2 ok2 h=>?_
 refine tO.first ok2 (h.shift x2) fun i3 st3 F3 H3 x3 ok3 h=>?_
 obtain ⟨d,e⟩:=RE.some_of h
 have r3:=(r1.ext x2).ext x3
 have k:=RE.k1 h e x3
 unfold cutD at e
 split at e
 ·cases e
  obtain ⟨a1,xs,rfl,h1,l1⟩:=r3.isT
  refine .inr (.inl ⟨a1,xs,rfl,h1,fun z=>?_,fun _=>k.newT ok3.sr ok3.occ (repL_cut l1 i2 i3)⟩)
  have e3:=cut_whole _ i2 i3 (by rw [← l1.length];exact z.1) (by rw [← l1.length];exact z.2)
  rw [e3] at k
  exact k.same ok3.sr r3
 ·cases e
  obtain ⟨a1,xs,rfl,h1,l1⟩:=r3.isL
  exact .inl ⟨a1,xs,rfl,.of h1,k.newL ok3.sr ok3.occ (repL_cut l1 i2 i3)⟩
 ·split at e
  ·rename_i hz
   cases e
   cases r3 with
   | str x _ ex =>
    subst ex
    exact .inr (.inr ⟨x,rfl,by rw [strLen,← lineEq];exact hz,k.same ok3.sr (.str _ _ (cutS_of x i2 i3))⟩)
  ·cases e
 ·cases e
end
end PL
end
section
namespace PL
open PySem PySem.Spec PyProof.Rows L2
section
variable {X:Cx}{pr:Prog}{XR:XRel}{C:SC}{n:Nat}{W:WX}{cx:Ctx}
variable {p q r:Expr}{ps:List Expr}{a b c:E}{es:Es}{pos:Pos}
def IsDD (K:PySem.W.Frag)(w:World)(H:Hp)(a:Addr):Prop:=IsD H a∨∃ es n,KDict K w a es n
def GetV (K:PySem.W.Frag)(w:World)(H:Hp)(a:Addr)(y:V)(o:Option V):Prop :=
 DGet H a y o∨∃ es n z r,KDict K w a es n∧y=.str z∧PySem.W.nsIn K a z=some r∧RelO o r
theorem isDD_at {pins:List (Addr × Obj)}{σ:L2.St}{H:Hp}{s:Shared}{a:Addr}(I:Inv X pins σ H s)(d:IsDD X.K X.w H a) :
  s.TypeIs (.ref a) "dict" ∧ (∀ b, Value.ref a = .ref b → ∃ ob, s.heap.get? b = some ob ∧ ob.dict = none) := by
 rcases d with d|⟨es,n,kd⟩
 ·obtain ⟨t1,t2,_⟩:=isD_at I d
  exact ⟨t1,t2⟩
 ·refine ⟨kd_type kd I,fun b e=>?_⟩
  cases e
  exact ⟨_,I.kIn _ _ kd.at_,rfl⟩
theorem getV2 {pins:List (Addr × Obj)}{σ:L2.St}{H:Hp}{s:Shared}{a:Addr}{y d:V}{u r:Value}{o:Option V}{A:Around}{E:Value→Shared→Prop}{Q:Value→Shared→Prop}(hu:A.units+1<cLine)(I:Inv X pins σ H s)(g:GetV X.K X.w H a y o)(ry:RelV y u)(rd:RelV d r)
  (h : ∀ w' s', Inv X pins σ H s' → RelV (o.getD d) w' → Q w' s') : wpAny (model X.prog X.w) A (call (.builtin "dict.get") [.ref a, u, r]) Q E s := by
 rcases g with g|⟨es,n,z,r',kd,rfl,hn,ro⟩
 ·exact d_get2 hu I g ry rd h
 ·obtain ⟨t,rfl⟩:=ry
  have hm:=PySem.W.mapOf_K (prog:=X.prog) (w:=X.w) I.kIn kd.at_ kd.lit
  refine call_meetsIn PySem.F.slot_dict_get hm.typeIs PySem.F.entry_dict_get (PySem.F.args_dict_get_3 _ _ _) (meets_dict_get_default (strKind X.prog X.w) a (strKind_is X.prog X.w z t) kd.low r) ⟨_,hm,h _ _ (I.tok _) ?_⟩
  rw [PySem.W.find_K kd.at_ hn]
  exact ro.getD rd
theorem getV1 {pins:List (Addr × Obj)}{σ:L2.St}{H:Hp}{s:Shared}{a:Addr}{y:V}{u:Value}{o:Option V}{A:Around}{E:Value→Shared→Prop}{Q:Value→Shared→Prop}(hu:A.units+1<cLine)(I:Inv X pins σ H s)(g:GetV X.K X.w H a y o)(ry:RelV y u)
  (h : ∀ w' s', Inv X pins σ H s' → RelV (o.getD .non) w' → Q w' s') : wpAny (model X.prog X.w) A (call (.builtin "dict.get") [.ref a, u]) Q E s := by
 rcases g with g|⟨es,n,z,r',kd,rfl,hn,ro⟩
 ·exact d_get1 hu I g ry h
 ·obtain ⟨t,rfl⟩:=ry
  have hm:=PySem.W.mapOf_K (prog:=X.prog) (w:=X.w) I.kIn kd.at_ kd.lit
  refine call_meetsIn PySem.F.slot_dict_get hm.typeIs PySem.F.entry_dict_get (PySem.F.args_dict_get_2 _ _) (meets_dict_get (strKind X.prog X.w) a (strKind_is X.prog X.w z t) kd.low) ⟨_,hm,h _ _ (I.tok _) ?_⟩
  rw [PySem.W.find_K kd.at_ hn]
  exact ro.getD rfl
theorem get_ok {K:PySem.W.Frag}{w:World}{F:Foot}{B:Addr→Prop}{H:Hp}{v u z:V}{d1 d2 d3 d:D}(e:getD d1 d2 d3=some d)(r1:Rep K w F B H v d1)(r2:Rep K w F B H u d2)(r3:Rep K w F B H z d3) :
  ∃ a o,v=.ref a∧GetV K w H a u o∧Rep K w F B H (o.getD z) d:=by
 have key:∀ (k:K0) (ks:List K0) (vs:List D),Rep K w F B H v (.dct ks vs)→u=kV (kOf k)→(k.isS=false→ks.any K0.isS=false)→∃ a o,v=.ref a∧GetV K w H a u o∧Rep K w F B H (o.getD z) ((findK k ks vs).getD d3):=by
  intro k ks vs r1 hu hi
  cases r1 with
  | dct h f b e r =>
   have g:=valV_findK e r k
   refine ⟨_,valV _ (kOf k),rfl,.inl (by rw [hu];exact DGet.k h),?_⟩
   cases q:findK k ks vs with
   | none=>rw [q] at g;rw [g];exact r3
   | some d' =>
    rw [q] at g
    obtain ⟨v',h1,h2⟩:=g
    rw [h1]
    exact h2
  | @dctW a es n _ xs _ kd hs hl g r =>
   cases k with
   | i j=>rw [hi rfl] at hs;cases hs
   | s x =>
    have hz:(⟨x.toArray⟩:Str).cps.toList=x:=by simp
    obtain ⟨r',h1,h2⟩:=g ⟨x.toArray⟩
    rw [hz] at h2
    have fk:∀ {ks:List K0} {xs:List V} {vs:List D},RepL K w F B H xs vs→match findK (.s x) ks xs with|some v=>∃ d',findK (.s x) ks vs=some d'∧Rep K w F B H v d'|none=>findK (.s x) ks vs=none:=by
     intro ks
     induction ks with
     | nil=>intro xs vs r;simp [findK]
     | cons k' ks ih =>
      intro xs vs r
      cases r with
      | nil=>simp [findK]
      | cons r t =>
       by_cases hk:k'=.s x
       ·simp only [findK,hk,if_true];exact ⟨_,rfl,r⟩
       ·simp only [findK,hk,if_false];exact ih t
    have f:=fk (ks:=ks) r
    refine ⟨a,findK (.s x) ks xs,rfl,.inr ⟨es,n,⟨x.toArray⟩,r',kd,hu,h1,?_⟩,?_⟩
    ·cases q:findK (.s x) ks xs with
     | none=>rw [q] at h2;rw [h2];trivial
     | some v' =>
      rw [q] at h2
      obtain ⟨u',e1,e2⟩:=h2
      rw [e1]
      exact e2
    ·cases q:findK (.s x) ks xs with
     | none=>rw [q] at f;rw [f];exact r3
     | some v' =>
      rw [q] at f
      obtain ⟨d',e1,e2⟩:=f
      rw [e1]
      exact e2
 unfold getD at e
 split at e
 ·split at e
  ·cases e
  ·rename_i hn
   cases e
   cases r2
   exact key (.i _) _ _ r1 rfl fun _=>by simpa using hn
 ·cases e
  cases r2 with
  | str x _ ex =>
   subst ex
   exact key (.s _) _ _ r1 (by show V.str x=V.str _;rw [str_of]) (fun z=>by cases z)
 ·cases e
theorem isDD_of {K:PySem.W.Frag}{w:World}{F:Foot}{B:Addr→Prop}{H:Hp}{v:V}{ks:List K0}{ds:List D}(r:Rep K w F B H v (.dct ks ds)):∃ a,v=.ref a∧IsDD K w H a:=by
 cases r with
 | dct h f b e r=>exact ⟨_,rfl,.inl (.inl ⟨_,.inl h⟩)⟩
 | dctW kd hs hl g r=>exact ⟨_,rfl,.inr ⟨_,_,kd⟩⟩
theorem base_ok (h:okBase p=true)(m:Str)(env:PySem.Env):attributeBase p m env (eval p env)=eval p env:=by
 unfold attributeBase
 split
 ·simp [okBase] at h
 ·rfl
theorem x_get (G:Good X pr XR C n){apos cpos:Pos}(hb:okBase p=true)(hl:(apos.endLine==cpos.line)=true)(hs1:isStar q=false)(hs2:isStar r=false)(ha:PE X p (gE X XR W cx a))(hk:PE X q (gE X XR W cx b))(hd:PE X r (gE X XR W cx c)) :
  PE X (.Call (.Attribute p "get" apos) [q, r] [] cpos) (gE X XR W cx (.get a b c)) := by
 refine ⟨fun pins s σ H Q I h=>?_⟩
 have h':gE X XR W cx a σ H fun v1 H1=>∃ a,v1=.ref a∧IsDD X.K X.w H1 a∧gE X XR W cx b σ H1 fun y H2=>gE X XR W cx c σ H2 fun z H3=>∃ o,GetV X.K X.w H3 a y o∧Q (o.getD z) H3:=by
  obtain ⟨F,B,env,st,ok,h⟩:=h
  unfold evE at h
  refine tE.first ok h fun d1 st1 v1 F1 H1 x1 ok1 r1 h=>?_
  cases d1 with
  | dct ks vs =>
   obtain ⟨a',ea,dd⟩:=isDD_of r1
   refine ⟨a',ea,dd,?_⟩
   refine tE.first ok1 (h.shift x1) fun d2 st2 v2 F2 H2 x2 ok2 r2 h=>?_
   refine tE.first ok2 (h.shift x2) fun d3 st3 v3 F3 H3 x3 ok3 r3 h=>?_
   obtain ⟨d,e⟩:=RE.some_of h
   obtain ⟨a2,o,e2,g,rr⟩:=get_ok e ((r1.ext x2).ext x3) (r2.ext x3) r3
   rw [ea] at e2
   cases e2
   exact ⟨o,g,RE.fin h e x3 ok3.sr rr⟩
  | _=>exact h.elim
 refine wpAny_Call_method (base_ok hb _ _) ?_ hl PySem.F.plainAttrs_dict PySem.F.slot_dict_get PySem.F.type_dict_get (thn (ha.run pins s σ H _ I h') fun u s1 ⟨x,H1,I1,rx,a',ex,d,q1⟩=>?_)
 ·rw [star_ns hs1,star_ns hs2];rfl
 subst ex
 obtain rfl:u=Value.ref a':=rx
 obtain ⟨t1,t2⟩:=isDD_at I1 d
 refine ⟨t1,t2,?_⟩
 rw [star_ns hs1,star_ns hs2]
 refine Calls.callWith_builtin rfl (Calls.evalArgs_plain (Calls.spliced_cons (thn (hk.run pins s1 σ H1 _ I1 q1) fun iv s2 ⟨y,H2,I2,ry,q2⟩ =>
  Calls.spliced_cons (thn (hd.run pins s2 σ H2 _ I2 q2) fun fv s3 ⟨z,H3,I3,rz,ov,g,q3⟩=>Calls.spliced_nil ?_))))
 exact getV2 (by have:=G.un;omega) I3 g ry rz fun w' s4 I4 rw'=>⟨_,H3,I4,rw',q3⟩
theorem x_get1 (G:Good X pr XR C n){apos cpos:Pos}(hb:okBase p=true)(hl:(apos.endLine==cpos.line)=true)(hs1:isStar q=false)(ha:PE X p (gE X XR W cx a))(hk:PE X q (gE X XR W cx b)) :
  PE X (.Call (.Attribute p "get" apos) [q] [] cpos) (gE X XR W cx (.get1 a b)) := by
 refine ⟨fun pins s σ H Q I h=>?_⟩
 have h':gE X XR W cx a σ H fun v1 H1=>∃ a,v1=.ref a∧IsDD X.K X.w H1 a∧gE X XR W cx b σ H1 fun y H2=>∃ o,GetV X.K X.w H2 a y o∧Q (o.getD .non) H2:=by
  obtain ⟨F,B,env,st,ok,h⟩:=h
  unfold evE at h
  refine tE.first ok h fun d1 st1 v1 F1 H1 x1 ok1 r1 h=>?_
  cases d1 with
  | dct ks vs =>
   obtain ⟨a',ea,dd⟩:=isDD_of r1
   refine ⟨a',ea,dd,?_⟩
   refine tE.first ok1 (h.shift x1) fun d2 st2 v2 F2 H2 x2 ok2 r2 h=>?_
   obtain ⟨d,e⟩:=RE.some_of h
   obtain ⟨a2,o,e2,g,rr⟩:=get_ok e (r1.ext x2) r2 .non
   rw [ea] at e2
   cases e2
   exact ⟨o,g,RE.fin h e x2 ok2.sr rr⟩
  | _=>exact h.elim
 refine wpAny_Call_method (base_ok hb _ _) ?_ hl PySem.F.plainAttrs_dict PySem.F.slot_dict_get PySem.F.type_dict_get (thn (ha.run pins s σ H _ I h') fun u s1 ⟨x,H1,I1,rx,a',ex,d,q1⟩=>?_)
 ·rw [star_ns hs1];rfl
 subst ex
 obtain rfl:u=Value.ref a':=rx
 obtain ⟨t1,t2⟩:=isDD_at I1 d
 refine ⟨t1,t2,?_⟩
 rw [star_ns hs1]
 refine Calls.callWith_builtin rfl (Calls.evalArgs_plain (Calls.spliced_cons (thn (hk.run pins s1 σ H1 _ I1 q1) fun iv s2 ⟨y,H2,I2,ry,ov,g,q3⟩=>Calls.spliced_nil ?_)))
 exact getV1 (by have:=G.un;omega) I2 g ry fun w' s4 I4 rw'=>⟨_,H2,I4,rw',q3⟩
theorem rg_rep {K:PySem.W.Frag}{w:World}{F:Foot}{B:Addr→Prop}{H:Hp}(a b:Int):RepL K w F B H (rgV a b) (rngI a b):=by
 unfold rgV rngI
 generalize (List.range (b-a).toNat)=l
 induction l with
 | nil=>exact .nil
 | cons x r ih=>exact .cons (.int _) ih
theorem okR_iff {a:Int}:okR a=true↔-(2^62)≤a∧a<2^62:=by unfold okR;simp
end
end PL
end
section
namespace PL
open PySem PySem.Spec PyProof.Rows L2
section
variable {X:Cx}{pr:Prog}{XR:XRel}{C:SC}{n:Nat}{W:WX}{cx:Ctx}
variable {p q r:Expr}{ps:List Expr}{a b c:E}{es:Es}{pos:Pos}
inductive PEs (X:Cx) (XR:XRel) (W:WX) (cx:Ctx):Es→List Expr→Prop
 | nil:PEs X XR W cx .nil []
 | cons {a:E} {es:Es} {p:Expr} {ps:List Expr} (hs:isStar p=false) (ha:PE X p (gE X XR W cx a)) (t:PEs X XR W cx es ps):PEs X XR W cx (.cons a es) (p::ps)
 | star {a:E} {es:Es} {p:Expr} {pp:Pos} {ps:List Expr} (ha:PE X p (gE X XR W cx a)) (t:PEs X XR W cx es ps):PEs X XR W cx (.star a es) (.Starred p pp::ps)
theorem PEs.pa:∀ {es:Es} {ps:List Expr},PEs X XR W cx es ps→PA X ps (gEs X XR W cx es)
 | _,_,.nil=>a_nil
 | _,_,.cons hs ha t=>a_cons hs ha t.pa
 | _,_,.star ha t=>a_star ha t.pa
def trs (X:Cx)(XR:XRel)(W:WX)(cx:Ctx):List K0→Es→List (TE × TE)
 | k::ks,.cons a es=>(tC (kV (kOf k)),gE X XR W cx a)::trs X XR W cx ks es
 | _,_=>[]
theorem pps_of {pos:Pos}:∀ {ks:List K0} {ks':List (Option Expr)} {es:Es} {ps:List Expr},keysB ks ks'=true→ks'.length=ps.length→(ps.all fun p=>!isStar p)=true→PEs X XR W cx es ps→PPs X pos ks' ps (trs X XR W cx ks es)
 | [],[],_,_,_,hl,_,.nil=>by unfold trs;exact pps_nil
 | k::ks,o::ks',_,_,hk,hl,hs,.cons hp ha t=>by
  simp only [keysB,Bool.and_eq_true] at hk
  simp only [List.all_cons,Bool.and_eq_true] at hs
  have rest:=pps_of (pos:=pos) hk.2 (by simpa using hl) hs.2 t
  have k1:=hk.1
  unfold keyB at k1
  split at k1
  ·have e:=of_decide_eq_true k1
   subst e
   exact pps_cons pe_int ha rest
  ·have e:=of_decide_eq_true k1
   subst e
   unfold trs
   show PPs X pos _ _ ((tC (V.str ⟨_⟩),_)::_)
   rw [str_of]
   exact pps_cons pe_str ha rest
  ·cases k1
 | _::_,_::_,_,_,_,_,hs,.star _ _=>by simp [isStar] at hs
 | [],_::_,_,_,hk,_,_,_=>by simp [keysB] at hk
 | _::_,[],_,_,hk,_,_,_=>by simp [keysB] at hk
 | _::_,_::_,_,_,_,hl,_,.nil=>by simp at hl
 | [],[],_,_,_,hl,_,.cons _ _ _=>by simp at hl
 | [],[],_,_,_,hl,_,.star _ _=>by simp at hl
theorem mergeK_nd:∀ (kvs acc:List (Key × V)),((acc++kvs).map (·.1)).Nodup→mergeK acc kvs=acc++kvs
 | [],acc,_=>by simp [mergeK]
 | p::r,acc,h=>by
  have e:putK acc p.1 p.2=acc++[p]:=by
   unfold putK
   rw [if_neg]
   intro z
   rw [List.any_eq_true] at z
   obtain ⟨y,hy,he⟩:=z
   simp only [List.map_append,List.map_cons] at h
   rw [List.nodup_append] at h
   exact h.2.2 y.1 (List.mem_map_of_mem hy) p.1 List.mem_cons_self (by simpa using he)
  show mergeK (putK acc p.1 p.2) r=_
  rw [e,mergeK_nd r (acc++[p]) (by simpa using h)]
  simp
theorem pairs_in:∀ {ks:List K0} {es:Es} {ps:List Expr} {σ:L2.St} {H:Hp} {Q:List V→Hp→Prop} {R:List (V × V)→Hp→Prop},ks.length=ps.length→(ps.all fun p=>!isStar p)=true→PEs X XR W cx es ps→gEs X XR W cx es σ H Q →
  (∀ vs H2,vs.length=ks.length→Q vs H2→R (List.zipWith (fun k v=>(kV (kOf k),v)) ks vs) H2)→tPairs (trs X XR W cx ks es) σ H R
 | [],_,_,σ,H,Q,R,hl,hs,.nil,h,k=>by
  obtain ⟨F,B,env,st,ok,h⟩:=h
  unfold evEs at h
  exact k [] H rfl (h [] F H (Ext.refl F H) ok.sr .nil)
 | k::ks,.cons a es,_,σ,H,Q,R,hl,hs,.cons hp ha t,h,kk=>by
  obtain ⟨F,B,env,st,ok,h⟩:=h
  unfold evEs at h
  simp only [List.all_cons,Bool.and_eq_true] at hs
  show gE X XR W cx a σ H fun y H2=>tPairs (trs X XR W cx ks es) σ H2 fun prs H3=>_
  refine tE.firstS ok h fun d1 st1 v1 F1 H1 x1 ok1 r1 h=>?_
  have h2:gEs X XR W cx es σ H1 fun vs H2=>Q (v1::vs) H2:=by
   refine tEs.firstS ok1 (h.shift x1) fun ds st2 vs F2 H2 x2 ok2 r2 h=>?_
   exact h _ F2 H2 x2 ok2.sr (.cons (r1.ext x2) r2)
  exact pairs_in (ks:=ks) (by simpa using hl) hs.2 t h2 fun vs H2 e q=>kk (v1::vs) H2 (by simp [e]) q
 | _::_,_,_,_,_,_,_,_,hs,.star _ _,_,_=>by simp [isStar] at hs
 | _::_,_,_,_,_,_,_,hl,_,.nil,_,_=>by simp at hl
 | [],_,_,_,_,_,_,hl,_,.cons _ _ _,_,_=>by simp at hl
 | [],_,_,_,_,_,_,hl,_,.star _ _,_,_=>by simp at hl
theorem keysB_len:∀ {ks:List K0} {ks':List (Option Expr)},keysB ks ks'=true→ks.length=ks'.length∧ks'.all (·.isSome)=true
 | [],[],_=>⟨rfl,rfl⟩
 | k::ks,o::ks',h=>by
  simp only [keysB,Bool.and_eq_true] at h
  obtain ⟨h1,h2⟩:=keysB_len h.2
  have z:o.isSome=true:=by
   have:=h.1
   unfold keyB at this
   split at this<;>first|rfl|cases this
  exact ⟨by simp [h1],by simp [z];simpa using h2⟩
 | [],_::_,h=>by simp [keysB] at h
 | _::_,[],h=>by simp [keysB] at h
theorem kOf_inj:∀ {a b:K0},kOf a=kOf b→a=b:=by
 intro a b h
 cases a<;>cases b<;>simp [kOf] at h ⊢ <;> exact h
theorem zip_kvs:∀ (ks:List K0) (vs:List V),vs.length=ks.length→((ks.map kOf).zip vs).map (fun kv=>(kV kv.1,kv.2))=List.zipWith (fun k v=>(kV (kOf k),v)) ks vs∧((ks.map kOf).zip vs).map (·.1)=ks.map kOf∧((ks.map kOf).zip vs).map (·.2)=vs
 | [],[],_=>⟨rfl,rfl,rfl⟩
 | k::ks,v::vs,h=>by
  obtain ⟨h1,h2,h3⟩:=zip_kvs ks vs (by simpa using h)
  simp [h1,h2,h3]
 | [],_::_,h=>by simp at h
 | _::_,[],h=>by simp at h
theorem OkE.mark {K:PySem.W.Frag}{w:World}{F:Foot}{B:Addr→Prop}{σ:L2.St}{H:Hp}{env:Env}{st:St}(ok:OkE K w F B σ H env st){p:Addr}{o:HO}(hp:H p=none):OkE K w F (fun b=>B b∨b=p) σ (upd H p o) env st:=by
 have mv:∀ {v:V} {d:D},Rep K w F B H v d→Rep K w F (fun b=>B b∨b=p) (upd H p o) v d:=fun r=>r.move (fun a f b hn=>⟨upd_ne fun e=>hn (by rw [e];exact hp),f,fun z=>z.elim b fun e=>hn (by rw [e];exact hp)⟩) fun _ e=>e
 have mvl:∀ {v:List V} {d:List D},RepL K w F B H v d→RepL K w F (fun b=>B b∨b=p) (upd H p o) v d:=fun r=>r.move (fun a f b hn=>⟨upd_ne fun e=>hn (by rw [e];exact hp),f,fun z=>z.elim b fun e=>hn (by rw [e];exact hp)⟩) fun _ e=>e
 refine ⟨ok.len,fun i d e=>?_,fun i s os e=>?_,ok.apart,fun b hb=>?_,ok.sr.new hp⟩
 ·obtain ⟨v,h1,h2⟩:=ok.val i d e
  exact ⟨v,h1,mv h2⟩
 ·obtain ⟨a,h1,h2,h4,h5⟩:=ok.own i s os e
  exact ⟨a,h1,h2.move mvl (upd_ne fun e=>h2.occ (by rw [e];exact hp)),.inl h4,h5⟩
 ·rcases hb with hb|rfl
  ·exact upd_occ (ok.occ b hb)
  ·rw [upd_same];simp
theorem x_dct {ks:List K0}{ks':List (Option Expr)}(hk:keysB ks ks'=true)(hl:ks'.length=ps.length)(h0:ks'≠[])(h15:ks.length≤15)(hnd:ks.Nodup)(hs:(ps.all fun p=>!isStar p)=true)(hp:PEs X XR W cx es ps):PE X (.Dict ks' ps pos) (gE X XR W cx (.dct ks es)):=by
 obtain ⟨k1,k2⟩:=keysB_len hk
 refine PE.of (pe_disp (pps_of hk hl hs hp) k2 hl h0 (by rw [← k1];exact h15)) fun σ H Q h=>?_
 intro p hn
 obtain ⟨F,B,env,st,ok,h⟩:=h
 unfold evE at h
 have ok':=ok.mark (o:=.dK []) hn
 have nd:(ks.map kOf).Nodup:=by
  clear h hp h0 h15 hl hk k1 k2
  induction ks with
  | nil=>simp
  | cons a r ih =>
   rw [List.nodup_cons] at hnd
   rw [List.map_cons,List.nodup_cons]
   refine ⟨fun z=>?_,ih hnd.2⟩
   obtain ⟨b,hb,e⟩:=List.mem_map.mp z
   rw [← kOf_inj e] at hnd
   exact hnd.1 hb
 refine pairs_in (Q:=fun vs H2=>H2 p=some (.dK [])∧∀ kvs:List (Key × V),kvs.map (·.1)=ks.map kOf→kvs.map (·.2)=vs→Q (.ref p) (upd H2 p (.dK kvs))) (by rw [k1,hl]) hs hp ?_ fun vs H2 e ⟨q1,q2⟩=>?_
 ·refine ⟨F,_,env,st,ok',?_⟩
  cases e:evEs cx es env st with
  | no=>rw [e] at h;exact h
  | exc c fs st' =>
   rw [e] at h
   exact fun cls dx F' H' y s r=>h cls dx F' H' ((Ext.new hn).trans y) s r
  | ok ds st' =>
   rw [e,R.bind_ok] at h
   split at h
   ·rename_i hz
    intro vs F' H2 y s r
    have hp2:=y.keep p (fun f=>ok.sr.occ p f hn) (by rw [upd_same];simp)
    rw [upd_same] at hp2
    refine ⟨hp2.1,fun kvs e1 e2=>?_⟩
    have hx:Ext F H F' (upd H2 p (.dK kvs)):=by
     constructor
     ·intro b f hb
      have hbp:b≠p:=fun e=>hb (by rw [e];exact hn)
      have:=y.keep b f (by rw [upd_ne hbp];exact hb)
      rw [upd_ne hbp] at this
      exact ⟨by rw [upd_ne hbp];exact this.1,this.2⟩
     ·intro b hb
      have hbp:b≠p:=fun e=>hb (by rw [e];exact hn)
      rw [upd_ne hbp]
      exact y.occ b (by rw [upd_ne hbp];exact hb)
     ·exact y.at_
    have nb:¬ B p:=fun b=>ok.occ p b hn
    refine h (.ref p) F' _ hx (s.keep fun b hb=>upd_ne fun e=>hp2.2 (by rw [← e];exact hb)) ?_ (fun z=>by cases z)
    refine .dct upd_same hp2.2 nb e1 ?_
    rw [e2]
    exact r.move (fun a f b _=>⟨upd_ne fun e=>b (.inr e),f,fun z=>b (.inl z)⟩) fun _ e=>e
   ·exact h.elim
 ·obtain ⟨z1,z2,z3⟩:=zip_kvs ks vs e
  refine ⟨q1,(ks.map kOf).zip vs,z1.symm,?_,?_⟩
  ·simp [e];omega
  ·rw [mergeK_nd _ [] (by rw [List.nil_append,z2];exact nd),List.nil_append]
   exact q2 _ z2 z3
end
end PL
end
section
namespace PL
open PySem PySem.Spec PyProof.Rows L2
theorem meets_enumerate_newT {v:Value}{o:Obj}{P:Heap→Prop}(B:Begins v o P) :
  Meets (Builtin.«enumerate.__new__» ⟨[.type "enumerate", v], []⟩) (fun _ R s => P s.heap ∧
   R (.ok (.ret (.ref (s.heap.push o).objs.size))) { s with heap := (s.heap.push o).push { cls := .type "enumerate", data := .fields #[.none, .bool false, .ref s.heap.objs.size, rawInt 0, .none, .none] } }) :=
 .of_wp fun prog w A R s q=>by
  obtain ⟨hp,g,d,tk,os⟩:=s
  obtain ⟨h1,q⟩:=q
  have hsub:=sub_enumerate
  have go:∀ {A':Around} {E:Value→Shared→Prop} {Q:Value→Shared→Prop},Q (.ref hp.objs.size) ⟨hp.push o,g,d,tk,os⟩→wpAny (model prog w) A' (pyIter v) Q E ⟨hp,g,d,tk,os⟩ :=
   fun z=>B.iter prog w _ _ ⟨hp,g,d,tk,os⟩ _ h1 z
  wp_walk using go
  refine wpAny_stack_any fun st=>wpAny_pure ?_
  split
  ·rename_i c _ _ _ _ _
   cases (c == Value.type "enumerate")
   ·wp_walk using go
    exact ⟨_,rfl,q⟩
   ·wp_walk using go
    exact ⟨_,rfl,q⟩
  ·wp_walk using go
   exact ⟨_,rfl,q⟩
section
variable {prog:Program}{w:World}{A:Around}{E:Value→Shared→Prop}{s:Shared}
theorem enumT_begins {a:Addr}{its:Array Value}{Q:Value→Shared→Prop}(h1:s.heap.IsTuple a its)
  (h:∀ h',IsEnum h' (s.heap.objs.size+1) s.heap.objs.size 0 .none→h'.IsTupleIter s.heap.objs.size a 0 →
   (∀ b o,s.heap.get? b=some o→h'.get? b=some o)→Q (.ref (s.heap.objs.size+1)) { s with heap:=h' }) :
  wpAny (model prog w) A (call (.type "enumerate") [.ref a]) Q E s := by
 have B:=begins_tuple a its
 refine callType_new F.called_enumerate (by decide) (F.typeCall_enumerate_1 _) (F.newCall_enumerate_1 _) (fun obj=>F.args_object_init_2 obj _) F.entry_enumerate_new (meets_enumerate_newT B) ⟨h1,?_⟩
 have hz : (s.heap.push { cls := .type "tuple_iterator", data := .fields #[.ref a, .int 0 0] }).objs.size = s.heap.objs.size + 1 := Heap.size_push ..
 show _∧_
 rw [hz]
 have he : IsEnum ((s.heap.push { cls := .type "tuple_iterator", data := .fields #[.ref a, .int 0 0] }).push { cls := .type "enumerate", data := .fields #[.none, .bool false, .ref s.heap.objs.size, rawInt 0, .none, .none] }) (s.heap.objs.size + 1) s.heap.objs.size 0 .none := by
  have z := Heap.get?_push_size (s.heap.push { cls := .type "tuple_iterator", data := .fields #[.ref a, .int 0 0] }) (o := { cls := .type "enumerate", data := .fields #[.none, .bool false, .ref s.heap.objs.size, rawInt 0, .none, .none] }) rfl
  rw [hz] at z
  exact z
 exact ⟨⟨_,he,rfl⟩,h _ he ⟨_,Heap.get?_push_of_some _ (Heap.get?_push_size _ rfl),rfl,rfl⟩ fun b o x=>Heap.get?_push_of_some _ (Heap.get?_push_of_some _ x)⟩
end
def IteT (K:PySem.W.Frag)(a:Addr):L2.It :=
 ⟨fun i H=>∃ (xs:List V) (x:V),SqT K H a xs∧xs[i]?=some x,fun i H v H'=>∃ T x,v=.ref T∧H T=none∧H'=upd H T (.tup [.int (i:Nat),x])∧∀ xs,SqT K H a xs→xs[i]?=some x,fun i H=>∃ xs:List V,SqT K H a xs∧xs.length=i⟩
theorem turn_enumT {P:Program}{w:World}{K:PySem.W.Frag}{elts:List Expr}{kk:Nat}{tpos:Pos}{a e it:Addr}(ha:a≠e)(hai:a≠it) :
  Turn P w K (.Tuple elts kk tpos) (IteT K a) [e,it] e (fun i h=>(∃ old,IsEnum h e it ((i:Nat):Int) old)∧h.IsTupleIter it a i∧e≠it) where
 mem:=by simp
 obj:=fun i h st b hb=>by
  obtain ⟨⟨old,he⟩,⟨o,ho,hc,hd⟩,_⟩:=st
  rcases (show b=e∨b=it by simpa using hb) with z|z
  ·subst z;exact ⟨_,he,fun v q=>nomatch q⟩
  ·subst z;exact ⟨o,ho,fun v q=>by rw [hd] at q;cases q⟩
 keep:=fun i h h' st k=>by
  obtain ⟨⟨old,he⟩,hi,hne⟩:=st
  exact ⟨⟨old,k e (by simp) _ he⟩,hi.at fun o q=>k it (by simp) o q,hne⟩
 item:=by
  intro X hP hw hK hc i pins s σ H E I hf st hg
  subst hP hw hK
  obtain ⟨⟨old,he⟩,hit,hne⟩:=st
  obtain ⟨xs,x,hq,hx⟩:=hg
  obtain ⟨its,rv,p,hz⟩:=I.tuple hq
  obtain ⟨u,hu,ru⟩:=rv.get hx
  have hel:e<s.heap.objs.size:=Heap.lt_size he
  have hil:it<s.heap.objs.size:=by obtain ⟨_,q,_⟩:=hit;exact Heap.lt_size q
  have hlt:i<its.toArray.size:=by
   have:=(List.getElem?_eq_some_iff.mp hu).1
   simpa using this
  have D:=Draws.tuple (prog:=X.prog) (w:=X.w) (A:=X.A.in1) (show X.A.in1.handled=none from I.ok.hd hc) it a hai its.toArray
  refine wpAny_pyNext_enum_itemC D he ⟨hit,p⟩ hlt hne (by simp [hne];exact fun z=>ha z.symm) fun y h' tk hy ho hst' hT hsz hk=>?_
  have ey:y=u:=by
   have hu':its.toArray[i]?=some u:=by simpa using hu
   rw [hu'] at hy
   exact (Option.some.inj hy).symm
  subst ey
  refine ⟨_,rfl,wpAny_letOwnedTupleGo_enum (s:={ s with heap:=h',toks:=tk+1 }) ho fun h'' he' sb=>?_⟩
  have hT2 : h''.get? s.heap.objs.size = some { cls := .type "tuple", data := .seq #[.int i tk, y] } := (sb.2 _ (Nat.ne_of_gt hel)).trans hT
  have new:ObjOk X.prog X.w (upd H s.heap.objs.size (.tup [.int (i:Nat),x])) h'' s.heap.objs.size (.tup [.int (i:Nat),x]) :=
   ⟨by show 2≤sizeLine;decide,[.int i tk,y],.cons ⟨_,rfl⟩ (.cons ru .nil),⟨_,hT2,rfl,_,rfl⟩⟩
  have I1:Inv X pins σ (upd H s.heap.objs.size (.tup [.int (i:Nat),x])) { s with heap:=h'',toks:=tk+1 } :=
   I.turnedNew (ch:=[e,it]) (fun b ob hb q=>(sb.2 b (fun z=>hb (by simp [z]))).trans (hk b ob (fun z=>hb (by simp [z])) (fun z=>hb (by simp [z])) q)) hf (Nat.le_refl _) new
  refine ⟨.ref s.heap.objs.size,_,I1,rfl,⟨_,x,rfl,I.hok.fresh (Nat.le_refl _),rfl,fun ys hy=>by rw [I.tuple_inj hy hq];exact hx⟩,⟨⟨y,?_⟩,hst'.1.at fun o q=>(sb.2 it (Ne.symm hne)).trans q,hne⟩,fun b hb=>?_⟩
  ·have e1:((i+1:Nat):Int)=(i:Int)+1:=by omega
   rw [e1];exact he'
  ·have hb':b<s.heap.objs.size:=by
    rcases (show b=e∨b=it by simpa using hb) with z|z
    ·rw [z];exact hel
    ·rw [z];exact hil
   rw [upd_ne (Nat.ne_of_lt hb')]
   exact (hf b hb).1
 done:=by
  intro X hP hw hK hc i pins s σ H E I hf st hg
  subst hP hw hK
  obtain ⟨⟨old,he⟩,hit,hne⟩:=st
  obtain ⟨xs,hq,hx⟩:=hg
  obtain ⟨its,rv,p,hz⟩:=I.tuple hq
  obtain ⟨f0,f1,f2,f3,f4,f5⟩:=hf it (by simp)
  have hl:=rv.length
  have D:=Draws.tuple (prog:=X.prog) (w:=X.w) (A:=X.A.in1) (show X.A.in1.handled=none from I.ok.hd hc) it a hai its.toArray
  have hn:its.toArray.size=i:=by rw [List.size_toArray,← hl,hx]
  exact wpAny_pyNext_enum_endD D he ⟨by rw [hn];exact hit,p⟩ fun h' eb=>⟨rfl,I.turned (t':=s.toks) (fun b o hb q=>eb b o hb q) f0 f1 f3 f4 f5⟩
 self:=fun A i s Q E st h=>by
  obtain ⟨⟨_,he⟩,_⟩:=st
  exact wpAny_pyIter_enum he h
def iEnumA (K:PySem.W.Frag)(ta:TA):TI:=fun σ H R=>ta σ H fun vs H1=>∃ a xs,vs=[.ref a]∧((SqL K H1 a xs∧R (Ite K a) H1)∨(SqT K H1 a xs∧R (IteT K a) H1))
theorem pi_enumA {X : Cx}{e : Expr}{ta : TA}{p pos tpos : Pos}{elts : List Expr}{kk : Nat}(hg : Gl X "enumerate")(hm : X.mg "enumerate" = none)(ha : PA X [e] ta)(hs : starEach [e] X.env = [(false, eval e X.env)]) :
  PI X (.Tuple elts kk tpos) (.Call (.Name "enumerate" p) [e] [] pos) (iEnumA X.K ta) := by
 refine ⟨fun pins s σ H R I h=>?_⟩
 refine Call_ (ld_blt I hg hm boot_enumerate (PyProof.Rows.callWith_type1 (thn (ha.run pos pins s σ H _ I h) fun us s1 ⟨vs,H1,I1,r1,q1⟩=>?_) hs rfl))
 obtain ⟨a,xs,ex,q1⟩:=q1
 subst ex
 obtain ⟨u,rfl,ru⟩:=vals1 r1
 cases ru
 have frs:∀ b,b∈[s1.heap.objs.size+1,s1.heap.objs.size]→FpOk X pins H1 b:=fun b hb=>by
  have hle:s1.heap.objs.size≤b:=by
   rcases (show b=s1.heap.objs.size+1∨b=s1.heap.objs.size by simpa using hb) with z|z
   ·rw [z];exact Nat.le_add_right _ _
   ·rw [z];exact Nat.le_refl _
  exact I1.fpOk hle (I1.hok.fresh hle)
 rcases q1 with ⟨hq,q⟩|⟨hq,q⟩
 ·obtain ⟨its,rv,p',hz⟩:=I1.list hq
  exact call_enumerate_list p'.isList fun h' he hit _ hk=>wpAny_pyIter_enum he ⟨s1.heap.objs.size+1,_,_,_,H1,rfl,I1.kept (t':=s1.toks) hk,turn_enum a (s1.heap.objs.size+1) s1.heap.objs.size,⟨⟨.none,he⟩,hit,Nat.succ_ne_self _⟩,frs,q⟩
 ·obtain ⟨its,rv,p',hz⟩:=I1.tuple hq
  have la:a<s1.heap.objs.size:=p'.lt
  exact enumT_begins p' fun h' he hit hk=>wpAny_pyIter_enum he ⟨s1.heap.objs.size+1,_,_,_,H1,rfl,I1.kept (t':=s1.toks) hk,turn_enumT (Nat.ne_of_lt (Nat.lt_succ_of_lt la)) (Nat.ne_of_lt la),⟨⟨.none,he⟩,hit,Nat.succ_ne_self _⟩,frs,q⟩
end PL
end
section
namespace PL
open PySem PySem.Spec PyProof.Rows L2
section
end
end PL
end
section
namespace PL
open PySem PySem.Spec PyProof.Rows L2
structure Lat (F:Foot)(B:Addr→Prop)(H:Hp)(F':Foot)(B':Addr→Prop)(H':Hp):Prop where
 keep:∀ a,¬ F.inn a→¬ B a→H a≠none→H' a=H a∧¬ F'.inn a∧¬ B' a
 at_:∀ a,F.at_=some a→F'.at_=some a
theorem Lat.refl {F:Foot}{B:Addr→Prop}{H:Hp}:Lat F B H F B H:=⟨fun _ f b _=>⟨rfl,f,b⟩,fun _ e=>e⟩
theorem Lat.trans {F F1 F2:Foot}{B B1 B2:Addr→Prop}{H H1 H2:Hp}(x:Lat F B H F1 B1 H1)(y:Lat F1 B1 H1 F2 B2 H2):Lat F B H F2 B2 H2 :=
 ⟨fun a f b h=>by
  obtain ⟨e1,f1,b1⟩:=x.keep a f b h
  obtain ⟨e2,f2,b2⟩:=y.keep a f1 b1 (by rw [e1];exact h)
  exact ⟨e2.trans e1,f2,b2⟩,fun a e=>y.at_ a (x.at_ a e)⟩
theorem Ext.lat {F F':Foot}{B:Addr→Prop}{H H':Hp}(x:Ext F H F' H'):Lat F B H F' B H':=⟨fun a f b h=>⟨(x.keep a f h).1,(x.keep a f h).2,b⟩,x.at_⟩
section
variable {K:PySem.W.Frag}{w:World}{F F':Foot}{B B':Addr→Prop}{H H':Hp}
theorem Rep.lat {v:V}{d:D}(r:Rep K w F B H v d)(x:Lat F B H F' B' H'):Rep K w F' B' H' v d:=r.move x.keep x.at_
theorem RepL.lat {v:List V}{d:List D}(r:RepL K w F B H v d)(x:Lat F B H F' B' H'):RepL K w F' B' H' v d:=r.move x.keep x.at_
end
def Yields (K:PySem.W.Frag)(w:World)(F:Foot)(B:Addr→Prop)(H:Hp)(J:L2.It)(ds:List D):Prop :=
 ∀ F2 B2 H2,Lat F B H F2 B2 H2→∀ i,(∀ d,ds[i]?=some d→J.go i H2∧∀ x H3,J.yld i H2 x H3→(∀ b,F2.inn b→H2 b≠none)→(∀ b,B2 b→H2 b≠none)→Ext F2 H2 F2 H3∧(∀ b,F2.inn b→H3 b=H2 b)∧Rep K w F2 B2 H3 x d)∧(i=ds.length→J.stop i H2)
def tI (K:PySem.W.Frag)(w:World)(XR:XRel)(W:WX)(cx:Ctx)(it:It):TI:=fun σ H R =>
 ∃ F B env st,OkE K w F B σ H env st∧match evI cx it env st with
  | .ok ds st'=>∀ J F' H',Ext F H F' H'→SR st' F' H'→Yields K w F' B H' J ds→R J H'
  | .exc c fs st'=>∀ cls dx F' H',Ext F H F' H'→SR st' F' H'→XR c fs cls dx F' H'→W cls dx σ H'
  | .no=>False
abbrev gI (X:Cx)(XR:XRel)(W:WX)(cx:Ctx)(it:It):TI:=tI X.K X.w XR W cx it
theorem PI.of {X:Cx}{tg e:Expr}{t t':TI}(h:PI X tg e t)(i:∀ σ H R,t' σ H R→t σ H R):PI X tg e t':=⟨fun pins s σ H R I q=>h.run pins s σ H R I (i _ _ _ q)⟩
section
variable {K:PySem.W.Frag}{w:World}{F:Foot}{B:Addr→Prop}{H:Hp}{v:V}
theorem yields_same {J:L2.It}{ds:List D}{xs:List V}(r:RepL K w F B H xs ds)(g:∀ F2 B2 H2,Lat F B H F2 B2 H2→∀ i,(∀ x,xs[i]?=some x→J.go i H2∧∀ y H3,J.yld i H2 y H3→H3=H2∧y=x)∧(xs.length≤i→J.stop i H2)):Yields K w F B H J ds:=by
 intro F2 B2 H2 l i
 obtain ⟨g1,g2⟩:=g F2 B2 H2 l i
 refine ⟨fun d e=>?_,fun e=>g2 ?_⟩
 ·obtain ⟨x,h1,h2⟩:=r.get e
  obtain ⟨g3,g4⟩:=g1 x h1
  refine ⟨g3,fun y H3 hy _ _=>?_⟩
  obtain ⟨rfl,rfl⟩:=g4 y H3 hy
  exact ⟨Ext.refl _ _,fun _ _=>rfl,h2.lat l⟩
 ·rw [r.length,e]
  exact Nat.le_refl _
theorem yields_lst {a:Addr}{ds:List D}(r:Rep K w F B H (.ref a) (.lst ds)):(∃ xs,SqL K H a xs)∧Yields K w F B H (Itl K a) ds:=by
 cases r with
 | lst h f b r =>
  rename_i xs
  refine ⟨⟨xs,.of h⟩,yields_same r fun F2 B2 H2 l i=>?_⟩
  have e:H2 a=some (.lst xs):=by rw [(l.keep a f b (by rw [h];simp)).1];exact h
  exact ⟨fun x hx=>⟨⟨xs,x,.of e,hx⟩,fun y H3 ⟨e3,hy⟩=>⟨e3,by have:=hy xs (.of e);rw [hx] at this;exact (Option.some.inj this).symm⟩⟩,fun hx=>⟨xs,.of e,hx⟩⟩
theorem yields_tup {a:Addr}{ds:List D}(r:Rep K w F B H (.ref a) (.tup ds)):(∃ xs,SqT K H a xs)∧Yields K w F B H (Itt K a) ds:=by
 cases r with
 | tup h f b r =>
  rename_i xs
  refine ⟨⟨xs,.of h⟩,yields_same r fun F2 B2 H2 l i=>?_⟩
  have e:H2 a=some (.tup xs):=by rw [(l.keep a f b (by rw [h];simp)).1];exact h
  exact ⟨fun x hx=>⟨⟨xs,x,.of e,hx⟩,fun y H3 ⟨e3,hy⟩=>⟨e3,by have:=hy xs (.of e);rw [hx] at this;exact (Option.some.inj this).symm⟩⟩,fun hx=>⟨xs,.of e,hx⟩⟩
 | tupW lk c d z vv r =>
  rename_i xs o its n
  have e:∀ H2,SqT K H2 a xs:=fun H2=>.inr ⟨_,_,_,lk,c,d,z,vv⟩
  refine ⟨⟨xs,e H⟩,yields_same r fun F2 B2 H2 l i=>?_⟩
  exact ⟨fun x hx=>⟨⟨xs,x,e H2,hx⟩,fun y H3 ⟨e3,hy⟩=>⟨e3,by have:=hy xs (e H2);rw [hx] at this;exact (Option.some.inj this).symm⟩⟩,fun hx=>⟨xs,e H2,hx⟩⟩
end
section
variable {K:PySem.W.Frag}{w:World}{F:Foot}{B:Addr→Prop}{H:Hp}
theorem yields_scr {a:Addr}{ds:List D}(r:Rep K w F B H (.ref a) (.ob 1 ds)):(∃ xs,SqL K H a xs)∧Yields K w F B H (Itl K a) ds:=by
 obtain ⟨a0,l,e0,h0,rfl⟩:=r.isScr
 cases e0
 refine ⟨⟨_,h0⟩,yields_same (RepL.of_ints l) fun F2 B2 H2 lt i=>?_⟩
 have q:SqL K H2 a (l.map V.int):=by
  obtain ⟨a1,l1,e1,h1,e2⟩:=(r.lat lt).isScr
  cases e1
  have:l=l1:=by
   have:=congrArg D.ints e2
   simpa using this
  rw [this]
  exact h1
 have uniq:∀ xs,SqL K H2 a xs→∀ x,(l.map V.int)[i]?=some x→(xs[i]?=some x)→True:=fun _ _ _ _ _=>trivial
 exact ⟨fun x hx=>⟨⟨_,x,q,hx⟩,fun y H3 ⟨e3,hy⟩=>⟨e3,by have:=hy _ q;rw [hx] at this;exact (Option.some.inj this).symm⟩⟩,fun hx=>⟨_,q,hx⟩⟩
end
section
variable {X:Cx}{tg:Expr}
theorem pi_seq {l:Expr}{tl:TE}(hl:PE X l tl):PI X tg l (fun σ H R=>tl σ H fun x H1=>∃ a,x=.ref a∧(((∃ xs,SqL X.K H1 a xs)∧R (Itl X.K a) H1)∨((∃ xs,SqT X.K H1 a xs)∧R (Itt X.K a) H1))):=by
 refine ⟨fun pins s σ H R I h=>?_⟩
 refine thn (hl.run pins s σ H _ I h) fun v s1 ⟨x,H1,I1,r1,q1⟩=>?_
 obtain ⟨a,e,q⟩:=q1
 subst e
 cases r1
 rcases q with ⟨⟨xs,hq⟩,q⟩|⟨⟨xs,hq⟩,q⟩
 ·obtain ⟨its,rv,p,hz⟩:=I1.list hq
  refine wpAny_pyIter_list p.isList ?_
  refine ⟨s1.heap.objs.size,[s1.heap.objs.size],_,_,H1,rfl,I1.kept (t':=s1.toks) fun b o e=>Heap.get?_push_of_some _ e,turn_list a _,⟨_,Heap.get?_push_size _ rfl,rfl,rfl⟩,fun b hb=>?_,q⟩
  have e:b=s1.heap.objs.size:=by simpa using hb
  subst e
  exact I1.fpOk (Nat.le_refl _) (I1.hok.fresh (Nat.le_refl _))
 ·obtain ⟨its,rv,p,hz⟩:=I1.tuple hq
  refine wpAny_pyIter_tuple (show s1.heap.IsTuple a its.toArray from p) ?_
  refine ⟨s1.heap.objs.size,[s1.heap.objs.size],_,_,H1,rfl,I1.kept (t':=s1.toks) fun b o e=>Heap.get?_push_of_some _ e,turn_tuple a _,⟨_,Heap.get?_push_size _ rfl,rfl,rfl⟩,fun b hb=>?_,q⟩
  have e:b=s1.heap.objs.size:=by simpa using hb
  subst e
  exact I1.fpOk (Nat.le_refl _) (I1.hok.fresh (Nat.le_refl _))
end
section
variable {K:PySem.W.Frag}{w:World}{XR:XRel}{W:WX}{cx:Ctx}{F:Foot}{B:Addr→Prop}{σ:L2.St}{H:Hp}{env:Env}{st:St}
def RI (K:PySem.W.Frag)(w:World)(XR:XRel)(W:WX)(F:Foot)(B:Addr→Prop)(σ:L2.St)(H:Hp)(r:R (List D))(Q:L2.It→Hp→Prop):Prop :=
 match r with
 | .ok ds st'=>∀ J F' H',Ext F H F' H'→SR st' F' H'→Yields K w F' B H' J ds→Q J H'
 | .exc c fs st'=>∀ cls dx F' H',Ext F H F' H'→SR st' F' H'→XR c fs cls dx F' H'→W cls dx σ H'
 | .no=>False
theorem RI.shift {F1:Foot}{H1:Hp}(x:Ext F H F1 H1){r:R (List D)}{Q:L2.It→Hp→Prop}(h:RI K w XR W F B σ H r Q):RI K w XR W F1 B σ H1 r Q:=by
 cases r with
 | ok d st'=>exact fun v F' H' y s r=>h v F' H' (x.trans y) s r
 | exc c fs st'=>exact fun cls dx F' H' y s r=>h cls dx F' H' (x.trans y) s r
 | no=>exact h
theorem tE.firstI (o:OkE K w F B σ H env st){e:E}{f:D→St→R (List D)}{Q:L2.It→Hp→Prop}{Q':VK}
  (h:RI K w XR W F B σ H ((evE cx e env st).bind f) Q)
  (k:∀ d st' v F' H',Ext F H F' H'→OkE K w F' B σ H' env st'→Rep K w F' B H' v d→RI K w XR W F B σ H (f d st') Q→Q' v H'):tE K w XR W cx e σ H Q':=by
 refine ⟨F,B,env,st,o,?_⟩
 cases q:evE cx e env st with
 | ok d st' =>
  rw [q,R.bind_ok] at h
  intro v F' H' x s r _
  exact k d st' v F' H' x (o.ext x s) r h
 | exc c fs st'=>rw [q,R.bind_exc] at h;exact h
 | no=>rw [q,R.bind_no] at h;exact h
theorem yields_rng (i j:Int):Yields K w F B H (Itr i (j-i).toNat) (rngI i j):=by
 refine yields_same (rg_rep i j) fun F2 B2 H2 l k=>?_
 have hl:(rgV i j).length=(j-i).toNat:=by simp [rgV]
 refine ⟨fun x hx=>?_,fun hx=>by rw [hl] at hx;exact hx⟩
 have hk:k<(rgV i j).length:=(List.getElem?_eq_some_iff.mp hx).1
 refine ⟨by rw [hl] at hk;exact hk,fun y H3 ⟨e3,e4⟩=>⟨e3,?_⟩⟩
 rw [e4]
 unfold rgV at hx
 rw [List.getElem?_map,List.getElem?_range (by rw [hl] at hk;exact hk)] at hx
 simpa using hx
end
section
variable {X:Cx}{pr:Prog}{XR:XRel}{C:SC}{n:Nat}{W:WX}{cx:Ctx}
variable {p q r tg:Expr}{ps:List Expr}{a b c:E}{es:Es}{pos:Pos}
theorem i_seq (ha:PE X p (gE X XR W cx a)):PI X tg p (gI X XR W cx (.seq a)):=by
 refine PI.of (pi_seq ha) fun σ H Q h=>?_
 obtain ⟨F,B,env,st,ok,h⟩:=h
 unfold evI at h
 refine tE.firstI ok h fun d1 st1 v1 F1 H1 x1 ok1 r1 h=>?_
 cases d1 with
 | tup ys =>
  obtain ⟨a,xs,rfl,h1,l1⟩:=r1.isT
  obtain ⟨z1,z2⟩:=yields_tup r1
  exact ⟨a,rfl,.inr ⟨z1,h _ F1 H1 x1 ok1.sr z2⟩⟩
 | lst ys =>
  obtain ⟨a,xs,rfl,h1,l1⟩:=r1.isL
  obtain ⟨z1,z2⟩:=yields_lst r1
  exact ⟨a,rfl,.inl ⟨z1,h _ F1 H1 x1 ok1.sr z2⟩⟩
 | ob t ys =>
  by_cases ht:t=1
  ·subst ht
   obtain ⟨a,l,rfl,h1,_⟩:=r1.isScr
   obtain ⟨z1,z2⟩:=yields_scr r1
   exact ⟨a,rfl,.inl ⟨z1,h _ F1 H1 x1 ok1.sr z2⟩⟩
  ·have hw:D.walk (.ob t ys)=none:=by
    unfold D.walk
    split
    ·rename_i e;cases e
    ·rename_i e;cases e
    ·rename_i e;cases e;exact absurd rfl ht
    ·rfl
   rw [hw] at h
   exact h.elim
 | _=>exact h.elim
theorem i_rng1 (G : Good X pr XR C n){pp : Pos}(hg : Gl X "range")(hs : isStar p = false)(ha : PE X p (gE X XR W cx a)) : PI X tg (.Call (.Name "range" pp) [p] [] pos) (gI X XR W cx (.rng1 a)) := by
 have he:=star_ns hs [] X.env
 refine PI.of (pi_range1 hg (G.blt _ (by decide)) (pa_cons ha pa_nil he) he) fun σ H Q h=>?_
 obtain ⟨F,B,env,st,ok,h⟩:=h
 unfold evI at h
 refine tE.firstI ok h fun d1 st1 v1 F1 H1 x1 ok1 r1 h=>?_
 cases d1 with
 | int j =>
  cases r1
  have h2:RI X.K X.w XR W F B σ H (R.lift (if (okR 0&&okR j)=true then some (rngI 0 j) else none) st1) Q:=h
  split at h2
  ·rename_i hz
   simp only [Bool.and_eq_true] at hz
   obtain ⟨h3,h4⟩:=okR_iff.mp hz.2
   refine ⟨j,rfl,h3,h4,?_⟩
   have:=h2 _ F1 H1 x1 ok1.sr (yields_rng 0 j)
   rw [Int.sub_zero] at this
   exact this
  ·exact h2.elim
 | _=>exact h.elim
theorem new_pair {K:PySem.W.Frag}{w:World}{F:Foot}{B:Addr→Prop}{H:Hp}{T:Addr}{x y:V}{dx dy:D}(hT:H T=none)(oF:∀ b,F.inn b→H b≠none)(oB:∀ b,B b→H b≠none)(rx:Rep K w F B H x dx)(ry:Rep K w F B H y dy) :
  Ext F H F (upd H T (.tup [x,y]))∧(∀ b,F.inn b→upd H T (.tup [x,y]) b=H b)∧Rep K w F B (upd H T (.tup [x,y])) (.ref T) (.tup [dx,dy]) :=
 ⟨Ext.new hT,fun b hb=>upd_ne fun e=>oF b hb (by rw [e];exact hT),.tup upd_same (fun f=>oF T f hT) (fun b=>oB T b hT) ((RepL.cons rx (.cons ry .nil)).ext (Ext.new hT))⟩
theorem enmD_get:∀ (ds:List D) (s:Int) (i:Nat),(enmD s ds)[i]?=(ds[i]?).map fun d=>.tup [.int (s+i),d]
 | [],_,i=>by simp [enmD]
 | d::ds,s,0=>by simp [enmD]
 | d::ds,s,i+1=>by
  simp only [enmD,List.getElem?_cons_succ,enmD_get ds (s+1) i]
  congr 1
  funext d
  have:s+1+(i:Int)=s+((i+1:Nat):Int):=by omega
  rw [this]
theorem enmD_len:∀ (ds:List D) (s:Int),(enmD s ds).length=ds.length
 | [],_=>rfl
 | _::ds,s=>by simp [enmD,enmD_len ds]
theorem zipD_len:∀ (ds es:List D),(zipD ds es).length=min ds.length es.length
 | [],es=>by cases es<;>simp [zipD]
 | _::_,[]=>by simp [zipD]
 | _::ds,_::es=>by simp [zipD,zipD_len ds es]
theorem zipD_get:∀ (ds es:List D) (i:Nat) ,(zipD ds es)[i]?=(ds[i]?).bind fun x=>(es[i]?).map fun y=>.tup [x,y]
 | [],es,i=>by cases es<;>simp [zipD]
 | _::_,[],i=>by simp [zipD]
 | d::ds,e::es,0=>by simp [zipD]
 | d::ds,e::es,i+1=>by simp only [zipD,List.getElem?_cons_succ,zipD_get ds es i]
theorem yields_enm {K:PySem.W.Frag}{w:World}{F:Foot}{B:Addr→Prop}{H:Hp}{a:Addr}{ds:List D}(r:Rep K w F B H (.ref a) (.lst ds)):(∃ xs,SqL K H a xs)∧Yields K w F B H (Ite K a) (enmD 0 ds):=by
 cases r with
 | lst h f b r =>
  rename_i xs
  refine ⟨⟨xs,.of h⟩,fun F2 B2 H2 l i=>?_⟩
  have e:H2 a=some (.lst xs):=by rw [(l.keep a f b (by rw [h];simp)).1];exact h
  refine ⟨fun d hd=>?_,fun hd=>?_⟩
  ·rw [enmD_get] at hd
   obtain ⟨d0,h0,rfl⟩:=Option.map_eq_some_iff.mp hd
   obtain ⟨x,h1,h2⟩:=r.get h0
   refine ⟨⟨xs,x,.of e,h1⟩,fun y H3 hy oF oB=>?_⟩
   obtain ⟨T,x',rfl,hT,rfl,hx⟩:=hy
   have:=hx xs (.of e)
   rw [h1] at this
   cases this
   have z:(0:Int)+(i:Int)=(i:Int):=by omega
   rw [z]
   exact new_pair hT oF oB (.int _) (h2.lat l)
  ·rw [enmD_len] at hd
   exact ⟨xs,.of e,by rw [r.length,hd];exact Nat.le_refl _⟩
theorem yields_enmT {K:PySem.W.Frag}{w:World}{F:Foot}{B:Addr→Prop}{H:Hp}{a:Addr}{ds:List D}(r:Rep K w F B H (.ref a) (.tup ds)):Yields K w F B H (IteT K a) (enmD 0 ds):=by
 have key:∀ F2 B2 H2,Lat F B H F2 B2 H2→∃ xs,SqT K H2 a xs∧RepL K w F2 B2 H2 xs ds:=fun F2 B2 H2 l=>by
  obtain ⟨a',xs,e,h,rl⟩:=(r.lat l).isT
  cases e
  exact ⟨xs,h,rl⟩
 intro F2 B2 H2 l i
 obtain ⟨xs,hx,rl⟩:=key F2 B2 H2 l
 refine ⟨fun d hd=>?_,fun hd=>?_⟩
 ·rw [enmD_get] at hd
  obtain ⟨d0,h0,rfl⟩:=Option.map_eq_some_iff.mp hd
  obtain ⟨x,h1,h2⟩:=rl.get h0
  refine ⟨⟨xs,x,hx,h1⟩,fun y H3 hy oF oB=>?_⟩
  obtain ⟨T,x',rfl,hT,rfl,hz⟩:=hy
  have:=hz xs hx
  rw [h1] at this
  cases this
  have z:(0:Int)+(i:Int)=(i:Int):=by omega
  rw [z]
  exact new_pair hT oF oB (.int _) h2
 ·rw [enmD_len] at hd
  exact ⟨xs,hx,by rw [rl.length,hd]⟩
theorem i_enm (G : Good X pr XR C n){pp tpos : Pos}{elts : List Expr}{k : Nat}(hg : Gl X "enumerate")(hs : isStar p = false)(ha : PE X p (gE X XR W cx a)) : PI X (.Tuple elts k tpos) (.Call (.Name "enumerate" pp) [p] [] pos) (gI X XR W cx (.enm a 0)) := by
 have he:=star_ns hs [] X.env
 refine PI.of (pi_enumA hg (G.blt _ (by decide)) (pa_cons ha pa_nil he) he) fun σ H Q h=>?_
 obtain ⟨F,B,env,st,ok,h⟩:=h
 unfold evI at h
 refine tE.firstI ok h fun d1 st1 v1 F1 H1 x1 ok1 r1 h=>?_
 cases d1 with
 | lst ys =>
  obtain ⟨a,xs,rfl,h1,l1⟩:=r1.isL
  obtain ⟨_,z2⟩:=yields_enm r1
  exact ⟨a,xs,rfl,.inl ⟨.of h1,h _ F1 H1 x1 ok1.sr z2⟩⟩
 | tup ys =>
  obtain ⟨a,xs,rfl,h1,l1⟩:=r1.isT
  exact ⟨a,xs,rfl,.inr ⟨h1,h _ F1 H1 x1 ok1.sr (yields_enmT r1)⟩⟩
 | _=>exact h.elim
end
end PL
end
section
namespace PL
open PySem PySem.Spec PyProof.Rows L2
section
variable {K:PySem.W.Frag}{w:World}{F:Foot}{B:Addr→Prop}{σ:L2.St}{H:Hp}{env:Env}{st:St}
theorem get_set {α:Type}{l:List α}{i j:Nat}{a s:α}(h:(l.set i a)[j]?=some s):(i=j∧s=a∧i<l.length)∨(i≠j∧l[j]?=some s):=by
 by_cases e:i=j
 ·subst e
  by_cases hl:i<l.length
  ·rw [List.getElem?_set_self hl] at h
   exact .inl ⟨rfl,(Option.some.inj h).symm,hl⟩
  ·rw [List.getElem?_eq_none (by simp;omega)] at h
   cases h
 ·rw [List.getElem?_set_ne e] at h
  exact .inr ⟨e,h⟩
theorem OkE.setV (ok:OkE K w F B σ H env st){i:Nat}{v:V}{d:D}(r:Rep K w F B H v d):OkE K w F B (σ.set i (some v)) H (env.set i (.val d)) st:=by
 have hlen:=ok.len
 refine ⟨by simp [hlen],fun j d' e=>?_,fun j s os e=>?_,fun j k s t a os ot e1 e2 e3 e4=>?_,ok.occ,ok.sr⟩
 ·rcases get_set e with ⟨rfl,e2,hl⟩|⟨ne,e2⟩
  ·cases e2
   exact ⟨v,by rw [List.getElem?_set_self (by omega)],r⟩
  ·obtain ⟨u,h1,h2⟩:=ok.val j d' e2
   exact ⟨u,by rw [List.getElem?_set_ne ne];exact h1,h2⟩
 ·rcases get_set e with ⟨rfl,e2,hl⟩|⟨ne,e2⟩
  ·subst e2;cases os
  ·obtain ⟨a,h1,h2⟩:=ok.own j s os e2
   exact ⟨a,by rw [List.getElem?_set_ne ne];exact h1,h2⟩
 ·rcases get_set e1 with ⟨_,e5,_⟩|⟨ne1,e5⟩
  ·subst e5;cases os
  rcases get_set e2 with ⟨_,e6,_⟩|⟨ne2,e6⟩
  ·subst e6;cases ot
  rw [List.getElem?_set_ne ne1] at e3
  rw [List.getElem?_set_ne ne2] at e4
  exact ok.apart j k s t a os ot e5 e6 e3 e4
theorem wipeE_some {i:Nat}{s:Slot}:∀ {vs:List Nat} {env:Env},(wipeE env vs)[i]?=some s→s≠.un→env[i]?=some s∧i∉vs
 | [],env,h,_=>⟨h,by simp⟩
 | v::vs,env,h,hs=>by
  unfold wipeE at h
  rcases get_set h with ⟨rfl,e2,hl⟩|⟨ne,e2⟩
  ·exact absurd e2 hs
  ·obtain ⟨h1,h2⟩:=wipeE_some e2 hs
   exact ⟨h1,by simp [h2];exact fun e=>ne e.symm⟩
theorem wipeE_length (env:Env):∀ vs:List Nat,(wipeE env vs).length=env.length
 | []=>rfl
 | v::vs=>by unfold wipeE;rw [List.length_set,wipeE_length env vs]
theorem wipe_out {i:Nat}:∀ {vs:List Nat} {σ:L2.St},i∉vs→(wipe σ vs)[i]?=σ[i]?
 | [],_,_=>rfl
 | v::vs,σ,h=>by
  unfold wipe
  simp only [List.mem_cons,not_or] at h
  rw [List.getElem?_set_ne (fun e=>h.1 e.symm),wipe_out h.2]
theorem OkE.wiped (ok:OkE K w F B σ H env st)(vs:List Nat):OkE K w F B (wipe σ vs) H (wipeE env vs) st:=by
 refine ⟨by rw [wipeE_length,wipe_length,ok.len],fun j d' e=>?_,fun j s os e=>?_,fun j k s t a os ot e1 e2 e3 e4=>?_,ok.occ,ok.sr⟩
 ·obtain ⟨h1,h2⟩:=wipeE_some e (fun z=>by cases z)
  rw [wipe_out h2]
  exact ok.val j d' h1
 ·obtain ⟨h1,h2⟩:=wipeE_some e (fun z=>by subst z;cases os)
  rw [wipe_out h2]
  exact ok.own j s os h1
 ·obtain ⟨h1,h2⟩:=wipeE_some e1 (fun z=>by subst z;cases os)
  obtain ⟨h3,h4⟩:=wipeE_some e2 (fun z=>by subst z;cases ot)
  rw [wipe_out h2] at e3
  rw [wipe_out h4] at e4
  exact ok.apart j k s t a os ot h1 h3 e3 e4
theorem wipe_set {i:Nat}{x:Option V}:∀ {vs:List Nat} {σ:L2.St},i∈vs→wipe (σ.set i x) vs=wipe σ vs
 | [],_,h=>by simp at h
 | v::vs,σ,h=>by
  unfold wipe
  by_cases e:i∈vs
  ·rw [wipe_set e]
  ·have e2:i=v:=by simpa [e] using h
   subst e2
   refine List.ext_getElem? fun j=>?_
   by_cases hj:i=j
   ·subst hj
    simp [List.getElem?_set,wipe_length]
   ·rw [List.getElem?_set_ne hj,List.getElem?_set_ne hj]
    clear h
    revert σ
    induction vs with
    | nil=>intro σ;unfold wipe;rw [List.getElem?_set_ne hj]
    | cons u us ih =>
     intro σ
     unfold wipe
     simp only [List.mem_cons,not_or] at e
     by_cases hu:u=j
     ·subst hu
      simp [List.getElem?_set,wipe_length]
     ·rw [List.getElem?_set_ne hu,List.getElem?_set_ne hu]
      exact ih e.2 _
end
def tG (K:PySem.W.Frag)(w:World)(tg:Tg):TG:=fun v σ H Q=>∃ F B env st d env',OkE K w F B σ H env st∧Rep K w F B H v d∧putT tg d env=some env' ∧
 ∀ σ',OkE K w F B σ' H env' st→(∀ vs,tgIn vs tg=true→wipe σ' vs=wipe σ vs)→(∀ vs,tgIn vs tg=true→∀ i,i∉vs→env'[i]?=env[i]?∧σ'[i]?=σ[i]?)→(∀ (j:Nat) (s:Slot) (a:Addr),s.isOwn=true→env'[j]?=some s→σ'[j]?=some (some (V.ref a))→env[j]?=some s∧σ[j]?=some (some (V.ref a)))→Q σ' H
def tGs (K:PySem.W.Frag)(w:World)(ts:Tgs):TGs:=fun us σ H Q=>∃ F B env st ds env',OkE K w F B σ H env st∧RepL K w F B H us ds∧putTs ts ds env=some env' ∧
 ∀ σ',OkE K w F B σ' H env' st→(∀ vs,tgsIn vs ts=true→wipe σ' vs=wipe σ vs)→(∀ vs,tgsIn vs ts=true→∀ i,i∉vs→env'[i]?=env[i]?∧σ'[i]?=σ[i]?)→(∀ (j:Nat) (s:Slot) (a:Addr),s.isOwn=true→env'[j]?=some s→σ'[j]?=some (some (V.ref a))→env[j]?=some s∧σ[j]?=some (some (V.ref a)))→Q σ' H
theorem PG.of {X:Cx}{e:Expr}{t t':TG}(h:PG X e t)(i:∀ v σ H Q,t' v σ H Q→t v σ H Q):PG X e t':=⟨fun pins s σ H v u Q I r q=>h.run pins s σ H v u Q I r (i _ _ _ _ q)⟩
theorem PGs.of {X:Cx}{es:List Expr}{t t':TGs}(h:PGs X es t)(i:∀ v σ H Q,t' v σ H Q→t v σ H Q):PGs X es t':=⟨fun pins s σ H v u Q I r q=>h.run pins s σ H v u Q I r (i _ _ _ _ q)⟩
theorem pg_seq {X:Cx}{es:List Expr}{k:Nat}{t:TGs}{pos:Pos}(hc:X.calm=true)(h:PGs X es t)
  (hn:(assignEach es X.env).length=es.length) (hst:(assignEach es X.env).findIdx? (·.1)=none):PG X (.Tuple es k pos) (fun v σ H Q=>gTup X.K es.length t v σ H Q∨gLst X.K es.length t v σ H Q) :=
 ⟨fun pins s σ H v u Q I r q=>q.elim (fun q=>(pg_tup hc h hn hst).run pins s σ H v u Q I r q) fun q=>(pg_lst hc h hn hst).run pins s σ H v u Q I r q⟩
theorem each_ns {C:SC}:∀ {ts:Tgs} {es:List Expr},chkTs C ts es=true→∀ env:PySem.Env,(assignEach es env).length=es.length∧(assignEach es env).findIdx? (·.1)=none
 | .nil,[],_,env=>⟨rfl,rfl⟩
 | .cons t r,e::es,h,env=>by
  simp only [chkTs,Bool.and_eq_true] at h
  obtain ⟨h1,h2⟩:=each_ns h.2 env
  have z:assignEach (e::es) env=(false,assign e env)::assignEach es env:=by
   cases t<;>cases e<;>first|rfl|(simp [chkT] at h)
  rw [z]
  refine ⟨by simp [h1],?_⟩
  rw [List.findIdx?_cons]
  simp [h2]
 | .nil,_::_,h,_=>by simp [chkTs] at h
 | .cons _ _,[],h,_=>by simp [chkTs] at h
theorem putTs_len {C:SC}:∀ {ts:Tgs} {es:List Expr} {ds:List D} {env env':Env},chkTs C ts es=true→putTs ts ds env=some env'→ds.length=es.length
 | .nil,[],[],_,_,_,_=>rfl
 | .nil,[],_::_,_,_,_,e=>by simp [putTs] at e
 | .nil,_::_,_,_,_,h,_=>by simp [chkTs] at h
 | .cons _ _,[],_,_,_,h,_=>by simp [chkTs] at h
 | .cons _ _,_::_,[],_,_,_,e=>by simp [putTs] at e
 | .cons t r,_::es,_::ds,_,_,h,e=>by
  simp only [chkTs,Bool.and_eq_true] at h
  unfold putTs at e
  obtain ⟨_,_,e2⟩:=Option.bind_eq_some_iff.mp e
  simp [putTs_len h.2 e2]
section
variable {X:Cx}{pr:Prog}{XR:XRel}{C:SC}{n:Nat}
mutual
theorem g_ok (G:Good X pr XR C n):∀ {tg:Tg} {e:Expr},chkT C tg e=true→PG X e (tG X.K X.w tg)
 | .nm i,e,h=>by
  cases e<;>simp only [chkT,Bool.false_eq_true] at h
  rename_i x pos
  simp only [Bool.and_eq_true,decide_eq_true_eq] at h
  obtain ⟨h1,h2⟩:=h
  obtain ⟨l,f⟩:=G.st x h2
  refine PG.of (pg_name (i:=i) G.nd (by rw [G.N];exact h1) l f) fun v σ H Q h=>?_
  obtain ⟨F,B,env,st,d,env',ok,r,e,q⟩:=h
  unfold putT at e
  cases e
  refine q _ (ok.setV r) (fun vs hv=>wipe_set ?_) (fun vs hv j hj=>?_) fun j s a os e1 e2=>?_
  ·simpa [tgIn] using hv
  ·have hij:i≠j:=fun e=>hj (by rw [← e];simpa [tgIn] using hv)
   rw [List.getElem?_set_ne hij,List.getElem?_set_ne hij]
   exact ⟨rfl,rfl⟩
  ·rcases get_set e1 with ⟨_,e3,_⟩|⟨ne,e3⟩
   ·subst e3;cases os
   ·rw [List.getElem?_set_ne ne] at e2
    exact ⟨e3,e2⟩
 | .tp ts,e,h=>by
  cases e<;>simp only [chkT,Bool.false_eq_true] at h
  rename_i es k pos
  rw [Bool.and_eq_true] at h
  obtain ⟨hcal,h⟩:=h
  obtain ⟨z1,z2⟩:=each_ns h X.env
  refine PG.of (pg_seq (G.calm hcal) (gs_ok G h) z1 z2) fun v σ H Q h=>?_
  obtain ⟨F,B,env,st,d,env',ok,r,e,q⟩:=h
  cases d with
  | tup xs =>
   unfold putT at e
   obtain ⟨a,us,rfl,h1,l1⟩:=r.isT
   exact .inl ⟨a,us,rfl,h1,by rw [l1.length];exact putTs_len h e,F,B,env,st,xs,env',ok,l1,e,q⟩
  | lst xs =>
   unfold putT at e
   obtain ⟨a,us,rfl,h1,l1⟩:=r.isL
   exact .inr ⟨a,us,rfl,.of h1,by rw [l1.length];exact putTs_len h e,F,B,env,st,xs,env',ok,l1,e,q⟩
  | _=>simp [putT] at e
theorem gs_ok (G:Good X pr XR C n):∀ {ts:Tgs} {es:List Expr},chkTs C ts es=true→PGs X es (tGs X.K X.w ts)
 | .nil,[],_=>PGs.of pgs_nil fun us σ H Q h=>by
  obtain ⟨F,B,env,st,ds,env',ok,r,e,q⟩:=h
  cases r with
  | nil =>
   unfold putTs at e
   cases e
   exact ⟨rfl,q σ ok (fun _ _=>rfl) (fun _ _ _ _=>⟨rfl,rfl⟩) fun _ _ _ _ e1 e2=>⟨e1,e2⟩⟩
  | cons _ _=>simp [putTs] at e
 | .cons t r,e::es,h=>by
  have h':=h
  simp only [chkTs,Bool.and_eq_true] at h
  have z:assignEach (e::es) X.env=(false,assign e X.env)::assignEach es X.env:=by
   cases t<;>cases e<;>first|rfl|(simp [chkT] at h)
  refine PGs.of (pgs_cons (g_ok G h.1) (gs_ok G h.2) (by rw [z];rfl)) fun us σ H Q h=>?_
  obtain ⟨F,B,env,st,ds,env',ok,rr,e,q⟩:=h
  cases rr with
  | nil=>simp [putTs] at e
  | cons r1 l1 =>
   unfold putTs at e
   obtain ⟨env1,e1,e2⟩:=Option.bind_eq_some_iff.mp e
   refine ⟨_,_,rfl,F,B,env,st,_,env1,ok,r1,e1,fun σ1 ok1 w1 k1 o1=>?_⟩
   refine ⟨F,B,env1,st,_,env',ok1,l1,e2,fun σ2 ok2 w2 k2 o2=>q σ2 ok2 (fun vs hv=>?_) (fun vs hv i hi=>?_) fun j s a os e3 e4=>?_⟩
   ·simp only [tgsIn,Bool.and_eq_true] at hv
    rw [w2 vs hv.2,w1 vs hv.1]
   ·simp only [tgsIn,Bool.and_eq_true] at hv
    rw [(k2 vs hv.2 i hi).1,(k2 vs hv.2 i hi).2]
    exact k1 vs hv.1 i hi
   ·obtain ⟨e5,e6⟩:=o2 j s a os e3 e4
    exact o1 j s a os e5 e6
 | .nil,_::_,h=>by simp [chkTs] at h
 | .cons _ _,[],h=>by simp [chkTs] at h
end
end
end PL
end
section
namespace PL
open PySem PySem.Spec PyProof.Rows L2
def WF:WX:=fun _ _ _ _=>False
def tBo (K:PySem.W.Frag)(w:World)(XR:XRel)(W:WX)(cx:Ctx)(c:Eo):TT:=fun σ H Q=>∃ F B env st,OkE K w F B σ H env st∧RB XR W F σ H (evB cx c env st) Q
theorem ownN_snd:∀ {N:List Str} {own:List Nat},own.length=(ownN N own).length→(ownN N own).map (·.2)=own
 | N,[],_=>rfl
 | N,i::r,h=>by
  have le:∀ r:List Nat,(ownN N r).length≤r.length:=by
   intro r
   induction r with
   | nil=>simp [ownN]
   | cons a t ih=>unfold ownN;split<;>simp<;>omega
  unfold ownN at h ⊢
  split at h
  ·rename_i x e
   rw [List.map_cons,ownN_snd (by simpa using h)]
  ·have:=le r
   simp only [List.length_cons] at h
   omega
mutual
theorem putT_noown (own:List Nat):∀ {tg:Tg} {d:D} {env env':Env},putT tg d env=some env'→(∀ j∈own,∀ s,s.isOwn=true→env[j]?≠some s)→∀ j∈own,∀ s,s.isOwn=true→env'[j]?≠some s
 | .nm i,d,env,env',e,h,j,hj,s,os=>by
  unfold putT at e
  cases e
  intro z
  rcases get_set z with ⟨_,e2,_⟩|⟨_,e2⟩
  ·subst e2;cases os
  ·exact h j hj s os e2
 | .tp ts,d,env,env',e,h,j,hj,s,os=>by
  cases d<;>simp only [putT,reduceCtorEq] at e
  ·exact putTs_noown own e h j hj s os
  ·exact putTs_noown own e h j hj s os
theorem putTs_noown (own:List Nat):∀ {ts:Tgs} {ds:List D} {env env':Env},putTs ts ds env=some env'→(∀ j∈own,∀ s,s.isOwn=true→env[j]?≠some s)→∀ j∈own,∀ s,s.isOwn=true→env'[j]?≠some s
 | .nil,[],_,_,e,h,j,hj,s,os=>by unfold putTs at e;cases e;exact h j hj s os
 | .nil,_::_,_,_,e,_,_,_,_,_=>by simp [putTs] at e
 | .cons _ _,[],_,_,e,_,_,_,_,_=>by simp [putTs] at e
 | .cons t r,d::ds,env,env',e,h,j,hj,s,os=>by
  unfold putTs at e
  obtain ⟨env1,e1,e2⟩:=Option.bind_eq_some_iff.mp e
  exact putTs_noown own e2 (putT_noown own e1 h) j hj s os
end
section
variable {X:Cx}{pr:Prog}{XR:XRel}{C:SC}{n:Nat}{W:WX}{cx:Ctx}
theorem Good.blk (G:Good X pr XR C n)(hcal:C.cal=true){scope:Scope}(hk:scope.kind=.function)(s:Shared)(H:Hp)(cl:List (Str × Addr))(Ca:Addr)(fp:List Addr):Good (X.blk s H scope (compEnvC scope cl Ca X.env) fp) pr XR (C.blk scope) n where
 sc:=by
  show L2.relS scope X.env.scope=L2.relS scope C.sc
  rw [G.sc]
 kind:=hk
 N:=G.N
 nd:=G.nd
 st:=fun x h=>by
  have h':isLoc scope x=true:=h
  unfold isLoc at h'
  split at h'
  ·rename_i e
   have:(L2.relS scope X.env.scope).names.lookup x=some .local:=lookup_relS_keep (by decide) e
   exact ⟨.inl this,.inr this⟩
  ·rename_i e
   have:(L2.relS scope X.env.scope).names.lookup x=some .cell:=lookup_relS_keep (by decide) e
   exact ⟨.inr this,.inl (by show (scope.names.lookup x==some .cell)=true;rw [e];rfl)⟩
  ·cases h'
 calm:=fun _=>G.calm hcal
 made:=G.made
 err:=G.err
 nms:=G.nms
 held:=fun _ _ _ z=>absurd (hcal.symm.trans z) (by decide)
 room:=fun _=>G.room hcal
 un:=G.un
 gd:=G.gd
 fns:=G.fns
 gls:=G.gls
 blt:=G.blt
 shown:=G.shown
theorem Takes.wf {X:Cx}:Takes X WF:=fun u s' ⟨a,B,sI,pins,σ,H,cls,d,e,I,nb,up,sky,na,os,ag,w⟩=>w.elim
theorem wipe_sub {vs:List Nat}(σ:L2.St):∀ l:List Nat,(∀ i∈l,i∈vs)→wipe (wipe σ l) vs=wipe σ vs
 | [],_=>rfl
 | v::l,h=>by
  show wipe ((wipe σ l).set v none) vs=_
  rw [wipe_set (h v List.mem_cons_self)]
  exact wipe_sub σ l fun i hi=>h i (List.mem_cons_of_mem _ hi)
theorem OkE.touch {K:PySem.W.Frag}{w:World}{F:Foot}{B:Addr→Prop}{L:Addr}{σ:L2.St}{H:Hp}{env:Env}{st:St}{o:HO}(ok:OkE K w F (fun b=>B b∨b=L) σ H env st)(hL:H L≠none)(fL:¬ F.inn L)
  (no:∀ (i:Nat) (s:Slot),s.isOwn=true→env[i]?=some s→σ[i]?≠some (some (V.ref L))):OkE K w F (fun b=>B b∨b=L) σ (upd H L o) env st:=by
 have mv:∀ {v:V} {d:D},Rep K w F (fun b=>B b∨b=L) H v d→Rep K w F (fun b=>B b∨b=L) (upd H L o) v d:=fun r=>r.move (fun a f b hn=>⟨upd_ne fun e=>b (.inr e),f,b⟩) fun _ e=>e
 have mvl:∀ {v:List V} {d:List D},RepL K w F (fun b=>B b∨b=L) H v d→RepL K w F (fun b=>B b∨b=L) (upd H L o) v d:=fun r=>r.move (fun a f b hn=>⟨upd_ne fun e=>b (.inr e),f,b⟩) fun _ e=>e
 refine ⟨ok.len,fun i d e=>?_,fun i s os e=>?_,ok.apart,fun b hb=>upd_occ (ok.occ b hb),ok.sr.keep fun b hb=>upd_ne fun e=>fL (by rw [← e];exact hb)⟩
 ·obtain ⟨v,h1,h2⟩:=ok.val i d e
  exact ⟨v,h1,mv h2⟩
 ·obtain ⟨a,h1,h2,h4,h5⟩:=ok.own i s os e
  exact ⟨a,h1,h2.move mvl (upd_ne fun e2=>no i s os e (by rw [h1,e2])),h4,h5⟩
theorem lc_in (G : Good X pr XR C n){e : E}{tg : Tg}{it : It}{c : Eo}{own : List Nat}(htg : tgIn own tg = true){σ : L2.St}{H : Hp}{Q : VK}(h : gE X XR W cx (.lc e tg it c own) σ H Q) :
    tLc (gI X XR W cx it) (tG X.K X.w tg) (tBo X.K X.w XR WF cx c) (tE X.K X.w XR WF cx e) own σ H Q := by
  obtain ⟨F, B, env, st, ok, h⟩ := h
  unfold evE at h
  generalize hf : lcStep (evE cx e) (evB cx c) tg own env = f at h
  have fe : ∀ d st, f d st = R.opt (putT tg d (wipeE env own)) fun env' => (evB cx c env' st).bind fun t st => if t then (evE cx e env' st).bind fun y st => .ok (some y) st else .ok none st := fun d st => by rw [← hf]; rfl
  refine ⟨F, B, env, st, ok, ?_⟩
  cases q1 : evI cx it env st with
  | no => rw [q1] at h; exact h.elim
  | exc c fs st' => rw [q1] at h; exact h.elim
  | ok ds st1 =>
    rw [q1, R.bind_ok] at h
    intro J F1 H1 x1 sr1 yl L hL
    cases q2 : mapR f ds st1 with
    | no => rw [q2] at h; exact h.elim
    | exc c fs st' => rw [q2] at h; exact h.elim
    | ok ys st2 =>
      rw [q2] at h
      change RE X.K X.w XR W F B σ H _ (if ys.length ≤ line then .ok (.lst ys) st2 else .no) Q at h
      split at h
      case isFalse => exact h.elim
      rename_i hz
      have ok1 := ok.ext x1 sr1
      have nBL : ¬ B L := fun b => ok1.occ L b hL
      have nFL : ¬ F1.inn L := fun b => sr1.occ L b hL
      -- one turn's state
      let T : Nat → Hp → Prop := fun i H2 => ∃ (F2 : Foot) (st : St) (acc : List V) (ad rest : List D), OkE X.K X.w F2 (fun b => B b ∨ b = L) (wipe σ own) H2 (wipeE env own) st ∧
        (∀ a, ¬ F1.inn a → H1 a ≠ none → H2 a = H1 a ∧ ¬ F2.inn a) ∧ (∀ b, H1 b ≠ none → H2 b ≠ none) ∧ (∀ a, F1.at_ = some a → F2.at_ = some a) ∧
        H2 L = some (.lst acc) ∧ ¬ F2.inn L ∧ RepL X.K X.w F2 (fun b => B b ∨ b = L) H2 acc ad ∧ mapR f (ds.drop i) st = .ok rest st2 ∧ ad ++ rest = ys
      have noL : ∀ (i : Nat) (s : Slot), s.isOwn = true → (wipeE env own)[i]? = some s → (wipe σ own)[i]? ≠ some (some (V.ref L)) := by
        intro i s os e z
        obtain ⟨a, h1, h2, h4, h5⟩ := (ok1.wiped own).own i s os e
        rw [h1] at z
        cases z
        exact nBL h4
      refine ⟨fun i m H2 => m = ds.length - i ∧ i ≤ ds.length ∧ T i H2, ⟨ds.length, by simp, Nat.zero_le _, ?_⟩, ?_⟩
      · refine ⟨F1, st1, [], [], ys, (ok1.wiped own).mark hL, fun a fa ha => ⟨upd_ne fun e => ha (by rw [e]; exact hL), fa⟩, fun b hb => upd_occ hb, fun _ e => e, upd_same, nFL, .nil, by rw [List.drop_zero]; exact q2, rfl⟩
      · rintro i m H2 ⟨rfl, hi2, F2, st3, acc, ad, rest, ok2, k2, oc2, at2, hL2, fL2, racc, hm, hy⟩
        have lat : Lat F1 B H1 F2 (fun b => B b ∨ b = L) H2 := ⟨fun a fa ba ha => ⟨(k2 a fa ha).1, (k2 a fa ha).2, fun z => z.elim ba fun e => ha (by rw [e]; exact hL)⟩, at2⟩
        obtain ⟨go, stop⟩ := yl F2 _ H2 lat i
        by_cases hlt : i < ds.length
        · have hdi : ds[i]? = some ds[i] := List.getElem?_eq_getElem hlt
          obtain ⟨go1, go2⟩ := go _ hdi
          refine .inr ⟨go1, T (i + 1), fun H' t => ⟨ds.length - (i + 1), by omega, rfl, hlt, t⟩, fun x H3 hx => ?_⟩
          obtain ⟨x3, s3, rx⟩ := go2 x H3 hx ok2.sr.occ ok2.occ
          have ok3 := ok2.ext x3 (ok2.sr.keep s3)
          have hd : ds.drop i = ds[i] :: ds.drop (i + 1) := List.drop_eq_getElem_cons hlt
          rw [hd] at hm
          unfold mapR at hm
          have hm' : (f ds[i] st3).bind (fun y st => (mapR f (ds.drop (i + 1)) st).bind fun ys st => .ok (match y with | some y => y :: ys | none => ys) st) = .ok rest st2 := hm
          have hm := hm'
          rw [fe] at hm
          cases q3 : putT tg ds[i] (wipeE env own) with
          | none => rw [q3] at hm; cases hm
          | some env' =>
            rw [q3, R.opt_some] at hm
            refine ⟨F2, _, _, st3, _, env', ok3, rx, q3, fun σ2 okg wg kg _ => ⟨(wg own htg).trans (wipe_sub σ own fun _ h => h), ?_⟩⟩
            have noL2 : ∀ (j : Nat) (s : Slot), s.isOwn = true → env'[j]? = some s → σ2[j]? ≠ some (some (V.ref L)) := by
              intro j s os e z
              obtain ⟨a, h1, h2, h4, h5⟩ := okg.own j s os e
              by_cases hj : j ∈ own
              · -- a slot of the block holds a value
                refine putT_noown own q3 (fun j hj s os e => ?_) j hj s os e
                exact (wipeE_some e (fun z => by subst z; cases os)).2 hj
              · have := kg own htg j hj
                rw [this.1] at e
                rw [this.2] at z
                exact noL j s os e z
            have hL3 : H3 L = some (.lst acc) ∧ ¬ F2.inn L := by
              have := x3.keep L fL2 (by rw [hL2]; simp)
              exact ⟨by rw [this.1]; exact hL2, fL2⟩
            -- the test
            refine ⟨F2, _, env', st3, okg, ?_⟩
            cases q4 : evB cx c env' st3 with
            | no => rw [q4] at hm; cases hm
            | exc c fs st' => rw [q4] at hm; cases hm
            | ok t st4 =>
              rw [q4, R.bind_ok] at hm
              intro F4 H4 x4 s4
              have ok4 := okg.ext x4 s4
              have back : ∀ {F5 : Foot} {H5 : Hp} {st5 : St}, Ext F2 H3 F5 H5 → SR st5 F5 H5 → OkE X.K X.w F5 (fun b => B b ∨ b = L) (wipe σ own) H5 (wipeE env own) st5 := fun x s => ok3.ext x s
              have keep : ∀ {F5 : Foot} {H5 : Hp}, Ext F2 H3 F5 H5 → (∀ a, ¬ F1.inn a → H1 a ≠ none → H5 a = H1 a ∧ ¬ F5.inn a) ∧ (∀ b, H1 b ≠ none → H5 b ≠ none) ∧ (∀ a, F1.at_ = some a → F5.at_ = some a) ∧ H5 L = some (.lst acc) ∧ ¬ F5.inn L := by
                intro F5 H5 x
                refine ⟨fun a fa ha => ?_, fun b hb => x.occ b (x3.occ b (oc2 b hb)), fun a e => x.at_ a (at2 a e), ?_, ?_⟩
                · obtain ⟨e1, f1⟩ := k2 a fa ha
                  obtain ⟨e2, f2⟩ := x3.keep a f1 (by rw [e1]; exact ha)
                  obtain ⟨e3, f3⟩ := x.keep a f2 (by rw [e2, e1]; exact ha)
                  exact ⟨by rw [e3, e2, e1], f3⟩
                · rw [(x.keep L hL3.2 (by rw [hL3.1]; simp)).1]; exact hL3.1
                · exact (x.keep L hL3.2 (by rw [hL3.1]; simp)).2
              cases t with
              | false =>
                simp only [Bool.false_eq_true, if_false, R.bind_ok] at hm ⊢
                obtain ⟨k5, o5, a5, L5, f5⟩ := keep x4
                cases q5 : mapR f (ds.drop (i + 1)) st4 with
                | no => rw [q5] at hm; cases hm
                | exc c fs st' => rw [q5] at hm; cases hm
                | ok rest' st' =>
                  rw [q5] at hm
                  simp only [R.bind_ok, R.ok.injEq] at hm
                  obtain ⟨rfl, rfl⟩ := hm
                  exact ⟨F4, st4, acc, ad, _, back x4 s4, k5, o5, a5, L5, f5, ((racc.ext x3).ext x4), q5, hy⟩
              | true =>
                simp only [if_true] at hm ⊢
                refine ⟨F4, _, env', st4, ok4, ?_⟩
                cases q5 : evE cx e env' st4 with
                | no => rw [q5] at hm; cases hm
                | exc c fs st' => rw [q5] at hm; cases hm
                | ok y st5 =>
                  rw [q5, R.bind_ok, R.bind_ok] at hm
                  intro yv F5 H5 x5 s5 ry _
                  cases q6 : mapR f (ds.drop (i + 1)) st5 with
                  | no => rw [q6] at hm; cases hm
                  | exc c fs st' => rw [q6] at hm; cases hm
                  | ok rest' st' =>
                    rw [q6] at hm
                    simp only [R.bind_ok, R.ok.injEq] at hm
                    obtain ⟨rfl, rfl⟩ := hm
                    obtain ⟨k5, o5, a5, L5, f5⟩ := keep (x4.trans x5)
                    have racc5 := ((racc.ext x3).ext x4).ext x5
                    refine ⟨acc, L5, ?_, F5, st5, acc ++ [yv], ad ++ [y], rest', (back (x4.trans x5) s5).touch (by rw [L5]; simp) f5 noL, fun a fa ha => ?_, fun b hb => upd_occ (o5 b hb), a5, upd_same, f5, ?_, q6, by simpa using hy⟩
                    · have := racc5.length
                      have h3 : (ad ++ y :: rest').length ≤ line := by rw [hy]; exact hz
                      rw [← lineEq]
                      simp only [List.length_append, List.length_cons] at h3
                      omega
                    · rw [upd_ne fun e => ha (by rw [e]; exact hL)]
                      exact k5 a fa ha
                    · exact (racc5.append (.cons ry .nil)).move (fun a f b _ => ⟨upd_ne fun e => b (.inr e), f, b⟩) fun _ e => e
        · have hii : i = ds.length := by omega
          subst hii
          refine .inl ⟨stop rfl, ?_⟩
          rw [List.drop_length] at hm
          unfold mapR at hm
          cases hm
          rw [List.append_nil] at hy
          subst hy
          have hx : Ext F H F2 H2 := by
            constructor
            · intro a fa ha
              obtain ⟨e1, f1⟩ := x1.keep a fa ha
              obtain ⟨e2, f2⟩ := k2 a f1 (by rw [e1]; exact ha)
              exact ⟨by rw [e2, e1], f2⟩
            · exact fun b hb => oc2 b (x1.occ b hb)
            · exact fun a e => at2 a (x1.at_ a e)
          refine h (.ref L) F2 H2 hx ok2.sr (.lst hL2 fL2 nBL (racc.anti fun a b => .inl b)) fun _ => ⟨L, acc, _, rfl, rfl, ?_, hL2, fL2, racc⟩
          cases e : H L with
          | none => rfl
          | some o => exact absurd hL (x1.occ L (by rw [e]; simp))
theorem x_lc (G:Good X pr XR C n)(hcal:C.cal=true){e:E}{tg:Tg}{it:It}{c:Eo}{own:List Nat}{pe ptg pit:Expr}{ifs:List Expr}{scope:Scope}{pos:Pos}
  (hi:PI X ptg pit (gI X XR W cx it)) (bok:BlkOk X.N X.env.scope scope (ownN C.N own)) (hown:(ownN C.N own).map (·.2)=own) (htg:tgIn own tg=true)
  (hg:∀ (s:Shared) (H:Hp) (Ca:Addr) (cl:List (Str × Addr)) (fp:List Addr),PG (X.blk s H scope (compEnvC scope cl Ca X.env) fp) ptg (tG X.K X.w tg))
  (ht:∀ (s:Shared) (H:Hp) (Ca:Addr) (cl:List (Str × Addr)) (fp:List Addr),PTs (X.blk s H scope (compEnvC scope cl Ca X.env) fp) ifs (tBo X.K X.w XR WF cx c))
  (he:∀ (s:Shared) (H:Hp) (Ca:Addr) (cl:List (Str × Addr)) (fp:List Addr),PE (X.blk s H scope (compEnvC scope cl Ca X.env) fp) pe (tE X.K X.w XR WF cx e))
  (hs:∀ x,foldedSetIterable pit X.env x=pure x):PE X (.ListComp pe [⟨ptg,pit,ifs,0⟩] scope pos) (gE X XR W cx (.lc e tg it c own)) :=
 PE.of (pe_lc (G.calm hcal) G.nd hi bok hg ht he hs) fun σ H Q h=>by rw [hown];exact lc_in G htg h
end
end PL
end
section
namespace PL
open PySem PySem.Spec PyProof.Rows L2
section
variable {X:Cx}{pr:Prog}{XR:XRel}{C:SC}{n:Nat}{W:WX}{cx:Ctx}
theorem lc2_in (G:Good X pr XR C n){e:E}{tg tg1:Tg}{it it1:PL.It}{own own1:List Nat}(htg:tgIn own tg=true)(htg1:tgIn own1 tg1=true)(hsub:∀ i∈own1,i∈own){σ:L2.St}{H:Hp}{Q:VK}(h:gE X XR W cx (.lc2 e tg it tg1 it1 own own1) σ H Q) :
  tLc2 (gI X XR W cx it) (tG X.K X.w tg) (tBo X.K X.w XR WF cx .no) (tI X.K X.w XR WF cx it1) (tG X.K X.w tg1) (tBo X.K X.w XR WF cx .no) (tE X.K X.w XR WF cx e) own own1 σ H Q:=by
 obtain ⟨F,B,env,st,ok,h⟩:=h
 unfold evE at h
 generalize hf:lc2Step (evI cx it1) (evE cx e) tg tg1 own own1 env=f at h
 have fe:∀ d st,f d st=R.opt (putT tg d (wipeE env own)) fun env1=>(evI cx it1 env1 st).bind fun ds st=>mapR (lcStep (evE cx e) (fun _ st=>.ok true st) tg1 own1 env1) ds st:=fun d st=>by rw [← hf];rfl
 refine ⟨F,B,env,st,ok,?_⟩
 cases q1:evI cx it env st with
 | no=>rw [q1] at h;exact h.elim
 | exc c fs st'=>rw [q1] at h;exact h.elim
 | ok ds st1 =>
  rw [q1,R.bind_ok] at h
  intro J F1 H1 x1 sr1 yl L hL
  cases q2:catR f ds st1 with
  | no=>rw [q2] at h;exact h.elim
  | exc c fs st'=>rw [q2] at h;exact h.elim
  | ok ys st2 =>
   rw [q2] at h
   change RE X.K X.w XR W F B σ H _ (if ys.length≤line then .ok (.lst ys) st2 else .no) Q at h
   split at h
   case isFalse=>exact h.elim
   rename_i hz
   have ok1:=ok.ext x1 sr1
   have nBL:¬ B L:=fun b=>ok1.occ L b hL
   have nFL:¬ F1.inn L:=fun b=>sr1.occ L b hL
   -- what keeps
   let KP:Foot→Hp→Prop:=fun F2 H2=>(∀ a,¬ F1.inn a→H1 a≠none→H2 a=H1 a∧¬ F2.inn a)∧(∀ b,H1 b≠none→H2 b≠none)∧(∀ a,F1.at_=some a→F2.at_=some a)
   have kpx:∀ {F2 H2 F3 H3},KP F2 H2→Ext F2 H2 F3 H3→KP F3 H3:=fun {F2 H2 F3 H3} k x=>⟨fun a fa ha=>by
    obtain ⟨e1,f1⟩:=k.1 a fa ha
    obtain ⟨e2,f2⟩:=x.keep a f1 (by rw [e1];exact ha)
    exact ⟨by rw [e2,e1],f2⟩,fun b hb=>x.occ b (k.2.1 b hb),fun a e=>x.at_ a (k.2.2 a e)⟩
   have kpu:∀ {F2 H2 o},KP F2 H2→KP F2 (upd H2 L o):=fun {F2 H2 o} k=>⟨fun a fa ha=>by
    rw [upd_ne fun e=>ha (by rw [e];exact hL)]
    exact k.1 a fa ha,fun b hb=>upd_occ (k.2.1 b hb),k.2.2⟩
   -- one turn's state
   let T:Nat→Hp→Prop:=fun i H2=>∃ (F2:Foot) (st:St) (acc:List V) (ad rest:List D),OkE X.K X.w F2 (fun b=>B b∨b=L) (wipe σ own) H2 (wipeE env own) st∧KP F2 H2 ∧
    H2 L=some (.lst acc)∧¬ F2.inn L∧RepL X.K X.w F2 (fun b=>B b∨b=L) H2 acc ad∧catR f (ds.drop i) st=.ok rest st2∧ad++rest=ys
   have noL:∀ (i:Nat) (s:Slot),s.isOwn=true→(wipeE env own)[i]?=some s→(wipe σ own)[i]?≠some (some (V.ref L)):=by
    intro i s os e z
    obtain ⟨a,h1,h2,h4,h5⟩:=(ok1.wiped own).own i s os e
    rw [h1] at z
    cases z
    exact nBL h4
   refine ⟨fun i m H2=>m=ds.length-i∧i≤ds.length∧T i H2,⟨ds.length,by simp,Nat.zero_le _,?_⟩,?_⟩
   ·exact ⟨F1,st1,[],[],ys,(ok1.wiped own).mark hL,⟨fun a fa ha=>⟨upd_ne fun e=>ha (by rw [e];exact hL),fa⟩,fun b hb=>upd_occ hb,fun _ e=>e⟩,upd_same,nFL,.nil,by rw [List.drop_zero];exact q2,rfl⟩
   ·rintro i m H2 ⟨rfl,hi2,F2,st3,acc,ad,rest,ok2,kp2,hL2,fL2,racc,hm,hy⟩
    have lat:Lat F1 B H1 F2 (fun b=>B b∨b=L) H2:=⟨fun a fa ba ha=>⟨(kp2.1 a fa ha).1,(kp2.1 a fa ha).2,fun z=>z.elim ba fun e=>ha (by rw [e];exact hL)⟩,kp2.2.2⟩
    obtain ⟨go,stop⟩:=yl F2 _ H2 lat i
    by_cases hlt:i<ds.length
    ·have hdi:ds[i]?=some ds[i]:=List.getElem?_eq_getElem hlt
     obtain ⟨go1,go2⟩:=go _ hdi
     refine .inr ⟨go1,T (i+1),fun H' t=>⟨ds.length-(i+1),by omega,rfl,hlt,t⟩,fun x H3 hx=>?_⟩
     obtain ⟨x3,s3,rx⟩:=go2 x H3 hx ok2.sr.occ ok2.occ
     have ok3:=ok2.ext x3 (ok2.sr.keep s3)
     have hd:ds.drop i=ds[i]::ds.drop (i+1):=List.drop_eq_getElem_cons hlt
     rw [hd] at hm
     unfold catR at hm
     have hm:(f ds[i] st3).bind (fun ys st=>(catR f (ds.drop (i+1)) st).bind fun zs st=>.ok (ys++zs) st)=.ok rest st2:=hm
     rw [fe] at hm
     cases q3:putT tg ds[i] (wipeE env own) with
     | none=>rw [q3] at hm;cases hm
     | some env' =>
      rw [q3,R.opt_some] at hm
      generalize hf1:lcStep (evE cx e) (fun _ st=>.ok true st) tg1 own1 env'=f1 at hm
      have fe1:∀ d st,f1 d st=R.opt (putT tg1 d (wipeE env' own1)) fun env2=>(evE cx e env2 st).bind fun y st=>.ok (some y) st:=fun d st=>by
       rw [← hf1]
       unfold lcStep
       cases putT tg1 d (wipeE env' own1) with
       | none=>rfl
       | some env2=>rfl
      refine ⟨F2,_,_,st3,_,env',ok3,rx,q3,fun σ2 okg wg kg _=>⟨(wg own htg).trans (wipe_sub σ own fun _ h=>h),?_⟩⟩
      have noL2:∀ (j:Nat) (s:Slot),s.isOwn=true→env'[j]?=some s→σ2[j]?≠some (some (V.ref L)):=by
       intro j s os e z
       by_cases hj:j∈own
       ·refine putT_noown own q3 (fun j hj s os e=>?_) j hj s os e
        exact (wipeE_some e (fun z=>by subst z;cases os)).2 hj
       ·have:=kg own htg j hj
        rw [this.1] at e
        rw [this.2] at z
        exact noL j s os e z
      have noL3:∀ (j:Nat) (s:Slot),s.isOwn=true→(wipeE env' own1)[j]?=some s→(wipe σ2 own1)[j]?≠some (some (V.ref L)):=by
       intro j s os e z
       obtain ⟨e1,e2⟩:=wipeE_some e (fun z=>by subst z;cases os)
       rw [wipe_out e2] at z
       exact noL2 j s os e1 z
      refine ⟨F2,_,env',st3,okg,?_⟩
      show RB XR WF F2 σ2 H3 (.ok true st3) _
      intro F4 H4 x4 s4
      simp only [if_true]
      refine ⟨F4,_,env',st3,okg.ext x4 s4,?_⟩
      cases q5:evI cx it1 env' st3 with
      | no=>rw [q5] at hm;cases hm
      | exc c fs st'=>rw [q5] at hm;cases hm
      | ok ds1 st5 =>
       rw [q5,R.bind_ok] at hm
       intro J1 F6 H6 x6 s6 yl1
       cases q6:mapR f1 ds1 st5 with
       | no=>rw [q6] at hm;cases hm
       | exc c fs st'=>rw [q6] at hm;cases hm
       | ok ys1 st6 =>
        rw [q6,R.bind_ok] at hm
        cases q7:catR f (ds.drop (i+1)) st6 with
        | no=>rw [q7] at hm;cases hm
        | exc c fs st'=>rw [q7] at hm;cases hm
        | ok zs st' =>
         rw [q7,R.bind_ok] at hm
         simp only [R.ok.injEq] at hm
         obtain ⟨rfl,rfl⟩:=hm
         have xx:=x3.trans (x4.trans x6)
         have hL6:H6 L=some (.lst acc)∧¬ F6.inn L:=by
          have:=xx.keep L fL2 (by rw [hL2];simp)
          exact ⟨by rw [this.1];exact hL2,this.2⟩
         let T1:Nat→Hp→Prop:=fun j H7=>∃ (F7:Foot) (st7:St) (acc7:List V) (ad7 rest7:List D),OkE X.K X.w F7 (fun b=>B b∨b=L) (wipe σ own) H7 (wipeE env own) st7∧OkE X.K X.w F7 (fun b=>B b∨b=L) (wipe σ2 own1) H7 (wipeE env' own1) st7∧KP F7 H7 ∧
          Lat F6 (fun b=>B b∨b=L) H6 F7 (fun b=>B b∨b=L) H7∧H7 L=some (.lst acc7)∧¬ F7.inn L∧RepL X.K X.w F7 (fun b=>B b∨b=L) H7 acc7 ad7∧mapR f1 (ds1.drop j) st7=.ok rest7 st6∧ad7++rest7=ad++ys1
         refine ⟨fun j k H7=>k=ds1.length-j∧j≤ds1.length∧T1 j H7,⟨ds1.length,by simp,Nat.zero_le _,?_⟩,?_⟩
         ·exact ⟨F6,st5,acc,ad,ys1,ok3.ext (x4.trans x6) s6,(okg.ext (x4.trans x6) s6).wiped own1,kpx kp2 xx,Lat.refl,hL6.1,hL6.2,racc.ext xx,by rw [List.drop_zero];exact q6,rfl⟩
         ·rintro j k H7 ⟨rfl,hj2,F7,st7,acc7,ad7,rest7,oko,oki,kp7,lat7,hL7,fL7,racc7,hm7,hy7⟩
          obtain ⟨goI,stopI⟩:=yl1 F7 _ H7 lat7 j
          by_cases hlt1:j<ds1.length
          ·have hdj:ds1[j]?=some ds1[j]:=List.getElem?_eq_getElem hlt1
           obtain ⟨goI1,goI2⟩:=goI _ hdj
           refine .inr ⟨goI1,T1 (j+1),fun H' t=>⟨ds1.length-(j+1),by omega,rfl,hlt1,t⟩,fun xv H8 hx8=>?_⟩
           obtain ⟨x8,s8,rx8⟩:=goI2 xv H8 hx8 oki.sr.occ oki.occ
           have oko8:=oko.ext x8 (oko.sr.keep s8)
           have oki8:=oki.ext x8 (oki.sr.keep s8)
           rw [List.drop_eq_getElem_cons hlt1] at hm7
           unfold mapR at hm7
           have hm7:(f1 ds1[j] st7).bind (fun y st=>(mapR f1 (ds1.drop (j+1)) st).bind fun ys st=>.ok (match y with|some y=>y::ys|none=>ys) st)=.ok rest7 st6:=hm7
           rw [fe1] at hm7
           cases q9:putT tg1 ds1[j] (wipeE env' own1) with
           | none=>rw [q9] at hm7;cases hm7
           | some env2 =>
            rw [q9,R.opt_some] at hm7
            refine ⟨F7,_,_,st7,_,env2,oki8,rx8,q9,fun σ3 okg3 wg3 kg3 _=>⟨(wg3 own1 htg1).trans (wipe_sub σ2 own1 fun _ h=>h),?_⟩⟩
            refine ⟨F7,_,env2,st7,okg3,?_⟩
            show RB XR WF F7 σ3 H8 (.ok true st7) _
            intro F9 H9 x9 s9
            simp only [if_true]
            refine ⟨F9,_,env2,st7,okg3.ext x9 s9,?_⟩
            cases q10:evE cx e env2 st7 with
            | no=>rw [q10] at hm7;cases hm7
            | exc c fs st'=>rw [q10] at hm7;cases hm7
            | ok y st8 =>
             rw [q10,R.bind_ok,R.bind_ok] at hm7
             intro yv F10 H10 x10 s10 ry _
             cases q11:mapR f1 (ds1.drop (j+1)) st8 with
             | no=>rw [q11] at hm7;cases hm7
             | exc c fs st'=>rw [q11] at hm7;cases hm7
             | ok rest' st' =>
              rw [q11] at hm7
              simp only [R.bind_ok,R.ok.injEq] at hm7
              obtain ⟨rfl,rfl⟩:=hm7
              have xz:=x8.trans (x9.trans x10)
              have hL10:H10 L=some (.lst acc7)∧¬ F10.inn L:=by
               have:=xz.keep L fL7 (by rw [hL7];simp)
               exact ⟨by rw [this.1];exact hL7,this.2⟩
              have racc10:=racc7.ext xz
              have tl:Lat F10 (fun b=>B b∨b=L) H10 F10 (fun b=>B b∨b=L) (upd H10 L (.lst (acc7++[yv]))):=⟨fun a f b h=>⟨upd_ne fun e=>b (.inr e),f,b⟩,fun _ e=>e⟩
              refine ⟨acc7,hL10.1,?_,F10,st8,acc7++[yv],ad7++[y],rest',(oko.ext xz s10).touch (by rw [hL10.1];simp) hL10.2 noL,(oki.ext xz s10).touch (by rw [hL10.1];simp) hL10.2 noL3,kpu (kpx kp7 xz),(lat7.trans xz.lat).trans tl,upd_same,hL10.2,?_,q11,by simpa using hy7⟩
              ·have h1:=racc10.length
               have h3:(ad7++y::rest').length≤line:=by
                rw [hy7]
                have:(ad++(ys1++zs)).length≤line:=by rw [hy];exact hz
                simp only [List.length_append] at this ⊢
                omega
               rw [← lineEq]
               simp only [List.length_append,List.length_cons] at h3
               omega
              ·exact (racc10.append (.cons ry .nil)).move (fun a f b _=>⟨upd_ne fun e=>b (.inr e),f,b⟩) fun _ e=>e
          ·have hjj:j=ds1.length:=by omega
           subst hjj
           refine .inl ⟨stopI rfl,?_⟩
           rw [List.drop_length] at hm7
           unfold mapR at hm7
           cases hm7
           rw [List.append_nil] at hy7
           subst hy7
           exact ⟨F7,st6,acc7,ad++ys1,zs,oko,kp7,hL7,fL7,racc7,q7,by rw [List.append_assoc];exact hy⟩
    ·have hii:i=ds.length:=by omega
     subst hii
     refine .inl ⟨stop rfl,?_⟩
     rw [List.drop_length] at hm
     unfold catR at hm
     cases hm
     rw [List.append_nil] at hy
     subst hy
     have hx:Ext F H F2 H2:=by
      constructor
      ·intro a fa ha
       obtain ⟨e1,f1⟩:=x1.keep a fa ha
       obtain ⟨e2,f2⟩:=kp2.1 a f1 (by rw [e1];exact ha)
       exact ⟨by rw [e2,e1],f2⟩
      ·exact fun b hb=>kp2.2.1 b (x1.occ b hb)
      ·exact fun a e=>kp2.2.2 a (x1.at_ a e)
     refine h (.ref L) F2 H2 hx ok2.sr (.lst hL2 fL2 nBL (racc.anti fun a b=>.inl b)) fun _=>⟨L,acc,_,rfl,rfl,?_,hL2,fL2,racc⟩
     cases e:H L with
     | none=>rfl
     | some o=>exact absurd hL (x1.occ L (by rw [e];simp))
theorem no_test {XR:XRel}{W:WX}{cx:Ctx}{X:Cx}:PTs X [] (tBo X.K X.w XR W cx .no) :=
 ⟨fun pins s σ H Q I h=>pts_nil.run pins s σ H Q I (by
  obtain ⟨F,B,env,st,ok,h⟩:=h
  unfold evB at h
  exact h F H (Ext.refl F H) ok.sr)⟩
theorem x_lc2 (G:Good X pr XR C n)(hcal:C.cal=true){e:E}{tg tg1:Tg}{it it1:PL.It}{own own1:List Nat}{pe ptg pit ptg1 pit1:Expr}{scope:Scope}{pos:Pos}
  (hi:PI X ptg pit (gI X XR W cx it)) (bok:BlkOk X.N X.env.scope scope (ownN C.N own)) (hown:(ownN C.N own).map (·.2)=own) (htg:tgIn own tg=true) (htg1:tgIn own1 tg1=true) (hsub:∀ i∈own1,i∈own)
  (hg:∀ (s:Shared) (H:Hp) (Ca:Addr) (cl:List (Str × Addr)) (fp:List Addr),PG (X.blk s H scope (compEnvC scope cl Ca X.env) fp) ptg (tG X.K X.w tg))
  (ht:∀ (s:Shared) (H:Hp) (Ca:Addr) (cl:List (Str × Addr)) (fp:List Addr),PTs (X.blk s H scope (compEnvC scope cl Ca X.env) fp) [] (tBo X.K X.w XR WF cx .no))
  (hi1:∀ (s:Shared) (H:Hp) (Ca:Addr) (cl:List (Str × Addr)) (fp:List Addr),PI (X.blk s H scope (compEnvC scope cl Ca X.env) fp) ptg1 pit1 (tI X.K X.w XR WF cx it1))
  (hg1:∀ (s:Shared) (H:Hp) (Ca:Addr) (cl:List (Str × Addr)) (fp:List Addr),PG (X.blk s H scope (compEnvC scope cl Ca X.env) fp) ptg1 (tG X.K X.w tg1))
  (he:∀ (s:Shared) (H:Hp) (Ca:Addr) (cl:List (Str × Addr)) (fp:List Addr),PE (X.blk s H scope (compEnvC scope cl Ca X.env) fp) pe (tE X.K X.w XR WF cx e))
  (hs:∀ x,foldedSetIterable pit X.env x=pure x) (hs1:∀ env x,foldedSetIterable pit1 env x=pure x):PE X (.ListComp pe [⟨ptg,pit,[],0⟩,⟨ptg1,pit1,[],0⟩] scope pos) (gE X XR W cx (.lc2 e tg it tg1 it1 own own1)) :=
 PE.of (pe_lc2 (vs1:=own1) (G.calm hcal) G.nd hi bok (fun i hi=>by rw [hown];exact hsub i hi) hg ht hi1 hg1 ht he hs hs1) fun σ H Q h=>by rw [hown];exact lc2_in G htg htg1 hsub h
end
end PL
end
section
namespace PLZ
open PySem PySem.Spec PyProof.Rows L2
section
variable {prog:Program}{w:World}{A:Around}{E:Value→Shared→Prop}{s:Shared}{z TI TO T i1 i2:Addr}{fp1 fp2:List Addr}{n1 n2 i:Nat}{P1 P2:Nat→Value→Prop}{St1 St2:Nat→Heap→Prop}{f:Bool}{oT:Obj}
theorem zipD2_held_item {Q:Value→Shared→Prop}(S:ZipSep2 z TI TO i1 i2 fp1 fp2)(D1:Draws prog w A i1 fp1 n1 P1 St1)(D2:Draws prog w A i2 fp2 n2 P2 St2)(hz:IsZipHeld s.heap z TI TO T f)(hT:s.heap.get? T=some oT)(hTI:IsTupOf2 s.heap TI (.ref i1) (.ref i2))(st1:St1 i s.heap)(st2:St2 i s.heap)(hlt1:i<n1)(hlt2:i<n2)
  (hQ:∀ x1 x2 h' tk,P1 i x1→P2 i x2→IsZipHeld h' z TI TO T true→St1 (i+1) h'→St2 (i+1) h'→IsTupOf2 h' s.heap.objs.size x1 x2→h'.objs.size=s.heap.objs.size+1→(∀ c o,c≠z→c≠i1→c≠i2→s.heap.get? c=some o→h'.get? c=some o)→ Q (.ref s.heap.objs.size) { s with heap:=h',toks:=tk }) :
  wpAny (model prog w) A (Builtin.«zip.__next__» ⟨[.ref z],[]⟩) (fun fin s'=>∃ v,fin=.done (.ret v)∧Q v s') E s:=by
 obtain ⟨hp,g,d,tk0,os⟩:=s
 show wpAny _ _ (field (.ref z) 2 >>= _) _ _ _
 refine wpAny_bind (wpAny_field hz rfl (x:=.bool false) rfl ?_)
 show wpAny _ _ (field (.ref z) 3 >>= _) _ _ _
 refine wpAny_bind (wpAny_field hz rfl (x:=.ref TI) rfl (wpAny_bind (wpAny_seqItems hTI rfl ?_)))
 show wpAny _ _ (Builtin.SmallTypes.ownedTupleIsFree (.ref z) >>= _) _ _ _
 refine wpAny_bind (wpAny_tupleHeld_zip hz hT fun g0 hz0 hs0=>?_)
 replace hs0:Heap.SameBut z hp g0:=hs0
 simp only [Bool.false_eq_true,if_false]
 refine wpAny_bind ?_
 rw [← Array.forIn_toList]
 simp only [List.forIn_cons,List.forIn_nil]
 refine wpAny_bind (wpAny_bind (wpAny_holding ?_))
 show wpAny _ _ (Builtin.SmallTypes.nextOf (.ref i1) >>= _) _ _ ⟨g0,g,d,tk0,os⟩
 refine wpAny_bind (D1.item i _ _ _ hlt1 (D1.over st1 hs0 S.zf1) fun x1 p1 tk1 hx1 sn1 hp1=>wpAny_pure ?_)
 replace hp1:Heap.SameBut i1 g0 p1:=hp1
 refine wpAny_pure ?_
 refine wpAny_bind (wpAny_bind (wpAny_holding ?_))
 show wpAny _ _ (Builtin.SmallTypes.nextOf (.ref i2) >>= _) _ _ ⟨p1,g,d,tk1,os⟩
 refine wpAny_bind (D2.item i _ _ _ hlt2 (D2.over (D2.over st2 hs0 S.zf2) hp1 S.sep1_2) fun x2 p2 tk2 hx2 sn2 hp2=>wpAny_pure ?_)
 replace hp2:Heap.SameBut i2 p1 p2:=hp2
 refine wpAny_pure (wpAny_pure ?_)
 show wpAny _ _ (newTuple [x1,x2] >>= _) _ _ ⟨p2,g,d,tk2,os⟩
 refine wpAny_bind (wpAny_newTuple ?_)
 have hsz:p2.objs.size=hp.objs.size:=by rw [hp2.1,hp1.1,hs0.1]
 have hzz:IsZipHeld p2 z TI TO T true:=hp2.extBut _ _ S.zi2 (hp1.extBut _ _ S.zi1 (hz0))
 have hkk:∀ c o,c≠z→c≠i1→c≠i2→hp.get? c=some o→p2.get? c=some o:=fun c o cz c1 c2 e=>hp2.extBut _ _ c2 (hp1.extBut _ _ c1 (hs0.extBut _ _ cz e))
 have hj1:St1 (i+1) p2:=D1.over (sn1) hp2 S.sep2_1
 have hj2:St2 (i+1) p2:=sn2
 have hU : IsTupOf2 (p2.push { cls := .type "tuple", data := .seq #[x1, x2] }) p2.objs.size x1 x2 := Heap.get?_push_size _ rfl
 have hu : (p2.push { cls := .type "tuple", data := .seq #[x1, x2] }).objs.size = p2.objs.size + 1 := Heap.size_push ..
 refine wpAny_pure ⟨_,rfl,?_⟩
 show Q (.ref p2.objs.size) ⟨p2.push { cls := .type "tuple", data := .seq #[x1, x2] }, g, d, tk2, os⟩
 rw [hsz] at hU hu ⊢
 exact hQ x1 x2 _ _ hx1 hx2 (Heap.get?_push_of_some _ hzz) (D1.frame _ _ _ hj1 fun b hb o e=>Heap.get?_push_of_some _ e) (D2.frame _ _ _ hj2 fun b hb o e=>Heap.get?_push_of_some _ e) hU hu fun c o cz c1 c2 e=>Heap.get?_push_of_some _ (hkk c o cz c1 c2 e)
theorem zipD2_held_end {Q:Fin→Shared→Prop}(S:ZipSep2 z TI TO i1 i2 fp1 fp2)(D1:Draws prog w A i1 fp1 n1 P1 St1)(D2:Draws prog w A i2 fp2 n2 P2 St2)(hz:IsZipHeld s.heap z TI TO T f)(hT:s.heap.get? T=some oT)(hTI:IsTupOf2 s.heap TI (.ref i1) (.ref i2))(st1:St1 i s.heap)(st2:St2 i s.heap)(hle1:i≤n1)(hle2:i≤n2)(hend:i=n1∨i=n2)
  (hE : ∀ h' tk e, (∀ c o, c ≠ z → c ≠ i1 → c ≠ i2 → s.heap.get? c = some o → h'.get? c = some o) → (∃ o, h'.get? e = some o ∧ o.cls = .type "StopIteration") → E (.ref e) { s with heap := h', toks := tk }) :
  wpAny (model prog w) A (Builtin.«zip.__next__» ⟨[.ref z],[]⟩) Q E s:=by
 obtain ⟨hp,g,d,tk0,os⟩:=s
 show wpAny _ _ (field (.ref z) 2 >>= _) _ _ _
 refine wpAny_bind (wpAny_field hz rfl (x:=.bool false) rfl ?_)
 show wpAny _ _ (field (.ref z) 3 >>= _) _ _ _
 refine wpAny_bind (wpAny_field hz rfl (x:=.ref TI) rfl (wpAny_bind (wpAny_seqItems hTI rfl ?_)))
 show wpAny _ _ (Builtin.SmallTypes.ownedTupleIsFree (.ref z) >>= _) _ _ _
 refine wpAny_bind (wpAny_tupleHeld_zip hz hT fun g0 hz0 hs0=>?_)
 replace hs0:Heap.SameBut z hp g0:=hs0
 simp only [Bool.false_eq_true,if_false]
 refine wpAny_bind ?_
 rw [← Array.forIn_toList]
 simp only [List.forIn_cons,List.forIn_nil]
 refine wpAny_bind (wpAny_bind (wpAny_holding ?_))
 show wpAny _ _ (Builtin.SmallTypes.nextOf (.ref i1) >>= _) _ _ ⟨g0,g,d,tk0,os⟩
 by_cases hlt1:i<n1
 case neg =>
  have ek:i=n1:=by omega
  refine wpAny_bind (D1.done ⟨g0,g,d,tk0,os⟩ _ _ (by rw [← ek];exact (D1.over st1 hs0 S.zf1)) fun q e hq he=>?_)
  replace hq:Heap.ExtBut i1 g0 q:=hq
  exact hE q tk0 e (fun c o cz c1 c2 x=>hq _ _ c1 (hs0.extBut _ _ cz x)) he
 refine wpAny_bind (D1.item i _ _ _ hlt1 (D1.over st1 hs0 S.zf1) fun x1 p1 tk1 hx1 sn1 hp1=>wpAny_pure ?_)
 replace hp1:Heap.SameBut i1 g0 p1:=hp1
 refine wpAny_pure ?_
 refine wpAny_bind (wpAny_bind (wpAny_holding ?_))
 show wpAny _ _ (Builtin.SmallTypes.nextOf (.ref i2) >>= _) _ _ ⟨p1,g,d,tk1,os⟩
 have ek:i=n2:=by omega
 refine wpAny_bind (D2.done ⟨p1,g,d,tk1,os⟩ _ _ (by rw [← ek];exact (D2.over (D2.over st2 hs0 S.zf2) hp1 S.sep1_2)) fun q e hq he=>?_)
 replace hq:Heap.ExtBut i2 p1 q:=hq
 exact hE q tk1 e (fun c o cz c1 c2 x=>hq _ _ c2 (hp1.extBut _ _ c1 (hs0.extBut _ _ cz x))) he
end
section
end
end PLZ
end
section
namespace PL
open PySem PySem.Spec PyProof.Rows L2
section
variable {X:Cx}{J:L2.It}{ty:String}{fp:List Addr}{it S:Addr}{tn:Nat→Heap→Prop}{pins:List (Addr × Obj)}{σ:L2.St}
variable {F:Foot}{B:Addr→Prop}{H:Hp}{ds:List D}
structure Fill (X:Cx)(F:Foot)(B:Addr→Prop)(S:Addr)(pins:List (Addr × Obj))(σ:L2.St)(H:Hp)(ds:List D)(fp:List Addr)(tn:Nat→Heap→Prop)(i:Nat)(s:Shared)(H2:Hp)(vs:List V):Prop where
 inv:Inv X pins σ H2 s
 foot:∀ b∈fp,FpOk X pins H2 b
 st:tn i s.heap
 ext:Ext F H F H2
 inn:∀ b,F.inn b→H2 b=H b
 own:H2 S=some (.lst vs)
 rep:RepL X.K X.w F (fun b=>B b∨b=S) H2 vs (ds.take i)
 le:i≤ds.length
theorem Fill.lat {i:Nat}{s:Shared}{H2:Hp}{vs:List V}(f:Fill X F B S pins σ H ds fp tn i s H2 vs)(hS:H S=none):Lat F B H F (fun b=>B b∨b=S) H2 :=
 ⟨fun a fa ba ha=>⟨(f.ext.keep a fa ha).1,fa,fun z=>z.elim ba fun e=>ha (by rw [e];exact hS)⟩,fun _ e=>e⟩
end
end PL
end
section
namespace PL
open PySem PySem.Spec PyProof.Rows L2
def SqX (K:PySem.W.Frag)(t:Bool)(H:Hp)(a:Addr)(xs:List V):Prop:=match t with
 | true=>SqT K H a xs
 | false=>SqL K H a xs
def isX (t:Bool)(h:Heap)(a:Addr)(items:Array Value):Prop:=match t with
 | true=>h.IsTuple a items
 | false=>h.IsList a items
def itX (t:Bool)(h:Heap)(it a:Addr)(i:Nat):Prop:=match t with
 | true=>h.IsTupleIter it a i
 | false=>h.IsListIter it a i
def obX (t:Bool)(a:Addr):Obj:=match t with
 | true => { cls := .type "tuple_iterator", data := .fields #[.ref a, .int 0 0] }
 | false => { cls := .type "list_iterator", data := .fields #[.ref a, .int 0 0] }
theorem begX (t:Bool)(a:Addr)(items:Array Value):Begins (.ref a) (obX t a) fun h=>isX t h a items:=by
 cases t
 ·exact begins_list a items
 ·exact begins_tuple a items
theorem itX_new {t:Bool}{h:Heap}{it a:Addr}(e:h.get? it=some (obX t a)):itX t h it a 0:=by
 cases t
 ·exact ⟨_,e,rfl,rfl⟩
 ·exact ⟨_,e,rfl,rfl⟩
theorem itX_at {t:Bool}{h h':Heap}{it a:Addr}{i:Nat}(x:itX t h it a i)(k:∀ o,h.get? it=some o→h'.get? it=some o):itX t h' it a i:=by
 cases t
 ·exact Heap.IsListIter.at x k
 ·exact Heap.IsTupleIter.at x k
theorem itX_ob {t:Bool}{h:Heap}{it a:Addr}{i:Nat}(x:itX t h it a i):∃ o,h.get? it=some o∧∀ v,o.data≠.cell v:=by
 cases t<;>(obtain ⟨o,e,_,d⟩:=x;exact ⟨o,e,fun v q=>by rw [d] at q;cases q⟩)
theorem drwX {P:Program}{w:World}{A:Around}(hh:A.handled=none)(t:Bool)(it a:Addr)(hne:a≠it)(items:Array Value) :
  Draws P w A it [it,a] items.size (fun i v=>items[i]?=some v) (fun i h=>itX t h it a i∧isX t h a items):=by
 cases t
 ·exact Draws.list hh it a hne items
 ·exact Draws.tuple hh it a hne items
section
variable {X:Cx}{pins:List (Addr × Obj)}{σ:L2.St}{H:Hp}{s:Shared}
theorem inv_sqX (I:Inv X pins σ H s){t:Bool}{a:Addr}{xs:List V}(h:SqX X.K t H a xs):∃ its,Vals xs its∧isX t s.heap a its.toArray∧a<s.heap.objs.size:=by
 cases t
 ·obtain ⟨its,r,p,_⟩:=I.list h
  exact ⟨its,r,p.isList,p.lt⟩
 ·obtain ⟨its,r,p,_⟩:=I.tuple h
  obtain ⟨o,e,q⟩:=(show s.heap.IsTuple a its.toArray from p)
  exact ⟨its,r,p,Heap.lt_size e⟩
theorem inv_injX (I:Inv X pins σ H s){t:Bool}{a:Addr}{xs ys:List V}(h:SqX X.K t H a xs)(h':SqX X.K t H a ys):xs=ys:=by
 cases t
 ·exact I.list_inj h h'
 ·exact I.tuple_inj h h'
end
theorem sqX_rep {K:PySem.W.Frag}{w:World}{F:Foot}{B:Addr→Prop}{H:Hp}{v:V}{d:D}{ds:List D}(r:Rep K w F B H v d)(h:d.items=some ds):∃ t a xs,v=.ref a∧SqX K t H a xs∧RepL K w F B H xs ds∧d=(if t then .tup ds else .lst ds):=by
 cases d with
 | tup ys=>cases h;obtain ⟨a,xs,e,q,l⟩:=r.isT;exact ⟨true,a,xs,e,q,l,rfl⟩
 | lst ys=>cases h;obtain ⟨a,xs,e,q,l⟩:=r.isL;exact ⟨false,a,xs,e,.of q,l,rfl⟩
 | _=>cases h
theorem sqX_lat {K:PySem.W.Frag}{w:World}{F F2:Foot}{B B2:Addr→Prop}{H H2:Hp}{a:Addr}{t:Bool}{ds:List D}(r:Rep K w F B H (.ref a) (if t then .tup ds else .lst ds))(l:Lat F B H F2 B2 H2):∃ xs,SqX K t H2 a xs∧RepL K w F2 B2 H2 xs ds:=by
 cases t
 ·obtain ⟨b,xs,e,q,z⟩:=(r.lat l).isL
  cases e
  exact ⟨xs,.of q,z⟩
 ·obtain ⟨b,xs,e,q,z⟩:=(r.lat l).isT
  cases e
  exact ⟨xs,q,z⟩
def ItzX2 (K : PySem.W.Frag)(t1 t2 : Bool)(a1 a2 : Addr) : L2.It :=
  ⟨fun i H => ∃ xs1 x1 xs2 x2, SqX K t1 H a1 xs1 ∧ SqX K t2 H a2 xs2 ∧ xs1[i]? = some x1 ∧ xs2[i]? = some x2,
   fun i H v H' => ∃ T x1 x2, v = .ref T ∧ H T = none ∧ H' = upd H T (.tup [x1, x2]) ∧ (∀ xs, SqX K t1 H a1 xs → xs[i]? = some x1) ∧ (∀ xs, SqX K t2 H a2 xs → xs[i]? = some x2),
   fun i H => ∃ xs1 xs2, SqX K t1 H a1 xs1 ∧ SqX K t2 H a2 xs2 ∧ i ≤ xs1.length ∧ i ≤ xs2.length ∧ (i = xs1.length ∨ i = xs2.length)⟩
theorem turn_zipX2 {P:Program}{w:World}{K:PySem.W.Frag}{t1 t2:Bool}{a1 a2 z TI TO i1 i2:Addr}{elts:List Expr}{kk:Nat}{tpos:Pos}(S:ZipSep2 z TI TO i1 i2 [i1,a1] [i2,a2])(n1:a1≠i1)(n2:a2≠i2) :
  Turn P w K (.Tuple elts kk tpos) (ItzX2 K t1 t2 a1 a2) [z,TI,TO,i1,i2] z (fun i h=>IsZip h z TI TO .none∧IsTupOf2 h TI (.ref i1) (.ref i2)∧(∃ y1 y2,IsTupOf2 h TO y1 y2)∧itX t1 h i1 a1 i∧itX t2 h i2 a2 i) where
 mem:=by simp
 obj:=fun i h st c hc=>by
  obtain ⟨hz,hTI,⟨y1,y2,hTO⟩,h1,h2⟩:=st
  have e:c=z∨c=TI∨c=TO∨c=i1∨c=i2:=by simpa using hc
  rcases e with q|q|q|q|q
  ·rw [q];exact ⟨_,hz,fun v q=>nomatch q⟩
  ·rw [q];exact ⟨_,hTI,fun v q=>nomatch q⟩
  ·rw [q];exact ⟨_,hTO,fun v q=>nomatch q⟩
  ·rw [q];exact itX_ob h1
  ·rw [q];exact itX_ob h2
 keep:=fun i h h' st k=>by
  obtain ⟨hz,hTI,⟨y1,y2,hTO⟩,h1,h2⟩:=st
  exact ⟨k z (by simp) _ hz,k TI (by simp) _ hTI,⟨y1,y2,k TO (by simp) _ hTO⟩,itX_at h1 fun o q=>k i1 (by simp) o q,itX_at h2 fun o q=>k i2 (by simp) o q⟩
 item:=by
  intro X hP hw hK hc i pins s σ H E I hf st hg
  subst hP hw hK
  obtain ⟨hz,hTI,⟨y1,y2,hTO⟩,h1,h2⟩:=st
  obtain ⟨xs1,x1,xs2,x2,q1,q2,g1,g2⟩:=hg
  obtain ⟨its1,rv1,p1,_⟩:=inv_sqX I q1
  obtain ⟨u1,hu1,ru1⟩:=rv1.get g1
  have hl1:i<its1.toArray.size:=by have:=(List.getElem?_eq_some_iff.mp hu1).1;simpa using this
  have D1:=drwX (P:=X.prog) (w:=X.w) (A:=X.A.in1) (show X.A.in1.handled=none from I.ok.hd hc) t1 i1 a1 n1 its1.toArray
  obtain ⟨its2,rv2,p2,_⟩:=inv_sqX I q2
  obtain ⟨u2,hu2,ru2⟩:=rv2.get g2
  have hl2:i<its2.toArray.size:=by have:=(List.getElem?_eq_some_iff.mp hu2).1;simpa using this
  have D2:=drwX (P:=X.prog) (w:=X.w) (A:=X.A.in1) (show X.A.in1.handled=none from I.ok.hd hc) t2 i2 a2 n2 its2.toArray
  have zl:z<s.heap.objs.size:=Heap.lt_size hz
  refine wpAny_pyNext_zipD2_item S D1 D2 hz hTI hTO ⟨h1,p1⟩ ⟨h2,p2⟩ hl1 hl2 fun w1 w2 h' tk e1 e2 hz' hTO' s1 s2 hT hsz hk=>?_
  have z1:w1=u1:=by rw [show its1.toArray[i]?=some u1 from by simpa using hu1] at e1;exact (Option.some.inj e1).symm
  subst z1
  have z2:w2=u2:=by rw [show its2.toArray[i]?=some u2 from by simpa using hu2] at e2;exact (Option.some.inj e2).symm
  subst z2
  refine ⟨_,rfl,wpAny_letOwnedTupleGo_zip (s:={ s with heap:=h',toks:=tk }) hz' fun h'' z'' sb=>?_⟩
  have hT2 : h''.get? s.heap.objs.size = some { cls := .type "tuple", data := .seq #[w1, w2] } := (sb.2 _ (Nat.ne_of_gt zl)).trans hT
  have new:ObjOk X.prog X.w (upd H s.heap.objs.size (.tup [x1,x2])) h'' s.heap.objs.size (.tup [x1,x2]):=⟨by show 2≤sizeLine;decide,[w1,w2],.cons ru1 (.cons ru2 .nil),⟨_,hT2,rfl,_,rfl⟩⟩
  have I1:Inv X pins σ (upd H s.heap.objs.size (.tup [x1,x2])) { s with heap:=h'',toks:=tk } :=
   I.turnedNew (ch:=[z,TI,TO,i1,i2]) (fun c o hb q=>(sb.2 c (fun q'=>hb (by simp [q']))).trans (hk c o (fun q1=>hb (by simp [q1])) (fun q1=>hb (by simp [q1])) (fun q1=>hb (by simp [q1])) (fun q1=>hb (by simp [q1])) q)) hf (Nat.le_refl _) new
  refine ⟨.ref s.heap.objs.size,_,I1,rfl,⟨_,x1,x2,rfl,I.hok.fresh (Nat.le_refl _),rfl,fun l hl=>by rw [inv_injX I hl q1];exact g1,fun l hl=>by rw [inv_injX I hl q2];exact g2⟩,⟨z'',?_,⟨w1,w2,?_⟩,itX_at s1.1 fun o q=>(sb.2 _ (Ne.symm S.zi1)).trans q,itX_at s2.1 fun o q=>(sb.2 _ (Ne.symm S.zi2)).trans q⟩,fun c hcm=>?_⟩
  ·exact (sb.2 _ S.TIz).trans (hk _ _ S.TIz S.TITO S.TIi1 S.TIi2 hTI)
  ·exact (sb.2 _ S.TOz).trans hTO'
  ·have hlt:c<s.heap.objs.size:=by
    have e:c=z∨c=TI∨c=TO∨c=i1∨c=i2:=by simpa using hcm
    rcases e with q|q|q|q|q
    ·rw [q];exact zl
    ·rw [q];exact Heap.lt_size hTI
    ·rw [q];exact Heap.lt_size hTO
    ·rw [q];obtain ⟨_,e1,_⟩:=itX_ob h1;exact Heap.lt_size e1
    ·rw [q];obtain ⟨_,e1,_⟩:=itX_ob h2;exact Heap.lt_size e1
   rw [upd_ne (Nat.ne_of_lt hlt)]
   exact (hf c hcm).1
 done:=by
  intro X hP hw hK hc i pins s σ H E I hf st hg
  subst hP hw hK
  obtain ⟨hz,hTI,⟨y1,y2,hTO⟩,h1,h2⟩:=st
  obtain ⟨xs1,xs2,q1,q2,g1,g2,hend⟩:=hg
  obtain ⟨its1,rv1,p1,_⟩:=inv_sqX I q1
  have l1:its1.toArray.size=xs1.length:=by rw [List.size_toArray,rv1.length]
  have D1:=drwX (P:=X.prog) (w:=X.w) (A:=X.A.in1) (show X.A.in1.handled=none from I.ok.hd hc) t1 i1 a1 n1 its1.toArray
  obtain ⟨its2,rv2,p2,_⟩:=inv_sqX I q2
  have l2:its2.toArray.size=xs2.length:=by rw [List.size_toArray,rv2.length]
  have D2:=drwX (P:=X.prog) (w:=X.w) (A:=X.A.in1) (show X.A.in1.handled=none from I.ok.hd hc) t2 i2 a2 n2 its2.toArray
  exact wpAny_pyNext_zipD2_end S D1 D2 hz hTI hTO ⟨h1,p1⟩ ⟨h2,p2⟩ (by omega) (by omega) (by omega) fun h' tk hk=>⟨rfl,I.turnedL (ch:=[z,TI,TO,i1,i2]) (fun c o hb q=>hk c o (fun q1=>hb (by simp [q1])) (fun q1=>hb (by simp [q1])) (fun q1=>hb (by simp [q1])) (fun q1=>hb (by simp [q1])) q) hf⟩
 self:=fun A i s Q E st h=>wpAny_pyIter_zip st.1 h
theorem begin_zipX2 {X:Cx}{pins:List (Addr × Obj)}{σ:L2.St}{H:Hp}{s:Shared}{A:Around}{E:Value→Shared→Prop}{t1 t2:Bool}{a1 a2:Addr}{xs1 xs2:List V}{Q:Value→Shared→Prop}(I:Inv X pins σ H s)(q1:SqX X.K t1 H a1 xs1)(q2:SqX X.K t2 H a2 xs2)
  (h:∀ h' z TI TO i1 i2,Inv X pins σ H { s with heap:=h' }→ZipSep2 z TI TO i1 i2 [i1,a1] [i2,a2]→a1≠i1→a2≠i2→IsZip h' z TI TO .none→IsTupOf2 h' TI (.ref i1) (.ref i2)→IsTupOf2 h' TO .none .none→itX t1 h' i1 a1 0→itX t2 h' i2 a2 0→(∀ b∈[z,TI,TO,i1,i2],FpOk X pins H b∧b<h'.objs.size)→Q (.ref z) { s with heap:=h' }) :
  wpAny (model X.prog X.w) A (call (.type "zip") [.ref a1, .ref a2]) Q E s := by
 obtain ⟨its1,rv1,p1,l1⟩:=inv_sqX I q1
 obtain ⟨its2,rv2,p2,l2⟩:=inv_sqX I q2
 refine zip_begins2 (begX t1 a1 its1.toArray) (begX t2 a2 its2.toArray) p1 p2 fun h' hz hTI hTO g1 g2 hsz hk=>?_
 refine h h' _ _ _ _ _ (I.kept (t':=s.toks) hk) (zip_sep2 (fun b hb=>by rw [List.mem_singleton.mp hb];exact l1) (fun b hb=>by rw [List.mem_singleton.mp hb];exact l2)) (Nat.ne_of_lt l1) (Nat.ne_of_lt (Nat.lt_of_lt_of_le l2 (Nat.le_add_right _ _))) hz hTI hTO (itX_new g1) (itX_new g2) fun b hb=>?_
 have e:b=s.heap.objs.size+4∨b=s.heap.objs.size+2∨b=s.heap.objs.size+3∨b=s.heap.objs.size∨b=s.heap.objs.size+1:=by simpa using hb
 have hle:s.heap.objs.size≤b∧b<h'.objs.size:=by
  rw [hsz]
  have le:∀ k,k<5→s.heap.objs.size≤s.heap.objs.size+k∧s.heap.objs.size+k<s.heap.objs.size+5:=fun k hk=>⟨Nat.le_add_right _ _,Nat.add_lt_add_left hk _⟩
  rcases e with z|z|z|z|z<;>subst z
  ·exact le 4 (by decide)
  ·exact le 2 (by decide)
  ·exact le 3 (by decide)
  ·exact le 0 (by decide)
  ·exact le 1 (by decide)
 exact ⟨I.fpOk hle.1 (I.hok.fresh hle.1),hle.2⟩
end PL
end
section
namespace PL
open PySem PySem.Spec PyProof.Rows L2
section
variable {K:PySem.W.Frag}{w:World}{F:Foot}{B:Addr→Prop}{H:Hp}{a1 a2 a3:Addr}{t1 t2 t3:Bool}{ds es fs:List D}
theorem yields_zipX2 (r1:Rep K w F B H (.ref a1) (if t1 then .tup ds else .lst ds))(r2:Rep K w F B H (.ref a2) (if t2 then .tup es else .lst es)):Yields K w F B H (ItzX2 K t1 t2 a1 a2) (zipD ds es):=by
 intro F2 B2 H2 l i
 obtain ⟨xs,hx,l1⟩:=sqX_lat r1 l
 obtain ⟨ys,hy,l2⟩:=sqX_lat r2 l
 refine ⟨fun d hd=>?_,fun hd=>?_⟩
 ·rw [zipD_get] at hd
  obtain ⟨d0,h0,hd⟩:=Option.bind_eq_some_iff.mp hd
  obtain ⟨d1,h1,rfl⟩:=Option.map_eq_some_iff.mp hd
  obtain ⟨x,kx,rx⟩:=l1.get h0
  obtain ⟨y,ky,ry⟩:=l2.get h1
  refine ⟨⟨xs,x,ys,y,hx,hy,kx,ky⟩,fun v H3 hv oF oB=>?_⟩
  obtain ⟨T,x',y',rfl,hT,rfl,k1,k2⟩:=hv
  have e1:=k1 xs hx
  have e2:=k2 ys hy
  rw [kx] at e1
  rw [ky] at e2
  cases e1
  cases e2
  exact new_pair hT oF oB rx ry
 ·rw [zipD_len] at hd
  have:=l1.length
  have:=l2.length
  exact ⟨xs,ys,hx,hy,by omega,by omega,by omega⟩
end
section
variable {X:Cx}
theorem pi_zipX2 {e e2 : Expr}{ta : TA}{p pos tpos : Pos}{elts : List Expr}{kk : Nat}(hg : Gl X "zip")(hm : X.mg "zip" = none)(ha : PA X [e, e2] ta)
  (hs:starEach [e,e2] X.env=(false,eval e X.env)::starEach [e2] X.env) (hpl:(backTo pos (starEach [e2] X.env)).any (·.1)=false) :
  PI X (.Tuple elts kk tpos) (.Call (.Name "zip" p) [e, e2] [] pos) (fun σ H R => ta σ H fun vs H1 => ∃ a1 a2 t1 t2 xs ys, vs = [.ref a1, .ref a2] ∧ SqX X.K t1 H1 a1 xs ∧ SqX X.K t2 H1 a2 ys ∧ R (ItzX2 X.K t1 t2 a1 a2) H1) := by
 refine ⟨fun pins s σ H R I h=>?_⟩
 refine Call_ (ld_blt I hg hm PyProof.Rows.boot_zip (PyProof.Rows.callWith_type1 (thn (ha.run pos pins s σ H _ I h) fun us s1 ⟨vs,H1,I1,r1,q⟩=>?_) hs hpl))
 obtain ⟨a1,a2,t1,t2,xs,ys,rfl,q1,q2,q⟩:=q
 rcases r1 with _|⟨r1,r1'⟩
 rcases r1' with _|⟨r2,r2'⟩
 cases r2'
 cases r1
 cases r2
 refine begin_zipX2 I1 q1 q2 fun h' z TI TO i1 i2 I2 S n1 n2 hz hTI hTO g1 g2 hf=>wpAny_pyIter_zip hz ?_
 exact ⟨z,[z,TI,TO,i1,i2],_,_,H1,rfl,I2,turn_zipX2 S n1 n2,⟨hz,hTI,⟨_,_,hTO⟩,g1,g2⟩,fun b hb=>(hf b hb).1,q⟩
end
end PL
end
section
namespace PLZ
open PySem PySem.Spec PyProof.Rows L2
abbrev ZRec (h : Heap)(z TI TO : Addr)(f0 : Value)(f : Bool) : Prop := h.get? z = some { cls := .type "zip", dict := none, data := .fields #[f0, .bool f, .bool false, .ref TI, .ref TO], slots := #[] }
section
variable {prog:Program}{w:World}{A:Around}{E:Value→Shared→Prop}{s:Shared}{z TI TO i1 i2:Addr}{fp1 fp2:List Addr}{n1 n2 i:Nat}{P1 P2:Nat→Value→Prop}{St1 St2:Nat→Heap→Prop}{f:Bool}{f0 a1 a2:Value}
theorem freeZ_item {Q:Value→Shared→Prop}(S:ZipSep2 z TI TO i1 i2 fp1 fp2)(D1:Draws prog w A i1 fp1 n1 P1 St1)(D2:Draws prog w A i2 fp2 n2 P2 St2)(hfr:∀ {Q:Bool→Shared→Prop},Q true s→wpAny (model prog w) A (Builtin.SmallTypes.ownedTupleIsFree (.ref z)) Q E s)
  (hz:ZRec s.heap z TI TO f0 f) (hTI:IsTupOf2 s.heap TI (.ref i1) (.ref i2)) (hTO:IsTupOf2 s.heap TO a1 a2) (st1:St1 i s.heap) (st2:St2 i s.heap) (hlt1:i<n1) (hlt2:i<n2)
  (hQ:∀ x1 x2 h' tk,P1 i x1→P2 i x2→ZRec h' z TI TO (rawInt s.heap.objs.size) false→IsTupOf2 h' TO x1 x2→St1 (i+1) h'→St2 (i+1) h'→IsTupOf2 h' s.heap.objs.size x1 x2→h'.objs.size=s.heap.objs.size+1→(∀ c o,c≠z→c≠TO→c≠i1→c≠i2→s.heap.get? c=some o→h'.get? c=some o)→Q (.ref s.heap.objs.size) { s with heap:=h',toks:=tk }) :
  wpAny (model prog w) A (Builtin.«zip.__next__» ⟨[.ref z],[]⟩) (fun fin s'=>∃ v,fin=.done (.ret v)∧Q v s') E s:=by
 obtain ⟨hA,gA,dA,tA,oA⟩:=s
 show wpAny _ _ (field (.ref z) 2 >>= _) _ _ _
 refine wpAny_bind (wpAny_field hz rfl (x:=.bool false) rfl (show wpAny _ _ (field (.ref z) 3 >>= _) _ _ _ from wpAny_bind (wpAny_field hz rfl (x:=.ref TI) rfl (wpAny_bind (wpAny_seqItems hTI rfl ?_)))))
 show wpAny _ _ (Builtin.SmallTypes.ownedTupleIsFree (.ref z) >>= _) _ _ _
 refine wpAny_bind (hfr ?_)
 simp only [if_true]
 refine wpAny_bind (wpAny_rule (wpAny_bind (wpAny_field hz rfl (x:=.ref TO) rfl (wpAny_bind (wpAny_setField_rec hz (by simp) fun k0 hz0 hs0=>?_)))))
 replace hz0:ZRec k0 z TI TO .ellipsis f:=hz0
 replace hs0:Heap.SameBut z hA k0:=hs0
 refine wpAny_bind ?_
 simp only [List.zipIdx_cons,List.zipIdx_nil,List.forIn_cons,List.forIn_nil]
 refine wpAny_bind (wpAny_bind (wpAny_onRaise (show wpAny _ _ (Builtin.SmallTypes.nextOf (.ref i1) >>= _) _ _ ⟨k0,gA,dA,tA,oA⟩ from ?_)))
 refine wpAny_bind (D1.item i _ _ _ hlt1 (D1.over st1 hs0 S.zf1) fun x1 p1 t1 hx1 sn1 hp1=>wpAny_pure ?_)
 replace hp1:Heap.SameBut i1 k0 p1:=hp1
 have u1:IsTupOf2 p1 TO a1 a2:=hp1.extBut _ _ S.Ti1 (hs0.extBut _ _ S.TOz hTO)
 refine wpAny_bind (wpAny_seqItems (s:=⟨p1,gA,dA,t1,oA⟩) u1 rfl (wpAny_bind (updateSeq_IsTupOf2 (s:=⟨p1,gA,dA,t1,oA⟩) u1 fun k1 hT1 hs1=>?_)))
 replace hT1:IsTupOf2 k1 TO x1 a2:=hT1
 replace hs1:Heap.SameBut TO p1 k1:=hs1
 refine wpAny_bind (wpAny_letGo (wpAny_pure (wpAny_bind (wpAny_bind (wpAny_onRaise (show wpAny _ _ (Builtin.SmallTypes.nextOf (.ref i2) >>= _) _ _ ⟨k1,gA,dA,t1,oA⟩ from ?_))))))
 refine wpAny_bind (D2.item i _ _ _ hlt2 (D2.over (D2.over (D2.over st2 hs0 S.zf2) hp1 S.sep1_2) hs1 S.Tf2) fun x2 p2 t2 hx2 sn2 hp2=>wpAny_pure ?_)
 replace hp2:Heap.SameBut i2 k1 p2:=hp2
 have u2:IsTupOf2 p2 TO x1 a2:=hp2.extBut _ _ S.Ti2 hT1
 refine wpAny_bind (wpAny_seqItems (s:=⟨p2,gA,dA,t2,oA⟩) u2 rfl (wpAny_bind (updateSeq_IsTupOf2 (s:=⟨p2,gA,dA,t2,oA⟩) u2 fun k2 hT2 hs2=>?_)))
 replace hT2:IsTupOf2 k2 TO x1 x2:=hT2
 replace hs2:Heap.SameBut TO p2 k2:=hs2
 refine wpAny_bind (wpAny_letGo (wpAny_pure (wpAny_pure (wpAny_bind (wpAny_seqItems (s:=⟨k2,gA,dA,t2,oA⟩) hT2 rfl (wpAny_bind (wpAny_newTuple ?_)))))))
 have hsz:k2.objs.size=hA.objs.size:=by rw [hs2.1,hp2.1,hs1.1,hp1.1,hs0.1]
 have hzz:ZRec k2 z TI TO .ellipsis f:=hs2.extBut _ _ S.TOz.symm (hp2.extBut _ _ S.zi2 (hs1.extBut _ _ S.TOz.symm (hp1.extBut _ _ S.zi1 hz0)))
 have hkk:∀ c o,c≠z→c≠TO→c≠i1→c≠i2→hA.get? c=some o→k2.get? c=some o:=fun c o cz cT c1 c2 e=>hs2.extBut _ _ cT (hp2.extBut _ _ c2 (hs1.extBut _ _ cT (hp1.extBut _ _ c1 (hs0.extBut _ _ cz e))))
 have j1:St1 (i+1) k2:=D1.over (D1.over (D1.over sn1 hs1 S.Tf1) hp2 S.sep2_1) hs2 S.Tf1
 have j2:St2 (i+1) k2:=D2.over sn2 hs2 S.Tf2
 have zl:z<k2.objs.size:=Heap.lt_size hzz
 show wpAny _ _ (Builtin.SmallTypes.ownedTupleHandOut (.ref z) (.ref k2.objs.size) >>= _) _ _ ⟨k2.push { cls := .type "tuple", data := .seq #[x1, x2] }, gA, dA, t2, oA⟩
 refine wpAny_bind ?_
 unfold Builtin.SmallTypes.ownedTupleHandOut
 have hz6 : ZRec (k2.push { cls := .type "tuple", data := .seq #[x1, x2] }) z TI TO .ellipsis f := Heap.get?_push_of_some _ hzz
 refine wpAny_bind (wpAny_setField_rec hz6 (by simp) fun h7 hz7 hs7=>?_)
 replace hz7:ZRec h7 z TI TO (rawInt k2.objs.size) f:=hz7
 refine wpAny_setField_rec hz7 (by simp) fun h8 hz8 hs8=>?_
 replace hz8:ZRec h8 z TI TO (rawInt k2.objs.size) false:=hz8
 replace hs7 : Heap.SameBut z (k2.push { cls := .type "tuple", data := .seq #[x1, x2] }) h7 := hs7
 replace hs8:Heap.SameBut z h7 h8:=hs8
 have up:∀ c o,c≠z→k2.get? c=some o→h8.get? c=some o:=fun c o c1 e=>hs8.extBut _ _ c1 (hs7.extBut _ _ c1 (Heap.get?_push_of_some _ e))
 have hT8:IsTupOf2 h8 k2.objs.size x1 x2:=hs8.extBut _ _ (Nat.ne_of_gt zl) (hs7.extBut _ _ (Nat.ne_of_gt zl) (Heap.get?_push_size _ rfl))
 have sz8:h8.objs.size=k2.objs.size+1:=by rw [hs8.1,hs7.1,Heap.size_push]
 rw [hsz] at hz8 hT8 sz8
 refine wpAny_pure ⟨_,rfl,show Q (.ref k2.objs.size) ⟨h8,gA,dA,t2,oA⟩ from ?_⟩
 rw [hsz]
 exact hQ x1 x2 h8 t2 hx1 hx2 hz8 (up _ _ S.TOz hT2) (D1.frame _ _ _ j1 fun b hb o e=>up b o (fun q=>S.zf1 (q ▸ hb)) e) (D2.frame _ _ _ j2 fun b hb o e=>up b o (fun q=>S.zf2 (q ▸ hb)) e) hT8 sz8 fun c o cz cT c1 c2 e=>up c o cz (hkk c o cz cT c1 c2 e)
theorem freeZ_end {Q:Fin→Shared→Prop}(S:ZipSep2 z TI TO i1 i2 fp1 fp2)(D1:Draws prog w A i1 fp1 n1 P1 St1)(D2:Draws prog w A i2 fp2 n2 P2 St2)(hfr:∀ {Q:Bool→Shared→Prop},Q true s→wpAny (model prog w) A (Builtin.SmallTypes.ownedTupleIsFree (.ref z)) Q E s)
  (hz:ZRec s.heap z TI TO f0 f) (hTI:IsTupOf2 s.heap TI (.ref i1) (.ref i2)) (hTO:IsTupOf2 s.heap TO a1 a2) (st1:St1 i s.heap) (st2:St2 i s.heap) (hle1:i≤n1) (hle2:i≤n2) (hend:i=n1∨i=n2)
  (hE : ∀ h' tk e, (∀ c o, c ≠ z → c ≠ TO → c ≠ i1 → c ≠ i2 → s.heap.get? c = some o → h'.get? c = some o) → (∃ o, h'.get? e = some o ∧ o.cls = .type "StopIteration") → E (.ref e) { s with heap := h', toks := tk }) :
  wpAny (model prog w) A (Builtin.«zip.__next__» ⟨[.ref z],[]⟩) Q E s:=by
 obtain ⟨hA,gA,dA,tA,oA⟩:=s
 show wpAny _ _ (field (.ref z) 2 >>= _) _ _ _
 refine wpAny_bind (wpAny_field hz rfl (x:=.bool false) rfl (show wpAny _ _ (field (.ref z) 3 >>= _) _ _ _ from wpAny_bind (wpAny_field hz rfl (x:=.ref TI) rfl (wpAny_bind (wpAny_seqItems hTI rfl ?_)))))
 show wpAny _ _ (Builtin.SmallTypes.ownedTupleIsFree (.ref z) >>= _) _ _ _
 refine wpAny_bind (hfr ?_)
 simp only [if_true]
 refine wpAny_bind (wpAny_rule (wpAny_bind (wpAny_field hz rfl (x:=.ref TO) rfl (wpAny_bind (wpAny_setField_rec hz (by simp) fun k0 hz0 hs0=>?_)))))
 replace hz0:ZRec k0 z TI TO .ellipsis f:=hz0
 replace hs0:Heap.SameBut z hA k0:=hs0
 refine wpAny_bind ?_
 simp only [List.zipIdx_cons,List.zipIdx_nil,List.forIn_cons,List.forIn_nil]
 refine wpAny_bind (wpAny_bind (wpAny_onRaise (show wpAny _ _ (Builtin.SmallTypes.nextOf (.ref i1) >>= _) _ _ ⟨k0,gA,dA,tA,oA⟩ from ?_)))
 have stopAt : ∀ {q : Heap} {e : Addr} {t : Nat}, ZRec q z TI TO .ellipsis f → (∃ o, q.get? e = some o ∧ o.cls = .type "StopIteration") → (∀ c o, c ≠ z → c ≠ TO → c ≠ i1 → c ≠ i2 → hA.get? c = some o → q.get? c = some o) → wpAny (model prog w) A (setField (.ref z) 0 .none) (fun _ s' => E (.ref e) s') E ⟨q, gA, dA, t, oA⟩ := fun {q e t} hzq he hk => by
  obtain ⟨oe,hoe,hce⟩:=he
  have hez:e≠z:=fun x=>by subst x;rw [hzq] at hoe;cases hoe;simp at hce
  refine wpAny_setField_rec (s:=⟨q,gA,dA,t,oA⟩) hzq (by simp) fun q' _ hq'=>?_
  replace hq':Heap.SameBut z q q':=hq'
  exact hE q' t e (fun c o cz cT c1 c2 x=>hq'.extBut _ _ cz (hk c o cz cT c1 c2 x)) ⟨oe,hq'.extBut _ _ hez hoe,hce⟩
 by_cases hlt1:i<n1
 ·refine wpAny_bind (D1.item i _ _ _ hlt1 (D1.over st1 hs0 S.zf1) fun x1 p1 t1 hx1 sn1 hp1=>wpAny_pure ?_)
  replace hp1:Heap.SameBut i1 k0 p1:=hp1
  have u1:IsTupOf2 p1 TO a1 a2:=hp1.extBut _ _ S.Ti1 (hs0.extBut _ _ S.TOz hTO)
  refine wpAny_bind (wpAny_seqItems (s:=⟨p1,gA,dA,t1,oA⟩) u1 rfl (wpAny_bind (updateSeq_IsTupOf2 (s:=⟨p1,gA,dA,t1,oA⟩) u1 fun k1 hT1 hs1=>?_)))
  replace hT1:IsTupOf2 k1 TO x1 a2:=hT1
  replace hs1:Heap.SameBut TO p1 k1:=hs1
  have hi2:i=n2:=by omega
  refine wpAny_bind (wpAny_letGo (wpAny_pure (wpAny_bind (wpAny_bind (wpAny_onRaise (show wpAny _ _ (Builtin.SmallTypes.nextOf (.ref i2) >>= _) _ _ ⟨k1,gA,dA,t1,oA⟩ from ?_))))))
  refine wpAny_bind (D2.done ⟨k1,gA,dA,t1,oA⟩ _ _ (by rw [← hi2];exact D2.over (D2.over (D2.over st2 hs0 S.zf2) hp1 S.sep1_2) hs1 S.Tf2) fun q e hq he=>?_)
  replace hq:Heap.ExtBut i2 k1 q:=hq
  exact stopAt (hq _ _ S.zi2 (hs1.extBut _ _ S.TOz.symm (hp1.extBut _ _ S.zi1 hz0))) he fun c o cz cT c1 c2 x=>hq _ _ c2 (hs1.extBut _ _ cT (hp1.extBut _ _ c1 (hs0.extBut _ _ cz x)))
 ·have hi1:i=n1:=by omega
  refine wpAny_bind (D1.done ⟨k0,gA,dA,tA,oA⟩ _ _ (by rw [← hi1];exact D1.over st1 hs0 S.zf1) fun q e hq he=>?_)
  replace hq:Heap.ExtBut i1 k0 q:=hq
  exact stopAt (hq _ _ S.zi1 hz0) he fun c o cz cT c1 c2 x=>hq _ _ c1 (hs0.extBut _ _ cz x)
def ZSt (h:Heap)(z TI TO:Addr):Prop:=∃ f0 f,ZRec h z TI TO f0 f∧(f0=.none∨∃ T:Addr,f0=rawInt T)
theorem own_free {Q:Bool→Shared→Prop}(hz:ZRec s.heap z TI TO .none f)(h:Q true s):wpAny (model prog w) A (Builtin.SmallTypes.ownedTupleIsFree (.ref z)) Q E s:=by
 unfold Builtin.SmallTypes.ownedTupleIsFree
 exact wpAny_bind (wpAny_field hz rfl (x:=.none) rfl (wpAny_pure h))
theorem loadIf_dead {Q:Option Obj→Shared→Prop}{c:Addr}(hc:s.heap.get? c=none)(hQ:Q none s):wpAny (model prog w) A (loadIfAlive c) Q E s:=fun _ _ _=>by
 show Q (s.heap.get? c) s
 rw [hc];exact hQ
theorem own_dead {T:Addr}{Q:Bool→Shared→Prop}(hz:ZRec s.heap z TI TO (rawInt T) f)(hT:s.heap.get? T=none)(h:Q true s):wpAny (model prog w) A (Builtin.SmallTypes.ownedTupleIsFree (.ref z)) Q E s:=by
 unfold Builtin.SmallTypes.ownedTupleIsFree
 refine wpAny_bind (wpAny_field hz rfl (x:=rawInt T) rfl ?_)
 show wpAny _ _ (loadIfAlive ((T:Int).toNat) >>= _) _ _ _
 rw [Int.toNat_natCast]
 refine wpAny_bind (loadIf_dead hT ?_)
 simp only [Option.isNone_none,if_true]
 exact wpAny_pure h
theorem zipZ_item {Q:Value→Shared→Prop}(S:ZipSep2 z TI TO i1 i2 fp1 fp2)(D1:Draws prog w A i1 fp1 n1 P1 St1)(D2:Draws prog w A i2 fp2 n2 P2 St2)
  (hz:ZSt s.heap z TI TO) (hTI:IsTupOf2 s.heap TI (.ref i1) (.ref i2)) (hTO:∃ a1 a2,IsTupOf2 s.heap TO a1 a2) (st1:St1 i s.heap) (st2:St2 i s.heap) (hlt1:i<n1) (hlt2:i<n2)
  (hQ:∀ x1 x2 h' tk,P1 i x1→P2 i x2→ZSt h' z TI TO→(∃ a1 a2,IsTupOf2 h' TO a1 a2)→St1 (i+1) h'→St2 (i+1) h'→IsTupOf2 h' s.heap.objs.size x1 x2→h'.objs.size=s.heap.objs.size+1→(∀ c o,c≠z→c≠TO→c≠i1→c≠i2→s.heap.get? c=some o→h'.get? c=some o)→Q (.ref s.heap.objs.size) { s with heap:=h',toks:=tk }) :
  wpAny (model prog w) A (Builtin.«zip.__next__» ⟨[.ref z],[]⟩) (fun fin s'=>∃ v,fin=.done (.ret v)∧Q v s') E s:=by
 obtain ⟨f0,f,hz,hf⟩:=hz
 obtain ⟨a1,a2,hTO⟩:=hTO
 have fr:(∀ {Q:Bool→Shared→Prop},Q true s→wpAny (model prog w) A (Builtin.SmallTypes.ownedTupleIsFree (.ref z)) Q E s)→wpAny (model prog w) A (Builtin.«zip.__next__» ⟨[.ref z],[]⟩) (fun fin s'=>∃ v,fin=.done (.ret v)∧Q v s') E s:=fun hfr =>
  freeZ_item S D1 D2 hfr hz hTI hTO st1 st2 hlt1 hlt2 fun x1 x2 h' tk y1 y2 b1 b2 d1 d2 b5 b6 b7=>hQ x1 x2 h' tk y1 y2 ⟨_,_,b1,.inr ⟨_,rfl⟩⟩ ⟨_,_,b2⟩ d1 d2 b5 b6 b7
 rcases hf with rfl|⟨T,rfl⟩
 ·exact fr (own_free hz)
 ·cases hT:s.heap.get? T with
  | none=>exact fr (own_dead hz hT)
  | some oT=>exact zipD2_held_item S D1 D2 hz hT hTI st1 st2 hlt1 hlt2 fun x1 x2 h' tk y1 y2 b1 d1 d2 b5 b6 b7=>hQ x1 x2 h' tk y1 y2 ⟨_,_,b1,.inr ⟨T,rfl⟩⟩ ⟨a1,a2,b7 _ _ S.TOz S.Ti1 S.Ti2 hTO⟩ d1 d2 b5 b6 fun c o cz _ c1 c2 e=>b7 c o cz c1 c2 e
theorem zipZ_end {Q:Fin→Shared→Prop}(S:ZipSep2 z TI TO i1 i2 fp1 fp2)(D1:Draws prog w A i1 fp1 n1 P1 St1)(D2:Draws prog w A i2 fp2 n2 P2 St2)
  (hz:ZSt s.heap z TI TO) (hTI:IsTupOf2 s.heap TI (.ref i1) (.ref i2)) (hTO:∃ a1 a2,IsTupOf2 s.heap TO a1 a2) (st1:St1 i s.heap) (st2:St2 i s.heap) (hle1:i≤n1) (hle2:i≤n2) (hend:i=n1∨i=n2)
  (hE : ∀ h' tk e, (∀ c o, c ≠ z → c ≠ TO → c ≠ i1 → c ≠ i2 → s.heap.get? c = some o → h'.get? c = some o) → (∃ o, h'.get? e = some o ∧ o.cls = .type "StopIteration") → E (.ref e) { s with heap := h', toks := tk }) :
  wpAny (model prog w) A (Builtin.«zip.__next__» ⟨[.ref z],[]⟩) Q E s:=by
 obtain ⟨f0,f,hz,hf⟩:=hz
 obtain ⟨a1,a2,hTO⟩:=hTO
 rcases hf with rfl|⟨T,rfl⟩
 ·exact freeZ_end S D1 D2 (own_free hz) hz hTI hTO st1 st2 hle1 hle2 hend hE
 ·cases hT:s.heap.get? T with
  | none=>exact freeZ_end S D1 D2 (own_dead hz hT) hz hTI hTO st1 st2 hle1 hle2 hend hE
  | some oT=>exact zipD2_held_end S D1 D2 hz hT hTI st1 st2 hle1 hle2 hend fun h' tk e hk he=>hE h' tk e (fun c o cz _ c1 c2 x=>hk c o cz c1 c2 x) he
end
section
variable {prog:Program}{w:World}{A:Around}{E:Value→Shared→Prop}{s:Shared}{e z:Addr}{c:Int}{old:Value}
theorem zst_type (hz : ∃ TI TO, ZSt s.heap z TI TO) : s.TypeIs (.ref z) "zip" := by
 obtain ⟨_,_,_,_,h,_⟩:=hz
 exact ⟨_,h,rfl⟩
theorem nextOf_zip {Q : Value → Shared → Prop}(hz : s.TypeIs (.ref z) "zip")(h : wpAny (model prog w) A.in1 (Builtin.«zip.__next__» ⟨[.ref z], []⟩) (fun fin s' => ∃ v, fin = .done (.ret v) ∧ Q v s') E s) : wpAny (model prog w) A (Builtin.SmallTypes.nextOf (.ref z)) Q E s := by
 unfold Builtin.SmallTypes.nextOf
 refine wpAny_bind (wpAny_callSpecial?_slot (name := Str.ofString "__next__") hz F.slot_zip_next (wpAny_call_entry F.slot_zip_next hz F.entry_zip_next ?_ (F.args_zip_next_1 _)))
 exact wpAny_mono h (fun fin s' ⟨v,hv,q⟩=>⟨v,hv,wpAny_pure q⟩) fun _ _ x=>x
theorem nextOf_zip_end {Q : Value → Shared → Prop}(hz : s.TypeIs (.ref z) "zip")(h : wpAny (model prog w) A.in1 (Builtin.«zip.__next__» ⟨[.ref z], []⟩) (fun _ _ => False) E s) : wpAny (model prog w) A (Builtin.SmallTypes.nextOf (.ref z)) Q E s := by
 unfold Builtin.SmallTypes.nextOf
 refine wpAny_bind (wpAny_callSpecial?_slot (name := Str.ofString "__next__") hz F.slot_zip_next (wpAny_call_entry F.slot_zip_next hz F.entry_zip_next ?_ (F.args_zip_next_1 _)))
 exact wpAny_mono h (fun _ _ q=>q.elim) fun _ _ x=>x
theorem enumZ_item {R:Heap→Prop}{Q:Value→Shared→Prop}(he:IsEnum s.heap e z c old)
  (inner:∀ {Q':Value→Shared→Prop},(∀ h1 tk,R h1→Q' (.ref s.heap.objs.size) { s with heap:=h1,toks:=tk })→wpAny (model prog w) A (Builtin.SmallTypes.nextOf (.ref z)) Q' E s) (hR:∀ h1,R h1→IsEnum h1 e z c old)
  (hQ : ∀ h1 h' tk, R h1 → IsEnumOut h' e z (c + 1) (.ref s.heap.objs.size) h1.objs.size → h'.get? h1.objs.size = some { cls := .type "tuple", data := .seq #[.int c tk, .ref s.heap.objs.size] } → (∀ b o, b ≠ e → h1.get? b = some o → h'.get? b = some o) → Q (.ref h1.objs.size) { s with heap := h', toks := tk + 1 }) :
  wpAny (model prog w) A (Builtin.«enumerate.__next__» ⟨[.ref e],[]⟩) (fun fin s'=>∃ v,fin=.done (.ret v)∧Q v s') E s:=by
 obtain ⟨hA,gA,dA,tA,oA⟩:=s
 show wpAny _ _ (field (.ref e) 2 >>= _) _ _ _
 refine wpAny_bind (wpAny_field he rfl (x:=.ref z) rfl (wpAny_bind (inner fun h1 tk r=>?_)))
 have he1:=hR h1 r
 show wpAny _ _ (field (.ref e) 3 >>= _) _ _ ⟨h1,gA,dA,tk,oA⟩
 refine wpAny_bind (wpAny_field he1 rfl (x:=rawInt c) rfl (show wpAny _ _ (field (.ref e) 4 >>= _) _ _ ⟨h1,gA,dA,tk,oA⟩ from wpAny_bind (wpAny_field he1 rfl (x:=.none) rfl (show wpAny _ _ (mkInt c >>= _) _ _ ⟨h1,gA,dA,tk,oA⟩ from wpAny_bind (wpAny_mkInt ?_)))))
 show wpAny _ _ (setField (.ref e) 3 (rawInt (c+1)) >>= _) _ _ ⟨h1,gA,dA,tk+1,oA⟩
 refine wpAny_bind (wpAny_setField_rec he1 (by simp) fun h2 he2 hs2=>?_)
 replace hs2:Heap.SameBut e h1 h2:=hs2
 replace he2:IsEnum h2 e z (c+1) old:=he2
 show wpAny _ _ (setField (.ref e) 4 .none >>= _) _ _ ⟨h2,gA,dA,tk+1,oA⟩
 refine wpAny_bind (wpAny_setField_rec he2 (by simp) fun h3 he3 hs3=>?_)
 replace hs3:Heap.SameBut e h2 h3:=hs3
 replace he3:IsEnum h3 e z (c+1) old:=he3
 show wpAny _ _ (newTuple [.int c tk,.ref hA.objs.size] >>= _) _ _ ⟨h3,gA,dA,tk+1,oA⟩
 refine wpAny_bind (wpAny_newTuple ?_)
 have sz:h3.objs.size=h1.objs.size:=by rw [hs3.1,hs2.1]
 have el:e<h1.objs.size:=Heap.lt_size he1
 have he4 : IsEnum (h3.push { cls := .type "tuple", data := .seq #[.int c tk, .ref hA.objs.size] }) e z (c + 1) old := Heap.get?_push_of_some _ he3
 have ht4 : (h3.push { cls := .type "tuple", data := .seq #[.int c tk, .ref hA.objs.size] }).get? h1.objs.size = some { cls := .type "tuple", data := .seq #[.int c tk, .ref hA.objs.size] } := by rw [← sz]; exact Heap.get?_push_size _ rfl
 have hk4 : ∀ b o, b ≠ e → h1.get? b = some o → (h3.push { cls := .type "tuple", data := .seq #[.int c tk, .ref hA.objs.size] }).get? b = some o := fun b o be hb => Heap.get?_push_of_some _ (hs3.extBut b o be (hs2.extBut b o be hb))
 rw [sz]
 generalize h3.push { cls := .type "tuple", data := .seq #[.int c tk, .ref hA.objs.size] } = h4 at he4 ht4 hk4 ⊢
 show wpAny _ _ (Builtin.SmallTypes.ownedTupleIsFree (.ref e) >>= _) _ _ ⟨h4,gA,dA,tk+1,oA⟩
 clear he3 hs3 he2 hs2
 refine wpAny_bind ?_
 unfold Builtin.SmallTypes.ownedTupleIsFree
 refine wpAny_bind (wpAny_field he4 rfl (x:=.none) rfl (wpAny_pure ?_))
 simp only [if_true]
 refine wpAny_bind (wpAny_rule (wpAny_bind (wpAny_field he4 rfl (x:=old) rfl (wpAny_bind (wpAny_setField_rec he4 (by simp) fun h5 he5 hs5=>?_)))))
 replace hs5:Heap.SameBut e h4 h5:=hs5
 replace he5:IsEnum h5 e z (c+1) (.ref hA.objs.size):=he5
 show wpAny _ _ (Builtin.SmallTypes.ownedTupleHandOut (.ref e) (.ref h1.objs.size) >>= _) _ _ ⟨h5,gA,dA,tk+1,oA⟩
 refine wpAny_bind ?_
 unfold Builtin.SmallTypes.ownedTupleHandOut
 refine wpAny_bind (wpAny_setField_rec he5 (by simp) fun h6 he6 hs6=>?_)
 replace hs6:Heap.SameBut e h5 h6:=hs6
 replace he6:IsEnumOut h6 e z (c+1) (.ref hA.objs.size) h1.objs.size:=he6
 refine wpAny_setField_rec he6 (by simp) fun h7 he7 hs7=>?_
 replace hs7:Heap.SameBut e h6 h7:=hs7
 replace he7:IsEnumOut h7 e z (c+1) (.ref hA.objs.size) h1.objs.size:=he7
 have nT:h1.objs.size≠e:=Nat.ne_of_gt el
 exact wpAny_bind (wpAny_letGo (wpAny_pure ⟨_,rfl,hQ h1 h7 tk r he7 (hs7.extBut _ _ nT (hs6.extBut _ _ nT (hs5.extBut _ _ nT ht4))) fun b o be hb=>hs7.extBut b o be (hs6.extBut b o be (hs5.extBut b o be (hk4 b o be hb)))⟩))
theorem pyNext_enumZ {R:Heap→Prop}{Q:Option Value→Shared→Prop}(he:IsEnum s.heap e z c old)
  (inner:∀ {Q':Value→Shared→Prop},(∀ h1 tk,R h1→Q' (.ref s.heap.objs.size) { s with heap:=h1,toks:=tk })→∀ {E:Value→Shared→Prop},wpAny (model prog w) A.in1 (Builtin.SmallTypes.nextOf (.ref z)) Q' E s) (hR:∀ h1,R h1→IsEnum h1 e z c old)
  (hQ : ∀ h1 h' tk, R h1 → IsEnumOut h' e z (c + 1) (.ref s.heap.objs.size) h1.objs.size → h'.get? h1.objs.size = some { cls := .type "tuple", data := .seq #[.int c tk, .ref s.heap.objs.size] } → (∀ b o, b ≠ e → h1.get? b = some o → h'.get? b = some o) → Q (some (.ref h1.objs.size)) { s with heap := h', toks := tk + 1 }) :
  wpAny (model prog w) A (pyNext (.ref e)) Q E s:=by
 have hT : s.TypeIs (.ref e) "enumerate" := ⟨_, he, rfl⟩
 unfold pyNext
 refine wpAny_bind (wpAny_attempt (wpAny_callSpecial?_slot (name := Str.ofString "__next__") hT F.slot_enumerate_next (wpAny_call_entry F.slot_enumerate_next hT F.entry_enumerate_next ?_ (F.args_enumerate_next_1 _))))
 exact enumZ_item he (fun hq=>inner hq) hR fun h1 h' tk r a b k=>wpAny_pure (hQ h1 h' tk r a b k)
theorem pyNext_enumZ_end {K:Heap→Prop}{Q:Option Value→Shared→Prop}(he:IsEnum s.heap e z c old)
  (inner : ∀ {Q' : Value → Shared → Prop} {E : Value → Shared → Prop}, (∀ h' tk x, K h' → (∃ o, h'.get? x = some o ∧ o.cls = .type "StopIteration") → E (.ref x) { s with heap := h', toks := tk }) → wpAny (model prog w) A.in1 (Builtin.SmallTypes.nextOf (.ref z)) Q' E s)
  (hQ:∀ h' tk,K h'→Q none { s with heap:=h',toks:=tk }):wpAny (model prog w) A (pyNext (.ref e)) Q E s:=by
 have hT : s.TypeIs (.ref e) "enumerate" := ⟨_, he, rfl⟩
 unfold pyNext
 refine wpAny_bind (wpAny_attempt (wpAny_callSpecial?_slot (name := Str.ofString "__next__") hT F.slot_enumerate_next (wpAny_call_entry F.slot_enumerate_next hT F.entry_enumerate_next ?_ (F.args_enumerate_next_1 _))))
 show wpAny _ _ (field (.ref e) 2 >>= _) _ _ _
 refine wpAny_bind (wpAny_field he rfl (x:=.ref z) rfl (wpAny_bind (inner fun h' tk x hk hx=>?_)))
 obtain ⟨o,ho,hc⟩:=hx
 exact wpAny_bind (wpAny_isInstance (T := "StopIteration") (b := true) ⟨o, ho, hc⟩ isSubtype_stop (wpAny_pure (hQ _ _ hk)))
end
end PLZ
end
section
namespace PL
open PySem PySem.Spec PyProof.Rows L2 PLZ
theorem meets_enumZ (z:Addr)(k:Int)(t:Tok)(hfit:Builtin.SmallTypes.fitsIndex k=true) :
  Meets (Builtin.«enumerate.__new__» ⟨[.type "enumerate", .ref z, .int k t], []⟩) (fun _ R s => (∃ TI TO, IsZip s.heap z TI TO .none) ∧
   R (.ok (.ret (.ref s.heap.objs.size))) { s with heap := s.heap.push { cls := .type "enumerate", data := .fields #[.none, .bool false, .ref z, rawInt k, .none, .none] } }) :=
 .of_wp fun prog w A R s q=>by
  obtain ⟨hp,g,d,tk,os⟩:=s
  obtain ⟨⟨TI,TO,h1⟩,q⟩:=q
  have hsub:=sub_enumerate
  have fits:(!Builtin.SmallTypes.fitsIndex k)=false:=by rw [hfit];rfl
  have go:∀ {A':Around} {E:Value→Shared→Prop} {Q:Value→Shared→Prop},Q (.ref z) ⟨hp,g,d,tk,os⟩→wpAny (model prog w) A' (pyIter (.ref z)) Q E ⟨hp,g,d,tk,os⟩ :=
   fun y=>wpAny_pyIter_zip h1 y
  wp_walk using go
  refine wpAny_stack_any fun st=>wpAny_pure ?_
  split
  ·rename_i c _ _ _ _ _
   cases (c == Value.type "enumerate")
   ·wp_walk using go
    exact ⟨_,rfl,q⟩
   ·wp_walk using go
    exact ⟨_,rfl,q⟩
  ·wp_walk using go
   exact ⟨_,rfl,q⟩
theorem enumZ_begins {prog:Program}{w:World}{A:Around}{E:Value→Shared→Prop}{s:Shared}{z TI TO:Addr}{k:Int}{t:Tok}{Q:Value→Shared→Prop}(hz:IsZip s.heap z TI TO .none)(low:-(2^63)≤k)(high:k<2^63)
  (h:∀ h',IsEnum h' s.heap.objs.size z k .none→h'.objs.size=s.heap.objs.size+1→(∀ b o,s.heap.get? b=some o→h'.get? b=some o)→Q (.ref s.heap.objs.size) { s with heap:=h' }) :
  wpAny (model prog w) A (call (.type "enumerate") [.ref z, .int k t]) Q E s := by
 refine callType_new F.called_enumerate (by decide) (F.typeCall_enumerate_2 _ _) (F.newCall_enumerate_2 _ _) (fun obj=>F.args_object_init_3 obj _ _) F.entry_enumerate_new
  (meets_enumZ z k t (fits_start low high)) ⟨⟨TI,TO,hz⟩,?_⟩
 have he : IsEnum (s.heap.push { cls := .type "enumerate", data := .fields #[.none, .bool false, .ref z, rawInt k, .none, .none] }) s.heap.objs.size z k .none :=
  Heap.get?_push_size s.heap (o := { cls := .type "enumerate", data := .fields #[.none, .bool false, .ref z, rawInt k, .none, .none] }) rfl
 exact ⟨⟨_,he,rfl⟩,h _ he (by rw [Heap.size_push]) fun b o x=>Heap.get?_push_of_some _ x⟩
def ItEz (K : PySem.W.Frag)(t1 t2 : Bool)(a1 a2 : Addr)(n0 : Int) : L2.It :=
  ⟨(ItzX2 K t1 t2 a1 a2).go,
   fun i H v H' => ∃ T1 T2 x1 x2, v = .ref T2 ∧ H T1 = none ∧ H T2 = none ∧ T1 ≠ T2 ∧ H' = upd (upd H T1 (.tup [x1, x2])) T2 (.tup [.int (n0 + (i : Nat)), .ref T1]) ∧ (∀ xs, SqX K t1 H a1 xs → xs[i]? = some x1) ∧ (∀ xs, SqX K t2 H a2 xs → xs[i]? = some x2),
   (ItzX2 K t1 t2 a1 a2).stop⟩
theorem turn_enumZ {P:Program}{w:World}{K:PySem.W.Frag}{t1 t2:Bool}{a1 a2 e z TI TO i1 i2:Addr}{n0:Int}{elts:List Expr}{kk:Nat}{tpos:Pos}(S:ZipSep2 z TI TO i1 i2 [i1,a1] [i2,a2])(n1:a1≠i1)(n2:a2≠i2)(ez:e≠z)(eTI:e≠TI)(eTO:e≠TO)(ei1:e≠i1)(ei2:e≠i2) :
  Turn P w K (.Tuple elts kk tpos) (ItEz K t1 t2 a1 a2 n0) [e,z,TI,TO,i1,i2] e (fun i h=>(∃ old,IsEnum h e z (n0+(i:Nat)) old)∧ZSt h z TI TO∧IsTupOf2 h TI (.ref i1) (.ref i2)∧(∃ y1 y2,IsTupOf2 h TO y1 y2)∧itX t1 h i1 a1 i∧itX t2 h i2 a2 i) where
 mem:=by simp
 obj:=fun i h st c hc=>by
  obtain ⟨⟨old,he⟩,⟨f0,f,hz,_⟩,hTI,⟨y1,y2,hTO⟩,h1,h2⟩:=st
  have m:c=e∨c=z∨c=TI∨c=TO∨c=i1∨c=i2:=by simpa using hc
  rcases m with q|q|q|q|q|q
  ·rw [q];exact ⟨_,he,fun v q=>nomatch q⟩
  ·rw [q];exact ⟨_,hz,fun v q=>nomatch q⟩
  ·rw [q];exact ⟨_,hTI,fun v q=>nomatch q⟩
  ·rw [q];exact ⟨_,hTO,fun v q=>nomatch q⟩
  ·rw [q];exact itX_ob h1
  ·rw [q];exact itX_ob h2
 keep:=fun i h h' st k=>by
  obtain ⟨⟨old,he⟩,⟨f0,f,hz,hf⟩,hTI,⟨y1,y2,hTO⟩,h1,h2⟩:=st
  exact ⟨⟨old,k e (by simp) _ he⟩,⟨f0,f,k z (by simp) _ hz,hf⟩,k TI (by simp) _ hTI,⟨y1,y2,k TO (by simp) _ hTO⟩,itX_at h1 fun o q=>k i1 (by simp) o q,itX_at h2 fun o q=>k i2 (by simp) o q⟩
 item:=by
  intro X hP hw hK hc i pins s σ H E I hf st hg
  subst hP hw hK
  obtain ⟨⟨old,he⟩,hz,hTI,hTO,h1,h2⟩:=st
  obtain ⟨xs1,x1,xs2,x2,q1,q2,g1,g2⟩:=hg
  obtain ⟨its1,rv1,p1,_⟩:=inv_sqX I q1
  obtain ⟨u1,hu1,ru1⟩:=rv1.get g1
  have hl1:i<its1.toArray.size:=by have:=(List.getElem?_eq_some_iff.mp hu1).1;simpa using this
  have D1:=drwX (P:=X.prog) (w:=X.w) (A:=X.A.in1.in1) (show X.A.in1.in1.handled=none from I.ok.hd hc) t1 i1 a1 n1 its1.toArray
  obtain ⟨its2,rv2,p2,_⟩:=inv_sqX I q2
  obtain ⟨u2,hu2,ru2⟩:=rv2.get g2
  have hl2:i<its2.toArray.size:=by have:=(List.getElem?_eq_some_iff.mp hu2).1;simpa using this
  have D2:=drwX (P:=X.prog) (w:=X.w) (A:=X.A.in1.in1) (show X.A.in1.in1.handled=none from I.ok.hd hc) t2 i2 a2 n2 its2.toArray
  have el:e<s.heap.objs.size:=Heap.lt_size he
  have zl:z<s.heap.objs.size:=by obtain ⟨_,_,q,_⟩:=hz;exact Heap.lt_size q
  have Tl:TI<s.heap.objs.size:=Heap.lt_size hTI
  have Ol:TO<s.heap.objs.size:=by obtain ⟨_,_,q⟩:=hTO;exact Heap.lt_size q
  have l1:i1<s.heap.objs.size:=by obtain ⟨_,e1,_⟩:=itX_ob h1;exact Heap.lt_size e1
  have l2:i2<s.heap.objs.size:=by obtain ⟨_,e1,_⟩:=itX_ob h2;exact Heap.lt_size e1
  refine pyNext_enumZ (R:=fun k1=>ZSt k1 z TI TO∧(∃ y1 y2,IsTupOf2 k1 TO y1 y2)∧itX t1 k1 i1 a1 (i+1)∧itX t2 k1 i2 a2 (i+1)∧IsTupOf2 k1 s.heap.objs.size u1 u2∧k1.objs.size=s.heap.objs.size+1∧(∀ c o,c≠z→c≠TO→c≠i1→c≠i2→s.heap.get? c=some o→k1.get? c=some o)) he
   (fun hq'=>nextOf_zip (zst_type ⟨TI,TO,hz⟩) (zipZ_item S D1 D2 hz hTI hTO ⟨h1,p1⟩ ⟨h2,p2⟩ hl1 hl2 fun w1 w2 h' tk e1 e2 b1 b2 s1 s2 b5 b6 b7=>?_))
   (fun k1 r=>r.2.2.2.2.2.2 _ _ ez eTO ei1 ei2 he) fun k1 h' tk r ho hT2 hk=>?_
  ·have z1:w1=u1:=by rw [show its1.toArray[i]?=some u1 from by simpa using hu1] at e1;exact (Option.some.inj e1).symm
   subst z1
   have z2:w2=u2:=by rw [show its2.toArray[i]?=some u2 from by simpa using hu2] at e2;exact (Option.some.inj e2).symm
   subst z2
   exact hq' h' tk ⟨b1,b2,s1.1,s2.1,b5,b6,b7⟩
  obtain ⟨b1,b2,s1,s2,b5,b6,b7⟩:=r
  refine ⟨_,rfl,wpAny_letOwnedTupleGo_enum (s:={ s with heap:=h',toks:=tk+1 }) ho fun h'' e'' sb=>?_⟩
  replace sb:Heap.SameBut e h' h'':=sb
  have up:∀ c o,c≠e→k1.get? c=some o→h''.get? c=some o:=fun c o ce q=>(sb.2 c ce).trans (hk c o ce q)
  have k1e:k1.objs.size≠e:=by rw [b6];exact Nat.ne_of_gt (Nat.lt_succ_of_lt el)
  have new1:ObjOk X.prog X.w (upd H s.heap.objs.size (.tup [x1,x2])) k1 s.heap.objs.size (.tup [x1,x2]):=⟨by show 2≤sizeLine;decide,[u1,u2],.cons ru1 (.cons ru2 .nil),⟨_,b5,rfl,_,rfl⟩⟩
  have I1:Inv X pins σ (upd H s.heap.objs.size (.tup [x1,x2])) { s with heap:=k1,toks:=tk } :=
   I.turnedNew (ch:=[z,TI,TO,i1,i2]) (fun c o hb q=>b7 c o (fun q1=>hb (by simp [q1])) (fun q1=>hb (by simp [q1])) (fun q1=>hb (by simp [q1])) (fun q1=>hb (by simp [q1])) q) (fun c hcm=>hf c (List.mem_cons_of_mem _ hcm)) (Nat.le_refl _) new1
  have fe:FpOk X pins (upd H s.heap.objs.size (.tup [x1,x2])) e:=⟨by rw [upd_ne (Nat.ne_of_lt el)];exact (hf e (by simp)).1,(hf e (by simp)).2⟩
  have hT3 : h''.get? k1.objs.size = some { cls := .type "tuple", data := .seq #[.int (n0 + (i : Nat)) tk, .ref s.heap.objs.size] } := (sb.2 _ k1e).trans hT2
  have new2:ObjOk X.prog X.w (upd (upd H s.heap.objs.size (.tup [x1,x2])) k1.objs.size (.tup [.int (n0+(i:Nat)),.ref s.heap.objs.size])) h'' k1.objs.size (.tup [.int (n0+(i:Nat)),.ref s.heap.objs.size]) :=
   ⟨by show 2≤sizeLine;decide,[.int (n0+(i:Nat)) tk,.ref s.heap.objs.size],.cons ⟨_,rfl⟩ (.cons rfl .nil),⟨_,hT3,rfl,_,rfl⟩⟩
  have I2:Inv X pins σ (upd (upd H s.heap.objs.size (.tup [x1,x2])) k1.objs.size (.tup [.int (n0+(i:Nat)),.ref s.heap.objs.size])) { s with heap:=h'',toks:=tk+1 } :=
   I1.turnedNew (ch:=[e]) (fun c o hb q=>up c o (fun q1=>hb (by simp [q1])) q) (fun c hcm=>by rw [List.mem_singleton.mp hcm];exact fe) (Nat.le_refl _) new2
  refine ⟨.ref k1.objs.size,_,I2,rfl,⟨s.heap.objs.size,k1.objs.size,x1,x2,rfl,I.hok.fresh (Nat.le_refl _),I.hok.fresh (by rw [b6];exact Nat.le_succ _),by rw [b6];exact Nat.ne_of_lt (Nat.lt_succ_self _),rfl,fun l hl=>by rw [inv_injX I hl q1];exact g1,fun l hl=>by rw [inv_injX I hl q2];exact g2⟩,⟨⟨.ref s.heap.objs.size,?_⟩,?_,?_,?_,itX_at s1 fun o q=>up _ _ (Ne.symm ei1) q,itX_at s2 fun o q=>up _ _ (Ne.symm ei2) q⟩,fun c hcm=>?_⟩
  ·have e1:n0+((i+1:Nat):Int)=n0+(i:Nat)+1:=by omega
   rw [e1];exact e''
  ·obtain ⟨f0,f,q,hf0⟩:=b1
   exact ⟨f0,f,up _ _ (Ne.symm ez) q,hf0⟩
  ·exact up _ _ (Ne.symm eTI) (b7 _ _ S.TIz S.TITO S.TIi1 S.TIi2 hTI)
  ·obtain ⟨y1,y2,q⟩:=b2
   exact ⟨y1,y2,up _ _ (Ne.symm eTO) q⟩
  ·have hlt:c<s.heap.objs.size:=by
    have m:c=e∨c=z∨c=TI∨c=TO∨c=i1∨c=i2:=by simpa using hcm
    rcases m with q|q|q|q|q|q<;>rw [q]<;>assumption
   rw [upd_ne (by rw [b6];exact Nat.ne_of_lt (Nat.lt_succ_of_lt hlt)),upd_ne (Nat.ne_of_lt hlt)]
   exact (hf c hcm).1
 done:=by
  intro X hP hw hK hc i pins s σ H E I hf st hg
  subst hP hw hK
  obtain ⟨⟨old,he⟩,hz,hTI,hTO,h1,h2⟩:=st
  obtain ⟨xs1,xs2,q1,q2,g1,g2,hend⟩:=hg
  obtain ⟨its1,rv1,p1,_⟩:=inv_sqX I q1
  have l1:its1.toArray.size=xs1.length:=by rw [List.size_toArray,rv1.length]
  have D1:=drwX (P:=X.prog) (w:=X.w) (A:=X.A.in1.in1) (show X.A.in1.in1.handled=none from I.ok.hd hc) t1 i1 a1 n1 its1.toArray
  obtain ⟨its2,rv2,p2,_⟩:=inv_sqX I q2
  have l2:its2.toArray.size=xs2.length:=by rw [List.size_toArray,rv2.length]
  have D2:=drwX (P:=X.prog) (w:=X.w) (A:=X.A.in1.in1) (show X.A.in1.in1.handled=none from I.ok.hd hc) t2 i2 a2 n2 its2.toArray
  refine pyNext_enumZ_end (K:=fun h'=>∀ c o,c≠z→c≠TO→c≠i1→c≠i2→s.heap.get? c=some o→h'.get? c=some o) he
   (fun hq=>nextOf_zip_end (zst_type ⟨TI,TO,hz⟩) (zipZ_end S D1 D2 hz hTI hTO ⟨h1,p1⟩ ⟨h2,p2⟩ (by omega) (by omega) (by omega) fun h' tk x hk hx=>hq h' tk x hk hx)) fun h' tk hk=>?_
  exact ⟨rfl,I.turnedL (ch:=[e,z,TI,TO,i1,i2]) (fun c o hb q=>hk c o (fun q1=>hb (by simp [q1])) (fun q1=>hb (by simp [q1])) (fun q1=>hb (by simp [q1])) (fun q1=>hb (by simp [q1])) q) hf⟩
 self:=fun A i s Q E st h=>let ⟨⟨_,he⟩,_⟩:=st;wpAny_pyIter_enum he h
theorem yields_enumZ {K:PySem.W.Frag}{w:World}{F:Foot}{B:Addr→Prop}{H:Hp}{a1 a2:Addr}{t1 t2:Bool}{ds es:List D}{n0:Int}(r1:Rep K w F B H (.ref a1) (if t1 then .tup ds else .lst ds))(r2:Rep K w F B H (.ref a2) (if t2 then .tup es else .lst es)):Yields K w F B H (ItEz K t1 t2 a1 a2 n0) (enmD n0 (zipD ds es)):=by
 intro F2 B2 H2 l i
 have Y:=yields_zipX2 r1 r2 F2 B2 H2 l i
 obtain ⟨xs,hx,l1⟩:=sqX_lat r1 l
 obtain ⟨ys,hy,l2⟩:=sqX_lat r2 l
 refine ⟨fun d hd=>?_,fun hd=>Y.2 (by rw [hd,enmD_len])⟩
 rw [enmD_get] at hd
 obtain ⟨d0,hg,rfl⟩:=Option.map_eq_some_iff.mp hd
 refine ⟨(Y.1 d0 hg).1,fun v H3 hv oF oB=>?_⟩
 rw [zipD_get] at hg
 obtain ⟨d1,h0,hg⟩:=Option.bind_eq_some_iff.mp hg
 obtain ⟨d2,h1,rfl⟩:=Option.map_eq_some_iff.mp hg
 obtain ⟨x,kx,rx⟩:=l1.get h0
 obtain ⟨y,ky,ry⟩:=l2.get h1
 obtain ⟨T1,T2,x',y',rfl,hT1,hT2,hne,rfl,k1,k2⟩:=hv
 have e1:=k1 xs hx
 have e2:=k2 ys hy
 rw [kx] at e1
 rw [ky] at e2
 cases e1
 cases e2
 obtain ⟨m1,m2,m3⟩:=new_pair hT1 oF oB rx ry
 have oF1:∀ b,F2.inn b→upd H2 T1 (.tup [x,y]) b≠none:=fun b hb=>by rw [m2 b hb];exact oF b hb
 have oB1:∀ b,B2 b→upd H2 T1 (.tup [x,y]) b≠none:=fun b hb=>m1.occ b (oB b hb)
 obtain ⟨m4,m5,m6⟩:=new_pair (T:=T2) (x:=.int (n0+(i:Nat))) (dx:=.int (n0+(i:Nat))) (by rw [upd_ne (Ne.symm hne)];exact hT2) oF1 oB1 (.int _) m3
 exact ⟨m1.trans m4,fun b hb=>(m5 b hb).trans (m2 b hb),m6⟩
theorem pi_enumZ {X : Cx}{e e2 : Expr}{ta : TA}{p pos p2 pos2 tpos cp : Pos}{cj : Nat}{elts : List Expr}{kk : Nat}{n0 : Int}(low : -(2 ^ 63) ≤ n0)(high : n0 < 2 ^ 63)(hg : Gl X "enumerate")(hm : X.mg "enumerate" = none)(hg2 : Gl X "zip")(hm2 : X.mg "zip" = none)(ha : PA X [e, e2] ta)
  (hs:starEach [e,e2] X.env=(false,eval e X.env)::starEach [e2] X.env) (hpl:(backTo pos2 (starEach [e2] X.env)).any (·.1)=false) :
  PI X (.Tuple elts kk tpos) (.Call (.Name "enumerate" p) [.Call (.Name "zip" p2) [e, e2] [] pos2, .Constant (.int n0) cj cp] [] pos) (fun σ H R => ta σ H fun vs H1 => ∃ a1 a2 t1 t2 xs ys, vs = [.ref a1, .ref a2] ∧ SqX X.K t1 H1 a1 xs ∧ SqX X.K t2 H1 a2 ys ∧ R (ItEz X.K t1 t2 a1 a2 n0) H1) := by
 refine ⟨fun pins s σ H R I h=>?_⟩
 refine Call_ (ld_blt I hg hm boot_enumerate (PyProof.Rows.callWith_type1 (PyProof.Rows.args_cons ?_ rfl) rfl rfl))
 refine Call_ (ld_blt I hg2 hm2 PyProof.Rows.boot_zip (PyProof.Rows.callWith_type1 (thn (ha.run pos2 pins s σ H _ I h) fun us s1 ⟨vs,H1,I1,r1,q⟩=>?_) hs hpl))
 obtain ⟨a1,a2,t1,t2,xs,ys,rfl,q1,q2,q⟩:=q
 rcases r1 with _|⟨r1,r1'⟩
 rcases r1' with _|⟨r2,r2'⟩
 cases r2'
 cases r1
 cases r2
 refine begin_zipX2 I1 q1 q2 fun h' z TI TO i1 i2 I2 S n1 n2 hz hTI hTO g1 g2 hf=>?_
 refine PyProof.Rows.args_cons (wpAny_Constant_int (PyProof.Rows.args_nil ?_)) rfl
 refine enumZ_begins (s:={ s1 with heap:=h',toks:=s1.toks+1 }) hz low high fun h2 he hsz hk=>wpAny_pyIter_enum he ?_
 have nb:∀ b∈[z,TI,TO,i1,i2],h'.objs.size≠b:=fun b hb=>Nat.ne_of_gt (hf b hb).2
 refine ⟨h'.objs.size,[h'.objs.size,z,TI,TO,i1,i2],_,_,H1,rfl,I2.kept (t':=s1.toks+1) hk,turn_enumZ S n1 n2 (nb z (by simp)) (nb TI (by simp)) (nb TO (by simp)) (nb i1 (by simp)) (nb i2 (by simp)),⟨⟨.none,by simpa using he⟩,⟨.none,false,hk _ _ hz,.inl rfl⟩,hk _ _ hTI,⟨_,_,hk _ _ hTO⟩,itX_at g1 fun o x=>hk _ _ x,itX_at g2 fun o x=>hk _ _ x⟩,fun b hb=>?_,q⟩
 rcases List.mem_cons.mp hb with rfl|hb
 ·exact I2.fpOk (Nat.le_refl _) (I2.hok.fresh (Nat.le_refl _))
 ·exact (hf b hb).1
end PL
end
section
namespace PL
open PySem PySem.Spec PyProof.Rows L2
theorem kOf_inj' {a b:K0}(h:kOf a=kOf b):a=b:=by
 cases a with
 | i n =>
  cases b with
  | i m=>simp [kOf] at h;rw [h]
  | s y=>simp [kOf] at h
 | s x =>
  cases b with
  | i m=>simp [kOf] at h
  | s y=>simp [kOf] at h;rw [h]
theorem putK_keys (k:K0)(v:V):∀ {kvs:List (Key × V)} {ks:List K0},(ks.Nodup)→kvs.map (·.1)=ks.map kOf→(putK kvs (kOf k) v).map (·.1)=(putKs k ks).map kOf:=by
 intro kvs ks _ e
 have key:∀ {kvs:List (Key × V)} {ks:List K0},kvs.map (·.1)=ks.map kOf→((kvs.any fun kv=>decide (kv.1=kOf k))=true→(putKs k ks)=ks)∧((kvs.any fun kv=>decide (kv.1=kOf k))=false→putKs k ks=ks++[k]):=by
  intro kvs
  induction kvs with
  | nil =>
   intro ks e
   cases ks with
   | nil=>exact ⟨fun h=>by simp at h,fun _=>rfl⟩
   | cons a t=>simp at e
  | cons p t ih =>
   intro ks e
   cases ks with
   | nil=>simp at e
   | cons a r =>
    simp only [List.map_cons,List.cons.injEq] at e
    obtain ⟨i1,i2⟩:=ih e.2
    by_cases h:a=k
    ·have:decide (p.1=kOf k)=true:=by rw [e.1,h];simp
     refine ⟨fun _=>by simp [putKs,h],fun z=>?_⟩
     simp [this] at z
    ·have:decide (p.1=kOf k)=false:=by
      rw [e.1]
      exact decide_eq_false fun z=>h (kOf_inj' z)
     refine ⟨fun z=>?_,fun z=>?_⟩
     ·rw [List.any_cons,this,Bool.false_or] at z
      simp [putKs,h,i1 z]
     ·rw [List.any_cons,this,Bool.false_or] at z
      simp [putKs,h,i2 z]
 obtain ⟨k1,k2⟩:=key e
 unfold putK
 split
 ·rename_i z
  rw [k1 z,← e,List.map_map]
  refine List.map_congr_left fun p hp=>?_
  simp only [Function.comp]
  split<;>rfl
 ·rename_i z
  rw [k2 ((Bool.not_eq_true _).mp z),List.map_append,List.map_append,e]
  rfl
theorem putKs_mem {k x:K0}:∀ {ks:List K0},x∈putKs k ks→x=k∨x∈ks
 | [],h=>by simp [putKs] at h;exact .inl h
 | a::ks,h=>by
  unfold putKs at h
  split at h
  ·exact .inr h
  ·rcases List.mem_cons.1 h with h|h
   ·exact .inr (by simp [h])
   ·exact (putKs_mem h).imp id fun h=>by simp [h]
theorem putKs_nodup {k:K0}:∀ {ks:List K0},ks.Nodup→(putKs k ks).Nodup
 | [],_=>by simp [putKs]
 | a::ks,h=>by
  rw [List.nodup_cons] at h
  unfold putKs
  split
  ·exact List.nodup_cons.2 h
  ·rename_i hne
   rw [List.nodup_cons]
   exact ⟨fun z=>(putKs_mem z).elim hne h.1,putKs_nodup h.2⟩
theorem putK_vals {K:PySem.W.Frag}{w:World}{F:Foot}{B:Addr→Prop}{H:Hp}(k:K0){v:V}{d:D}(r:Rep K w F B H v d):∀ {kvs:List (Key × V)} {ks:List K0} {ds:List D},ks.Nodup→kvs.map (·.1)=ks.map kOf→RepL K w F B H (kvs.map (·.2)) ds→RepL K w F B H ((putK kvs (kOf k) v).map (·.2)) (putVs k d ks ds):=by
 intro kvs ks ds nd e rl
 have key:∀ {kvs:List (Key × V)} {ks:List K0} {ds:List D},ks.Nodup→kvs.map (·.1)=ks.map kOf→RepL K w F B H (kvs.map (·.2)) ds →
   ((kvs.any fun kv=>decide (kv.1=kOf k))=true→RepL K w F B H ((kvs.map fun kv=>if kv.1=kOf k then (kv.1,v) else kv).map (·.2)) (putVs k d ks ds)) ∧
   ((kvs.any fun kv=>decide (kv.1=kOf k))=false→RepL K w F B H ((kvs++[(kOf k,v)]).map (·.2)) (putVs k d ks ds)∧(kvs.map fun kv=>if kv.1=kOf k then (kv.1,v) else kv)=kvs):=by
  intro kvs
  induction kvs with
  | nil =>
   intro ks ds _ e rl
   cases ks with
   | cons a t=>simp at e
   | nil =>
    cases rl with
    | nil=>exact ⟨fun h=>by simp at h,fun _=>⟨.cons r .nil,rfl⟩⟩
  | cons p t ih =>
   intro ks ds nd e rl
   cases ks with
   | nil=>simp at e
   | cons a q =>
    simp only [List.map_cons,List.cons.injEq] at e
    rw [List.nodup_cons] at nd
    cases rl with
    | cons r1 rt =>
     obtain ⟨i1,i2⟩:=ih nd.2 e.2 rt
     by_cases h:a=k
     ·have hp:p.1=kOf k:=by rw [e.1,h]
      have hno:(t.any fun kv=>decide (kv.1=kOf k))=false:=by
       rw [List.any_eq_false]
       intro x hx
       have:x.1∈q.map kOf:=by rw [← e.2];exact List.mem_map_of_mem hx
       obtain ⟨y,hy,e3⟩:=List.mem_map.1 this
       simp only [decide_eq_true_eq]
       intro z
       rw [z] at e3
       have:=kOf_inj' e3
       exact nd.1 (by rw [h,← this];exact hy)
      obtain ⟨_,i3⟩:=i2 hno
      refine ⟨fun _=>?_,fun z=>?_⟩
      ·rw [List.map_cons,List.map_cons,i3]
       simp only [hp,if_true,putVs,h]
       exact .cons r rt
      ·simp [hp] at z
     ·have hp:¬ p.1=kOf k:=by rw [e.1];exact fun z=>h (kOf_inj' z)
      refine ⟨fun z=>?_,fun z=>?_⟩
      ·have z':(t.any fun kv=>decide (kv.1=kOf k))=true:=by simpa [hp] using z
       rw [List.map_cons,List.map_cons]
       simp only [hp,if_false,putVs,h]
       exact .cons r1 (i1 z')
      ·have z':(t.any fun kv=>decide (kv.1=kOf k))=false:=by
        rw [List.any_cons] at z
        exact (Bool.or_eq_false_iff.1 z).2
       obtain ⟨j1,j2⟩:=i2 z'
       refine ⟨?_,?_⟩
       ·rw [List.cons_append,List.map_cons]
        simp only [putVs,h,if_false]
        exact .cons r1 j1
       ·rw [List.map_cons,j2]
        simp only [hp,if_false]
 obtain ⟨k1,k2⟩:=key nd e rl
 unfold putK
 split
 ·rename_i z;exact k1 z
 ·rename_i z;exact (k2 ((Bool.not_eq_true _).mp z)).1
end PL
end
section
namespace PL
open PySem PySem.Spec PyProof.Rows L2
theorem dctL_len:∀ (ys:List D) (ks:List K0) (ds:List D) (d:D),dctL ks ds ys=some d→∀ k v r,ys=.tup [k,v]::r→∃ kk,k.key=some kk∧ks.length<line∧dctL (putKs kk ks) (putVs kk v ks ds) r=some d:=by
 intro ys ks ds d h k v r e
 subst e
 unfold dctL at h
 cases q:k.key with
 | none=>rw [q] at h;cases h
 | some kk =>
  rw [q,Option.bind_some] at h
  split at h
  ·exact ⟨kk,rfl,by assumption,h⟩
  ·cases h
theorem key_rep {K:PySem.W.Frag}{w:World}{F:Foot}{B:Addr→Prop}{H:Hp}{u:V}{d:D}{kk:K0}(r:Rep K w F B H u d)(h:d.key=some kk):u=kV (kOf kk):=by
 cases d with
 | int m=>cases r;cases h;rfl
 | str s =>
  cases r with
  | str y _ ey =>
   cases h
   subst ey
   rfl
 | _=>cases h
section
variable {X:Cx}{pr:Prog}{XR:XRel}{C:SC}{n:Nat}{W:WX}{cx:Ctx}
theorem dc_in (G:Good X pr XR C n){ek ev:E}{tg:Tg}{it:It}{c:Eo}{own:List Nat}(htg:tgIn own tg=true){σ:L2.St}{H:Hp}{Q:VK}(h:gE X XR W cx (.dc ek ev tg it c own) σ H Q) :
  tDc (gI X XR W cx it) (tG X.K X.w tg) (tBo X.K X.w XR WF cx c) (tE X.K X.w XR WF cx ek) (tE X.K X.w XR WF cx ev) own σ H Q:=by
 obtain ⟨F,B,env,st,ok,h⟩:=h
 unfold evE at h
 generalize hf:lcStep (pairE (evE cx ek) (evE cx ev)) (evB cx c) tg own env=f at h
 have fe:∀ d st,f d st=R.opt (putT tg d (wipeE env own)) fun env'=>(evB cx c env' st).bind fun t st=>if t then ((evE cx ek env' st).bind fun k st=>(evE cx ev env' st).bind fun v st=>.ok (.tup [k,v]) st).bind fun y st=>.ok (some y) st else .ok none st:=fun d st=>by rw [← hf];rfl
 refine ⟨F,B,env,st,ok,?_⟩
 cases q1:evI cx it env st with
 | no=>rw [q1] at h;exact h.elim
 | exc c fs st'=>rw [q1] at h;exact h.elim
 | ok ds st1 =>
  rw [q1,R.bind_ok] at h
  intro J F1 H1 x1 sr1 yl L hL
  cases q2:mapR f ds st1 with
  | no=>rw [q2] at h;exact h.elim
  | exc c fs st'=>rw [q2] at h;exact h.elim
  | ok ys st2 =>
   rw [q2] at h
   change RE X.K X.w XR W F B σ H _ (R.lift (dctL [] [] ys) st2) Q at h
   cases qd:dctL [] [] ys with
   | none=>rw [qd] at h;exact h.elim
   | some dd =>
   rw [qd,R.lift_some] at h
   have ok1:=ok.ext x1 sr1
   have nBL:¬ B L:=fun b=>ok1.occ L b hL
   have nFL:¬ F1.inn L:=fun b=>sr1.occ L b hL
   -- one turn's state
   let T:Nat→Hp→Prop:=fun i H2=>∃ (F2:Foot) (st:St) (kvs:List (Key × V)) (ks:List K0) (ad rest:List D),OkE X.K X.w F2 (fun b=>B b∨b=L) (wipe σ own) H2 (wipeE env own) st ∧
    (∀ a,¬ F1.inn a→H1 a≠none→H2 a=H1 a∧¬ F2.inn a)∧(∀ b,H1 b≠none→H2 b≠none)∧(∀ a,F1.at_=some a→F2.at_=some a) ∧
    H2 L=some (.dK kvs)∧¬ F2.inn L∧(kvs.map (·.1)=ks.map kOf∧ks.Nodup)∧RepL X.K X.w F2 (fun b=>B b∨b=L) H2 (kvs.map (·.2)) ad∧mapR f (ds.drop i) st=.ok rest st2∧dctL ks ad rest=some dd
   have noL:∀ (i:Nat) (s:Slot),s.isOwn=true→(wipeE env own)[i]?=some s→(wipe σ own)[i]?≠some (some (V.ref L)):=by
    intro i s os e z
    obtain ⟨a,h1,h2,h4,h5⟩:=(ok1.wiped own).own i s os e
    rw [h1] at z
    cases z
    exact nBL h4
   refine ⟨fun i m H2=>m=ds.length-i∧i≤ds.length∧T i H2,⟨ds.length,by simp,Nat.zero_le _,?_⟩,?_⟩
   ·refine ⟨F1,st1,[],[],[],ys,(ok1.wiped own).mark hL,fun a fa ha=>⟨upd_ne fun e=>ha (by rw [e];exact hL),fa⟩,fun b hb=>upd_occ hb,fun _ e=>e,upd_same,nFL,⟨rfl,.nil⟩,.nil,by rw [List.drop_zero];exact q2,qd⟩
   ·rintro i m H2 ⟨rfl,hi2,F2,st3,kvs,ks,ad,rest,ok2,k2,oc2,at2,hL2,fL2,hks,racc,hm,hy⟩
    have lat:Lat F1 B H1 F2 (fun b=>B b∨b=L) H2:=⟨fun a fa ba ha=>⟨(k2 a fa ha).1,(k2 a fa ha).2,fun z=>z.elim ba fun e=>ha (by rw [e];exact hL)⟩,at2⟩
    obtain ⟨go,stop⟩:=yl F2 _ H2 lat i
    by_cases hlt:i<ds.length
    ·have hdi:ds[i]?=some ds[i]:=List.getElem?_eq_getElem hlt
     obtain ⟨go1,go2⟩:=go _ hdi
     refine .inr ⟨go1,T (i+1),fun H' t=>⟨ds.length-(i+1),by omega,rfl,hlt,t⟩,fun x H3 hx=>?_⟩
     obtain ⟨x3,s3,rx⟩:=go2 x H3 hx ok2.sr.occ ok2.occ
     have ok3:=ok2.ext x3 (ok2.sr.keep s3)
     have hd:ds.drop i=ds[i]::ds.drop (i+1):=List.drop_eq_getElem_cons hlt
     rw [hd] at hm
     unfold mapR at hm
     have hm:(f ds[i] st3).bind (fun y st=>(mapR f (ds.drop (i+1)) st).bind fun ys st=>.ok (match y with|some y=>y::ys|none=>ys) st)=.ok rest st2:=hm
     rw [fe] at hm
     cases q3:putT tg ds[i] (wipeE env own) with
     | none=>rw [q3] at hm;cases hm
     | some env' =>
      rw [q3,R.opt_some] at hm
      refine ⟨F2,_,_,st3,_,env',ok3,rx,q3,fun σ2 okg wg kg _=>⟨(wg own htg).trans (wipe_sub σ own fun _ h=>h),?_⟩⟩
      have hL3:H3 L=some (.dK kvs)∧¬ F2.inn L:=by
       have:=x3.keep L fL2 (by rw [hL2];simp)
       exact ⟨by rw [this.1];exact hL2,fL2⟩
      -- the test
      refine ⟨F2,_,env',st3,okg,?_⟩
      cases q4:evB cx c env' st3 with
      | no=>rw [q4] at hm;cases hm
      | exc c fs st'=>rw [q4] at hm;cases hm
      | ok t st4 =>
       rw [q4,R.bind_ok] at hm
       intro F4 H4 x4 s4
       have ok4:=okg.ext x4 s4
       have back:∀ {F5:Foot} {H5:Hp} {st5:St},Ext F2 H3 F5 H5→SR st5 F5 H5→OkE X.K X.w F5 (fun b=>B b∨b=L) (wipe σ own) H5 (wipeE env own) st5:=fun x s=>ok3.ext x s
       have keep:∀ {F5:Foot} {H5:Hp},Ext F2 H3 F5 H5→(∀ a,¬ F1.inn a→H1 a≠none→H5 a=H1 a∧¬ F5.inn a)∧(∀ b,H1 b≠none→H5 b≠none)∧(∀ a,F1.at_=some a→F5.at_=some a)∧H5 L=some (.dK kvs)∧¬ F5.inn L:=by
        intro F5 H5 x
        refine ⟨fun a fa ha=>?_,fun b hb=>x.occ b (x3.occ b (oc2 b hb)),fun a e=>x.at_ a (at2 a e),?_,?_⟩
        ·obtain ⟨e1,f1⟩:=k2 a fa ha
         obtain ⟨e2,f2⟩:=x3.keep a f1 (by rw [e1];exact ha)
         obtain ⟨e3,f3⟩:=x.keep a f2 (by rw [e2,e1];exact ha)
         exact ⟨by rw [e3,e2,e1],f3⟩
        ·rw [(x.keep L hL3.2 (by rw [hL3.1];simp)).1];exact hL3.1
        ·exact (x.keep L hL3.2 (by rw [hL3.1];simp)).2
       cases t with
       | false =>
        simp only [Bool.false_eq_true,if_false,R.bind_ok] at hm ⊢
        obtain ⟨k5,o5,a5,L5,f5⟩:=keep x4
        cases q5:mapR f (ds.drop (i+1)) st4 with
        | no=>rw [q5] at hm;cases hm
        | exc c fs st'=>rw [q5] at hm;cases hm
        | ok rest' st' =>
         rw [q5] at hm
         simp only [R.bind_ok,R.ok.injEq] at hm
         obtain ⟨rfl,rfl⟩:=hm
         exact ⟨F4,st4,kvs,ks,ad,_,back x4 s4,k5,o5,a5,L5,f5,hks,((racc.ext x3).ext x4),q5,hy⟩
       | true =>
        simp only [if_true] at hm ⊢
        refine ⟨F4,_,env',st4,ok4,?_⟩
        cases q5:evE cx ek env' st4 with
        | no=>rw [q5] at hm;cases hm
        | exc c fs st'=>rw [q5] at hm;cases hm
        | ok yk st5 =>
         rw [q5,R.bind_ok] at hm
         intro kv F5 H5 x5 s5 rk _
         have ok5:=ok4.ext x5 s5
         refine ⟨F5,_,env',st5,ok5,?_⟩
         cases q6:evE cx ev env' st5 with
         | no=>rw [q6] at hm;cases hm
         | exc c fs st'=>rw [q6] at hm;cases hm
         | ok y st6 =>
          rw [q6,R.bind_ok,R.bind_ok,R.bind_ok] at hm
          intro yv F6 H6 x6 s6 ry _
          cases q7:mapR f (ds.drop (i+1)) st6 with
          | no=>rw [q7] at hm;cases hm
          | exc c fs st'=>rw [q7] at hm;cases hm
          | ok rest' st' =>
           rw [q7] at hm
           simp only [R.bind_ok,R.ok.injEq] at hm
           obtain ⟨rfl,rfl⟩:=hm
           have x46:=x4.trans (x5.trans x6)
           obtain ⟨k5,o5,a5,L5,f5⟩:=keep x46
           have racc6:=(((racc.ext x3).ext x4).ext x5).ext x6
           obtain ⟨kk,hkk,hln,hnx⟩:=dctL_len _ _ _ _ hy yk y rest' rfl
           have hkl:kvs.length=ks.length:=by
            have:=congrArg List.length hks.1
            simpa using this
           refine ⟨kvs,kOf kk,key_rep rk hkk,L5,by rw [← lineEq,hkl];exact hln,F6,st6,putK kvs (kOf kk) yv,putKs kk ks,putVs kk y ks ad,rest',(back x46 s6).touch (by rw [L5];simp) f5 noL,fun a fa ha=>?_,fun b hb=>upd_occ (o5 b hb),a5,upd_same,f5,⟨putK_keys kk yv hks.2 hks.1,putKs_nodup hks.2⟩,?_,q7,hnx⟩
           ·rw [upd_ne fun e=>ha (by rw [e];exact hL)]
            exact k5 a fa ha
           ·exact (putK_vals kk ry hks.2 hks.1 racc6).move (fun a f b _=>⟨upd_ne fun e=>b (.inr e),f,b⟩) fun _ e=>e
    ·have hii:i=ds.length:=by omega
     subst hii
     refine .inl ⟨stop rfl,?_⟩
     rw [List.drop_length] at hm
     unfold mapR at hm
     cases hm
     unfold dctL at hy
     cases hy
     have hx:Ext F H F2 H2:=by
      constructor
      ·intro a fa ha
       obtain ⟨e1,f1⟩:=x1.keep a fa ha
       obtain ⟨e2,f2⟩:=k2 a f1 (by rw [e1];exact ha)
       exact ⟨by rw [e2,e1],f2⟩
      ·exact fun b hb=>oc2 b (x1.occ b hb)
      ·exact fun a e=>at2 a (x1.at_ a e)
     exact h (.ref L) F2 H2 hx ok2.sr (.dct hL2 fL2 nBL hks.1 (racc.anti fun a b=>.inl b)) fun z=>absurd z (by show ¬ false=true;decide)
theorem x_dc (G:Good X pr XR C n)(hcal:C.cal=true){ek ev:E}{tg:Tg}{it:It}{c:Eo}{own:List Nat}{pk pv ptg pit:Expr}{ifs:List Expr}{scope:Scope}{pos:Pos}
  (hi:PI X ptg pit (gI X XR W cx it)) (bok:BlkOk X.N X.env.scope scope (ownN C.N own)) (hown:(ownN C.N own).map (·.2)=own) (htg:tgIn own tg=true)
  (hg:∀ (s:Shared) (H:Hp) (Ca:Addr) (cl:List (Str × Addr)) (fp:List Addr),PG (X.blk s H scope (compEnvC scope cl Ca X.env) fp) ptg (tG X.K X.w tg))
  (ht:∀ (s:Shared) (H:Hp) (Ca:Addr) (cl:List (Str × Addr)) (fp:List Addr),PTs (X.blk s H scope (compEnvC scope cl Ca X.env) fp) ifs (tBo X.K X.w XR WF cx c))
  (hk:∀ (s:Shared) (H:Hp) (Ca:Addr) (cl:List (Str × Addr)) (fp:List Addr),PE (X.blk s H scope (compEnvC scope cl Ca X.env) fp) pk (tE X.K X.w XR WF cx ek))
  (he:∀ (s:Shared) (H:Hp) (Ca:Addr) (cl:List (Str × Addr)) (fp:List Addr),PE (X.blk s H scope (compEnvC scope cl Ca X.env) fp) pv (tE X.K X.w XR WF cx ev))
  (hs:∀ x,foldedSetIterable pit X.env x=pure x):PE X (.DictComp pk pv [⟨ptg,pit,ifs,0⟩] scope pos) (gE X XR W cx (.dc ek ev tg it c own)) :=
 PE.of (pe_dc (G.calm hcal) G.nd hi bok hg ht hk he hs) fun σ H Q h=>by rw [hown];exact dc_in G htg h
end
end PL
end
section
namespace PLS
open PySem PySem.Spec PyProof.Rows L2
section
end
end PLS
end
section
namespace PL
open PySem PySem.Spec PyProof.Rows L2
section
variable {X:Cx}{pr:Prog}{XR:XRel}{C:SC}{n:Nat}{W:WX}{cx:Ctx}
variable {p q r:Expr}{ps:List Expr}{a b c e:E}{es:Es}{pos:Pos}
structure SE (X:Cx)(XR:XRel)(W:WX)(cx:Ctx)(e:E)(p:Expr):Prop where
 v:PE X p (gE X XR W cx e)
 t:PT X p (gT X XR W cx e)
 w:∀ op l pos,p=.BoolOp op l pos→PW X p (gT X XR W cx e)
def okPlain:Expr→Bool
 | .UnaryOp .Not _ _=>false
 | .BoolOp _ _ _=>false
 | .IfExp _ _ _ _=>false
 | .Compare _ _ _ _=>false
 | _=>true
theorem plain_isTrue (h:okPlain p=true)(env:PySem.Env)(whole:Sem Value):isTrue p env whole=(do let v ← whole;standAt p.pos;holding [v] (truthy v)):=by
 cases p<;>first|rfl|(simp [okPlain] at h;done)|skip
 rename_i op a pos
 cases op<;>first|rfl|(simp [okPlain] at h)
theorem SE.plain (h:okPlain p=true)(hv:PE X p (gE X XR W cx e)):SE X XR W cx e p where
 v:=hv
 t:=PT.of (pt_truth hv (plain_isTrue h X.env)) fun σ H Q h=>by
  obtain ⟨F,B,env,st,ok,h⟩:=h
  refine ⟨F,B,env,st,ok,?_⟩
  unfold evT at h
  cases q:evE cx e env st with
  | ok d st' =>
   rw [q,R.bind_ok] at h
   intro v F' H' x s r _
   cases e:d.truth with
   | none=>rw [e] at h;exact h.elim
   | some t=>rw [e] at h;exact ⟨t,tru_of r e,h F' H' x s⟩
  | exc c fs st'=>rw [q,R.bind_exc] at h;exact h
  | no=>rw [q,R.bind_no] at h;exact h
 w:=fun op l pos e=>by subst e;simp [okPlain] at h
theorem tT_bl (hb:∀ env st d st',evE cx e env st=.ok d st'→∃ b,d=.bl b){σ:L2.St}{H:Hp}{Q:Bool→Hp→Prop}(h:gT X XR W cx e σ H Q):gE X XR W cx e σ H fun z H=>∃ k,z=.bl k∧Q k H:=by
 obtain ⟨F,B,env,st,ok,h⟩:=h
 refine ⟨F,B,env,st,ok,?_⟩
 unfold evT at h
 cases q:evE cx e env st with
 | ok d st' =>
  rw [q,R.bind_ok] at h
  obtain ⟨b,rfl⟩:=hb env st d st' q
  intro v F' H' x s r _
  cases r
  exact ⟨b,rfl,h F' H' x s⟩
 | exc c fs st'=>rw [q,R.bind_exc] at h;exact h
 | no=>rw [q,R.bind_no] at h;exact h
theorem bind_ok_of {α β:Type}{r:R α}{f:α→St→R β}{b:β}{st':St}(h:r.bind f=.ok b st'):∃ a st,r=.ok a st∧f a st=.ok b st':=by
 cases r with
 | ok a st=>exact ⟨a,st,rfl,h⟩
 | exc c fs st=>cases h
 | no=>cases h
theorem lift_ok_of {α:Type}{o:Option α}{st st':St}{a:α}(h:R.lift o st=.ok a st'):o=some a∧st=st':=by
 cases o with
 | none=>cases h
 | some b=>cases h;exact ⟨rfl,rfl⟩
theorem se_cmp (hu:X.A.units+65<cLine)(o:Cop)(ha:PE X p (gE X XR W cx a))(hb:PE X q (gE X XR W cx b))(hm:behindInMarks (copOf o) q=false):SE X XR W cx (.cmp o a b) (.Compare p [copOf o] [q] pos) where
 v:=x_cmp hu o ha hb hm
 t:=PT.of (pt_cmpR (cop_R hu o) ha hb hm) fun σ H Q h=>cmp_in o (tT_bl (fun env st d st' e=>by
  unfold evE at e
  obtain ⟨_,_,_,e⟩:=bind_ok_of e
  obtain ⟨_,_,_,e⟩:=bind_ok_of e
  obtain ⟨e,_⟩:=lift_ok_of e
  obtain ⟨b,_,rfl⟩:=Option.map_eq_some_iff.mp e
  exact ⟨b,rfl⟩) h)
 w:=fun op l pos e=>by cases e
theorem se_chn (hu:X.A.units+65<cLine)(o1 o2:Cop)(ha:PE X p (gE X XR W cx a))(hb:PE X q (gE X XR W cx b))(hc:PE X r (gE X XR W cx c))(hm:lastMarks [copOf o1,copOf o2] [q,r]=false) :
  SE X XR W cx (.chn o1 o2 a b c) (.Compare p [copOf o1,copOf o2] [q,r] pos) where
 v:=x_chn hu o1 o2 ha hb hc hm
 t:=PT.of (pt_chain (cop_R hu o1) (cop_R hu o2) ha hb hc hm) fun σ H Q h=>chn_in o1 o2 (tT_bl (fun env st d st' e=>by
  unfold evE at e
  obtain ⟨_,_,_,e⟩:=bind_ok_of e
  obtain ⟨_,_,_,e⟩:=bind_ok_of e
  obtain ⟨t,_,_,e⟩:=bind_ok_of e
  cases t with
  | true =>
   simp only [if_true] at e
   obtain ⟨_,_,_,e⟩:=bind_ok_of e
   obtain ⟨e,_⟩:=lift_ok_of e
   obtain ⟨b,_,rfl⟩:=Option.map_eq_some_iff.mp e
   exact ⟨b,rfl⟩
  | false =>
   simp only [Bool.false_eq_true,if_false,R.ok.injEq] at e
   exact ⟨_,e.1.symm⟩) h)
 w:=fun op l pos e=>by cases e
theorem se_isn {j pos'}(ha:PE X p (gE X XR W cx a)):SE X XR W cx (.isn a) (.Compare p [.Is] [.Constant .none j pos'] pos) where
 v:=x_isn ha
 t:=PT.of (pt_cmp (pc_isN ha) rfl) fun σ H Q h=>by
  obtain ⟨F,B,env,st,ok,h⟩:=h
  refine ⟨F,B,env,st,ok,?_⟩
  unfold evT at h
  unfold evE at h
  cases q:evE cx a env st with
  | ok d st' =>
   rw [q] at h
   intro v F' H' x s r _
   exact ⟨_,rfl,by rw [isN_v r];exact h F' H' x s⟩
  | exc c fs st'=>rw [q] at h;exact h
  | no=>rw [q] at h;exact h
 w:=fun op l pos e=>by cases e
theorem se_isnn {j pos'}(ha:PE X p (gE X XR W cx a)):SE X XR W cx (.isnn a) (.Compare p [.IsNot] [.Constant .none j pos'] pos) where
 v:=x_isnn ha
 t:=PT.of (pt_cmp (pc_notN ha) rfl) fun σ H Q h=>by
  obtain ⟨F,B,env,st,ok,h⟩:=h
  refine ⟨F,B,env,st,ok,?_⟩
  unfold evT at h
  unfold evE at h
  cases q:evE cx a env st with
  | ok d st' =>
   rw [q] at h
   intro v F' H' x s r _
   exact ⟨_,rfl,by rw [isN_v r];exact h F' H' x s⟩
  | exc c fs st'=>rw [q] at h;exact h
  | no=>rw [q] at h;exact h
 w:=fun op l pos e=>by cases e
theorem tT.firstB {K:PySem.W.Frag}{w:World}{F:Foot}{B:Addr→Prop}{σ:L2.St}{H:Hp}{env:Env}{st:St}(o:OkE K w F B σ H env st){e:E}{f:Bool→St→R Bool}{Q:Bool→Hp→Prop}{Q':Bool→Hp→Prop}
  (h:RB XR W F σ H ((evT cx e env st).bind f) Q)
  (k:∀ t st' F' H',Ext F H F' H'→OkE K w F' B σ H' env st'→RB XR W F σ H (f t st') Q→Q' t H'):tT K w XR W cx e σ H Q':=by
 refine ⟨F,B,env,st,o,?_⟩
 cases q:evT cx e env st with
 | ok d st' =>
  rw [q,R.bind_ok] at h
  intro F' H' x s
  exact k d st' F' H' x (o.ext x s) h
 | exc c fs st'=>rw [q,R.bind_exc] at h;exact h
 | no=>rw [q,R.bind_no] at h;exact h
theorem RB.shift {F F1:Foot}{σ:L2.St}{H H1:Hp}(x:Ext F H F1 H1){r:R Bool}{Q:Bool→Hp→Prop}(h:RB XR W F σ H r Q):RB XR W F1 σ H1 r Q:=by
 cases r with
 | ok d st'=>exact fun F' H' y s=>h F' H' (x.trans y) s
 | exc c fs st'=>exact fun cls dx F' H' y s r=>h cls dx F' H' (x.trans y) s r
 | no=>exact h
theorem evT_not (env:Env)(st:St):evT cx (.not a) env st=(evT cx a env st).bind fun t st=>.ok (!t) st:=by
 unfold evT
 rw [evE]
 cases evE cx a env st with
 | ok d st' =>
  simp only [R.bind_ok]
  cases d.truth<;>rfl
 | exc c fs st'=>rfl
 | no=>rfl
theorem evT_and (env:Env)(st:St):evT cx (.and a b) env st=(evT cx a env st).bind fun t st=>if t then evT cx b env st else .ok false st:=by
 unfold evT
 rw [evE]
 cases evE cx a env st with
 | ok d st' =>
  simp only [R.bind_ok]
  cases e:d.truth with
  | none=>rfl
  | some t =>
   simp only [R.lift_some,R.bind_ok]
   cases t with
   | true=>rfl
   | false=>simp only [Bool.false_eq_true,if_false,R.bind_ok,e,R.lift_some]
 | exc c fs st'=>rfl
 | no=>rfl
theorem evT_or (env:Env)(st:St):evT cx (.or a b) env st=(evT cx a env st).bind fun t st=>if t then .ok true st else evT cx b env st:=by
 unfold evT
 rw [evE]
 cases evE cx a env st with
 | ok d st' =>
  simp only [R.bind_ok]
  cases e:d.truth with
  | none=>rfl
  | some t =>
   simp only [R.lift_some,R.bind_ok]
   cases t with
   | true=>simp only [if_true,R.bind_ok,e,R.lift_some]
   | false=>rfl
 | exc c fs st'=>rfl
 | no=>rfl
theorem evT_ifx (env:Env)(st:St):evT cx (.ifx c a b) env st=(evT cx c env st).bind fun t st=>if t then evT cx a env st else evT cx b env st:=by
 unfold evT
 rw [evE]
 cases evE cx c env st with
 | ok d st' =>
  simp only [R.bind_ok]
  cases e:d.truth with
  | none=>rfl
  | some t =>
   simp only [R.lift_some,R.bind_ok]
   cases t<;>rfl
 | exc c fs st'=>rfl
 | no=>rfl
theorem se_not (ha:SE X XR W cx a p):SE X XR W cx (.not a) (.UnaryOp .Not p pos) where
 v:=x_not ha.v
 t:=PT.of (pt_not ha.t) fun σ H Q h=>by
  obtain ⟨F,B,env,st,ok,h⟩:=h
  rw [evT_not] at h
  exact tT.firstB ok h fun t st1 F1 H1 x1 ok1 h=>h F1 H1 x1 ok1.sr
 w:=fun op l pos e=>by cases e
theorem and_in {σ:L2.St}{H:Hp}{Q:Bool→Hp→Prop}(h:gT X XR W cx (.and a b) σ H Q):tAnd (gT X XR W cx a) (gT X XR W cx b) σ H Q:=by
 obtain ⟨F,B,env,st,ok,h⟩:=h
 rw [evT_and] at h
 refine tT.firstB ok h fun t st1 F1 H1 x1 ok1 h=>?_
 cases t with
 | true=>simp only [if_true] at h ⊢;exact ⟨F1,B,env,st1,ok1,h.shift x1⟩
 | false=>simp only [Bool.false_eq_true,if_false] at h ⊢;exact h F1 H1 x1 ok1.sr
theorem or_in {σ:L2.St}{H:Hp}{Q:Bool→Hp→Prop}(h:gT X XR W cx (.or a b) σ H Q):tOr (gT X XR W cx a) (gT X XR W cx b) σ H Q:=by
 obtain ⟨F,B,env,st,ok,h⟩:=h
 rw [evT_or] at h
 refine tT.firstB ok h fun t st1 F1 H1 x1 ok1 h=>?_
 cases t with
 | true=>simp only [if_true] at h ⊢;exact h F1 H1 x1 ok1.sr
 | false=>simp only [Bool.false_eq_true,if_false] at h ⊢;exact ⟨F1,B,env,st1,ok1,h.shift x1⟩
theorem PW.of {X:Cx}{e:Expr}{t t':TT}(h:PW X e t)(i:∀ σ H Q,t' σ H Q→t σ H Q):PW X e t':=⟨fun wh pins s σ H Q I q=>h.run wh pins s σ H Q I (i _ _ _ q)⟩
abbrev tailB (op:BoolOp)(q:Expr)(r:List Expr)(pos:Pos):Expr:=match r with|[]=>q|_::_=>.BoolOp op (q::r) pos
theorem se_and {r:List Expr}(ha:SE X XR W cx a p)(hb:SE X XR W cx b (tailB .And q r pos)):SE X XR W cx (.and a b) (.BoolOp .And (p::q::r) pos):=by
 have hv:PE X (.BoolOp .And (q::r) pos) (gE X XR W cx b):=by
  cases r with
  | nil=>exact pe_one hb.v
  | cons _ _=>exact hb.v
 have hw:PW X (.BoolOp .And (q::r) pos) (gT X XR W cx b):=by
  cases r with
  | nil=>exact pw_and1 hb.t
  | cons _ _=>exact hb.w _ _ _ rfl
 have w:PW X (.BoolOp .And (p::q::r) pos) (gT X XR W cx (.and a b)):=PW.of (pw_and ha.t hw) fun σ H Q h=>and_in h
 exact ⟨x_and ha.v hv,w.pt,fun _ _ _ _=>w⟩
theorem se_or {r:List Expr}(ha:SE X XR W cx a p)(hb:SE X XR W cx b (tailB .Or q r pos)):SE X XR W cx (.or a b) (.BoolOp .Or (p::q::r) pos):=by
 have hv:PE X (.BoolOp .Or (q::r) pos) (gE X XR W cx b):=by
  cases r with
  | nil=>exact pe_one hb.v
  | cons _ _=>exact hb.v
 have hw:PW X (.BoolOp .Or (q::r) pos) (gT X XR W cx b):=by
  cases r with
  | nil=>exact pw_or1 hb.t
  | cons _ _=>exact hb.w _ _ _ rfl
 have w:PW X (.BoolOp .Or (p::q::r) pos) (gT X XR W cx (.or a b)):=PW.of (pw_or ha.t hw) fun σ H Q h=>or_in h
 exact ⟨x_or ha.v hv,w.pt,fun _ _ _ _=>w⟩
theorem se_ifx (hc:SE X XR W cx c r)(ha:SE X XR W cx a p)(hb:SE X XR W cx b q):SE X XR W cx (.ifx c a b) (.IfExp r p q pos) where
 v:=x_ifx hc.t ha.v hb.v
 t:=⟨fun pins s σ H Q I h=>by
  have h':gT X XR W cx c σ H fun t H1=>if t=true then gT X XR W cx a σ H1 Q else gT X XR W cx b σ H1 Q:=by
   obtain ⟨F,B,env,st,ok,h⟩:=h
   rw [evT_ifx] at h
   refine tT.firstB ok h fun t st1 F1 H1 x1 ok1 h=>?_
   cases t with
   | true=>simp only [if_true] at h ⊢;exact ⟨F1,B,env,st1,ok1,h.shift x1⟩
   | false=>simp only [Bool.false_eq_true,if_false] at h ⊢;exact ⟨F1,B,env,st1,ok1,h.shift x1⟩
  show wpAny (model X.prog X.w) X.A (do if ← isTrue r X.env (eval r X.env) then isTrue p X.env (eval p X.env) else isTrue q X.env (eval q X.env)) _ _ _
  refine wpAny_bind (thn (hc.t.run pins s σ H _ I h') fun t s1 ⟨H1,I1,q1⟩=>?_)
  cases t with
  | true=>exact ha.t.run pins s1 σ H1 Q I1 q1
  | false=>exact hb.t.run pins s1 σ H1 Q I1 q1⟩
 w:=fun op l pos e=>by cases e
end
end PL
end
section
namespace PL
open PySem PySem.Spec PyProof.Rows L2
section
variable {K:PySem.W.Frag}{w:World}{F:Foot}{B:Addr→Prop}{σ:L2.St}{H:Hp}{env:Env}{st:St}
structure StrIs (F:Foot)(H:Hp)(s:Strm)(a0 a1 a2:Addr):Prop where
 at_:F.at_=some a0
 inn:∀ b,F.inn b↔b=a0∨b=a1∨b=a2
 n1:a0≠a1
 n2:a0≠a2
 n3:a1≠a2
 h0:H a0=some (.lst [.ref a1,.ref a2,.int s.turn])
 h1:H a1=some (.lst (s.big.map V.int))
 h2:H a2=some (.lst (s.cells.map V.int))
 ne:s.cells≠[]
theorem StrIs.of {s:Strm}(h:SR (some s) F H):∃ a0 a1 a2,StrIs F H s a0 a1 a2:=by
 obtain ⟨a0,a1,a2,e,i,n1,n2,n3,h0,h1,h2,c⟩:=h
 exact ⟨a0,a1,a2,e,i,n1,n2,n3,h0,h1,h2,c⟩
theorem StrIs.sr {s:Strm}{a0 a1 a2:Addr}(h:StrIs F H s a0 a1 a2):SR (some s) F H:=⟨a0,a1,a2,h.at_,h.inn,h.n1,h.n2,h.n3,h.h0,h.h1,h.h2,h.ne⟩
theorem str_at {i:Nat}{s:Strm}(ok:OkE K w F B σ H env st)(e:strAt env i st=some s):st=some s∧∃ a0 a1 a2,σ[i]?=some (some (.ref a0))∧StrIs F H s a0 a1 a2:=by
 cases st with
 | none=>cases e
 | some s' =>
  have key:env.get i=some (.ob 0 [])∧s'=s:=by
   unfold strAt at e
   dsimp only at e
   split at e
   ·cases e
    exact ⟨by assumption,rfl⟩
   ·cases e
  obtain ⟨e2,rfl⟩:=key
  obtain ⟨v,h1,h2⟩:=ok.get e2
  cases h2 with
  | ob0 h =>
   obtain ⟨a0,a1,a2,S⟩:=StrIs.of ok.sr
   rw [S.at_] at h
   cases h
   exact ⟨rfl,_,_,_,h1,S⟩
abbrev F0:Foot:=⟨none,fun _=>False⟩
theorem ints_plain (l:List Int):D.plains (l.map D.int)=true∧D.depths (l.map D.int)=0:=by
 induction l with
 | nil=>exact ⟨rfl,rfl⟩
 | cons a r ih=>simp [D.plains,D.plain,D.depths,D.depth,ih.1,ih.2]
theorem ints_shaped (l:List Int):(D.lst (l.map D.int)).shaped=true:=by
 unfold D.shaped
 simp [D.plain,D.depth,ints_plain l]
theorem at0 {x:V}{r:List V}:atI (x::r) 0=some x:=by
 refine ix_at (i:=0) ?_
 simp [ix]
theorem ix3 {x y z:V}:atI [x,y,z] 0=some x∧atI [x,y,z] 1=some y∧atI [x,y,z] 2=some z:=by
 refine ⟨ix_at ?_,ix_at ?_,ix_at ?_⟩<;>simp [ix]
end
section
variable {X:Cx}{pr:Prog}{XR:XRel}{C:SC}{n:Nat}{W:WX}{cx:Ctx}
theorem nm_pe (Gd:Good X pr XR C n){i:Nat}{x:Str}{p:Pos}(h1:okName x=true)(h2:Vis X.env.scope x)(h3:C.N[i]?=some x):PE X (.Name x p) (tVar i):=by
 unfold okName at h1
 simp only [Bool.and_eq_true,Bool.not_eq_true'] at h1
 exact pe_var (by rw [Gd.N];exact h3) h2 h1.1 h1.2.1
theorem plainC {c:Const}{j:Nat}{p:Pos}:PlainIx (.Constant c j p):=fun _ _=>rfl
theorem sub_pe (Gd:Good X pr XR C n){i:Nat}{x:Str}{p p2 p3:Pos}{k:Int}{j:Nat}(h1:okName x=true)(h2:Vis X.env.scope x)(h3:C.N[i]?=some x) :
  PE X (.Subscript (.Name x p) (.Constant (.int k) j p2) p3) (tOp (rIxL X.K) (tVar i) (tC (.int k))):=pe_ix ix_list (nm_pe Gd h1 h2 h3) pe_int plainC
theorem has_in {i:Nat}{σ:L2.St}{H:Hp}{Q:VK}(h:gE X XR W cx (.sHas i) σ H Q):tOp (rCop X.K X.w .ne) (tOp (rIxL X.K) (tVar i) (tC (.int 0))) (tLst tNil) σ H Q:=by
 obtain ⟨F,B,env,st,ok,h⟩:=h
 unfold evE at h
 obtain ⟨d,e⟩:=RE.some_of h
 obtain ⟨s,e1,rfl⟩:=Option.map_eq_some_iff.mp e
 obtain ⟨rfl,a0,a1,a2,h1,S⟩:=str_at ok e1
 refine ⟨_,h1,a0,_,0,_,rfl,rfl,.of S.h0,ix3.1,?_⟩
 refine ⟨Nat.zero_le _,fun p hp=>?_⟩
 have hne:a1≠p:=fun e=>by have:=S.h1;rw [e,hp] at this;cases this
 refine ne_ok (F:=F0) (B:=fun _=>False) (K:=X.K) (w:=X.w) (d1:=.lst (s.big.map D.int)) (d2:=.lst []) (b:=s.big.isEmpty) ?_ (.lst (xs:=s.big.map V.int) (by rw [upd_ne hne];exact S.h1) (fun z=>z) (fun z=>z) (RepL.of_ints _)) (.lst (xs:=[]) upd_same (fun z=>z) (fun z=>z) .nil) ?_
 ·show (if (D.lst (s.big.map D.int)).shaped&&(D.lst []).shaped then some (D.eqv (.lst (s.big.map D.int)) (.lst [])) else none)=_
  rw [ints_shaped]
  have:(D.lst []).shaped=true:=ints_shaped []
  rw [this]
  cases s.big<;>rfl
 ·exact RE.fin h e (Ext.new hp) (ok.sr.new hp) (.bl _)
theorem se_has (Gd:Good X pr XR C n){i:Nat}{x:Str}{p p2 p3 p4 p5:Pos}{j:Nat}(h1:okName x=true)(h2:Vis X.env.scope x)(h3:C.N[i]?=some x) :
  SE X XR W cx (.sHas i) (.Compare (.Subscript (.Name x p) (.Constant (.int 0) j p2) p3) [.NotEq] [.List [] p4] p5) where
 v:=PE.of (pe_cmpR (cop_R (by have:=Gd.un;omega) .ne) (sub_pe Gd h1 h2 h3) (pe_lst pa_nil) rfl) fun σ H Q h=>has_in h
 t:=PT.of (pt_cmpR (cop_R (by have:=Gd.un;omega) .ne) (sub_pe Gd h1 h2 h3) (pe_lst pa_nil) rfl) fun σ H Q h=>has_in (tT_bl (fun env st d st' e=>by
  unfold evE at e
  obtain ⟨e,_⟩:=lift_ok_of e
  obtain ⟨s,_,rfl⟩:=Option.map_eq_some_iff.mp e
  exact ⟨_,rfl⟩) h)
 w:=fun op l pos e=>by cases e
theorem x_sBig (Gd:Good X pr XR C n){i:Nat}{x:Str}{p p2 p3 p4 p5:Pos}{j j2:Nat}(h1:okName x=true)(h2:Vis X.env.scope x)(h3:C.N[i]?=some x) :
  PE X (.Subscript (.Subscript (.Name x p) (.Constant (.int 0) j p2) p3) (.Constant (.int 0) j2 p4) p5) (gE X XR W cx (.sBig i)):=by
 refine PE.of (pe_ix ix_list (sub_pe Gd h1 h2 h3) pe_int plainC) fun σ H Q h=>?_
 obtain ⟨F,B,env,st,ok,h⟩:=h
 unfold evE at h
 obtain ⟨d,e⟩:=RE.some_of h
 obtain ⟨s,e1,e2⟩:=Option.bind_eq_some_iff.mp e
 obtain ⟨b,e3,rfl⟩:=Option.map_eq_some_iff.mp e2
 obtain ⟨rfl,a0,a1,a2,k1,S⟩:=str_at ok e1
 refine ⟨_,k1,a0,_,0,_,rfl,rfl,.of S.h0,ix3.1,?_⟩
 refine ⟨a1,_,0,.int b,rfl,rfl,.of S.h1,?_,RE.fin h e (Ext.refl F H) ok.sr (.int b)⟩
 cases hb:s.big with
 | nil=>rw [hb] at e3;cases e3
 | cons z r =>
  rw [hb] at e3
  cases e3
  exact at0
theorem x_sTurn (Gd:Good X pr XR C n){i:Nat}{x:Str}{p p2 p3:Pos}{j:Nat}(h1:okName x=true)(h2:Vis X.env.scope x)(h3:C.N[i]?=some x) :
  PE X (.Subscript (.Name x p) (.Constant (.int 2) j p2) p3) (gE X XR W cx (.sTurn i)):=by
 refine PE.of (sub_pe Gd h1 h2 h3) fun σ H Q h=>?_
 obtain ⟨F,B,env,st,ok,h⟩:=h
 unfold evE at h
 obtain ⟨d,e⟩:=RE.some_of h
 obtain ⟨s,e1,rfl⟩:=Option.map_eq_some_iff.mp e
 obtain ⟨rfl,a0,a1,a2,k1,S⟩:=str_at ok e1
 exact ⟨_,k1,a0,_,2,_,rfl,rfl,.of S.h0,ix3.2.2,RE.fin h e (Ext.refl F H) ok.sr (.int _)⟩
theorem x_sCell (Gd : Good X pr XR C n){i l : Nat}{x y : Str}{p p2 p3 q1 q2 q3 q4 q5 q6 q7 q8 : Pos}{j j2 : Nat}(h1 : okName x = true)(h2 : Vis X.env.scope x)(h3 : C.N[i]? = some x)(y1 : okName y = true)(y2 : Vis X.env.scope y)(y3 : C.N[l]? = some y)(hg : Gl X "len") :
  PE X (.Subscript (.Subscript (.Name x p) (.Constant (.int 1) j p2) p3) (.BinOp (.Name y q1) .Mod (.Call (.Name "len" q2) [.Subscript (.Name x q3) (.Constant (.int 1) j2 q4) q5] [] q6) q7) q8) (gE X XR W cx (.sCell i l)) := by
 refine PE.of (pe_ix ix_list (sub_pe Gd h1 h2 h3) (pe_op op_modN (nm_pe Gd y1 y2 y3) (pe_callB call_len_seq hg (Gd.blt _ (by decide)) (by decide +kernel) (pa_cons (sub_pe Gd h1 h2 h3) pa_nil rfl))) fun _ _=>rfl) fun σ H Q h=>?_
 obtain ⟨F,B,env,st,ok,h⟩:=h
 unfold evE at h
 obtain ⟨d,e⟩:=RE.some_of h
 obtain ⟨s,e1,e2⟩:=Option.bind_eq_some_iff.mp e
 obtain ⟨dt,e3,e4⟩:=Option.bind_eq_some_iff.mp e2
 obtain ⟨rfl,a0,a1,a2,k1,S⟩:=str_at ok e1
 obtain ⟨vt,k2,k3⟩:=ok.get e3
 cases dt with
 | int t =>
  cases k3
  simp only [cellD,Option.some.injEq] at e4
  subst e4
  have hl:0<s.cells.length:=List.length_pos_iff.mpr S.ne
  refine ⟨_,k1,a0,_,1,_,rfl,rfl,.of S.h0,ix3.2.1,?_⟩
  refine ⟨_,k2,_,k1,a0,_,1,_,rfl,rfl,.of S.h0,ix3.2.1,?_⟩
  refine ⟨a2,_,rfl,.inl (.of S.h2),?_⟩
  rw [List.length_map]
  refine ⟨t,_,rfl,rfl,by omega,?_⟩
  have hm:t.fmod (s.cells.length:Int)=t%(s.cells.length:Int):=Int.fmod_eq_emod_of_nonneg t (by omega)
  have m1:=Int.emod_nonneg t (show (s.cells.length:Int)≠0 by omega)
  have m2:=Int.emod_lt_of_pos t (show 0<(s.cells.length:Int) by omega)
  refine ⟨a2,_,_,.int (s.cells.getD (t%s.cells.length).toNat 0),rfl,rfl,.of S.h2,ix_at ?_,RE.fin h e (Ext.refl F H) ok.sr (.int _)⟩
  rw [hm]
  unfold ix
  rw [if_pos m1,List.getElem?_map]
  have hi:(t%(s.cells.length:Int)).toNat<s.cells.length:=by omega
  rw [List.getElem?_eq_getElem hi,List.getD_eq_getElem?_getD,List.getElem?_eq_getElem hi]
  rfl
 | _=>cases e4
end
end PL
end
section
namespace L2
open PySem PySem.Spec PyProof.Rows
section
end
section
end
end L2
end
section
namespace PL
open PySem PySem.Spec PyProof.Rows L2
section
end
section
variable {X:Cx}{pr:Prog}{XR:XRel}{C:SC}{n:Nat}{W:WX}{cx:Ctx}
variable {p q r:Expr}{ps:List Expr}{a b c e:E}{es:Es}{pos:Pos}
theorem zipO_inv {x y:D}{ds:List D}(h:zipO x y=some ds):∃ a b,x.items=some a∧y.items=some b∧ds=zipD a b:=by
 obtain ⟨a,h1,h2⟩:=Option.bind_eq_some_iff.mp h
 obtain ⟨b,h3,h4⟩:=Option.map_eq_some_iff.mp h2
 exact ⟨a,b,h1,h3,h4.symm⟩
theorem i_zp (G : Good X pr XR C n){pp tpos : Pos}{elts : List Expr}{k : Nat}(hg : Gl X "zip")(hs : isStar p = false)(hs2 : isStar q = false)(ha : PE X p (gE X XR W cx a))(hb : PE X q (gE X XR W cx b)) :
  PI X (.Tuple elts k tpos) (.Call (.Name "zip" pp) [p, q] [] pos) (gI X XR W cx (.zp a b)) := by
 have he:=star_ns hs [q] X.env
 have he2:=star_ns hs2 [] X.env
 refine PI.of (pi_zipX2 hg (G.blt _ (by decide)) (pa_cons ha (pa_cons hb pa_nil he2) he) he (back_any pos [q] X.env (by simp [hs2]))) fun σ H Q h=>?_
 obtain ⟨F,B,env,st,ok,h⟩:=h
 unfold evI at h
 refine tE.firstI ok h fun d1 st1 v1 F1 H1 x1 ok1 r1 h=>?_
 refine tE.firstI ok1 (h.shift x1) fun d2 st2 v2 F2 H2 x2 ok2 r2 h=>?_
 cases e:zipO d1 d2 with
 | none=>rw [e] at h;exact h.elim
 | some ds =>
  rw [e] at h
  obtain ⟨ys,zs,i1,i2,rfl⟩:=zipO_inv e
  have r1':=r1.ext x2
  obtain ⟨t1,a1,xs,rfl,q1,_,e1⟩:=sqX_rep r1' i1
  obtain ⟨t2,a2,us,rfl,q2,_,e2⟩:=sqX_rep r2 i2
  rw [e1] at r1'
  rw [e2] at r2
  exact ⟨a1,a2,t1,t2,xs,us,rfl,q1,q2,h _ F2 H2 x2 ok2.sr (yields_zipX2 r1' r2)⟩
end
end PL
end
section
namespace PL
open PySem PySem.Spec PyProof.Rows L2
section
variable {K:PySem.W.Frag}{w:World}{F:Foot}{B:Addr→Prop}{H:Hp}
theorem RepL.cons_inv {vs:List V}{d:D}{ds:List D}(r:RepL K w F B H vs (d::ds)):∃ v us,vs=v::us∧Rep K w F B H v d∧RepL K w F B H us ds:=by
 cases r with
 | cons a b=>exact ⟨_,_,rfl,a,b⟩
theorem pairs_rep:∀ (ys:List D) {vs:List V} {dd:D},RepL K w F B H vs ys→∀ (ks:List K0) (ds:List D),dctL ks ds ys=some dd →
  ∃ (ps:List Addr) (new:List (Key × V)),vs=ps.map V.ref∧Paired (fun p kv=>SqT K H p [kV kv.1,kv.2]) ps new ∧
   ∀ kvs:List (Key × V),ks.Nodup→kvs.map (·.1)=ks.map kOf→RepL K w F B H (kvs.map (·.2)) ds→∃ (ks':List K0) (ds':List D),dd=.dct ks' ds'∧(mergeK kvs new).map (·.1)=ks'.map kOf∧RepL K w F B H ((mergeK kvs new).map (·.2)) ds'
 | [],vs,dd,r,ks,ds,h=>by
  cases r
  unfold dctL at h
  cases h
  exact ⟨[],[],rfl,.nil,fun kvs _ e rr=>⟨ks,ds,rfl,e,rr⟩⟩
 | y::ys,vs,dd,r,ks,ds,h=>by
  obtain ⟨v,us,rfl,rv,ru⟩:=r.cons_inv
  cases y with
  | tup l =>
   match l,rv,h with
   | [a,b],rv,h =>
    obtain ⟨kk,hk,_,hn⟩:=dctL_len _ _ _ _ h a b ys rfl
    obtain ⟨ps,new,rfl,pp,fin⟩:=pairs_rep ys ru _ _ hn
    obtain ⟨p,xs,rfl,hT,l1⟩:=rv.isT
    obtain ⟨x1,us1,rfl,r1,l2⟩:=l1.cons_inv
    obtain ⟨x2,us2,rfl,r2,l3⟩:=l2.cons_inv
    cases l3
    have e1:=key_rep r1 hk
    subst e1
    refine ⟨p::ps,(kOf kk,x2)::new,rfl,.cons hT pp,fun kvs nd e rr=>?_⟩
    exact fin (putK kvs (kOf kk) x2) (putKs_nodup nd) (putK_keys kk x2 nd e) (putK_vals kk r2 nd e rr)
  | _=>unfold dctL at h;cases h
end
section
variable {X:Cx}{pr:Prog}{XR:XRel}{C:SC}{n:Nat}{W:WX}{cx:Ctx}{p q:Expr}{a b:E}{pos:Pos}
theorem x_dpl (G : Good X pr XR C n)(hcal : C.cal = true){pp : Pos}(hg : Gl X "dict")(hs : isStar p = false)(ha : PE X p (gE X XR W cx a)) : PE X (.Call (.Name "dict" pp) [p] [] pos) (gE X XR W cx (.dpl a)) := by
 have he:=star_ns hs [] X.env
 refine PE.of (pe_callTy (call_dictP (G.calm hcal)) hg (G.blt _ (by decide)) (by decide +kernel) (pa_cons ha pa_nil he) (by decide) (by decide) he rfl) fun σ H Q h=>?_
 obtain ⟨F,B,env,st,ok,h⟩:=h
 unfold evE at h
 refine tE.first ok h fun d1 st1 v1 F1 H1 x1 ok1 r1 h=>?_
 cases d1 with
 | lst ys =>
  obtain ⟨p1,xs,rfl,h1,l1⟩:=r1.isL
  change RE X.K X.w XR W F B σ H _ (R.lift (dctL [] [] ys) st1) Q at h
  cases qd:dctL [] [] ys with
  | none=>rw [qd] at h;exact h.elim
  | some dd =>
   rw [qd,R.lift_some] at h
   obtain ⟨ps,new,rfl,pp,fin⟩:=pairs_rep ys l1 [] [] qd
   obtain ⟨ks',ds',rfl,e,rr⟩:=fin [] List.nodup_nil rfl .nil
   refine ⟨p1,ps,new,rfl,.of h1,pp,fun l hn=>?_⟩
   exact h _ F1 _ (x1.trans (Ext.new hn)) (ok1.sr.new hn) (.dct upd_same (fun f=>ok1.sr.occ l f hn) (fun b=>ok1.occ l b hn) e (rr.ext (Ext.new hn))) (fun z=>by cases z)
 | _=>exact h.elim
theorem inv_enmz {s : Int}(h : chkI C (.enmz a b s) p = true) : ∃ x pp y p2 p1 q1 pos2 cj cp pos, p = .Call (.Name x pp) [.Call (.Name y p2) [p1, q1] [] pos2, .Constant (.int s) cj cp] [] pos ∧ globB C.sc x = true ∧ globB C.sc y = true ∧ x = "enumerate" ∧ y = "zip" ∧ (0 ≤ s ∧ s < 1000000) ∧ isStar p1 = false ∧ isStar q1 = false ∧ chkE C a p1 = true ∧ chkE C b q1 = true := by
 unfold chkI at h
 split at h
 ·simp only [Bool.and_eq_true,decide_eq_true_eq,Bool.not_eq_true'] at h
  obtain ⟨z1,z2,z3,z4,rfl,z5,z6,z7,z8,z9⟩:=h
  exact ⟨_,_,_,_,_,_,_,_,_,_,rfl,z1,z2,z3,z4,z5,z6,z7,z8,z9⟩
 ·cases h
theorem i_enmz (G : Good X pr XR C n){n0 : Int}{pp p2 pos2 tpos cp : Pos}{cj : Nat}{elts : List Expr}{k : Nat}(low : 0 ≤ n0)(high : n0 < 1000000)(hg : Gl X "enumerate")(hg2 : Gl X "zip")(hs : isStar p = false)(hs2 : isStar q = false)(ha : PE X p (gE X XR W cx a))(hb : PE X q (gE X XR W cx b)) :
  PI X (.Tuple elts k tpos) (.Call (.Name "enumerate" pp) [.Call (.Name "zip" p2) [p, q] [] pos2, .Constant (.int n0) cj cp] [] pos) (gI X XR W cx (.enmz a b n0)) := by
 have he:=star_ns hs [q] X.env
 have he2:=star_ns hs2 [] X.env
 refine PI.of (pi_enumZ (by omega) (by omega) hg (G.blt _ (by decide)) hg2 (G.blt _ (by decide)) (pa_cons ha (pa_cons hb pa_nil he2) he) he (back_any pos2 [q] X.env (by simp [hs2]))) fun σ H Q h=>?_
 obtain ⟨F,B,env,st,ok,h⟩:=h
 unfold evI at h
 refine tE.firstI ok h fun d1 st1 v1 F1 H1 x1 ok1 r1 h=>?_
 refine tE.firstI ok1 (h.shift x1) fun d2 st2 v2 F2 H2 x2 ok2 r2 h=>?_
 cases e:zipO d1 d2 with
 | none=>rw [e] at h;exact h.elim
 | some ds =>
  rw [e] at h
  obtain ⟨ys,zs,i1,i2,rfl⟩:=zipO_inv e
  have s1:=r1.ext x2
  obtain ⟨t1,a1,xs,rfl,q1,_,e1⟩:=sqX_rep s1 i1
  obtain ⟨t2,a2,us,rfl,q2,_,e2⟩:=sqX_rep r2 i2
  rw [e1] at s1
  rw [e2] at r2
  exact ⟨a1,a2,t1,t2,xs,us,rfl,q1,q2,h _ F2 H2 x2 ok2.sr (yields_enumZ s1 r2)⟩
end
end PL
end
section
namespace PL
open PySem PySem.Spec PyProof.Rows L2
abbrev dcX (kE vE ga ia gb ib:Expr)(fa fb:List Expr)(sc:Scope)(ps:Pos):Expr:=.DictComp kE vE [⟨ga,ia,fa,0⟩,⟨gb,ib,fb,0⟩] sc ps
theorem dTurnA (kE vE ga ia gb ib:Expr)(fa fb:List Expr)(sc:Scope)(ps:Pos)(it acc:Value)(en:PySem.Env):compTurn (dcX kE vE ga ia gb ib fa fb sc ps) 0 it acc en=(do
   standAt ia.pos
   match ← pyNext it with
   | none=>pure (.done .next)
   | some u =>
    letOwnedTupleGo ga it u
    assign ga en u
    let mut good:=true
    for c in fa do
     if good then good ← isTrue c en (eval c en)
    if good then
     let y ← eval ib en
     standAt ib.pos
     let y ← foldedSetIterable ib en y
     let _ ← runOwn (.compStart (dcX kE vE ga ia gb ib fa fb sc ps) 1 (← holding [y] (pyIter y)) acc en) en
    again (.compLoop (dcX kE vE ga ia gb ib fa fb sc ps) 0 it acc en)):=by rfl
theorem dTurnB (kE vE ga ia gb ib:Expr)(fa fb:List Expr)(sc:Scope)(ps:Pos)(it:Value)(D:Addr)(en:PySem.Env):compTurn (dcX kE vE ga ia gb ib fa fb sc ps) 1 it (.ref D) en=(do
   standAt ib.pos
   match ← pyNext it with
   | none=>pure (.done .next)
   | some u =>
    letOwnedTupleGo gb it u
    assign gb en u
    let mut good:=true
    for c in fb do
     if good then good ← isTrue c en (eval c en)
    if good then
     (do
      let a ← eval kE en
      let b ← holding [a] (eval vE en)
      standAt { kE.pos with endLine:=vE.pos.endLine,endCol:=vE.pos.endCol }
      holding [a,b] (dictSet D a b))
    again (.compLoop (dcX kE vE ga ia gb ib fa fb sc ps) 1 it (.ref D) en)):=by rfl
section
variable {prog:Program}{w:World}{A:Around}{R:Result→Shared→Prop}{s:Shared}{kE vE ga ia gb ib:Expr}{fa fb:List Expr}{sc:Scope}{ps:Pos}{it acc:Value}{en:PySem.Env}
abbrev er (prog:Program)(w:World)(A:Around)(en:PySem.Env)(R:Result→Shared→Prop):Value→Shared→Prop:=notedBy (model prog w) A en fun e s'=>R (.error e) s'
abbrev tests (fs:List Expr)(en:PySem.Env):Sem Bool:=forIn fs true fun c r=>if r=true then do let g ← isTrue c en (eval c en);pure (ForInStep.yield g) else pure (ForInStep.yield r)
theorem loopA (hs:∀ x,foldedSetIterable ib en x=pure x)(I:Nat→Shared→Prop)
  (turn:∀ n s,I n s→wpAny (model prog w) A (pyNext it) (fun r s1=>match r with
   | none=>R (.ok .next) s1
   | some u=>wpAny (model prog w) A (letOwnedTupleGo ga it u) (fun _ s2=>wpAny (model prog w) A (assign ga en u) (fun _ s3=>wpAny (model prog w) A (tests fa en) (fun g s4 =>
     if g=true then wpAny (model prog w) A (eval ib en) (fun y s5=>wpAny (model prog w) A (pyIter y) (fun jt s6 =>
       codeAny (model prog w) A (.compStart (dcX kE vE ga ia gb ib fa fb sc ps) 1 jt acc en) (fun r s'=>match r with
        | .ok _=>∃ m,m<n∧I m s'
        | .error _=>False) s6) (er prog w A en R) s5) (er prog w A en R) s4
     else ∃ m,m<n∧I m s4) (er prog w A en R) s3) (er prog w A en R) s2) (er prog w A en R) s1) (er prog w A en R) s)
  (n:Nat) (h:I n s):codeAny (model prog w) A (.compLoop (dcX kE vE ga ia gb ib fa fb sc ps) 0 it acc en) R s:=by
 refine codeAny_loop rfl I (fun n s hI=>?_) n h
 refine wpAny_noted (m:=compTurn (dcX kE vE ga ia gb ib fa fb sc ps) 0 it acc en) ?_
 rw [dTurnA]
 have up:∀ {α:Type} {P:α→Shared→Prop} {m:Sem α} {Q:α→Shared→Prop} {s:Shared},wpAny (model prog w) A m P (er prog w A en R) s→(∀ a s',P a s'→Q a s')→wpAny (model prog w) A m Q (er prog w A en R) s:=fun h k=>wpAny_mono h k fun _ _ z=>z
 refine wpAny_bind (wpAny_standAt (wpAny_bind (up (turn n s hI) fun r s1 h1=>?_)))
 match r,h1 with
 | none,h1=>exact wpAny_pure h1
 | some u,h1 =>
  refine wpAny_bind (up h1 fun _ s2 h2=>wpAny_bind (up h2 fun _ s3 h3=>wpAny_bind (up h3 fun g s4 h4=>?_)))
  match g,h4 with
  | false,h4=>exact wpAny_pure ⟨rfl,h4⟩
  | true,h4 =>
   refine wpAny_bind (up h4 fun y s5 h5=>wpAny_bind (wpAny_standAt (wpAny_bind (wpAny_of_eq (hs y) (wpAny_bind (wpAny_holding (up h5 fun jt s6 h6=>?_)))))))
   refine wpAny_bind (wpAny_runOwn ?_)
   rw [Around.mark_none]
   refine codeAny_mono h6 fun r s' hr=>?_
   match r,hr with
   | .ok f,hr=>first|exact wpAny_pure ⟨rfl,hr⟩|exact wpAny_bind (wpAny_pure (wpAny_pure ⟨rfl,hr⟩))
   | .error e,hr=>exact hr.elim
theorem loopB {D:Addr}(I:Nat→Shared→Prop)
  (turn:∀ n s,I n s→wpAny (model prog w) A (pyNext it) (fun r s1=>match r with
   | none=>R (.ok .next) s1
   | some u=>wpAny (model prog w) A (letOwnedTupleGo gb it u) (fun _ s2=>wpAny (model prog w) A (assign gb en u) (fun _ s3=>wpAny (model prog w) A (tests fb en) (fun g s4 =>
     if g=true then wpAny (model prog w) A (eval kE en) (fun a s5=>wpAny (model prog w) A (eval vE en) (fun b s6 =>
       wpAny (model prog w) A (dictSet D a b) (fun _ s7=>∃ m,m<n∧I m s7) (er prog w A en R) s6) (er prog w A en R) s5) (er prog w A en R) s4
     else ∃ m,m<n∧I m s4) (er prog w A en R) s3) (er prog w A en R) s2) (er prog w A en R) s1) (er prog w A en R) s)
  (n:Nat) (h:I n s):codeAny (model prog w) A (.compLoop (dcX kE vE ga ia gb ib fa fb sc ps) 1 it (.ref D) en) R s:=by
 refine codeAny_loop rfl I (fun n s hI=>?_) n h
 refine wpAny_noted (m:=compTurn (dcX kE vE ga ia gb ib fa fb sc ps) 1 it (.ref D) en) ?_
 rw [dTurnB]
 have up:∀ {α:Type} {P:α→Shared→Prop} {m:Sem α} {Q:α→Shared→Prop} {s:Shared},wpAny (model prog w) A m P (er prog w A en R) s→(∀ a s',P a s'→Q a s')→wpAny (model prog w) A m Q (er prog w A en R) s:=fun h k=>wpAny_mono h k fun _ _ z=>z
 refine wpAny_bind (wpAny_standAt (wpAny_bind (up (turn n s hI) fun r s1 h1=>?_)))
 match r,h1 with
 | none,h1=>exact wpAny_pure h1
 | some u,h1 =>
  refine wpAny_bind (up h1 fun _ s2 h2=>wpAny_bind (up h2 fun _ s3 h3=>wpAny_bind (up h3 fun g s4 h4=>?_)))
  match g,h4 with
  | false,h4=>exact wpAny_pure ⟨rfl,h4⟩
  | true,h4 =>
   exact wpAny_bind (wpAny_bind (up h4 fun a s5 h5=>wpAny_bind (wpAny_holding (up h5 fun b s6 h6=>wpAny_bind (wpAny_standAt (wpAny_holding (up h6 fun _ s7 h7=>wpAny_pure ⟨rfl,h7⟩)))))))
theorem startB (h0:codeAny (model prog w) A (.compLoop (dcX kE vE ga ia gb ib fa fb sc ps) 1 it acc en) R s)
  (h:wpAny (model prog w) A (pyIter it) (fun jt s'=>codeAny (model prog w) A (.compLoop (dcX kE vE ga ia gb ib fa fb sc ps) 1 jt acc en) R s') (er prog w A en R) s) :
  codeAny (model prog w) A (.compStart (dcX kE vE ga ia gb ib fa fb sc ps) 1 it acc en) R s:=by
 refine codeAny_of_tree ?_
 refine wpAny_notedAt (m:=compStart (dcX kE vE ga ia gb ib fa fb sc ps) 1 it acc en) ?_
 unfold compStart
 refine wpAny_bind (m:=ask) ?_
 refine wpAny_askSetting (wpAny_ite ?_)
 split
 ·first|exact wpAny_bind (wpAny_pure (wpAny_pure (And.intro rfl h0)))|exact wpAny_pure (And.intro rfl h0)
 ·refine wpAny_bind (wpAny_rule ?_)
  refine wpAny_bind (m:=standAt ib.pos) (wpAny_standAt (wpAny_bind (wpAny_mono h (fun jt s' z=>?_) fun _ _ z=>z)))
  exact wpAny_pure (And.intro rfl z)
end
section
variable {X:Cx}
def tDc2 (wi:TI)(g:TG)(wi1:TI)(g1:TG)(tk tv:TE)(vs vs1:List Nat):TE:=fun σ H Q=>wi σ H fun J Ha=>∀ D,Ha D=none →
 ∃ W:Nat→Nat→Hp→Prop,(∃ m,W 0 m (upd Ha D (.dK [])))∧∀ i m Hb,W i m Hb →
  (J.stop i Hb∧Q (.ref D) Hb)∨(J.go i Hb∧∃ Nx:Hp→Prop,(∀ Hc,Nx Hc→∃ m',m'<m∧W (i+1) m' Hc) ∧
   ∀ x Hc,J.yld i Hb x Hc→g x (wipe σ vs) Hc fun σ2 Hd=>wipe σ2 vs=wipe σ vs∧wi1 σ2 Hd fun J1 He =>
    ∃ W1:Nat→Nat→Hp→Prop,(∃ m,W1 0 m He)∧∀ j k Hf,W1 j k Hf →
     (J1.stop j Hf∧Nx Hf)∨(J1.go j Hf∧∃ Ny:Hp→Prop,(∀ Hg,Ny Hg→∃ k',k'<k∧W1 (j+1) k' Hg) ∧
      ∀ x Hg,J1.yld j Hf x Hg→g1 x (wipe σ2 vs1) Hg fun σ3 Hh=>wipe σ3 vs1=wipe σ2 vs1 ∧
       tk σ3 Hh fun y Hi=>tv σ3 Hi fun z Hj=>∃ kvs k,y=kV k∧Hj D=some (.dK kvs)∧kvs.length<sizeLine∧Ny (upd Hj D (.dK (putK kvs k z)))))
theorem dc2_core {pn:List (Addr × Obj)}{s:Shared}{σ:L2.St}{H:Hp}{Q:VK}{kE vE ga ia gb ib:Expr}{sc:Scope}{ow:List (Str × Nat)}{vs1:List Nat}{ps qs:Pos}{wi wi1:TI}{g g1:TG}{tk tv:TE}{use:Option (Value→Sem Unit)}{Qf:Value→Shared→Prop}
  (hc:X.calm=true) (hN:X.N.Nodup) (I:Inv X pn σ H s) (hi:PI X ga ia wi) (ok:BlkOk X.N X.env.scope sc ow) (hv:∀ i∈vs1,i∈ow.map (·.2))
  (hg:∀ (s:Shared) (H:Hp) (Ca:Addr) (cl:List (Str × Addr)) (fp:List Addr),PG (X.blk s H sc (compEnvC sc cl Ca X.env) fp) ga g)
  (hib:∀ (s:Shared) (H:Hp) (Ca:Addr) (cl:List (Str × Addr)) (fp:List Addr),PI (X.blk s H sc (compEnvC sc cl Ca X.env) fp) gb ib wi1)
  (hgb:∀ (s:Shared) (H:Hp) (Ca:Addr) (cl:List (Str × Addr)) (fp:List Addr),PG (X.blk s H sc (compEnvC sc cl Ca X.env) fp) gb g1)
  (hk:∀ (s:Shared) (H:Hp) (Ca:Addr) (cl:List (Str × Addr)) (fp:List Addr),PE (X.blk s H sc (compEnvC sc cl Ca X.env) fp) kE tk)
  (hw:∀ (s:Shared) (H:Hp) (Ca:Addr) (cl:List (Str × Addr)) (fp:List Addr),PE (X.blk s H sc (compEnvC sc cl Ca X.env) fp) vE tv)
  (hs:∀ x,foldedSetIterable ia X.env x=pure x) (hsb:∀ env x,foldedSetIterable ib env x=pure x)
  (h:tDc2 wi g wi1 g1 tk tv (ow.map (·.2)) vs1 σ H Q)
  (done:∀ D Ca s' m H',Inv X pn σ H' s'→Q (.ref D) H'→s'.heap.Ns Ca m→FpOk X pn H' Ca→compPost (model X.prog X.w) X.A X.xe use Qf (.ref D) Ca (.ok .next) s') :
  wpAny (model X.prog X.w) X.A (comprehension (dcX kE vE ga ia gb ib [] [] sc ps) sc X.env qs newDict false (eval ia X.env) use) Qf X.xe s:=by
 have nofree:∀ y∈sc.names,y.2=.free→∃ c,X.env.cells.lookup y.1=some c:=fun y hy e=>(ok.free y hy e).elim (fun k=>I.ok.has _ (.inl k)) fun k=>I.ok.has _ (.inr k)
 refine wpAny_comprehension_free (use:=use) rfl hs (closure_ok nofree) ok.kind (fun y hy e=>by rw [ok.uniq y hy,e]) (thn (hi.run pn s σ H _ I h) fun xv sA hx=>thn hx fun itv sB hB=>?_)
 obtain ⟨it,fp,tn,J,HB,rfl,IB,T,tB,fB,q⟩:=hB
 refine wpAny_newObj_type (newEnv_comp ?_)
 obtain ⟨D,hD⟩:∃ D,D=sB.heap.objs.size:=⟨_,rfl⟩
 obtain ⟨W,⟨m0,w0⟩,turn⟩:=q D (IB.hok.fresh (Nat.le_of_eq hD.symm))
 obtain ⟨sC, hC⟩ : ∃ sC : Shared, sC = { sB with heap := sB.heap.push { cls := .type "dict", data := .dict #[] } } := ⟨_, rfl⟩
 have hpC : sC.heap = sB.heap.push { cls := .type "dict", data := .dict #[] } := by rw [hC]
 have IC:Inv X pn σ (upd HB D (.dK [])) sC:=by
  rw [hC]
  refine IB.laid (t':=sB.toks) (fun b o e=>Heap.get?_push_of_some _ e) (Nat.le_of_eq hD.symm) ?_
  rw [hD]
  exact dk_empty sB.heap IB.big
 have inB:∀ b∈fp,b<sB.heap.objs.size:=fun b hb=>let ⟨o,e,_⟩:=T.obj _ _ tB b hb;Heap.lt_size e
 have fC:∀ b∈fp,FpOk X pn (upd HB D (.dK [])) b∧b<sC.heap.objs.size:=fun b hb=>by
  have lt:=inB b hb
  refine ⟨⟨?_,(fB b hb).2⟩,by rw [hpC,Heap.size_push];exact Nat.lt_succ_of_lt lt⟩
  rw [upd_ne (by rw [hD];exact Nat.ne_of_lt lt)]
  exact (fB b hb).1
 have tC:tn 0 sC.heap:=T.keep _ _ _ tB fun b _ o e=>by rw [hpC];exact Heap.get?_push_of_some _ e
 have ID:=block_start IC ok hN fC
 have gA:=hg sC (upd HB D (.dK [])) sC.heap.objs.size (cellsFrom (sC.heap.objs.size+1) sc.names (cloFrom X.env.cells sc.names [])) fp
 have gI:=hib sC (upd HB D (.dK [])) sC.heap.objs.size (cellsFrom (sC.heap.objs.size+1) sc.names (cloFrom X.env.cells sc.names [])) fp
 have gB:=hgb sC (upd HB D (.dK [])) sC.heap.objs.size (cellsFrom (sC.heap.objs.size+1) sc.names (cloFrom X.env.cells sc.names [])) fp
 have gK:=hk sC (upd HB D (.dK [])) sC.heap.objs.size (cellsFrom (sC.heap.objs.size+1) sc.names (cloFrom X.env.cells sc.names [])) fp
 have gV:=hw sC (upd HB D (.dK [])) sC.heap.objs.size (cellsFrom (sC.heap.objs.size+1) sc.names (cloFrom X.env.cells sc.names [])) fp
 rw [← hD,← hC]
 show codeAny _ _ (.compStart (dcX kE vE ga ia gb ib [] [] sc ps) 0 (.ref it) (.ref D) (compEnvC sc (cellsFrom (sC.heap.objs.size + 1) sc.names (cloFrom X.env.cells sc.names [])) sC.heap.objs.size X.env)) (compPost (model X.prog X.w) X.A X.xe use Qf (.ref D) sC.heap.objs.size) { sC with heap := pushCells (sC.heap.push { cls := .type "dict", data := .dict #[] }) sc.names }
 have none0:∀ b∈fp,(upd HB D (.dK [])) b=none:=fun b hb=>(fC b hb).1.1
 obtain ⟨en,hen⟩:∃ en,en=compEnvC sc (cellsFrom (sC.heap.objs.size+1) sc.names (cloFrom X.env.cells sc.names [])) sC.heap.objs.size X.env:=⟨_,rfl⟩
 have enL:en.locals=sC.heap.objs.size:=by rw [hen];rfl
 rw [← hen] at ID gA gI gB gK gV ⊢
 obtain ⟨HC,hHC⟩:∃ HC,HC=upd HB D (.dK []):=⟨_,rfl⟩
 rw [← hHC] at IC ID gA gI gB gK gV w0 none0 fC
 obtain ⟨sD, hsD⟩ : ∃ sD : Shared, sD = { sC with heap := pushCells (sC.heap.push { cls := .type "dict", data := .dict #[] }) sc.names } := ⟨_, rfl⟩
 rw [← hsD] at ID ⊢
 have tD:tn 0 sD.heap:=T.keep _ _ _ tC fun b _ o e=>by rw [hsD];exact pushCells_keeps _ _ _ _ (Heap.get?_push_of_some _ e)
 have still:∀ {σ':L2.St} {H':Hp} {s':Shared},Inv (X.blk sC HC sc en fp) [] σ' H' s'→(∀ b∈fp,H' b=none)→∀ b∈fp,FpOk (X.blk sC HC sc en fp) [] H' b:=fun {σ' H' s'} I' hn b hb =>
  ⟨hn b hb,(I'.ok.exf b hb).1,I'.ok.exfs b hb,.inl hb,fun x c e=>(I'.ok.exf b hb).2 x c e,fun p hp=>absurd (show p∈([]:List (Addr × Obj))++[] from hp) (by simp)⟩
 -- the invariant between two turns of the first clause
 let B0:Nat→Shared→Prop:=fun n s'=>∃ i H',Inv (X.blk sC HC sc en fp) [] (wipe σ (ow.map (·.2))) H' s'∧tn i s'.heap∧(∀ b∈fp,H' b=none)∧W i n H'
 have loop:codeAny (model X.prog X.w) X.A (.compLoop (dcX kE vE ga ia gb ib [] [] sc ps) 0 (.ref it) (.ref D) en) (compPost (model X.prog X.w) X.A X.xe use Qf (.ref D) sC.heap.objs.size) sD:=by
  refine loopA (hsb en) B0 ?_ m0 ⟨0,HC,ID,tD,none0,w0⟩
  rintro n s5 ⟨i,H5,I5,t5,n5,w5⟩
  rcases turn i n H5 w5 with ⟨stop,qq⟩|⟨go,Nx,hNx,step⟩
  ·refine thnF (T.done (X.blk sC HC sc en fp) rfl rfl rfl hc i [] s5 _ H5 (fun _ _=>False) I5 (still I5 n5) t5 stop) fun r s6 hr=>?_
   obtain ⟨rfl,I6⟩:=hr
   have I7:Inv X pn σ H5 s6:=IC.call' (ch:=fp) I6.os I6.base I6.hok I6.bare fun b hb=>⟨(fC b hb).1.2.2.2.1,(fC b hb).1.2.1,(fC b hb).1.2.2.2.2.1,(fC b hb).1.2.2.2.2.2⟩
   have none5:H5 sC.heap.objs.size=none:=by have z:H5 en.locals=none:=I6.free;rwa [enL] at z
   obtain ⟨m,hn,_⟩:=I6.loc
   have hn:s6.heap.Ns en.locals m:=hn
   rw [enL] at hn
   exact done D sC.heap.objs.size s6 m H5 I7 qq hn (IC.fpOk (Nat.le_refl _) none5)
  ·refine thnF (T.item (X.blk sC HC sc en fp) rfl rfl rfl hc i [] s5 _ H5 (fun _ _=>False) I5 (still I5 n5) t5 go) fun r s6 hr=>?_
   obtain ⟨u,rfl,h6⟩:=hr
   refine thnF h6 fun _ s7 ⟨x,H7,I7,r7,y7,t7,n7⟩=>?_
   have I7p:=I7.pinned (still I7 n7) (T.obj _ _ t7)
   refine thnF (gA.run _ s7 _ H7 x u _ I7p r7 (step x H7 y7)) fun _ s8 ⟨σ8,H8,I8,e8,q8⟩=>?_
   refine thnF ((pts_nil (X:=X.blk sC HC sc en fp)).run _ s8 σ8 H8 (fun b H9=>b=true∧H9=H8) I8 ⟨rfl,rfl⟩) fun b s9 hb9=>?_
   obtain ⟨H9,I9,rfl,rfl⟩:=hb9
   -- the turn's end
   have fin:∀ {σ9:L2.St} {s':Shared} {H':Hp},Inv (X.blk sC HC sc en fp) ([]++pinsAt fp s7.heap) σ9 H' s'→(wipe σ (ow.map (·.2))).length=σ9.length→(∀ (j:Nat) v,(wipe σ (ow.map (·.2)))[j]?=some (some v)→σ9[j]?=some (some v))→Nx H'→∃ m,m<n∧B0 m s':=fun {σ9 s' H'} I' hl hk nx=>by
    obtain ⟨m',lt,w'⟩:=hNx H' nx
    have pin':∀ b∈fp,∀ o,s7.heap.get? b=some o→s'.heap.get? b=some o∧H' b=none:=fun b hb o e=>let z:=I'.pin (b,o) (List.mem_append_right _ (List.mem_append_right _ (mem_pinsAt hb e)));⟨z.1,z.2.1⟩
    exact ⟨m',lt,i+1,H',(I'.unpinned (pins:=[])).weak hl hk,T.keep _ _ _ t7 fun b hb o e=>(pin' b hb o e).1,fun b hb=>let ⟨o,e,_⟩:=T.obj _ _ t7 b hb;(pin' b hb o e).2,w'⟩
   have len8:(wipe σ (ow.map (·.2))).length=(wipe σ8 vs1).length:=by rw [← e8,wipe_length,wipe_length]
   have kept8:∀ (j:Nat) v,(wipe σ (ow.map (·.2)))[j]?=some (some v)→(wipe σ8 vs1)[j]?=some (some v):=fun j v e=>by
    rw [← e8] at e
    obtain ⟨z1,z2⟩:=wipe_some e
    rw [wipe_out fun z=>z2 (hv j z)]
    exact z1
   simp only [if_true]
   refine thnF (gI.run _ s9 σ8 H9 _ I9 q8) fun yv sE hE=>thnF hE fun jv sF hF=>?_
   obtain ⟨jt,fq,un,J1,HF,rfl,IF,T1,tF,fF,W1,⟨m1,w1⟩,turn1⟩:=hF
   have still1:∀ {H':Hp},(∀ b∈fq,H' b=none)→∀ b∈fq,FpOk (X.blk sC HC sc en fp) ([]++pinsAt fp s7.heap) H' b:=fun hn b hb=>⟨hn b hb,(fF b hb).2⟩
   let B1:Nat→Shared→Prop:=fun k s'=>∃ j H',Inv (X.blk sC HC sc en fp) ([]++pinsAt fp s7.heap) (wipe σ8 vs1) H' s'∧un j s'.heap∧(∀ b∈fq,H' b=none)∧W1 j k H'
   have inner:codeAny (model X.prog X.w) X.A (.compLoop (dcX kE vE ga ia gb ib [] [] sc ps) 1 (.ref jt) (.ref D) en) (fun r s'=>match r with
     | .ok _=>∃ m,m<n∧B0 m s'
     | .error _=>False) sF:=by
    refine loopB B1 ?_ m1 ⟨0,HF,IF.weak (wipe_length _ _) (fun j v e=>(wipe_some e).1),tF,fun b hb=>(fF b hb).1,w1⟩
    rintro k sG ⟨j,HG,IG,tG,nG,wG⟩
    rcases turn1 j k HG wG with ⟨stop1,nx1⟩|⟨go1,Ny,hNy,step1⟩
    ·refine thnF (T1.done (X.blk sC HC sc en fp) rfl rfl rfl hc j _ sG (wipe σ8 vs1) HG (fun _ _=>False) IG (still1 nG) tG stop1) fun r sK hr=>?_
     obtain ⟨rfl,IK⟩:=hr
     exact fin IK len8 kept8 nx1
    ·refine thnF (T1.item (X.blk sC HC sc en fp) rfl rfl rfl hc j _ sG (wipe σ8 vs1) HG (fun _ _=>False) IG (still1 nG) tG go1) fun r sK hr=>?_
     obtain ⟨u1,rfl,hK⟩:=hr
     refine thnF hK fun _ sL ⟨x1,HL,IL,rL,yL,tL,nL⟩=>?_
     have ILp:=IL.pinned (still1 nL) (T1.obj _ _ tL)
     refine thnF (gB.run _ sL (wipe σ8 vs1) HL x1 u1 _ ILp rL (step1 x1 HL yL)) fun _ sM ⟨σM,HM,IM,eM,qM⟩=>?_
     refine thnF ((pts_nil (X:=X.blk sC HC sc en fp)).run _ sM σM HM (fun b H9=>b=true∧H9=HM) IM ⟨rfl,rfl⟩) fun b sN hbN=>?_
     obtain ⟨HN,IN,rfl,rfl⟩:=hbN
     have fin1:∀ {s':Shared} {H':Hp},Inv (X.blk sC HC sc en fp) (([]++pinsAt fp s7.heap)++pinsAt fq sL.heap) σM H' s'→Ny H'→∃ m,m<k∧B1 m s':=fun {s' H'} I' nx=>by
      obtain ⟨m',lt,w'⟩:=hNy H' nx
      have pin':∀ b∈fq,∀ o,sL.heap.get? b=some o→s'.heap.get? b=some o∧H' b=none:=fun b hb o e=>let z:=I'.pin (b,o) (List.mem_append_right _ (List.mem_append_right _ (mem_pinsAt hb e)));⟨z.1,z.2.1⟩
      exact ⟨m',lt,j+1,H',I'.unpinned.weak (by rw [← eM,wipe_length]) (fun j v e=>by rw [← eM] at e;exact (wipe_some e).1),T1.keep _ _ _ tL fun b hb o e=>(pin' b hb o e).1,fun b hb=>let ⟨o,e,_⟩:=T1.obj _ _ tL b hb;(pin' b hb o e).2,w'⟩
     simp only [if_true]
     refine thnF (gK.run _ sN σM HN _ IN qM) fun ku sO ⟨yk,HO_,IO,rO,qO⟩=>?_
     refine thnF (gV.run _ sO σM HO_ _ IO qO) fun vu sP ⟨yv,HP,IP,rP,kvs,kk,ek,hDP,ltP,nx⟩=>?_
     subst ek
     exact d_dictSet (X:=X.blk sC HC sc en fp) IP hDP ltP rO rP fun sQ IQ=>fin1 IQ nx
   exact startB inner (T1.self X.A 0 _ _ _ tF inner)
 exact codeAny_compStart_dict loop (T.self X.A 0 _ _ _ tD loop)
theorem pe_dc2 {kE vE ga ia gb ib:Expr}{sc:Scope}{ow:List (Str × Nat)}{vs1:List Nat}{ps:Pos}{wi wi1:TI}{g g1:TG}{tk tv:TE}(hc:X.calm=true)(hN:X.N.Nodup)(hi:PI X ga ia wi)(ok:BlkOk X.N X.env.scope sc ow)(hv:∀ i∈vs1,i∈ow.map (·.2))
  (hg:∀ (s:Shared) (H:Hp) (Ca:Addr) (cl:List (Str × Addr)) (fp:List Addr),PG (X.blk s H sc (compEnvC sc cl Ca X.env) fp) ga g)
  (hib:∀ (s:Shared) (H:Hp) (Ca:Addr) (cl:List (Str × Addr)) (fp:List Addr),PI (X.blk s H sc (compEnvC sc cl Ca X.env) fp) gb ib wi1)
  (hgb:∀ (s:Shared) (H:Hp) (Ca:Addr) (cl:List (Str × Addr)) (fp:List Addr),PG (X.blk s H sc (compEnvC sc cl Ca X.env) fp) gb g1)
  (hk:∀ (s:Shared) (H:Hp) (Ca:Addr) (cl:List (Str × Addr)) (fp:List Addr),PE (X.blk s H sc (compEnvC sc cl Ca X.env) fp) kE tk)
  (hw:∀ (s:Shared) (H:Hp) (Ca:Addr) (cl:List (Str × Addr)) (fp:List Addr),PE (X.blk s H sc (compEnvC sc cl Ca X.env) fp) vE tv)
  (hs:∀ x,foldedSetIterable ia X.env x=pure x) (hsb:∀ env x,foldedSetIterable ib env x=pure x):PE X (dcX kE vE ga ia gb ib [] [] sc ps) (tDc2 wi g wi1 g1 tk tv (ow.map (·.2)) vs1):=by
 refine ⟨fun pins s σ H Q I h=>?_⟩
 rw [arm_eval_DictComp]
 refine dc2_core hc hN I hi ok hv hg hib hgb hk hw hs hsb h fun D Ca s' m H' I' q hn f=>⟨m,hn,fun hp sb=>?_⟩
 exact ⟨.ref D,H',I'.turned (t':=s'.toks) (fun b o hb e=>(sb.2 b hb).trans e) f.1 f.2.1 f.2.2.2.1 f.2.2.2.2.1 f.2.2.2.2.2,rfl,q⟩
end
section
variable {X:Cx}{pr:Prog}{XR:XRel}{C:SC}{n:Nat}{W:WX}{cx:Ctx}
theorem dc2_in (G:Good X pr XR C n){ek ev:E}{tg tg1:Tg}{it it1:PL.It}{own own1:List Nat}(htg:tgIn own tg=true)(htg1:tgIn own1 tg1=true)(hsub:∀ i∈own1,i∈own){σ:L2.St}{H:Hp}{Q:VK}(h:gE X XR W cx (.dc2 ek ev tg it tg1 it1 own own1) σ H Q) :
  tDc2 (gI X XR W cx it) (tG X.K X.w tg) (tI X.K X.w XR WF cx it1) (tG X.K X.w tg1) (tE X.K X.w XR WF cx ek) (tE X.K X.w XR WF cx ev) own own1 σ H Q:=by
 obtain ⟨F,B,env,st,ok,h⟩:=h
 unfold evE at h
 generalize hf:lc2Step (evI cx it1) (pairE (evE cx ek) (evE cx ev)) tg tg1 own own1 env=f at h
 have fe:∀ d st,f d st=R.opt (putT tg d (wipeE env own)) fun env1=>(evI cx it1 env1 st).bind fun ds st=>mapR (lcStep (pairE (evE cx ek) (evE cx ev)) (fun _ st=>.ok true st) tg1 own1 env1) ds st:=fun d st=>by rw [← hf];rfl
 refine ⟨F,B,env,st,ok,?_⟩
 cases q1:evI cx it env st with
 | no=>rw [q1] at h;exact h.elim
 | exc c fs st'=>rw [q1] at h;exact h.elim
 | ok ds st1 =>
  rw [q1,R.bind_ok] at h
  intro J F1 H1 x1 sr1 yl L hL
  cases q2:catR f ds st1 with
  | no=>rw [q2] at h;exact h.elim
  | exc c fs st'=>rw [q2] at h;exact h.elim
  | ok ys st2 =>
   rw [q2] at h
   change RE X.K X.w XR W F B σ H _ (R.lift (dctL [] [] ys) st2) Q at h
   cases qd:dctL [] [] ys with
   | none=>rw [qd] at h;exact h.elim
   | some dd =>
   rw [qd,R.lift_some] at h
   have ok1:=ok.ext x1 sr1
   have nBL:¬ B L:=fun b=>ok1.occ L b hL
   have nFL:¬ F1.inn L:=fun b=>sr1.occ L b hL
   -- what keeps
   let KP:Foot→Hp→Prop:=fun F2 H2=>(∀ a,¬ F1.inn a→H1 a≠none→H2 a=H1 a∧¬ F2.inn a)∧(∀ b,H1 b≠none→H2 b≠none)∧(∀ a,F1.at_=some a→F2.at_=some a)
   have kpx:∀ {F2 H2 F3 H3},KP F2 H2→Ext F2 H2 F3 H3→KP F3 H3:=fun {F2 H2 F3 H3} k x=>⟨fun a fa ha=>by
    obtain ⟨e1,f1⟩:=k.1 a fa ha
    obtain ⟨e2,f2⟩:=x.keep a f1 (by rw [e1];exact ha)
    exact ⟨by rw [e2,e1],f2⟩,fun b hb=>x.occ b (k.2.1 b hb),fun a e=>x.at_ a (k.2.2 a e)⟩
   have kpu:∀ {F2 H2 o},KP F2 H2→KP F2 (upd H2 L o):=fun {F2 H2 o} k=>⟨fun a fa ha=>by
    rw [upd_ne fun e=>ha (by rw [e];exact hL)]
    exact k.1 a fa ha,fun b hb=>upd_occ (k.2.1 b hb),k.2.2⟩
   -- one turn's state
   let T:Nat→Hp→Prop:=fun i H2=>∃ (F2:Foot) (st:St) (kvs:List (Key × V)) (ks:List K0) (ad rest:List D),OkE X.K X.w F2 (fun b=>B b∨b=L) (wipe σ own) H2 (wipeE env own) st∧KP F2 H2 ∧
    H2 L=some (.dK kvs)∧¬ F2.inn L∧(kvs.map (·.1)=ks.map kOf∧ks.Nodup)∧RepL X.K X.w F2 (fun b=>B b∨b=L) H2 (kvs.map (·.2)) ad∧catR f (ds.drop i) st=.ok rest st2∧dctL ks ad rest=some dd
   have noL:∀ (i:Nat) (s:Slot),s.isOwn=true→(wipeE env own)[i]?=some s→(wipe σ own)[i]?≠some (some (V.ref L)):=by
    intro i s os e z
    obtain ⟨a,h1,h2,h4,h5⟩:=(ok1.wiped own).own i s os e
    rw [h1] at z
    cases z
    exact nBL h4
   refine ⟨fun i m H2=>m=ds.length-i∧i≤ds.length∧T i H2,⟨ds.length,by simp,Nat.zero_le _,?_⟩,?_⟩
   ·exact ⟨F1,st1,[],[],[],ys,(ok1.wiped own).mark hL,⟨fun a fa ha=>⟨upd_ne fun e=>ha (by rw [e];exact hL),fa⟩,fun b hb=>upd_occ hb,fun _ e=>e⟩,upd_same,nFL,⟨rfl,.nil⟩,.nil,by rw [List.drop_zero];exact q2,qd⟩
   ·rintro i m H2 ⟨rfl,hi2,F2,st3,kvs,ks,ad,rest,ok2,kp2,hL2,fL2,hks,racc,hm,hy⟩
    have lat:Lat F1 B H1 F2 (fun b=>B b∨b=L) H2:=⟨fun a fa ba ha=>⟨(kp2.1 a fa ha).1,(kp2.1 a fa ha).2,fun z=>z.elim ba fun e=>ha (by rw [e];exact hL)⟩,kp2.2.2⟩
    obtain ⟨go,stop⟩:=yl F2 _ H2 lat i
    by_cases hlt:i<ds.length
    ·have hdi:ds[i]?=some ds[i]:=List.getElem?_eq_getElem hlt
     obtain ⟨go1,go2⟩:=go _ hdi
     refine .inr ⟨go1,T (i+1),fun H' t=>⟨ds.length-(i+1),by omega,rfl,hlt,t⟩,fun x H3 hx=>?_⟩
     obtain ⟨x3,s3,rx⟩:=go2 x H3 hx ok2.sr.occ ok2.occ
     have ok3:=ok2.ext x3 (ok2.sr.keep s3)
     have hd:ds.drop i=ds[i]::ds.drop (i+1):=List.drop_eq_getElem_cons hlt
     rw [hd] at hm
     unfold catR at hm
     have hm:(f ds[i] st3).bind (fun ys st=>(catR f (ds.drop (i+1)) st).bind fun zs st=>.ok (ys++zs) st)=.ok rest st2:=hm
     rw [fe] at hm
     cases q3:putT tg ds[i] (wipeE env own) with
     | none=>rw [q3] at hm;cases hm
     | some env' =>
      rw [q3,R.opt_some] at hm
      generalize hf1:lcStep (pairE (evE cx ek) (evE cx ev)) (fun _ st=>.ok true st) tg1 own1 env'=f1 at hm
      have fe1:∀ d st,f1 d st=R.opt (putT tg1 d (wipeE env' own1)) fun env2=>((evE cx ek env2 st).bind fun k st=>(evE cx ev env2 st).bind fun v st=>.ok (.tup [k,v]) st).bind fun y st=>.ok (some y) st:=fun d st=>by
       rw [← hf1]
       unfold lcStep
       cases putT tg1 d (wipeE env' own1) with
       | none=>rfl
       | some env2=>rfl
      refine ⟨F2,_,_,st3,_,env',ok3,rx,q3,fun σ2 okg wg kg _=>⟨(wg own htg).trans (wipe_sub σ own fun _ h=>h),?_⟩⟩
      have noL2:∀ (j:Nat) (s:Slot),s.isOwn=true→env'[j]?=some s→σ2[j]?≠some (some (V.ref L)):=by
       intro j s os e z
       by_cases hj:j∈own
       ·refine putT_noown own q3 (fun j hj s os e=>?_) j hj s os e
        exact (wipeE_some e (fun z=>by subst z;cases os)).2 hj
       ·have:=kg own htg j hj
        rw [this.1] at e
        rw [this.2] at z
        exact noL j s os e z
      have noL3:∀ (j:Nat) (s:Slot),s.isOwn=true→(wipeE env' own1)[j]?=some s→(wipe σ2 own1)[j]?≠some (some (V.ref L)):=by
       intro j s os e z
       obtain ⟨e1,e2⟩:=wipeE_some e (fun z=>by subst z;cases os)
       rw [wipe_out e2] at z
       exact noL2 j s os e1 z
      refine ⟨F2,_,env',st3,okg,?_⟩
      cases q5:evI cx it1 env' st3 with
      | no=>rw [q5] at hm;cases hm
      | exc c fs st'=>rw [q5] at hm;cases hm
      | ok ds1 st5 =>
       rw [q5,R.bind_ok] at hm
       intro J1 F6 H6 x6 s6 yl1
       cases q6:mapR f1 ds1 st5 with
       | no=>rw [q6] at hm;cases hm
       | exc c fs st'=>rw [q6] at hm;cases hm
       | ok ys1 st6 =>
        rw [q6,R.bind_ok] at hm
        cases q7:catR f (ds.drop (i+1)) st6 with
        | no=>rw [q7] at hm;cases hm
        | exc c fs st'=>rw [q7] at hm;cases hm
        | ok zs st' =>
         rw [q7,R.bind_ok] at hm
         simp only [R.ok.injEq] at hm
         obtain ⟨rfl,rfl⟩:=hm
         have xx:=x3.trans x6
         have hL6:H6 L=some (.dK kvs)∧¬ F6.inn L:=by
          have:=xx.keep L fL2 (by rw [hL2];simp)
          exact ⟨by rw [this.1];exact hL2,this.2⟩
         let T1:Nat→Hp→Prop:=fun j H7=>∃ (F7:Foot) (st7:St) (kvs7:List (Key × V)) (ks7:List K0) (ad7 rest7:List D),OkE X.K X.w F7 (fun b=>B b∨b=L) (wipe σ own) H7 (wipeE env own) st7∧OkE X.K X.w F7 (fun b=>B b∨b=L) (wipe σ2 own1) H7 (wipeE env' own1) st7∧KP F7 H7 ∧
          Lat F6 (fun b=>B b∨b=L) H6 F7 (fun b=>B b∨b=L) H7∧H7 L=some (.dK kvs7)∧¬ F7.inn L∧(kvs7.map (·.1)=ks7.map kOf∧ks7.Nodup)∧RepL X.K X.w F7 (fun b=>B b∨b=L) H7 (kvs7.map (·.2)) ad7∧mapR f1 (ds1.drop j) st7=.ok rest7 st6∧dctL ks7 ad7 (rest7++zs)=some dd
         refine ⟨fun j k H7=>k=ds1.length-j∧j≤ds1.length∧T1 j H7,⟨ds1.length,by simp,Nat.zero_le _,?_⟩,?_⟩
         ·exact ⟨F6,st5,kvs,ks,ad,ys1,ok3.ext x6 s6,(okg.ext x6 s6).wiped own1,kpx kp2 xx,Lat.refl,hL6.1,hL6.2,hks,racc.ext xx,by rw [List.drop_zero];exact q6,hy⟩
         ·rintro j k H7 ⟨rfl,hj2,F7,st7,kvs7,ks7,ad7,rest7,oko,oki,kp7,lat7,hL7,fL7,hks7,racc7,hm7,hy7⟩
          obtain ⟨goI,stopI⟩:=yl1 F7 _ H7 lat7 j
          by_cases hlt1:j<ds1.length
          ·have hdj:ds1[j]?=some ds1[j]:=List.getElem?_eq_getElem hlt1
           obtain ⟨goI1,goI2⟩:=goI _ hdj
           refine .inr ⟨goI1,T1 (j+1),fun H' t=>⟨ds1.length-(j+1),by omega,rfl,hlt1,t⟩,fun xv H8 hx8=>?_⟩
           obtain ⟨x8,s8,rx8⟩:=goI2 xv H8 hx8 oki.sr.occ oki.occ
           have oko8:=oko.ext x8 (oko.sr.keep s8)
           have oki8:=oki.ext x8 (oki.sr.keep s8)
           rw [List.drop_eq_getElem_cons hlt1] at hm7
           unfold mapR at hm7
           have hm7:(f1 ds1[j] st7).bind (fun y st=>(mapR f1 (ds1.drop (j+1)) st).bind fun ys st=>.ok (match y with|some y=>y::ys|none=>ys) st)=.ok rest7 st6:=hm7
           rw [fe1] at hm7
           cases q9:putT tg1 ds1[j] (wipeE env' own1) with
           | none=>rw [q9] at hm7;cases hm7
           | some env2 =>
            rw [q9,R.opt_some] at hm7
            refine ⟨F7,_,_,st7,_,env2,oki8,rx8,q9,fun σ3 okg3 wg3 kg3 _=>⟨(wg3 own1 htg1).trans (wipe_sub σ2 own1 fun _ h=>h),?_⟩⟩
            refine ⟨F7,_,env2,st7,okg3,?_⟩
            cases q10:evE cx ek env2 st7 with
            | no=>rw [q10] at hm7;cases hm7
            | exc c fs st'=>rw [q10] at hm7;cases hm7
            | ok yk st8 =>
             rw [q10,R.bind_ok] at hm7
             intro kv F9 H9 x9 s9 rk _
             refine ⟨F9,_,env2,st8,okg3.ext x9 s9,?_⟩
             cases q12:evE cx ev env2 st8 with
             | no=>rw [q12] at hm7;cases hm7
             | exc c fs st'=>rw [q12] at hm7;cases hm7
             | ok y st9 =>
             rw [q12,R.bind_ok,R.bind_ok,R.bind_ok] at hm7
             intro yv F10 H10 x10 s10 ry _
             cases q11:mapR f1 (ds1.drop (j+1)) st9 with
             | no=>rw [q11] at hm7;cases hm7
             | exc c fs st'=>rw [q11] at hm7;cases hm7
             | ok rest' st' =>
              rw [q11] at hm7
              simp only [R.bind_ok,R.ok.injEq] at hm7
              obtain ⟨rfl,rfl⟩:=hm7
              have xz:=x8.trans (x9.trans x10)
              have hL10:H10 L=some (.dK kvs7)∧¬ F10.inn L:=by
               have:=xz.keep L fL7 (by rw [hL7];simp)
               exact ⟨by rw [this.1];exact hL7,this.2⟩
              have racc10:=racc7.ext xz
              obtain ⟨kk,hkk,hln,hnx⟩:=dctL_len _ _ _ _ hy7 yk y (rest'++zs) rfl
              have hkl:kvs7.length=ks7.length:=by
               have:=congrArg List.length hks7.1
               simpa using this
              have tl:∀ o,Lat F10 (fun b=>B b∨b=L) H10 F10 (fun b=>B b∨b=L) (upd H10 L o):=fun o=>⟨fun a f b h=>⟨upd_ne fun e=>b (.inr e),f,b⟩,fun _ e=>e⟩
              refine ⟨kvs7,kOf kk,key_rep rk hkk,hL10.1,by rw [← lineEq,hkl];exact hln,F10,st9,putK kvs7 (kOf kk) yv,putKs kk ks7,putVs kk y ks7 ad7,rest',(oko.ext xz s10).touch (by rw [hL10.1];simp) hL10.2 noL,(oki.ext xz s10).touch (by rw [hL10.1];simp) hL10.2 noL3,kpu (kpx kp7 xz),(lat7.trans xz.lat).trans (tl _),upd_same,hL10.2,⟨putK_keys kk yv hks7.2 hks7.1,putKs_nodup hks7.2⟩,?_,q11,hnx⟩
              exact (putK_vals kk ry hks7.2 hks7.1 racc10).move (fun a f b _=>⟨upd_ne fun e=>b (.inr e),f,b⟩) fun _ e=>e
          ·have hjj:j=ds1.length:=by omega
           subst hjj
           refine .inl ⟨stopI rfl,?_⟩
           rw [List.drop_length] at hm7
           unfold mapR at hm7
           cases hm7
           exact ⟨F7,st6,kvs7,ks7,ad7,zs,oko,kp7,hL7,fL7,hks7,racc7,q7,hy7⟩
    ·have hii:i=ds.length:=by omega
     subst hii
     refine .inl ⟨stop rfl,?_⟩
     rw [List.drop_length] at hm
     unfold catR at hm
     cases hm
     unfold dctL at hy
     cases hy
     have hx:Ext F H F2 H2:=by
      constructor
      ·intro a fa ha
       obtain ⟨e1,f1⟩:=x1.keep a fa ha
       obtain ⟨e2,f2⟩:=kp2.1 a f1 (by rw [e1];exact ha)
       exact ⟨by rw [e2,e1],f2⟩
      ·exact fun b hb=>kp2.2.1 b (x1.occ b hb)
      ·exact fun a e=>kp2.2.2 a (x1.at_ a e)
     exact h (.ref L) F2 H2 hx ok2.sr (.dct hL2 fL2 nBL hks.1 (racc.anti fun a b=>.inl b)) fun z=>absurd z (by show ¬ false=true;decide)
theorem x_dc2 (G:Good X pr XR C n)(hcal:C.cal=true){ek ev:E}{tg tg1:Tg}{it it1:PL.It}{own own1:List Nat}{pk pv ptg pit ptg1 pit1:Expr}{scope:Scope}{pos:Pos}
  (hi:PI X ptg pit (gI X XR W cx it)) (bok:BlkOk X.N X.env.scope scope (ownN C.N own)) (hown:(ownN C.N own).map (·.2)=own) (htg:tgIn own tg=true) (htg1:tgIn own1 tg1=true) (hsub:∀ i∈own1,i∈own)
  (hg:∀ (s:Shared) (H:Hp) (Ca:Addr) (cl:List (Str × Addr)) (fp:List Addr),PG (X.blk s H scope (compEnvC scope cl Ca X.env) fp) ptg (tG X.K X.w tg))
  (hi1:∀ (s:Shared) (H:Hp) (Ca:Addr) (cl:List (Str × Addr)) (fp:List Addr),PI (X.blk s H scope (compEnvC scope cl Ca X.env) fp) ptg1 pit1 (tI X.K X.w XR WF cx it1))
  (hg1:∀ (s:Shared) (H:Hp) (Ca:Addr) (cl:List (Str × Addr)) (fp:List Addr),PG (X.blk s H scope (compEnvC scope cl Ca X.env) fp) ptg1 (tG X.K X.w tg1))
  (hk:∀ (s:Shared) (H:Hp) (Ca:Addr) (cl:List (Str × Addr)) (fp:List Addr),PE (X.blk s H scope (compEnvC scope cl Ca X.env) fp) pk (tE X.K X.w XR WF cx ek))
  (he:∀ (s:Shared) (H:Hp) (Ca:Addr) (cl:List (Str × Addr)) (fp:List Addr),PE (X.blk s H scope (compEnvC scope cl Ca X.env) fp) pv (tE X.K X.w XR WF cx ev))
  (hs:∀ x,foldedSetIterable pit X.env x=pure x) (hs1:∀ env x,foldedSetIterable pit1 env x=pure x):PE X (.DictComp pk pv [⟨ptg,pit,[],0⟩,⟨ptg1,pit1,[],0⟩] scope pos) (gE X XR W cx (.dc2 ek ev tg it tg1 it1 own own1)) :=
 PE.of (pe_dc2 (vs1:=own1) (G.calm hcal) G.nd hi bok (fun i hi=>by rw [hown];exact hsub i hi) hg hi1 hg1 hk he hs hs1) fun σ H Q h=>by rw [hown];exact dc2_in G htg htg1 hsub h
end
end PL
end
section
namespace PL
open PySem
section
variable {C:SC}{p:Expr}{a b c d:E}{es:Es}
theorem inv_loc {i:Nat}(h:chkE C (.loc i) p=true):∃ x pos,p=.Name x pos∧(okName x=true∧visB C.sc x=true)∧C.N[i]?=some x:=by
 cases p with
 | Name v1 v2 =>
  try replace h:=show (_&&_)=true from h
  try simp only [Bool.and_eq_true,decide_eq_true_eq,Bool.not_eq_true'] at h
  exact ⟨_,_,rfl,h⟩
 | _=>exact (Bool.false_ne_true h).elim
theorem inv_glb {g:Nat}(h:chkE C (.glb g) p=true):∃ x pos,p=.Name x pos∧globB C.sc x=true∧C.gname g=some x:=by
 cases p with
 | Name v3 v4 =>
  try replace h:=show (_&&_)=true from h
  try simp only [Bool.and_eq_true,decide_eq_true_eq,Bool.not_eq_true'] at h
  exact ⟨_,_,rfl,h⟩
 | _=>exact (Bool.false_ne_true h).elim
theorem inv_bin {o:Bop}(h:chkE C (.bin o a b) p=true):∃ p1 op q pos,p=.BinOp p1 op q pos∧op=bopOf o∧chkE C a p1=true∧chkE C b q=true:=by
 cases p with
 | BinOp v5 v6 v7 v8 =>
  try replace h:=show (_&&_)=true from h
  try simp only [Bool.and_eq_true,decide_eq_true_eq,Bool.not_eq_true'] at h
  exact ⟨_,_,_,_,rfl,h⟩
 | _=>exact (Bool.false_ne_true h).elim
theorem inv_neg (h:chkE C (.neg a) p=true):∃ p1 pos,p=.UnaryOp .USub p1 pos∧chkE C a p1=true:=by
 cases p with
 | UnaryOp v9 v10 v11 =>
  cases v9 with
  | USub =>
   try replace h:=show (_&&_)=true from h
   try simp only [Bool.and_eq_true,decide_eq_true_eq,Bool.not_eq_true'] at h
   exact ⟨_,_,rfl,h⟩
  | _=>exact (Bool.false_ne_true h).elim
 | _=>exact (Bool.false_ne_true h).elim
theorem inv_cmp {o:Cop}(h:chkE C (.cmp o a b) p=true):∃ p1 op q pos,p=.Compare p1 [op] [q] pos∧op=copOf o∧behindInMarks op q=false∧chkE C a p1=true∧chkE C b q=true:=by
 cases p with
 | Compare v12 v13 v14 v15 =>
  cases v13 with
  | cons v16 v17 =>
   cases v17 with
   | nil =>
    cases v14 with
    | cons v18 v19 =>
     cases v19 with
     | nil =>
      try replace h:=show (_&&_)=true from h
      try simp only [Bool.and_eq_true,decide_eq_true_eq,Bool.not_eq_true'] at h
      exact ⟨_,_,_,_,rfl,h⟩
     | _=>exact (Bool.false_ne_true h).elim
    | _=>exact (Bool.false_ne_true h).elim
   | _=>exact (Bool.false_ne_true h).elim
  | _=>exact (Bool.false_ne_true h).elim
 | _=>exact (Bool.false_ne_true h).elim
theorem inv_chn {o1 o2:Cop}(h:chkE C (.chn o1 o2 a b c) p=true):∃ p1 x y q r pos,p=.Compare p1 [x,y] [q,r] pos∧x=copOf o1∧y=copOf o2∧lastMarks [x,y] [q,r]=false∧chkE C a p1=true∧chkE C b q=true∧chkE C c r=true:=by
 cases p with
 | Compare v20 v21 v22 v23 =>
  cases v21 with
  | cons v24 v25 =>
   cases v25 with
   | cons v26 v27 =>
    cases v27 with
    | nil =>
     cases v22 with
     | cons v28 v29 =>
      cases v29 with
      | cons v30 v31 =>
       cases v31 with
       | nil =>
        try replace h:=show (_&&_)=true from h
        try simp only [Bool.and_eq_true,decide_eq_true_eq,Bool.not_eq_true'] at h
        exact ⟨_,_,_,_,_,_,rfl,h⟩
       | _=>exact (Bool.false_ne_true h).elim
      | _=>exact (Bool.false_ne_true h).elim
     | _=>exact (Bool.false_ne_true h).elim
    | _=>exact (Bool.false_ne_true h).elim
   | _=>exact (Bool.false_ne_true h).elim
  | _=>exact (Bool.false_ne_true h).elim
 | _=>exact (Bool.false_ne_true h).elim
theorem inv_isn (h:chkE C (.isn a) p=true):∃ p1 j pos2 pos,p=.Compare p1 [.Is] [.Constant .none j pos2] pos∧chkE C a p1=true:=by
 cases p with
 | Compare v32 v33 v34 v35 =>
  cases v33 with
  | cons v36 v37 =>
   cases v36 with
   | Is =>
    cases v37 with
    | nil =>
     cases v34 with
     | cons v38 v39 =>
      cases v38 with
      | Constant v40 v41 v42 =>
       cases v40 with
       | none =>
        cases v39 with
        | nil =>
         try replace h:=show (_&&_)=true from h
         try simp only [Bool.and_eq_true,decide_eq_true_eq,Bool.not_eq_true'] at h
         exact ⟨_,_,_,_,rfl,h⟩
        | _=>exact (Bool.false_ne_true h).elim
       | _=>exact (Bool.false_ne_true h).elim
      | _=>exact (Bool.false_ne_true h).elim
     | _=>exact (Bool.false_ne_true h).elim
    | _=>exact (Bool.false_ne_true h).elim
   | _=>exact (Bool.false_ne_true h).elim
  | _=>exact (Bool.false_ne_true h).elim
 | _=>exact (Bool.false_ne_true h).elim
theorem inv_isnn (h:chkE C (.isnn a) p=true):∃ p1 j pos2 pos,p=.Compare p1 [.IsNot] [.Constant .none j pos2] pos∧chkE C a p1=true:=by
 cases p with
 | Compare v43 v44 v45 v46 =>
  cases v44 with
  | cons v47 v48 =>
   cases v47 with
   | IsNot =>
    cases v48 with
    | nil =>
     cases v45 with
     | cons v49 v50 =>
      cases v49 with
      | Constant v51 v52 v53 =>
       cases v51 with
       | none =>
        cases v50 with
        | nil =>
         try replace h:=show (_&&_)=true from h
         try simp only [Bool.and_eq_true,decide_eq_true_eq,Bool.not_eq_true'] at h
         exact ⟨_,_,_,_,rfl,h⟩
        | _=>exact (Bool.false_ne_true h).elim
       | _=>exact (Bool.false_ne_true h).elim
      | _=>exact (Bool.false_ne_true h).elim
     | _=>exact (Bool.false_ne_true h).elim
    | _=>exact (Bool.false_ne_true h).elim
   | _=>exact (Bool.false_ne_true h).elim
  | _=>exact (Bool.false_ne_true h).elim
 | _=>exact (Bool.false_ne_true h).elim
theorem inv_and (h:chkE C (.and a b) p=true):∃ p1 q r pos,p=.BoolOp .And (p1::q::r) pos∧chkE C a p1=true∧chkE C b (tailB .And q r pos)=true:=by
 cases p with
 | BoolOp v54 v55 v56 =>
  cases v54 with
  | And =>
   cases v55 with
   | cons v57 v58 =>
    cases v58 with
    | cons v59 v60 =>
     try replace h:=show (_&&_)=true from h
     try simp only [Bool.and_eq_true,decide_eq_true_eq,Bool.not_eq_true'] at h
     exact ⟨_,_,_,_,rfl,h⟩
    | _=>exact (Bool.false_ne_true h).elim
   | _=>exact (Bool.false_ne_true h).elim
  | _=>exact (Bool.false_ne_true h).elim
 | _=>exact (Bool.false_ne_true h).elim
theorem inv_or (h:chkE C (.or a b) p=true):∃ p1 q r pos,p=.BoolOp .Or (p1::q::r) pos∧chkE C a p1=true∧chkE C b (tailB .Or q r pos)=true:=by
 cases p with
 | BoolOp v61 v62 v63 =>
  cases v61 with
  | Or =>
   cases v62 with
   | cons v64 v65 =>
    cases v65 with
    | cons v66 v67 =>
     try replace h:=show (_&&_)=true from h
     try simp only [Bool.and_eq_true,decide_eq_true_eq,Bool.not_eq_true'] at h
     exact ⟨_,_,_,_,rfl,h⟩
    | _=>exact (Bool.false_ne_true h).elim
   | _=>exact (Bool.false_ne_true h).elim
  | _=>exact (Bool.false_ne_true h).elim
 | _=>exact (Bool.false_ne_true h).elim
theorem inv_not (h:chkE C (.not a) p=true):∃ p1 pos,p=.UnaryOp .Not p1 pos∧chkE C a p1=true:=by
 cases p with
 | UnaryOp v68 v69 v70 =>
  cases v68 with
  | Not =>
   try replace h:=show (_&&_)=true from h
   try simp only [Bool.and_eq_true,decide_eq_true_eq,Bool.not_eq_true'] at h
   exact ⟨_,_,rfl,h⟩
  | _=>exact (Bool.false_ne_true h).elim
 | _=>exact (Bool.false_ne_true h).elim
theorem inv_ifx (h:chkE C (.ifx c a b) p=true):∃ t p1 q pos,p=.IfExp t p1 q pos∧chkE C c t=true∧chkE C a p1=true∧chkE C b q=true:=by
 cases p with
 | IfExp v71 v72 v73 v74 =>
  try replace h:=show (_&&_)=true from h
  try simp only [Bool.and_eq_true,decide_eq_true_eq,Bool.not_eq_true'] at h
  exact ⟨_,_,_,_,rfl,h⟩
 | _=>exact (Bool.false_ne_true h).elim
theorem inv_call {f:Nat}(h:chkE C (.call f es) p=true):∃ x pp p1 ps pos,p=.Call (.Name x pp) (p1::ps) [] pos∧C.cal=true∧globB C.sc x=true∧C.fname f=some x∧isStar p1=false∧(ps.all fun p=>!isStar p)=true∧chkEs C es (p1::ps)=true:=by
 cases p with
 | Call v75 v76 v77 v78 =>
  cases v75 with
  | Name v79 v80 =>
   cases v76 with
   | cons v81 v82 =>
    cases v77 with
    | nil =>
     try replace h:=show (_&&_)=true from h
     try simp only [Bool.and_eq_true,decide_eq_true_eq,Bool.not_eq_true'] at h
     exact ⟨_,_,_,_,_,rfl,h⟩
    | _=>exact (Bool.false_ne_true h).elim
   | _=>exact (Bool.false_ne_true h).elim
  | _=>exact (Bool.false_ne_true h).elim
 | _=>exact (Bool.false_ne_true h).elim
theorem inv_bi {bi:Bi}(h:chkE C (.bi bi es) p=true):∃ x pp p1 ps pos,p=.Call (.Name x pp) (p1::ps) [] pos∧C.cal=true∧globB C.sc x=true∧x=biName bi∧isStar p1=false∧(ps.all fun p=>!isStar p)=true∧chkEs C es (p1::ps)=true:=by
 cases p with
 | Call v83 v84 v85 v86 =>
  cases v83 with
  | Name v87 v88 =>
   cases v84 with
   | cons v89 v90 =>
    cases v85 with
    | nil =>
     try replace h:=show (_&&_)=true from h
     try simp only [Bool.and_eq_true,decide_eq_true_eq,Bool.not_eq_true'] at h
     exact ⟨_,_,_,_,_,rfl,h⟩
    | _=>exact (Bool.false_ne_true h).elim
   | _=>exact (Bool.false_ne_true h).elim
  | _=>exact (Bool.false_ne_true h).elim
 | _=>exact (Bool.false_ne_true h).elim
theorem inv_isi {t : Ty}(h : chkE C (.isi a t) p = true) : ∃ x pp p1 y pp2 pos, p = .Call (.Name x pp) [p1, .Name y pp2] [] pos ∧ globB C.sc x = true ∧ globB C.sc y = true ∧ x = "isinstance" ∧ y = tyName t ∧ isStar p1 = false ∧ chkE C a p1 = true := by
 cases p with
 | Call v91 v92 v93 v94 =>
  cases v91 with
  | Name v95 v96 =>
   cases v92 with
   | cons v97 v98 =>
    cases v98 with
    | cons v99 v100 =>
     cases v99 with
     | Name v101 v102 =>
      cases v100 with
      | nil =>
       cases v93 with
       | nil =>
        try replace h:=show (_&&_)=true from h
        try simp only [Bool.and_eq_true,decide_eq_true_eq,Bool.not_eq_true'] at h
        exact ⟨_,_,_,_,_,_,rfl,h⟩
       | _=>exact (Bool.false_ne_true h).elim
      | _=>exact (Bool.false_ne_true h).elim
     | _=>exact (Bool.false_ne_true h).elim
    | _=>exact (Bool.false_ne_true h).elim
   | _=>exact (Bool.false_ne_true h).elim
  | _=>exact (Bool.false_ne_true h).elim
 | _=>exact (Bool.false_ne_true h).elim
theorem inv_tup (h:chkE C (.tup es) p=true):∃ ps k pos,p=.Tuple ps k pos∧chkEs C es ps=true:=by
 cases p with
 | Tuple v103 v104 v105 =>
  try replace h:=show (_&&_)=true from h
  try simp only [Bool.and_eq_true,decide_eq_true_eq,Bool.not_eq_true'] at h
  exact ⟨_,_,_,rfl,h⟩
 | _=>exact (Bool.false_ne_true h).elim
theorem inv_lst (h:chkE C (.lst es) p=true):∃ ps pos,p=.List ps pos∧chkEs C es ps=true:=by
 cases p with
 | List v106 v107 =>
  try replace h:=show (_&&_)=true from h
  try simp only [Bool.and_eq_true,decide_eq_true_eq,Bool.not_eq_true'] at h
  exact ⟨_,_,rfl,h⟩
 | _=>exact (Bool.false_ne_true h).elim
theorem inv_dct {ks:List K0}(h:chkE C (.dct ks es) p=true):∃ ks' ps pos,p=.Dict ks' ps pos∧keysB ks ks'=true∧ks'.length=ps.length∧ks.length≤15∧ks.Nodup∧ks'.isEmpty=false∧(ps.all fun p=>!isStar p)=true∧chkEs C es ps=true:=by
 cases p with
 | Dict v108 v109 v110 =>
  try replace h:=show (_&&_)=true from h
  try simp only [Bool.and_eq_true,decide_eq_true_eq,Bool.not_eq_true'] at h
  exact ⟨_,_,_,rfl,h⟩
 | _=>exact (Bool.false_ne_true h).elim
theorem inv_sub (h:chkE C (.sub a b) p=true):∃ p1 q pos,p=.Subscript p1 q pos∧isSlice q=false∧chkE C a p1=true∧chkE C b q=true:=by
 cases p with
 | Subscript v111 v112 v113 =>
  try replace h:=show (_&&_)=true from h
  try simp only [Bool.and_eq_true,decide_eq_true_eq,Bool.not_eq_true'] at h
  exact ⟨_,_,_,rfl,h⟩
 | _=>exact (Bool.false_ne_true h).elim
theorem inv_slc {lo hi:Eo}(h:chkE C (.slc a lo hi) p=true):∃ p1 l h p2 pos,p=.Subscript p1 (.Slice l h none p2) pos∧chkE C a p1=true∧chkO C lo l=true∧chkO C hi h=true:=by
 cases p with
 | Subscript v114 v115 v116 =>
  cases v115 with
  | Slice v117 v118 v119 v120 =>
   cases v119 with
   | none =>
    try replace h:=show (_&&_)=true from h
    try simp only [Bool.and_eq_true,decide_eq_true_eq,Bool.not_eq_true'] at h
    exact ⟨_,_,_,_,_,rfl,h⟩
   | _=>exact (Bool.false_ne_true h).elim
  | _=>exact (Bool.false_ne_true h).elim
 | _=>exact (Bool.false_ne_true h).elim
theorem inv_get (h : chkE C (.get a b d) p = true) : ∃ p1 m apos q r cpos, p = .Call (.Attribute p1 m apos) [q, r] [] cpos ∧ m = "get" ∧ okBase p1 = true ∧ (apos.endLine == cpos.line) = true ∧ isStar q = false ∧ isStar r = false ∧ chkE C a p1 = true ∧ chkE C b q = true ∧ chkE C d r = true := by
 cases p with
 | Call v121 v122 v123 v124 =>
  cases v121 with
  | Attribute v125 v126 v127 =>
   cases v122 with
   | cons v128 v129 =>
    cases v129 with
    | cons v130 v131 =>
     cases v131 with
     | nil =>
      cases v123 with
      | nil =>
       try replace h:=show (_&&_)=true from h
       try simp only [Bool.and_eq_true,decide_eq_true_eq,Bool.not_eq_true'] at h
       exact ⟨_,_,_,_,_,_,rfl,h⟩
      | _=>exact (Bool.false_ne_true h).elim
     | _=>exact (Bool.false_ne_true h).elim
    | _=>exact (Bool.false_ne_true h).elim
   | _=>exact (Bool.false_ne_true h).elim
  | _=>exact (Bool.false_ne_true h).elim
 | _=>exact (Bool.false_ne_true h).elim
theorem inv_get1 (h : chkE C (.get1 a b) p = true) : ∃ p1 m apos q cpos, p = .Call (.Attribute p1 m apos) [q] [] cpos ∧ m = "get" ∧ okBase p1 = true ∧ (apos.endLine == cpos.line) = true ∧ isStar q = false ∧ chkE C a p1 = true ∧ chkE C b q = true := by
 cases p with
 | Call v132 v133 v134 v135 =>
  cases v132 with
  | Attribute v136 v137 v138 =>
   cases v133 with
   | cons v139 v140 =>
    cases v140 with
    | nil =>
     cases v134 with
     | nil =>
      try replace h:=show (_&&_)=true from h
      try simp only [Bool.and_eq_true,decide_eq_true_eq,Bool.not_eq_true'] at h
      exact ⟨_,_,_,_,_,rfl,h⟩
     | _=>exact (Bool.false_ne_true h).elim
    | _=>exact (Bool.false_ne_true h).elim
   | _=>exact (Bool.false_ne_true h).elim
  | _=>exact (Bool.false_ne_true h).elim
 | _=>exact (Bool.false_ne_true h).elim
theorem inv_cst {k:D}(h:chkE C (.cst k) p=true):(∃ j pos,p=.Constant .none j pos∧k=.non)∨(∃ v j pos,p=.Constant (.bool v) j pos∧k=.bl v)∨(∃ v j pos,p=.Constant (.int v) j pos∧k=.int v)∨(∃ x j pos,p=.Constant (.str x) j pos∧k=.str x.cps.toList):=by
 cases k with
 | non =>
  cases p with
  | Constant c j pos =>
   cases c with
   | none=>exact .inl ⟨_,_,rfl,rfl⟩
   | _=>exact (Bool.false_ne_true h).elim
  | _=>exact (Bool.false_ne_true h).elim
 | bl b =>
  cases p with
  | Constant c j pos =>
   cases c with
   | bool v=>exact .inr (.inl ⟨_,_,_,rfl,by rw [eq_of_beq (show (_==_)=true from h)]⟩)
   | _=>exact (Bool.false_ne_true h).elim
  | _=>exact (Bool.false_ne_true h).elim
 | int i =>
  cases p with
  | Constant c j pos =>
   cases c with
   | int v=>exact .inr (.inr (.inl ⟨_,_,_,rfl,by rw [eq_of_beq (show (_==_)=true from h)]⟩))
   | _=>exact (Bool.false_ne_true h).elim
  | _=>exact (Bool.false_ne_true h).elim
 | str s =>
  cases p with
  | Constant c j pos =>
   cases c with
   | str v=>exact .inr (.inr (.inr ⟨_,_,_,rfl,by rw [of_decide_eq_true (show decide _=true from h)]⟩))
   | _=>exact (Bool.false_ne_true h).elim
  | _=>exact (Bool.false_ne_true h).elim
 | _=>cases p<;>exact (Bool.false_ne_true h).elim
theorem inv_sHas {i:Nat}(h:chkE C (.sHas i) p=true):∃ x p1 j p2 p3 p4 p5,p=.Compare (.Subscript (.Name x p1) (.Constant (.int 0) j p2) p3) [.NotEq] [.List [] p4] p5∧okName x=true∧visB C.sc x=true∧C.N[i]?=some x:=by
 cases p with
 | Compare v166 v167 v168 v169 =>
  cases v166 with
  | Subscript v170 v171 v172 =>
   cases v170 with
   | Name v173 v174 =>
    cases v171 with
    | Constant v175 v176 v177 =>
     cases v175 with
     | int v178 =>
      cases v167 with
      | cons v179 v180 =>
       cases v179 with
       | NotEq =>
        cases v180 with
        | nil =>
         cases v168 with
         | cons v181 v182 =>
          cases v181 with
          | List v183 v184 =>
           cases v183 with
           | nil =>
            cases v182 with
            | nil =>
             try replace h:=show (_&&_)=true from h
             simp only [Bool.and_eq_true,decide_eq_true_eq] at h
             obtain ⟨rfl,h⟩:=h
             exact ⟨_,_,_,_,_,_,_,rfl,h⟩
            | _=>exact (Bool.false_ne_true h).elim
           | _=>exact (Bool.false_ne_true h).elim
          | _=>exact (Bool.false_ne_true h).elim
         | _=>exact (Bool.false_ne_true h).elim
        | _=>exact (Bool.false_ne_true h).elim
       | _=>exact (Bool.false_ne_true h).elim
      | _=>exact (Bool.false_ne_true h).elim
     | _=>exact (Bool.false_ne_true h).elim
    | _=>exact (Bool.false_ne_true h).elim
   | _=>exact (Bool.false_ne_true h).elim
  | _=>exact (Bool.false_ne_true h).elim
 | _=>exact (Bool.false_ne_true h).elim
theorem inv_sBig {i:Nat}(h:chkE C (.sBig i) p=true):∃ x p1 j p2 p3 j2 p4 p5,p=.Subscript (.Subscript (.Name x p1) (.Constant (.int 0) j p2) p3) (.Constant (.int 0) j2 p4) p5∧okName x=true∧visB C.sc x=true∧C.N[i]?=some x:=by
 cases p with
 | Subscript v185 v186 v187 =>
  cases v185 with
  | Subscript v188 v189 v190 =>
   cases v188 with
   | Name v191 v192 =>
    cases v189 with
    | Constant v193 v194 v195 =>
     cases v193 with
     | int v196 =>
      cases v186 with
      | Constant v197 v198 v199 =>
       cases v197 with
       | int v200 =>
        try replace h:=show (_&&_)=true from h
        simp only [Bool.and_eq_true,decide_eq_true_eq] at h
        obtain ⟨rfl,rfl,h⟩:=h
        exact ⟨_,_,_,_,_,_,_,_,rfl,h⟩
       | _=>exact (Bool.false_ne_true h).elim
      | _=>exact (Bool.false_ne_true h).elim
     | _=>exact (Bool.false_ne_true h).elim
    | _=>exact (Bool.false_ne_true h).elim
   | _=>exact (Bool.false_ne_true h).elim
  | _=>exact (Bool.false_ne_true h).elim
 | _=>exact (Bool.false_ne_true h).elim
theorem inv_sTurn {i:Nat}(h:chkE C (.sTurn i) p=true):∃ x p1 j p2 p3,p=.Subscript (.Name x p1) (.Constant (.int 2) j p2) p3∧okName x=true∧visB C.sc x=true∧C.N[i]?=some x:=by
 cases p with
 | Subscript v201 v202 v203 =>
  cases v201 with
  | Name v204 v205 =>
   cases v202 with
   | Constant v206 v207 v208 =>
    cases v206 with
    | int v209 =>
     try replace h:=show (_&&_)=true from h
     simp only [Bool.and_eq_true,decide_eq_true_eq] at h
     obtain ⟨rfl,h⟩:=h
     exact ⟨_,_,_,_,_,rfl,h⟩
    | _=>exact (Bool.false_ne_true h).elim
   | _=>exact (Bool.false_ne_true h).elim
  | _=>exact (Bool.false_ne_true h).elim
 | _=>exact (Bool.false_ne_true h).elim
theorem inv_sCell {i l : Nat}(h : chkE C (.sCell i l) p = true) : ∃ x y p1 j p2 p3 q1 q2 q3 j2 q4 q5 q6 q7 q8, p = .Subscript (.Subscript (.Name x p1) (.Constant (.int 1) j p2) p3) (.BinOp (.Name y q1) .Mod (.Call (.Name "len" q2) [.Subscript (.Name x q3) (.Constant (.int 1) j2 q4) q5] [] q6) q7) q8 ∧
  okName x = true ∧ visB C.sc x = true ∧ C.N[i]? = some x ∧ okName y = true ∧ visB C.sc y = true ∧ C.N[l]? = some y ∧ globB C.sc "len" = true := by
 cases p with
 | Subscript v210 v211 v212 =>
  cases v210 with
  | Subscript v213 v214 v215 =>
   cases v213 with
   | Name v216 v217 =>
    cases v214 with
    | Constant v218 v219 v220 =>
     cases v218 with
     | int v221 =>
      cases v211 with
      | BinOp v222 v223 v224 v225 =>
       cases v222 with
       | Name v226 v227 =>
        cases v223 with
        | Mod =>
         cases v224 with
         | Call v228 v229 v230 v231 =>
          cases v228 with
          | Name v232 v233 =>
           cases v229 with
           | cons v234 v235 =>
            cases v234 with
            | Subscript v236 v237 v238 =>
             cases v236 with
             | Name v239 v240 =>
              cases v237 with
              | Constant v241 v242 v243 =>
               cases v241 with
               | int v244 =>
                cases v235 with
                | nil =>
                 cases v230 with
                 | nil =>
                  try replace h:=show (_&&_)=true from h
                  simp only [Bool.and_eq_true,decide_eq_true_eq] at h
                  obtain ⟨rfl,rfl,rfl,h1,h2,h3,h4,h5,h6,h7,rfl⟩:=h
                  exact ⟨_,_,_,_,_,_,_,_,_,_,_,_,_,_,_,rfl,h1,h2,h3,h4,h5,h6,h7⟩
                 | _=>exact (Bool.false_ne_true h).elim
                | _=>exact (Bool.false_ne_true h).elim
               | _=>exact (Bool.false_ne_true h).elim
              | _=>exact (Bool.false_ne_true h).elim
             | _=>exact (Bool.false_ne_true h).elim
            | _=>exact (Bool.false_ne_true h).elim
           | _=>exact (Bool.false_ne_true h).elim
          | _=>exact (Bool.false_ne_true h).elim
         | _=>exact (Bool.false_ne_true h).elim
        | _=>exact (Bool.false_ne_true h).elim
       | _=>exact (Bool.false_ne_true h).elim
      | _=>exact (Bool.false_ne_true h).elim
     | _=>exact (Bool.false_ne_true h).elim
    | _=>exact (Bool.false_ne_true h).elim
   | _=>exact (Bool.false_ne_true h).elim
  | _=>exact (Bool.false_ne_true h).elim
 | _=>exact (Bool.false_ne_true h).elim
theorem inv_lc {e:E}{tg:Tg}{it:It}{c:Eo}{own:List Nat}(h:chkE C (.lc e tg it c own) p=true):∃ pe ptg pit ifs scope pos,p=.ListComp pe [⟨ptg,pit,ifs,0⟩] scope pos∧C.cal=true ∧
  own.length=(ownN C.N own).length∧L2.blkC C.N C.sc scope (ownN C.N own)=true∧itOk it ptg=true∧tgIn own tg=true∧chkI C it pit=true∧chkT (C.blk scope) tg ptg=true ∧
   chkE (C.blk scope) e pe=true∧((c=.no∧ifs=[])∨∃ c' p',c=.so c'∧ifs=[p']∧chkE (C.blk scope) c' p'=true):=by
 cases p with
 | ListComp v245 v246 v247 v248 =>
  cases v246 with
  | cons v249 v250 =>
   cases v249 with
   | mk v251 v252 v253 v254 =>
    cases v250 with
    | nil =>
     cases c with
     | no =>
      cases v253 with
      | nil =>
       replace h:=show (_&&_)=true from h
       simp only [Bool.and_eq_true,decide_eq_true_eq] at h
       obtain ⟨h0,rfl,h1,h2,h3,h4,h5,h6,h7,h8⟩:=h
       exact ⟨_,_,_,_,_,_,rfl,h0,h1,h2,h3,h4,h5,h6,h7,.inl ⟨rfl,rfl⟩⟩
      | cons _ _ =>
       replace h:=show (_&&_)=true from h
       simp only [Bool.and_eq_true,decide_eq_true_eq] at h
       obtain ⟨h0,rfl,h1,h2,h3,h4,h5,h6,h7,h8⟩:=h
       exact (Bool.false_ne_true h8).elim
     | so c' =>
      cases v253 with
      | nil =>
       replace h:=show (_&&_)=true from h
       simp only [Bool.and_eq_true,decide_eq_true_eq] at h
       obtain ⟨h0,rfl,h1,h2,h3,h4,h5,h6,h7,h8⟩:=h
       exact (Bool.false_ne_true h8).elim
      | cons p' r =>
       cases r with
       | nil =>
        replace h:=show (_&&_)=true from h
        simp only [Bool.and_eq_true,decide_eq_true_eq] at h
        obtain ⟨h0,rfl,h1,h2,h3,h4,h5,h6,h7,h8⟩:=h
        exact ⟨_,_,_,_,_,_,rfl,h0,h1,h2,h3,h4,h5,h6,h7,.inr ⟨_,_,rfl,rfl,h8⟩⟩
       | cons _ _ =>
        replace h:=show (_&&_)=true from h
        simp only [Bool.and_eq_true,decide_eq_true_eq] at h
        obtain ⟨h0,rfl,h1,h2,h3,h4,h5,h6,h7,h8⟩:=h
        exact (Bool.false_ne_true h8).elim
    | _=>exact (Bool.false_ne_true h).elim
  | _=>exact (Bool.false_ne_true h).elim
 | _=>exact (Bool.false_ne_true h).elim
theorem inv_dc {k v:E}{tg:Tg}{it:It}{c:Eo}{own:List Nat}(h:chkE C (.dc k v tg it c own) p=true):∃ pk pv ptg pit ifs scope pos,p=.DictComp pk pv [⟨ptg,pit,ifs,0⟩] scope pos∧C.cal=true ∧
  own.length=(ownN C.N own).length∧L2.blkC C.N C.sc scope (ownN C.N own)=true∧itOk it ptg=true∧tgIn own tg=true∧chkI C it pit=true∧chkT (C.blk scope) tg ptg=true ∧
   chkE (C.blk scope) k pk=true∧chkE (C.blk scope) v pv=true∧((c=.no∧ifs=[])∨∃ c' p',c=.so c'∧ifs=[p']∧chkE (C.blk scope) c' p'=true):=by
 cases p with
 | DictComp v255 v256 v257 v258 v259 =>
  cases v257 with
  | cons v260 v261 =>
   cases v260 with
   | mk v262 v263 v264 v265 =>
    cases v261 with
    | nil =>
     cases c with
     | no =>
      cases v264 with
      | nil =>
       replace h:=show (_&&_)=true from h
       simp only [Bool.and_eq_true,decide_eq_true_eq] at h
       obtain ⟨h0,rfl,h1,h2,h3,h4,h5,h6,h7,h7',h8⟩:=h
       exact ⟨_,_,_,_,_,_,_,rfl,h0,h1,h2,h3,h4,h5,h6,h7,h7',.inl ⟨rfl,rfl⟩⟩
      | cons _ _ =>
       replace h:=show (_&&_)=true from h
       simp only [Bool.and_eq_true,decide_eq_true_eq] at h
       obtain ⟨h0,rfl,h1,h2,h3,h4,h5,h6,h7,h7',h8⟩:=h
       exact (Bool.false_ne_true h8).elim
     | so c' =>
      cases v264 with
      | nil =>
       replace h:=show (_&&_)=true from h
       simp only [Bool.and_eq_true,decide_eq_true_eq] at h
       obtain ⟨h0,rfl,h1,h2,h3,h4,h5,h6,h7,h7',h8⟩:=h
       exact (Bool.false_ne_true h8).elim
      | cons p' r =>
       cases r with
       | nil =>
        replace h:=show (_&&_)=true from h
        simp only [Bool.and_eq_true,decide_eq_true_eq] at h
        obtain ⟨h0,rfl,h1,h2,h3,h4,h5,h6,h7,h7',h8⟩:=h
        exact ⟨_,_,_,_,_,_,_,rfl,h0,h1,h2,h3,h4,h5,h6,h7,h7',.inr ⟨_,_,rfl,rfl,h8⟩⟩
       | cons _ _ =>
        replace h:=show (_&&_)=true from h
        simp only [Bool.and_eq_true,decide_eq_true_eq] at h
        obtain ⟨h0,rfl,h1,h2,h3,h4,h5,h6,h7,h7',h8⟩:=h
        exact (Bool.false_ne_true h8).elim
    | _=>exact (Bool.false_ne_true h).elim
  | _=>exact (Bool.false_ne_true h).elim
 | _=>exact (Bool.false_ne_true h).elim
theorem inv_dc2 {k v:E}{tg tg1:Tg}{it it1:It}{own own1:List Nat}(h:chkE C (.dc2 k v tg it tg1 it1 own own1) p=true):∃ pk pv ptg pit ptg1 pit1 scope pos,p=.DictComp pk pv [⟨ptg,pit,[],0⟩,⟨ptg1,pit1,[],0⟩] scope pos∧C.cal=true ∧
  own.length=(ownN C.N own).length∧L2.blkC C.N C.sc scope (ownN C.N own)=true∧(own1.all (fun i=>own.contains i))=true∧itOk it ptg=true∧tgIn own tg=true∧tgIn own1 tg1=true∧chkI C it pit=true∧chkT (C.blk scope) tg ptg=true ∧
   itOk it1 ptg1=true∧chkI (C.blk scope) it1 pit1=true∧chkT (C.blk scope) tg1 ptg1=true∧chkE (C.blk scope) k pk=true∧chkE (C.blk scope) v pv=true:=by
 cases p with
 | DictComp v266 v267 v268 v269 v270 =>
  cases v268 with
  | cons v271 v272 =>
   cases v271 with
   | mk v273 v274 v275 v276 =>
    cases v275 with
    | nil =>
     cases v272 with
     | cons v277 v278 =>
      cases v277 with
      | mk v279 v280 v281 v282 =>
       cases v281 with
       | nil =>
        cases v278 with
        | nil =>
         try replace h:=show (_&&_)=true from h
         simp only [Bool.and_eq_true,decide_eq_true_eq] at h
         obtain ⟨h0,rfl,rfl,h1,h2,h3,h4,h5,h6,h7,h8,h9,h10,h11,h12,h13⟩:=h
         exact ⟨_,_,_,_,_,_,_,_,rfl,h0,h1,h2,h3,h4,h5,h6,h7,h8,h9,h10,h11,h12,h13⟩
        | _=>exact (Bool.false_ne_true h).elim
       | _=>exact (Bool.false_ne_true h).elim
     | _=>exact (Bool.false_ne_true h).elim
    | _=>exact (Bool.false_ne_true h).elim
  | _=>exact (Bool.false_ne_true h).elim
 | _=>exact (Bool.false_ne_true h).elim
theorem inv_lc2 {e:E}{tg tg1:Tg}{it it1:It}{own own1:List Nat}(h:chkE C (.lc2 e tg it tg1 it1 own own1) p=true):∃ pe ptg pit ptg1 pit1 scope pos,p=.ListComp pe [⟨ptg,pit,[],0⟩,⟨ptg1,pit1,[],0⟩] scope pos∧C.cal=true ∧
  own.length=(ownN C.N own).length∧L2.blkC C.N C.sc scope (ownN C.N own)=true∧(own1.all (fun i=>own.contains i))=true∧itOk it ptg=true∧tgIn own tg=true∧tgIn own1 tg1=true∧chkI C it pit=true∧chkT (C.blk scope) tg ptg=true ∧
   itOk it1 ptg1=true∧chkI (C.blk scope) it1 pit1=true∧chkT (C.blk scope) tg1 ptg1=true∧chkE (C.blk scope) e pe=true:=by
 cases p with
 | ListComp v283 v284 v285 v286 =>
  cases v284 with
  | cons v287 v288 =>
   cases v287 with
   | mk v289 v290 v291 v292 =>
    cases v291 with
    | nil =>
     cases v288 with
     | cons v293 v294 =>
      cases v293 with
      | mk v295 v296 v297 v298 =>
       cases v297 with
       | nil =>
        cases v294 with
        | nil =>
         try replace h:=show (_&&_)=true from h
         simp only [Bool.and_eq_true,decide_eq_true_eq] at h
         obtain ⟨h0,rfl,rfl,h1,h2,h3,h4,h5,h6,h7,h8,h9,h10,h11,h12⟩:=h
         exact ⟨_,_,_,_,_,_,_,rfl,h0,h1,h2,h3,h4,h5,h6,h7,h8,h9,h10,h11,h12⟩
        | _=>exact (Bool.false_ne_true h).elim
       | _=>exact (Bool.false_ne_true h).elim
     | _=>exact (Bool.false_ne_true h).elim
    | _=>exact (Bool.false_ne_true h).elim
  | _=>exact (Bool.false_ne_true h).elim
 | _=>exact (Bool.false_ne_true h).elim
theorem inv_dpl (h : chkE C (.dpl a) p = true) : ∃ x pp p1 pos, p = .Call (.Name x pp) [p1] [] pos ∧ C.cal = true ∧ globB C.sc x = true ∧ x = "dict" ∧ isStar p1 = false ∧ chkE C a p1 = true := by
 cases p with
 | Call v342 v343 v344 v345 =>
  cases v342 with
  | Name v346 v347 =>
   cases v343 with
   | cons v348 v349 =>
    cases v349 with
    | nil =>
     cases v344 with
     | nil =>
      try replace h:=show (_&&_)=true from h
      try simp only [Bool.and_eq_true,decide_eq_true_eq,Bool.not_eq_true'] at h
      obtain ⟨h1,h2,h3,h4,h5⟩:=h
      exact ⟨_,_,_,_,rfl,h1,h2,h3,h4,h5⟩
     | _=>exact (Bool.false_ne_true h).elim
    | _=>exact (Bool.false_ne_true h).elim
   | _=>exact (Bool.false_ne_true h).elim
  | _=>exact (Bool.false_ne_true h).elim
 | _=>exact (Bool.false_ne_true h).elim
end
end PL
end
section
namespace PL
open PySem PySem.Spec PyProof.Rows L2
section
variable {pr:Prog}{XR:XRel}{n:Nat}
theorem vis_of {X:Cx}{C:SC}{x:Str}(G:Good X pr XR C n)(h:visB C.sc x=true):Vis X.env.scope x:=by
 rw [G.sc]
 unfold visB at h
 split at h
 ·exact .inl (by assumption)
 ·exact .inr (.inl (by assumption))
 ·exact .inr (.inr (by assumption))
 ·cases h
theorem glob_of {X:Cx}{C:SC}{x:Str}(G:Good X pr XR C n)(h:globB C.sc x=true):Gl X x∧okName x=true:=by
 unfold globB at h
 split at h
 ·rename_i e
  exact ⟨by show X.env.scope.names.lookup x=_;rw [G.sc];exact e,h⟩
 ·cases h
theorem foldOk {C:SC}{it:It}{p:Expr}(h:chkI C it p=true)(env:PySem.Env):∀ x,foldedSetIterable p env x=pure x:=by
 intro x
 cases p<;>first|rfl|skip
 cases it<;>simp [chkI] at h
theorem units_of {X:Cx}{C:SC}(G:Good X pr XR C n):X.A.units+65<cLine:=by have:=G.un;omega
mutual
theorem sE:∀ (e:E) {X:Cx} {C:SC} {W:WX} {p:Expr},Good X pr XR C n→Takes X W→chkE C e p=true→SE X XR W (pr.cxe n) e p
 | .loc i,X,C,W,p,G,tk,h=>by
  obtain ⟨x,pos,rfl,⟨h1,h2⟩,h3⟩:=inv_loc h
  exact .plain rfl (x_loc (by rw [G.N];exact h3) (vis_of G h2) h1)
 | .cst d,X,C,W,p,G,tk,h=>by
  rcases inv_cst h with ⟨j,pos,rfl,rfl⟩|⟨v,j,pos,rfl,rfl⟩|⟨v,j,pos,rfl,rfl⟩|⟨x,j,pos,rfl,rfl⟩
  ·exact .plain rfl (x_cst _ pe_non fun _ _ _=>.non)
  ·exact .plain rfl (x_cst _ pe_bl fun _ _ _=>.bl _)
  ·exact .plain rfl (x_cst _ pe_int fun _ _ _=>.int _)
  ·exact .plain rfl (x_cst _ pe_str fun _ _ _=>.str _ _ rfl)
 | .glb g,X,C,W,p,G,tk,h=>by
  obtain ⟨x,pos,rfl,h1,h2⟩:=inv_glb h
  obtain ⟨g1,g2⟩:=glob_of G h1
  exact .plain rfl (x_glb G g1 h2 g2)
 | .bin o a b,X,C,W,p,G,tk,h=>by
  obtain ⟨p1,op,q,pos,rfl,rfl,h1,h2⟩:=inv_bin h
  exact .plain rfl (x_bin o (sE a G tk h1).v (sE b G tk h2).v)
 | .cat a b,X,C,W,p,G,tk,h=>(Bool.false_ne_true h).elim
 | .neg a,X,C,W,p,G,tk,h=>by
  obtain ⟨p1,pos,rfl,h1⟩:=inv_neg h
  exact .plain rfl (x_neg (sE a G tk h1).v)
 | .cmp o a b,X,C,W,p,G,tk,h=>by
  obtain ⟨p1,op,q,pos,rfl,rfl,h0,h1,h2⟩:=inv_cmp h
  exact se_cmp (units_of G) o (sE a G tk h1).v (sE b G tk h2).v h0
 | .chn o1 o2 a b c,X,C,W,p,G,tk,h=>by
  obtain ⟨p1,x,y,q,r,pos,rfl,rfl,rfl,h0,h1,h2,h3⟩:=inv_chn h
  exact se_chn (units_of G) o1 o2 (sE a G tk h1).v (sE b G tk h2).v (sE c G tk h3).v h0
 | .isn a,X,C,W,p,G,tk,h=>by
  obtain ⟨p1,j,p2,pos,rfl,h1⟩:=inv_isn h
  exact se_isn (sE a G tk h1).v
 | .isnn a,X,C,W,p,G,tk,h=>by
  obtain ⟨p1,j,p2,pos,rfl,h1⟩:=inv_isnn h
  exact se_isnn (sE a G tk h1).v
 | .and a b,X,C,W,p,G,tk,h=>by
  obtain ⟨p1,q,r,pos,rfl,h1,h2⟩:=inv_and h
  exact se_and (sE a G tk h1) (sE b G tk h2)
 | .or a b,X,C,W,p,G,tk,h=>by
  obtain ⟨p1,q,r,pos,rfl,h1,h2⟩:=inv_or h
  exact se_or (sE a G tk h1) (sE b G tk h2)
 | .not a,X,C,W,p,G,tk,h=>by
  obtain ⟨p1,pos,rfl,h1⟩:=inv_not h
  exact se_not (sE a G tk h1)
 | .ifx c a b,X,C,W,p,G,tk,h=>by
  obtain ⟨t,p1,q,pos,rfl,h0,h1,h2⟩:=inv_ifx h
  exact se_ifx (sE c G tk h0) (sE a G tk h1) (sE b G tk h2)
 | .call f es,X,C,W,p,G,tk,h=>by
  obtain ⟨x,pp,p1,ps,pos,rfl,h0,h1,h2,h3,h4,h5⟩:=inv_call h
  obtain ⟨g1,g2⟩:=glob_of G h1
  exact .plain rfl (x_call G h0 tk g1 h2 g2 h3 h4 (sEs es G tk h5).pa)
 | .bi b es,X,C,W,p,G,tk,h=>by
  obtain ⟨x,pp,p1,ps,pos,rfl,h0,h1,h2,h3,h4,h5⟩:=inv_bi h
  obtain ⟨g1,g2⟩:=glob_of G h1
  exact .plain rfl (x_bi G h0 b g1 h2 h3 h4 (sEs es G tk h5).pa)
 | .isi a t,X,C,W,p,G,tk,h=>by
  obtain ⟨x,pp,p1,y,pp2,pos,rfl,h1,h2,rfl,h4,h5,h6⟩:=inv_isi h
  exact .plain rfl (x_isi G (glob_of G h1).1 (glob_of G h2).1 h4 h5 (sE a G tk h6).v)
 | .tup es,X,C,W,p,G,tk,h=>by
  obtain ⟨ps,k,pos,rfl,h1⟩:=inv_tup h
  exact .plain rfl (x_tup (sEs es G tk h1).pa)
 | .lst es,X,C,W,p,G,tk,h=>by
  obtain ⟨ps,pos,rfl,h1⟩:=inv_lst h
  exact .plain rfl (x_lst (sEs es G tk h1).pa)
 | .dct ks es,X,C,W,p,G,tk,h=>by
  obtain ⟨ks',ps,pos,rfl,h1,h2,h3,h4,h5,h6,h7⟩:=inv_dct h
  exact .plain rfl (x_dct h1 h2 (fun z=>by rw [z] at h5;cases h5) h3 h4 h6 (sEs es G tk h7))
 | .sub a b,X,C,W,p,G,tk,h=>by
  obtain ⟨p1,q,pos,rfl,h0,h1,h2⟩:=inv_sub h
  exact .plain rfl (x_sub G h0 (sE a G tk h1).v (sE b G tk h2).v)
 | .slc a lo hi,X,C,W,p,G,tk,h=>by
  obtain ⟨p1,l,h',p2,pos,rfl,h0,h1,h2⟩:=inv_slc h
  exact .plain rfl (x_slc G (sE a G tk h0).v (sO lo G tk h1) (sO hi G tk h2))
 | .get a b d,X,C,W,p,G,tk,h=>by
  obtain ⟨p1,m,apos,q,r,cpos,rfl,rfl,h1,h2,h3,h4,h5,h6,h7⟩:=inv_get h
  exact .plain rfl (x_get G h1 h2 h3 h4 (sE a G tk h5).v (sE b G tk h6).v (sE d G tk h7).v)
 | .get1 a b,X,C,W,p,G,tk,h=>by
  obtain ⟨p1,m,apos,q,cpos,rfl,rfl,h1,h2,h3,h5,h6⟩:=inv_get1 h
  exact .plain rfl (x_get1 G h1 h2 h3 (sE a G tk h5).v (sE b G tk h6).v)
 | .cnt a b,X,C,W,p,G,tk,h=>(Bool.false_ne_true h).elim
 | .tof a,X,C,W,p,G,tk,h=>(Bool.false_ne_true h).elim
 | .lof (.seq a),X,C,W,p,G,tk,h=>(Bool.false_ne_true h).elim
 | .lof (.rng1 a),X,C,W,p,G,tk,h=>(Bool.false_ne_true h).elim
 | .lof (.rng2 a b),X,C,W,p,G,tk,h=>(Bool.false_ne_true h).elim
 | .lof (.rngL a b),X,C,W,p,G,tk,h=>(Bool.false_ne_true h).elim
 | .lof (.rng3 a b c),X,C,W,p,G,tk,h=>(Bool.false_ne_true h).elim
 | .lof (.enm a s),X,C,W,p,G,tk,h=>(Bool.false_ne_true h).elim
 | .lof (.zp a b),X,C,W,p,G,tk,h=>(Bool.false_ne_true h).elim
 | .lof (.zp3 a b c),X,C,W,p,G,tk,h=>(Bool.false_ne_true h).elim
 | .lof (.enmz a b s),X,C,W,p,G,tk,h=>(Bool.false_ne_true h).elim
 | .lc e tg it c own,X,C,W,p,G,tk,h=>by
  obtain ⟨pe,ptg,pit,ifs,scope,pos,rfl,h0,h1,h2,h3,h4,h5,h6,h7,h8⟩:=inv_lc h
  refine .plain rfl (x_lc G h0 (sI it G tk h5 h3) (by rw [G.N,G.sc];exact blkOk_by h2) (ownN_snd h1) h4 (fun s H Ca cl fp=>g_ok (G.blk h0 (blkOk_by h2).kind s H cl Ca fp) h6) (fun s H Ca cl fp=>?_) (fun s H Ca cl fp=>(sE e (G.blk h0 (blkOk_by h2).kind s H cl Ca fp) Takes.wf h7).v) (foldOk h5 X.env))
  refine sB c (G.blk h0 (blkOk_by h2).kind s H cl Ca fp) Takes.wf ?_
  rcases h8 with ⟨rfl,rfl⟩|⟨c',p',rfl,rfl,h9⟩
  ·trivial
  ·exact h9
 | .lc2 e tg it tg1 it1 own own1,X,C,W,p,G,tk,h=>by
  obtain ⟨pe,ptg,pit,ptg1,pit1,scope,pos,rfl,h0,h1,h2,hs,h3,h4,h4',h5,h6,h7,h8,h9,h10⟩:=inv_lc2 h
  refine .plain rfl (x_lc2 G h0 (sI it G tk h5 h3) (by rw [G.N,G.sc];exact blkOk_by h2) (ownN_snd h1) h4 h4' (fun i hi=>by
   have:=List.all_eq_true.mp hs i hi
   simpa using this) (fun s H Ca cl fp=>g_ok (G.blk h0 (blkOk_by h2).kind s H cl Ca fp) h6) (fun s H Ca cl fp=>no_test)
   (fun s H Ca cl fp=>sI it1 (G.blk h0 (blkOk_by h2).kind s H cl Ca fp) Takes.wf h8 h7) (fun s H Ca cl fp=>g_ok (G.blk h0 (blkOk_by h2).kind s H cl Ca fp) h9) (fun s H Ca cl fp=>(sE e (G.blk h0 (blkOk_by h2).kind s H cl Ca fp) Takes.wf h10).v) (foldOk h5 X.env) fun env=>foldOk h8 env)
 | .dc k v tg it c own,X,C,W,p,G,tk,h=>by
  obtain ⟨pk,pv,ptg,pit,ifs,scope,pos,rfl,h0,h1,h2,h3,h4,h5,h6,h7,h7',h8⟩:=inv_dc h
  refine .plain rfl (x_dc G h0 (sI it G tk h5 h3) (by rw [G.N,G.sc];exact blkOk_by h2) (ownN_snd h1) h4 (fun s H Ca cl fp=>g_ok (G.blk h0 (blkOk_by h2).kind s H cl Ca fp) h6) (fun s H Ca cl fp=>?_) (fun s H Ca cl fp=>(sE k (G.blk h0 (blkOk_by h2).kind s H cl Ca fp) Takes.wf h7).v) (fun s H Ca cl fp=>(sE v (G.blk h0 (blkOk_by h2).kind s H cl Ca fp) Takes.wf h7').v) (foldOk h5 X.env))
  refine sB c (G.blk h0 (blkOk_by h2).kind s H cl Ca fp) Takes.wf ?_
  rcases h8 with ⟨rfl,rfl⟩|⟨c',p',rfl,rfl,h9⟩
  ·trivial
  ·exact h9
 | .dc2 k v tg it tg1 it1 own own1,X,C,W,p,G,tk,h=>by
  obtain ⟨pk,pv,ptg,pit,ptg1,pit1,scope,pos,rfl,h0,h1,h2,hs,h3,h4,h4',h5,h6,h7,h8,h9,h10,h11⟩:=inv_dc2 h
  exact .plain rfl (x_dc2 G h0 (sI it G tk h5 h3) (by rw [G.N,G.sc];exact blkOk_by h2) (ownN_snd h1) h4 h4' (fun i hi=>by
   have:=List.all_eq_true.mp hs i hi
   simpa using this) (fun s H Ca cl fp=>g_ok (G.blk h0 (blkOk_by h2).kind s H cl Ca fp) h6)
   (fun s H Ca cl fp=>sI it1 (G.blk h0 (blkOk_by h2).kind s H cl Ca fp) Takes.wf h8 h7) (fun s H Ca cl fp=>g_ok (G.blk h0 (blkOk_by h2).kind s H cl Ca fp) h9) (fun s H Ca cl fp=>(sE k (G.blk h0 (blkOk_by h2).kind s H cl Ca fp) Takes.wf h10).v) (fun s H Ca cl fp=>(sE v (G.blk h0 (blkOk_by h2).kind s H cl Ca fp) Takes.wf h11).v) (foldOk h5 X.env) fun env=>foldOk h8 env)
 | .isE a cs,X,C,W,p,G,tk,h=>(Bool.false_ne_true h).elim
 | .sst a,X,C,W,p,G,tk,h=>(Bool.false_ne_true h).elim
 | .rev a,X,C,W,p,G,tk,h=>(Bool.false_ne_true h).elim
 | .isB a b neg,X,C,W,p,G,tk,h=>(Bool.false_ne_true h).elim
 | .lsq a,X,C,W,p,G,tk,h=>(Bool.false_ne_true h).elim
 | .dpl a,X,C,W,p,G,tk,h=>by
  obtain ⟨x,pp,p1,pos,rfl,h0,h1,rfl,h3,h4⟩:=inv_dpl h
  exact .plain rfl (x_dpl G h0 (glob_of G h1).1 h3 (sE a G tk h4).v)
 | .zl a b,X,C,W,p,G,tk,h=>(Bool.false_ne_true h).elim
 | .zls a,X,C,W,p,G,tk,h=>(Bool.false_ne_true h).elim
 | .sHas i,X,C,W,p,G,tk,h=>by
  obtain ⟨x,p1,j,p2,p3,p4,p5,rfl,h1,h2,h3⟩:=inv_sHas h
  exact se_has G h1 (vis_of G h2) h3
 | .sBig i,X,C,W,p,G,tk,h=>by
  obtain ⟨x,p1,j,p2,p3,j2,p4,p5,rfl,h1,h2,h3⟩:=inv_sBig h
  exact .plain rfl (x_sBig G h1 (vis_of G h2) h3)
 | .sTurn i,X,C,W,p,G,tk,h=>by
  obtain ⟨x,p1,j,p2,p3,rfl,h1,h2,h3⟩:=inv_sTurn h
  exact .plain rfl (x_sTurn G h1 (vis_of G h2) h3)
 | .sCell i l,X,C,W,p,G,tk,h=>by
  obtain ⟨x,y,p1,j,p2,p3,q1,q2,q3,j2,q4,q5,q6,q7,q8,rfl,h1,h2,h3,h4,h5,h6,h7⟩:=inv_sCell h
  exact .plain rfl (x_sCell G h1 (vis_of G h2) h3 h4 (vis_of G h5) h6 (glob_of G h7).1)
theorem sEs:∀ (es:Es) {X:Cx} {C:SC} {W:WX} {ps:List Expr},Good X pr XR C n→Takes X W→chkEs C es ps=true→PEs X XR W (pr.cxe n) es ps
 | .nil,X,C,W,ps,G,tk,h=>by
  cases ps with
  | nil=>exact .nil
  | cons _ _=>simp [chkEs] at h
 | .cons e r,X,C,W,ps,G,tk,h=>by
  cases ps with
  | nil=>simp [chkEs] at h
  | cons p ps =>
   simp only [chkEs,Bool.and_eq_true,Bool.not_eq_true'] at h
   exact .cons h.1 (sE e G tk h.2.1).v (sEs r G tk h.2.2)
 | .star e r,X,C,W,ps,G,tk,h=>by
  cases ps with
  | nil=>simp [chkEs] at h
  | cons p ps =>
   cases p<;>simp only [chkEs,Bool.false_eq_true] at h
   simp only [Bool.and_eq_true] at h
   exact .star (sE e G tk h.1).v (sEs r G tk h.2)
theorem sO:∀ (o:Eo) {X:Cx} {C:SC} {W:WX} {p:Option Expr},Good X pr XR C n→Takes X W→chkO C o p=true→PO X p (gO X XR W (pr.cxe n) o)
 | .no,X,C,W,p,G,tk,h=>by
  cases p with
  | none=>exact o_no
  | some _=>simp [chkO] at h
 | .so e,X,C,W,p,G,tk,h=>by
  cases p with
  | none=>simp [chkO] at h
  | some p =>
   simp only [chkO] at h
   exact o_so (sE e G tk h).v
theorem sB:∀ (o:Eo) {X:Cx} {C:SC} {W:WX} {ifs:List Expr},Good X pr XR C n→Takes X W→(match o,ifs with|.no,[]=>True|.so c,[p]=>chkE C c p=true|_,_=>False)→PTs X ifs (tBo X.K X.w XR W (pr.cxe n) o)
 | .no,X,C,W,ifs,G,tk,h=>by
  cases ifs with
  | cons _ _=>cases h
  | nil =>
   exact ⟨fun pins s σ H Q I h=>pts_nil.run pins s σ H Q I (by
    obtain ⟨F,B,env,st,ok,h⟩:=h
    unfold evB at h
    exact h F H (Ext.refl F H) ok.sr)⟩
 | .so e,X,C,W,ifs,G,tk,h=>by
  match ifs,h with
  | [p],h =>
   exact ⟨fun pins s σ H Q I h'=>(pts_one (sE e G tk h).t).run pins s σ H Q I (by
    obtain ⟨F,B,env,st,ok,h⟩:=h'
    unfold evB at h
    exact ⟨F,B,env,st,ok,h⟩)⟩
theorem sI:∀ (it:It) {X:Cx} {C:SC} {W:WX} {tg p:Expr},Good X pr XR C n→Takes X W→chkI C it p=true→itOk it tg=true→PI X tg p (gI X XR W (pr.cxe n) it)
 | .seq a,X,C,W,tg,p,G,tk,h,ht=>by
  simp only [chkI,Bool.and_eq_true] at h
  exact i_seq (sE a G tk h.2).v
 | .rng1 a,X,C,W,tg,p,G,tk,h,ht=>by
  unfold chkI at h
  split at h<;>try contradiction
  rename_i heq
  cases heq
  simp only [Bool.and_eq_true,decide_eq_true_eq,Bool.not_eq_true'] at h
  obtain ⟨z1,rfl,z2,z3⟩:=h
  exact i_rng1 G (glob_of G z1).1 z2 (sE a G tk z3).v
 | .rng2 a b,X,C,W,tg,p,G,tk,h,ht=>(Bool.false_ne_true h).elim
 | .rngL a b,X,C,W,tg,p,G,tk,h,ht=>(Bool.false_ne_true h).elim
 | .rng3 a b c,X,C,W,tg,p,G,tk,h,ht=>(Bool.false_ne_true h).elim
 | .enm a s,X,C,W,tg,p,G,tk,h,ht=>by
  unfold chkI at h
  split at h<;>try contradiction
  rename_i heq
  cases heq
  cases tg<;>simp only [itOk,Bool.false_eq_true] at ht
  simp only [Bool.and_eq_true,decide_eq_true_eq] at h
  obtain ⟨z1,rfl,h⟩:=h
  split at h
  ·simp only [Bool.and_eq_true,decide_eq_true_eq,Bool.not_eq_true'] at h
   obtain ⟨rfl,z2,z3⟩:=h
   exact i_enm G (glob_of G z1).1 z2 (sE a G tk z3).v
  ·cases h
 | .zp a b,X,C,W,tg,p,G,tk,h,ht=>by
  unfold chkI at h
  split at h<;>try contradiction
  rename_i heq
  cases heq
  cases tg<;>simp only [itOk,Bool.false_eq_true] at ht
  simp only [Bool.and_eq_true,decide_eq_true_eq,Bool.not_eq_true'] at h
  obtain ⟨z1,rfl,z2,z3,z4,z5⟩:=h
  exact i_zp G (glob_of G z1).1 z2 z3 (sE a G tk z4).v (sE b G tk z5).v
 | .zp3 a b c,X,C,W,tg,p,G,tk,h,ht=>(Bool.false_ne_true h).elim
 | .enmz a b s,X,C,W,tg,p,G,tk,h,ht=>by
  obtain ⟨x,pp,y,p2,p1,q1,pos2,cj,cp,pos,rfl,z1,z2,rfl,rfl,z3,z4,z5,z6,z7⟩:=inv_enmz h
  cases tg<;>simp only [itOk,Bool.false_eq_true] at ht
  exact i_enmz G z3.1 z3.2 (glob_of G z1).1 (glob_of G z2).1 z4 z5 (sE a G tk z6).v (sE b G tk z7).v
end
end
end PL
end
section
namespace PL
open PySem PySem.Spec PyProof.Rows L2
structure OkS (K:PySem.W.Frag)(w:World)(F:Foot)(G B:Addr→Prop)(σ:L2.St)(H:Hp)(env:Env)(st:St):Prop where
 e:OkE K w F B σ H env st
 g:∀ b,G b→B b
 o:∀ (i:Nat) (s:Slot) (a:Addr),s.isOwn=true→env[i]?=some s→σ[i]?=some (some (V.ref a))→¬ G a
structure StepS (F:Foot)(G B:Addr→Prop)(H:Hp)(F':Foot)(B':Addr→Prop)(H':Hp):Prop where
 keep:∀ a,¬ F.inn a→(¬ B a∨G a)→H a≠none→H' a=H a∧¬ F'.inn a∧(¬ B a→¬ B' a)
 occ:∀ b,H b≠none→H' b≠none
 at_:∀ a,F.at_=some a→F'.at_=some a
section
variable {K:PySem.W.Frag}{w:World}{F F1 F2:Foot}{G B B1 B2:Addr→Prop}{σ:L2.St}{H H1 H2:Hp}{env:Env}{st st1:St}
theorem StepS.refl:StepS F G B H F B H:=⟨fun _ f _ _=>⟨rfl,f,fun z=>z⟩,fun _ h=>h,fun _ e=>e⟩
theorem StepS.trans (x:StepS F G B H F1 B1 H1)(y:StepS F1 G B1 H1 F2 B2 H2):StepS F G B H F2 B2 H2 :=
 ⟨fun a f b h=>by
  obtain ⟨e1,f1,b1⟩:=x.keep a f b h
  obtain ⟨e2,f2,b2⟩:=y.keep a f1 (b.imp b1 id) (by rw [e1];exact h)
  exact ⟨e2.trans e1,f2,fun z=>b2 (b1 z)⟩,fun b h=>y.occ b (x.occ b h),fun a e=>y.at_ a (x.at_ a e)⟩
theorem Ext.step (x:Ext F H F1 H1):StepS F G B H F1 B H1:=⟨fun a f _ h=>⟨(x.keep a f h).1,(x.keep a f h).2,fun z=>z⟩,x.occ,x.at_⟩
theorem StepS.lat (x:StepS F G B H F1 B1 H1):Lat F B H F1 B1 H1:=⟨fun a f b h=>⟨(x.keep a f (.inl b) h).1,(x.keep a f (.inl b) h).2.1,(x.keep a f (.inl b) h).2.2 b⟩,x.at_⟩
theorem StepS.less (h:∀ b,B1 b→B b):StepS F G B H F B1 H:=⟨fun _ f _ _=>⟨rfl,f,fun z q=>z (h _ q)⟩,fun _ h=>h,fun _ e=>e⟩
theorem OkS.ext (o:OkS K w F G B σ H env st)(x:Ext F H F1 H1)(s:SR st1 F1 H1):OkS K w F1 G B σ H1 env st1:=⟨o.e.ext x s,o.g,o.o⟩
theorem OkS.ren (o:OkS K w F G B σ H env st){σ':L2.St}{env':Env}(f:Nat→Nat)(hl:env'.length=σ'.length)
  (h:∀ (i:Nat) (s:Slot),env'[i]?=some s→s=.un∨(env[f i]?=some s∧σ'[i]?=σ[f i]?))
  (inj:∀ (i j:Nat) (s t:Slot),s.isOwn=true→t.isOwn=true→env'[i]?=some s→env'[j]?=some t→f i=f j→i=j):OkS K w F G B σ' H env' st:=by
 refine ⟨⟨hl,fun i d e=>?_,fun i s os e=>?_,fun i j s t a os ot e1 e2 e3 e4=>?_,o.e.occ,o.e.sr⟩,o.g,fun i s a os e1 e2=>?_⟩
 ·rcases h i _ e with z|⟨z1,z2⟩
  ·cases z
  ·rw [z2];exact o.e.val _ d z1
 ·rcases h i _ e with z|⟨z1,z2⟩
  ·subst z;cases os
  ·rw [z2];exact o.e.own _ s os z1
 ·rcases h i _ e1 with z|⟨z1,z2⟩
  ·subst z;cases os
  rcases h j _ e2 with z|⟨z3,z4⟩
  ·subst z;cases ot
  rw [z2] at e3
  rw [z4] at e4
  exact inj i j s t os ot e1 e2 (o.e.apart _ _ _ _ a os ot z1 z3 e3 e4)
 ·rcases h i _ e1 with z|⟨z1,z2⟩
  ·subst z;cases os
  rw [z2] at e2
  exact o.o _ s a os z1 e2
theorem get_app {α:Type}{l:List α}{x s:α}{i:Nat}(h:(l++[x])[i]?=some s):(l[i]?=some s∧i<l.length)∨(i=l.length∧s=x):=by
 by_cases hi:i<l.length
 ·rw [List.getElem?_append_left hi] at h
  exact .inl ⟨h,hi⟩
 ·rw [List.getElem?_append_right (by omega)] at h
  have:i-l.length=0:=by
   have:=(List.getElem?_eq_some_iff.mp h).1
   simp at this
   omega
  rw [this] at h
  exact .inr ⟨by omega,by simpa using h.symm⟩
theorem app_left {α:Type}{l m:List α}{i:Nat}(h:i<l.length):(l++m)[i]?=l[i]?:=List.getElem?_append_left h
theorem app_last {α:Type}{l:List α}{x:α}:(l++[x])[l.length]?=some x:=by simp
theorem OkS.pushV (o:OkS K w F G B σ H env st){v:V}{d:D}(r:Rep K w F B H v d):OkS K w F G B (σ++[some v]) H (env++[.val d]) st:=by
 have hl:=o.e.len
 refine ⟨⟨by simp [hl],fun i d' e=>?_,fun i s os e=>?_,fun i j s t a os ot e1 e2 e3 e4=>?_,o.e.occ,o.e.sr⟩,o.g,fun i s a os e1 e2=>?_⟩
 ·rcases get_app e with ⟨z1,z2⟩|⟨rfl,z⟩
  ·rw [app_left (by omega)];exact o.e.val i d' z1
  ·cases z
   exact ⟨v,by rw [hl];exact app_last,r⟩
 ·rcases get_app e with ⟨z1,z2⟩|⟨rfl,z⟩
  ·rw [app_left (by omega)];exact o.e.own i s os z1
  ·subst z;cases os
 ·rcases get_app e1 with ⟨z1,z2⟩|⟨rfl,z⟩
  ·rcases get_app e2 with ⟨z3,z4⟩|⟨rfl,z⟩
   ·rw [app_left (by omega)] at e3 e4
    exact o.e.apart i j s t a os ot z1 z3 e3 e4
   ·subst z;cases ot
  ·subst z;cases os
 ·rcases get_app e1 with ⟨z1,z2⟩|⟨rfl,z⟩
  ·rw [app_left (by omega)] at e2
   exact o.o i s a os z1 e2
  ·subst z;cases os
theorem OkS.pushO (o:OkS K w F G B σ H env st)(x:Ext F H F1 H1)(s:SR st1 F1 H1){a:Addr}{u:Slot}(ou:u.isOwn=true)(hn:H a=none)(ha:OwnR K w F1 (fun b=>B b∨b=a) H1 a u)(fa:¬ F1.inn a):∃ B1:Addr→Prop,OkS K w F1 G B1 (σ++[some (V.ref a)]) H1 (env++[u]) st1∧StepS F G B H F1 B1 H1:=by
 have hl:=o.e.len
 have lat:Lat F B H F1 (fun b=>B b∨b=a) H1:=⟨fun b fb bb hb=>⟨(x.keep b fb hb).1,(x.keep b fb hb).2,fun z=>z.elim bb fun e=>hb (by rw [e];exact hn)⟩,x.at_⟩
 refine ⟨fun b=>B b∨b=a,⟨⟨by simp [hl],fun i d' e=>?_,fun i t ot e=>?_,fun i j t t' a' ot ot' e1 e2 e3 e4=>?_,fun b hb=>?_,s⟩,fun b h=>.inl (o.g b h),fun i t a' ot e1 e2=>?_⟩,?_⟩
 ·rcases get_app e with ⟨z1,z2⟩|⟨rfl,z⟩
  ·obtain ⟨u,h1,h2⟩:=o.e.val i d' z1
   exact ⟨u,by rw [app_left (by omega)];exact h1,h2.lat lat⟩
  ·subst z;cases ou
 ·rcases get_app e with ⟨z1,z2⟩|⟨rfl,z⟩
  ·obtain ⟨a',h1,h2,h4,h5⟩:=o.e.own i t ot z1
   have q:=x.keep a' h5 h2.occ
   exact ⟨a',by rw [app_left (by omega)];exact h1,h2.move (fun r=>r.lat lat) q.1,.inl h4,q.2⟩
  ·subst z
   exact ⟨a,by rw [hl];exact app_last,ha,.inr rfl,fa⟩
 ·have old:∀ {i:Nat} {t:Slot},t.isOwn=true→env[i]?=some t→i<env.length→(σ++[some (V.ref a)])[i]?=some (some (V.ref a'))→a'≠a:=by
   intro i t ot z1 z2 e3 ea
   rw [app_left (by omega)] at e3
   obtain ⟨a2,h1,h2,_⟩:=o.e.own i t ot z1
   rw [e3] at h1
   cases h1
   exact h2.occ (by rw [ea];exact hn)
  have new:∀ {i:Nat},i=env.length→(σ++[some (V.ref a)])[i]?=some (some (V.ref a'))→a'=a:=by
   intro i hi e3
   rw [hi,hl,app_last] at e3
   cases e3
   rfl
  rcases get_app e1 with ⟨z1,z2⟩|⟨hi,_⟩
  ·rcases get_app e2 with ⟨z3,z4⟩|⟨hj,_⟩
   ·rw [app_left (by omega)] at e3 e4
    exact o.e.apart i j t t' a' ot ot' z1 z3 e3 e4
   ·exact absurd (new hj e4) (old ot z1 z2 e3)
  ·rcases get_app e2 with ⟨z3,z4⟩|⟨hj,_⟩
   ·exact absurd (new hi e3) (old ot' z3 z4 e4)
   ·rw [hi,hj]
 ·rcases hb with hb|rfl
  ·exact x.occ b (o.e.occ b hb)
  ·exact ha.occ
 ·rcases get_app e1 with ⟨z1,z2⟩|⟨rfl,z⟩
  ·rw [app_left (by omega)] at e2
   exact o.o i t a' ot z1 e2
  ·rw [hl,app_last] at e2
   cases e2
   exact fun g=>o.e.occ a (o.g a g) hn
 ·exact ⟨fun b fb bb hb=>⟨(x.keep b fb hb).1,(x.keep b fb hb).2,fun z q=>q.elim z fun e=>hb (by rw [e];exact hn)⟩,x.occ,x.at_⟩
theorem OkS.pushF (o:OkS K w F G B σ H env st)(x:Ext F H F1 H1)(s:SR st1 F1 H1){v:V}{ds:List D}(f:Fresh K w B H F1 H1 v (.lst ds)):∃ B1:Addr→Prop,OkS K w F1 G B1 (σ++[some v]) H1 (env++[.own ds]) st1∧StepS F G B H F1 B1 H1:=by
 obtain ⟨a,xs,ds',rfl,e0,hn,ha,fa,rl⟩:=f
 cases e0
 exact o.pushO x s rfl hn ⟨xs,ha,rl⟩ fa
theorem OkS.pop (o:OkS K w F G B (σ++[some v]) H (env++[s]) st)(hl:env.length=σ.length)(i:Nat):OkS K w F G B (σ.set i (some v)) H (env.set i s) st:=by
 refine o.ren (fun j=>if j=i then env.length else j) (by simp [hl]) (fun j t e=>?_) fun j k t t' ot ot' e1 e2 ef=>?_
 ·right
  rcases get_set e with ⟨rfl,rfl,hlt⟩|⟨ne,e2⟩
  ·simp only [if_true]
   refine ⟨app_last,?_⟩
   rw [hl,app_last,List.getElem?_set_self (by omega)]
  ·have:¬ j=i:=fun e=>ne e.symm
   simp only [this,if_false]
   have hj:=(List.getElem?_eq_some_iff.mp e2).1
   rw [app_left hj,app_left (by omega),List.getElem?_set_ne ne]
   exact ⟨e2,rfl⟩
 ·have hlt:∀ {j:Nat} {t:Slot},(env.set i s)[j]?=some t→j<env.length:=by
   intro j t e
   have:=(List.getElem?_eq_some_iff.mp e).1
   simpa using this
  have l1:=hlt e1
  have l2:=hlt e2
  by_cases h1:j=i<;>by_cases h2:k=i
  ·rw [h1,h2]
  ·simp only [h1,h2,if_true,if_false] at ef;omega
  ·simp only [h1,h2,if_true,if_false] at ef;omega
  ·simpa only [h1,h2,if_false] using ef
theorem OkS.base (o:OkS K w F G B (σ++[v]) H (env++[s]) st)(hl:env.length=σ.length):OkS K w F G B σ H env st:=by
 refine o.ren id hl (fun j t e=>?_) fun j k t t' ot ot' e1 e2 ef=>ef
 have hj:=(List.getElem?_eq_some_iff.mp e).1
 right
 refine ⟨by rw [id,app_left hj];exact e,by rw [id,app_left (by omega)]⟩
theorem OkS.setV (o:OkS K w F G B σ H env st){i:Nat}{v:V}{d:D}(r:Rep K w F B H v d):OkS K w F G B (σ.set i (some v)) H (env.set i (.val d)) st:=(o.pushV r).pop o.e.len i
theorem OkS.frzO (o:OkS K w F G B σ H env st){i:Nat}{s:Slot}(os:s.isOwn=true)(e:env[i]?=some s)
  (hd:∀ {a:Addr},OwnR K w F B H a s→∃ d,s.frz=.val d∧∀ {B':Addr→Prop},¬ F.inn a→¬ B' a→(∀ b,B' b→B b)→Rep K w F B' H (.ref a) d) :
  ∃ B1:Addr→Prop,OkS K w F G B1 σ H (env.set i s.frz) st∧(∀ b,B1 b→B b)∧∀ a,B a→¬ B1 a→¬ F.inn a∧Own H a:=by
 obtain ⟨a,h1,h2,h4,h5⟩:=o.e.own i s os e
 obtain ⟨d,hd1,hd2⟩:=hd h2
 rw [hd1]
 refine ⟨fun b=>B b∧b≠a,⟨⟨by simp [o.e.len],fun j d' ej=>?_,fun j t ot ej=>?_,fun j k t t' a' ot ot' e1 e2 e3 e4=>?_,fun b hb=>o.e.occ b hb.1,o.e.sr⟩,fun b hb=>⟨o.g b hb,fun z=>o.o i s a os e h1 (by rw [← z];exact hb)⟩,fun j t a' ot e1 e2=>?_⟩,fun b hb=>hb.1,fun b hb nb=>?_⟩
 ·rcases get_set ej with ⟨rfl,z,_⟩|⟨ne,z⟩
  ·cases z
   exact ⟨_,h1,hd2 h5 (fun z=>z.2 rfl) fun b hb=>hb.1⟩
  ·obtain ⟨u,k1,k2⟩:=o.e.val j d' z
   exact ⟨u,k1,k2.anti fun b hb=>hb.1⟩
 ·rcases get_set ej with ⟨rfl,z,_⟩|⟨ne,z⟩
  ·subst z;cases ot
  ·obtain ⟨a',k1,k2,k4,k5⟩:=o.e.own j t ot z
   exact ⟨a',k1,k2.move (fun r=>r.anti fun b hb=>hb.1) rfl,⟨k4,fun ea=>ne (o.e.apart i j s t a os ot e z h1 (by rw [← ea];exact k1))⟩,k5⟩
 ·rcases get_set e1 with ⟨_,z,_⟩|⟨ne1,z1⟩
  ·subst z;cases ot
  rcases get_set e2 with ⟨_,z,_⟩|⟨ne2,z2⟩
  ·subst z;cases ot'
  exact o.e.apart j k t t' a' ot ot' z1 z2 e3 e4
 ·rcases get_set e1 with ⟨_,z,_⟩|⟨ne1,z1⟩
  ·subst z;cases ot
  exact o.o j t a' ot z1 e2
 ·have e:b=a:=Classical.byContradiction fun ne=>nb ⟨hb,ne⟩
  subst e
  exact ⟨h5,h2.is⟩
theorem OkS.frz1 (o:OkS K w F G B σ H env st)(i:Nat):∃ B1:Addr→Prop,OkS K w F G B1 σ H (PL.frz1 env i) st∧(∀ b,B1 b→B b)∧∀ a,B a→¬ B1 a→¬ F.inn a∧Own H a:=by
 unfold PL.frz1
 split
 case h_2=>exact ⟨B,o,fun _ h=>h,fun _ h z=>absurd h z⟩
 rename_i s e
 cases s with
 | un =>
  have:env.set i (Slot.frz .un)=env:=List.ext_getElem? fun j=>by
   by_cases h:i=j
   ·subst h;rw [List.getElem?_set_self (List.getElem?_eq_some_iff.mp e).1];exact e.symm
   ·rw [List.getElem?_set_ne h]
  rw [this]
  exact ⟨B,o,fun _ h=>h,fun _ h z=>absurd h z⟩
 | val d =>
  have:env.set i (Slot.frz (.val d))=env:=List.ext_getElem? fun j=>by
   by_cases h:i=j
   ·subst h;rw [List.getElem?_set_self (List.getElem?_eq_some_iff.mp e).1];exact e.symm
   ·rw [List.getElem?_set_ne h]
  rw [this]
  exact ⟨B,o,fun _ h=>h,fun _ h z=>absurd h z⟩
 | own ds=>exact OkS.frzO o rfl e fun h=>⟨_,rfl,fun f b r=>let ⟨xs,h2,h3⟩:=h;.lst h2 f b (h3.anti r)⟩
 | dow ks ds=>exact OkS.frzO o rfl e fun h=>⟨_,rfl,fun f b r=>let ⟨kvs,h2,hq,h3⟩:=h;.dct h2 f b hq.1 (h3.anti r)⟩
theorem OkS.frzs:∀ (is:List Nat) {env:Env} {B:Addr→Prop},OkS K w F G B σ H env st→∃ B1:Addr→Prop,OkS K w F G B1 σ H (PL.freeze env is) st∧(∀ b,B1 b→B b)∧∀ a,B a→¬ B1 a→¬ F.inn a∧Own H a
 | [],env,B,o=>⟨B,o,fun _ h=>h,fun _ h z=>absurd h z⟩
 | i::r,env,B,o=>by
  obtain ⟨B1,o1,l1,k1⟩:=o.frz1 i
  obtain ⟨B2,o2,l2,k2⟩:=OkS.frzs r o1
  exact ⟨B2,o2,fun b h=>l1 b (l2 b h),fun a h z=>(Classical.em (B1 a)).elim (fun h1=>k2 a h1 z) (fun h1=>k1 a h h1)⟩
end
end PL
end
section
namespace PL
open PySem PySem.Spec PyProof.Rows L2
def RQ (K:PySem.W.Frag)(w:World)(XR:XRel)(W:WX)(F:Foot)(G B:Addr→Prop)(H:Hp)(q:PL.Q)(D:Ends):Prop :=
 match q with
 | .next env st=>∀ F' B' σ' H',StepS F G B H F' B' H'→OkS K w F' G B' σ' H' env st→D.nx σ' H'
 | .brk env st=>∀ F' B' σ' H',StepS F G B H F' B' H'→OkS K w F' G B' σ' H' env st→D.bk σ' H'
 | .cnt env st=>∀ F' B' σ' H',StepS F G B H F' B' H'→OkS K w F' G B' σ' H' env st→D.ct σ' H'
 | .ret d st=>∀ v F' B' H',StepS F G B H F' B' H'→(∀ b,G b→B' b)→SR st F' H'→Rep K w F' B' H' v d→D.rt v H'
 | .exc c fs env st=>∀ cls dx F' B' σ' H',StepS F G B H F' B' H'→OkS K w F' G B' σ' H' env st→XR c fs cls dx F' H'→W cls dx σ' H'
 | .no=>False
def tS (K:PySem.W.Frag)(w:World)(XR:XRel)(W:WX)(cx:Ctx)(s:S):TS:=fun D σ H=>∃ F G B env st,OkS K w F G B σ H env st∧RQ K w XR W F G B H (evS cx s env st) D
def tSs (K:PySem.W.Frag)(w:World)(XR:XRel)(W:WX)(cx:Ctx)(s:Ss):TS:=fun D σ H=>∃ F G B env st,OkS K w F G B σ H env st∧RQ K w XR W F G B H (evSs cx s env st) D
section
variable {K:PySem.W.Frag}{w:World}{XR:XRel}{W:WX}{cx:Ctx}{F F1:Foot}{G B B1:Addr→Prop}{σ:L2.St}{H H1:Hp}{env:Env}{st:St}{Z:Ends}
theorem RQ.shift {q:PL.Q}(h:RQ K w XR W F G B H q Z)(x:StepS F G B H F1 B1 H1):RQ K w XR W F1 G B1 H1 q Z:=by
 cases q with
 | next env st=>exact fun F' B' σ' H' y o=>h F' B' σ' H' (x.trans y) o
 | brk env st=>exact fun F' B' σ' H' y o=>h F' B' σ' H' (x.trans y) o
 | cnt env st=>exact fun F' B' σ' H' y o=>h F' B' σ' H' (x.trans y) o
 | ret d st=>exact fun v F' B' H' y g s r=>h v F' B' H' (x.trans y) g s r
 | exc c fs env st=>exact fun cls dx F' B' σ' H' y o r=>h cls dx F' B' σ' H' (x.trans y) o r
 | no=>exact h
theorem OkS.use (o:OkS K w F G B σ H env st){e:E}{f:D→St→PL.Q}{Q':VK}(h:RQ K w XR W F G B H ((evE cx e env st).use env f) Z)
  (k:∀ d st' v F' H',Ext F H F' H'→SR st' F' H'→OkS K w F' G B σ H' env st'→Rep K w F' B H' v d→(fresh e=true→Fresh K w B H F' H' v d)→RQ K w XR W F G B H (f d st') Z→Q' v H'):tE K w XR W cx e σ H Q':=by
 refine ⟨F,B,env,st,o.e,?_⟩
 cases q:evE cx e env st with
 | ok d st' =>
  rw [q,R.use_ok] at h
  intro v F' H' x s r fr
  exact k d st' v F' H' x s (o.ext x s) r fr h
 | exc c fs st' =>
  rw [q,R.use_exc] at h
  exact fun cls dx F' H' x s r=>h cls dx F' B σ H' x.step (o.ext x s) r
 | no=>rw [q,R.use_no] at h;exact h
theorem OkS.useF (o:OkS K w F G B σ H env st)(fz:List Nat){e:E}{f:D→St→PL.Q}{Q':VK}(h:RQ K w XR W F G B H ((evE cx e (freeze env fz) st).use env f) Z)
  (k:∀ d st' v F' H',Ext F H F' H'→SR st' F' H'→OkS K w F' G B σ H' env st'→(d.nol=true∨fz=[]∨(fresh e=true∧d.nolL=true)→Rep K w F' B H' v d)→(∃ B1,Rep K w F' B1 H' v d∧∀ a,B a→¬ B1 a→Own H' a)→(fz=[]→fresh e=true→Fresh K w B H F' H' v d)→RQ K w XR W F G B H (f d st') Z→Q' v H'):tE K w XR W cx e σ H Q':=by
 by_cases hz:fz=[]
 ·subst hz
  exact o.use h fun d st' v F' H' x s o' r fr h=>k d st' v F' H' x s o' (fun _=>r) ⟨_,r,fun _ h z=>absurd h z⟩ (fun _=>fr) h
 ·obtain ⟨B1,o1,l1,k1⟩:=o.frzs fz
  have own':∀ {F':Foot} {H':Hp},Ext F H F' H'→∀ a,B a→¬ B1 a→Own H' a:=fun x a ha na=>by
   obtain ⟨z1,z2⟩:=k1 a ha na
   have hn:H a≠none:=by rcases z2 with ⟨_,e⟩|⟨_,e⟩<;>(rw [e];simp)
   have e:=(x.keep a z1 hn).1
   rcases z2 with ⟨xs,e2⟩|⟨xs,e2⟩
   ·exact .inl ⟨xs,e.trans e2⟩
   ·exact .inr ⟨xs,e.trans e2⟩
  refine ⟨F,B1,PL.freeze env fz,st,o1.e,?_⟩
  cases q:evE cx e (freeze env fz) st with
  | ok d st' =>
   rw [q,R.use_ok] at h
   intro v F' H' x s r fr
   refine k d st' v F' H' x s (o.ext x s) (fun z=>?_) ⟨_,r,own' x⟩ (fun z=>absurd z hz) h
   rcases z with z|z|⟨z1,z2⟩
   ·exact r.nol (own' x) z
   ·exact absurd z hz
   ·obtain ⟨a,xs,ds,rfl,rfl,hn,hx,hf,rl⟩:=fr z1
    exact .lst hx hf (fun hb=>o.e.occ a hb hn) (rl.nol (fun b hb nb=>own' x b hb fun h1=>nb (.inl h1)) z2)
  | exc c fs st' =>
   rw [q,R.use_exc] at h
   exact fun cls dx F' H' x s r=>h cls dx F' B σ H' x.step (o.ext x s) r
  | no=>rw [q,R.use_no] at h;exact h
theorem OkS.useT (o:OkS K w F G B σ H env st)(fz:List Nat){e:E}{f:Bool→St→PL.Q}{Q':Bool→Hp→Prop}(h:RQ K w XR W F G B H ((evE cx e (freeze env fz) st).use env fun x st=>(R.lift x.truth st).use env f) Z)
  (k:∀ t st' F' H',Ext F H F' H'→SR st' F' H'→OkS K w F' G B σ H' env st'→RQ K w XR W F G B H (f t st') Z→Q' t H'):tT K w XR W cx e σ H Q':=by
 obtain ⟨B1,o1,l1,k1⟩:=o.frzs fz
 refine ⟨F,B1,PL.freeze env fz,st,o1.e,?_⟩
 unfold evT
 cases q:evE cx e (freeze env fz) st with
 | ok d st' =>
  rw [q,R.use_ok] at h
  rw [R.bind_ok]
  cases t:d.truth with
  | none=>rw [t] at h;exact h
  | some b =>
   rw [t] at h
   intro F' H' x s
   exact k b st' F' H' x s (o.ext x s) h
 | exc c fs st' =>
  rw [q,R.use_exc] at h
  exact fun cls dx F' H' x s r=>h cls dx F' B σ H' x.step (o.ext x s) r
 | no=>rw [q,R.use_no] at h;exact h
end
section
variable {X:Cx}{pr:Prog}{XR:XRel}{C:SC}{n:Nat}{W:WX}{cx:Ctx}
variable {p q r:Expr}{ps:List Expr}{a b c e:E}{es:Es}{pos:Pos}
abbrev gS (X:Cx)(XR:XRel)(W:WX)(cx:Ctx)(s:S):TS:=tS X.K X.w XR W cx s
abbrev gSs (X:Cx)(XR:XRel)(W:WX)(cx:Ctx)(s:Ss):TS:=tSs X.K X.w XR W cx s
theorem s_ret (he:PE X p (gE X XR W cx e)):PS X (.Return (some p) pos) (gS X XR W cx (.ret e)):=PS.of (ps_ret he) fun D σ H h=>by
 obtain ⟨F,G,B,env,st,ok,h⟩:=h
 unfold evS at h
 refine ok.use h fun d st' v F' H' x s o r fr h=>?_
 exact h v F' B H' x.step o.g s r
theorem swaps_no (hp:isLC p=false)(t:Option Expr)(l:Nat)(env:PySem.Env):swapsWith p t l env=pure false:=by
 cases p<;>first|rfl|(simp [isLC] at hp)
theorem swaps_tup (ts:List Expr)(k:Nat)(pt:Pos)(l:Nat)(env:PySem.Env):swapsWith p (some (.Tuple ts k pt)) l env=pure false:=by
 cases p<;>rfl
theorem put_in {own:Bool}{i:Nat}(hf:own=true→fresh e=true){D:Ends}{σ:L2.St}{H:Hp}(h:gS X XR W cx (.asg own i e) D σ H):gE X XR W cx e σ H fun x H1=>gName i x σ H1 D.nx:=by
 obtain ⟨F,G,B,env,st,ok,h⟩:=h
 unfold evS at h
 refine ok.use h fun d st' v F' H' x s o r fr h=>?_
 have plain:mk own d=.val d→D.nx (σ.set i (some v)) H':=fun e=>by
  rw [e] at h
  exact h F' B _ H' x.step (o.setV r)
 cases own with
 | false=>exact plain rfl
 | true =>
  cases d with
  | lst ds =>
   obtain ⟨B1,o1,s1⟩:=ok.pushF x s (fr (hf rfl))
   exact h F' B1 _ H' s1 (o1.pop ok.e.len i)
  | _=>exact plain rfl
theorem s_asg {own:Bool}{i:Nat}{x:Str}{px:Pos}(hN:X.N.Nodup)(hi:X.N[i]?=some x)(hx:Loc X.env.scope x)(hfn:X.fn x=true∨X.env.scope.names.lookup x=some .local)(hf:own=true→fresh e=true)(hs:swapsWith p (some (.Name x px)) pos.line X.env=pure false)
  (he:PE X p (gE X XR W cx e)):PS X (.Assign [.Name x px] p pos) (gS X XR W cx (.asg own i e)) :=
 PS.of (ps_set hN hi hx he hs hfn) fun D σ H h=>put_in hf h
theorem s_ite {fz:List Nat}{a b:Ss}{pa pb:List Stmt}(hc:PT X p (gT X XR W cx c))(ha:PSs X pa (gSs X XR W cx a))(hb:PSs X pb (gSs X XR W cx b)):PS X (.If p pa pb pos) (gS X XR W cx (.ite fz c a b)) :=
 PS.of (ps_if hc ha hb) fun D σ H h=>by
  obtain ⟨F,G,B,env,st,ok,h⟩:=h
  unfold evS at h
  refine ok.useT fz h fun t st' F' H' x s o h=>?_
  cases t with
  | true=>simp only [if_true] at h ⊢;exact ⟨F',G,B,env,st',o,h.shift x.step⟩
  | false=>simp only [Bool.false_eq_true,if_false] at h ⊢;exact ⟨F',G,B,env,st',o,h.shift x.step⟩
theorem use_bind {fz:List Nat}{env:Env}{st:St}{f:Bool→St→PL.Q}:((evE cx c (freeze env fz) st).bind fun x st=>R.lift x.truth st).use env f=(evE cx c (freeze env fz) st).use env fun x st=>(R.lift x.truth st).use env f:=by
 cases evE cx c (freeze env fz) st<;>rfl
theorem s_whl (hp:PassesOwn (model X.prog X.w) X.A X.env X.xe){fz:List Nat}{b:Ss}{pb:List Stmt}(hc:PT X p (gT X XR W cx c))(hb:PSs X pb (gSs X XR W cx b)):PS X (.While p pb [] pos) (gS X XR W cx (.whl fz c b)) :=
 PS.of (ps_while hp hc hb) fun D σ H h=>by
  obtain ⟨F,G,B,env,st,ok,h⟩:=h
  unfold evS at h
  generalize turns=m0 at h
  refine ⟨fun m σ H=>∃ F B env st,OkS X.K X.w F G B σ H env st∧RQ X.K X.w XR W F G B H (whlL (whlTest (evE cx c) fz) (evSs cx b) m env st) D,⟨m0,F,B,env,st,ok,h⟩,?_⟩
  clear h ok
  rintro m σ H ⟨F,B,env,st,ok,h⟩
  cases m with
  | zero=>exact h.elim
  | succ m =>
   unfold whlL whlTest at h
   rw [use_bind] at h
   refine ok.useT fz h fun t st' F' H' x s o h=>?_
   cases t with
   | false=>simp only [Bool.false_eq_true,if_false] at h ⊢;exact h F' B σ H' x.step o
   | true =>
    simp only [if_true] at h ⊢
    refine ⟨fun σ H=>∃ F B env st,OkS X.K X.w F G B σ H env st∧RQ X.K X.w XR W F G B H (whlL (whlTest (evE cx c) fz) (evSs cx b) m env st) D,fun σ' H' n=>⟨m,Nat.lt_succ_self m,n⟩,F',G,B,env,st',o,?_⟩
    have h:=h.shift x.step
    cases q:evSs cx b env st' with
    | next env2 st2=>rw [q] at h;exact fun F2 B2 σ2 H2 y o2=>⟨F2,B2,env2,st2,o2,h.shift y⟩
    | cnt env2 st2=>rw [q] at h;exact fun F2 B2 σ2 H2 y o2=>⟨F2,B2,env2,st2,o2,h.shift y⟩
    | brk env2 st2=>rw [q] at h;exact fun F2 B2 σ2 H2 y o2=>h F2 B2 σ2 H2 y o2
    | ret d st2=>rw [q] at h;exact h
    | exc c fs env2 st2=>rw [q] at h;exact h
    | no=>rw [q] at h;exact h
theorem s_for (Gd:Good X pr XR C n)(hcal:C.cal=true)(hp:PassesOwn (model X.prog X.w) X.A X.env X.xe){it:It}{tg:Tg}{b:Ss}{pt pi:Expr}{pb:List Stmt}(hs:∀ x,foldedSetIterable pi X.env x=pure x)(hi:PI X pt pi (gI X XR W cx it))(ht:PG X pt (tG X.K X.w tg))(hb:PSs X pb (gSs X XR W cx b)) :
  PS X (.For pt pi pb [] pos) (gS X XR W cx (.for_ tg it b)) :=
 PS.of (ps_for hp (Gd.calm hcal) hi ht hb hs) fun D σ H h=>by
  obtain ⟨F,G,B,env,st,ok,h⟩:=h
  unfold evS at h
  refine ⟨F,B,env,st,ok.e,?_⟩
  cases q:evI cx it env st with
  | exc c fs st' =>
   rw [q,R.use_exc] at h
   exact fun cls dx F' H' x s r=>h cls dx F' B σ H' x.step (ok.ext x s) r
  | no=>rw [q,R.use_no] at h;exact h
  | ok ds st1 =>
   rw [q,R.use_ok] at h
   intro J F1 H1 x1 sr1 yl
   have ok1:=ok.ext x1 sr1
   generalize hf:forStep (evSs cx b) tg=f at h
   have fe:∀ d env st,f d env st=Q.opt (putT tg d env) fun env=>evSs cx b env st:=fun d env st=>by rw [← hf];rfl
   refine ⟨fun i m σ H2=>m=ds.length-i∧i≤ds.length∧∃ F2 B2 env st,OkS X.K X.w F2 G B2 σ H2 env st∧Lat F1 B H1 F2 B2 H2∧RQ X.K X.w XR W F2 G B2 H2 (forL f (ds.drop i) env st) D,⟨ds.length,by simp,Nat.zero_le _,F1,B,env,st1,ok1,Lat.refl,by rw [List.drop_zero];exact h.shift x1.step⟩,?_⟩
   clear h ok ok1
   rintro i m σ H2 ⟨rfl,hi2,F2,B2,env,st,ok2,lat,h⟩
   obtain ⟨go,stop⟩:=yl F2 B2 H2 lat i
   by_cases hlt:i<ds.length
   ·obtain ⟨go1,go2⟩:=go _ (List.getElem?_eq_getElem hlt)
    refine .inr ⟨go1,fun σ' H'=>∃ F2 B2 env st,OkS X.K X.w F2 G B2 σ' H' env st∧Lat F1 B H1 F2 B2 H'∧RQ X.K X.w XR W F2 G B2 H' (forL f (ds.drop (i+1)) env st) D,fun σ' H' t=>⟨ds.length-(i+1),by omega,rfl,hlt,t⟩,fun x H3 hx=>?_⟩
    obtain ⟨x3,s3,rx⟩:=go2 x H3 hx ok2.e.sr.occ ok2.e.occ
    have ok3:=ok2.ext x3 (ok2.e.sr.keep s3)
    rw [List.drop_eq_getElem_cons hlt] at h
    unfold forL at h
    rw [fe] at h
    have h:=h.shift (B1:=B2) x3.step
    cases q3:putT tg ds[i] env with
    | none=>rw [q3] at h;exact h.elim
    | some env' =>
     rw [q3,Q.opt_some] at h
     refine ⟨F2,B2,env,st,_,env',ok3.e,rx,q3,fun σ2 okg _ _ og=>?_⟩
     have okS:OkS X.K X.w F2 G B2 σ2 H3 env' st:=⟨okg,ok3.g,fun j s a os e1 e2=>by
      obtain ⟨z1,z2⟩:=og j s a os e1 e2
      exact ok3.o j s a os z1 z2⟩
     refine ⟨F2,G,B2,env',st,okS,?_⟩
     have lat3:Lat F1 B H1 F2 B2 H3:=lat.trans x3.lat
     cases q4:evSs cx b env' st with
     | next env2 st2=>rw [q4] at h;exact fun F5 B5 σ5 H5 y o5=>⟨F5,B5,env2,st2,o5,lat3.trans y.lat,h.shift y⟩
     | cnt env2 st2=>rw [q4] at h;exact fun F5 B5 σ5 H5 y o5=>⟨F5,B5,env2,st2,o5,lat3.trans y.lat,h.shift y⟩
     | brk env2 st2=>rw [q4] at h;exact fun F5 B5 σ5 H5 y o5=>h F5 B5 σ5 H5 y o5
     | ret d st2=>rw [q4] at h;exact h
     | exc c fs env2 st2=>rw [q4] at h;exact h
     | no=>rw [q4] at h;exact h
   ·have hii:i=ds.length:=by omega
    subst hii
    refine .inl ⟨stop rfl,?_⟩
    rw [List.drop_length] at h
    exact h F2 B2 σ H2 StepS.refl ok2
theorem ss_nil:PSs X [] (gSs X XR W cx .nil):=PSs.of pss_nil fun D σ H h=>by
 obtain ⟨F,G,B,env,st,ok,h⟩:=h
 exact h F B σ H StepS.refl ok
theorem ss_cons {s:S}{rs:Ss}{pst:Stmt}{rest:List Stmt}(h1:PS X pst (gS X XR W cx s))(h2:PSs X rest (gSs X XR W cx rs)):PSs X (pst::rest) (gSs X XR W cx (.cons s rs)) :=
 PSs.of (pss_cons h1 h2) fun D σ H h=>by
  obtain ⟨F,G,B,env,st,ok,h⟩:=h
  unfold evSs at h
  refine ⟨F,G,B,env,st,ok,?_⟩
  cases q:evS cx s env st with
  | next env2 st2=>rw [q,Q.then_next] at h;exact fun F2 B2 σ2 H2 y o2=>⟨F2,G,B2,env2,st2,o2,h.shift y⟩
  | cnt env2 st2=>rw [q,Q.then_cnt] at h;exact h
  | brk env2 st2=>rw [q,Q.then_brk] at h;exact h
  | ret d st2=>rw [q,Q.then_ret] at h;exact h
  | exc c fs env2 st2=>rw [q,Q.then_exc] at h;exact h
  | no=>rw [q,Q.then_no] at h;exact h
theorem ss_frz {fz:List Nat}{rs:Ss}{rest:List Stmt}(h2:PSs X rest (gSs X XR W cx rs)):PSs X rest (gSs X XR W cx (.cons (.frz fz) rs)) :=
 PSs.of h2 fun D σ H h=>by
  obtain ⟨F,G,B,env,st,ok,h⟩:=h
  unfold evSs evS at h
  rw [Q.then_next] at h
  obtain ⟨B1,o1,l1,k1⟩:=ok.frzs fz
  exact ⟨F,G,B1,freeze env fz,st,o1,h.shift (StepS.less l1)⟩
end
end PL
end
section
namespace PL
open PySem PySem.Spec PyProof.Rows L2
section
variable {K:PySem.W.Frag}{w:World}{F F1:Foot}{G B:Addr→Prop}{σ:L2.St}{H H1:Hp}{env:Env}{st st1:St}
theorem OkS.growO (o:OkS K w F G B σ H env st){i:Nat}{s s':Slot}{a:Addr}{ob:HO}(os:s.isOwn=true)(os':s'.isOwn=true)(e:env[i]?=some s)(hs:σ[i]?=some (some (V.ref a)))
  (r:(∀ {vs:List V} {ds:List D},RepL K w F B H vs ds→RepL K w F B (upd H a ob) vs ds)→OwnR K w F B (upd H a ob) a s') :
  OkS K w F G B σ (upd H a ob) (env.set i s') st∧StepS F G B H F B (upd H a ob):=by
 obtain ⟨a0,h1,h2,h4,h5⟩:=o.e.own i s os e
 rw [hs] at h1
 cases h1
 have mv:∀ {v:V} {d:D},Rep K w F B H v d→Rep K w F B (upd H a ob) v d:=fun r=>r.move (fun b f bb hn=>⟨upd_ne fun z=>bb (by rw [z];exact h4),f,bb⟩) fun _ e=>e
 have mvl:∀ {v:List V} {d:List D},RepL K w F B H v d→RepL K w F B (upd H a ob) v d:=fun r=>r.move (fun b f bb hn=>⟨upd_ne fun z=>bb (by rw [z];exact h4),f,bb⟩) fun _ e=>e
 have back:∀ {j:Nat} {t:Slot},t.isOwn=true→(env.set i s')[j]?=some t→∃ t':Slot,t'.isOwn=true∧env[j]?=some t':=by
  intro j t ot ej
  rcases get_set ej with ⟨rfl,z,_⟩|⟨ne,z⟩
  ·exact ⟨s,os,e⟩
  ·exact ⟨t,ot,z⟩
 refine ⟨⟨⟨by simp [o.e.len],fun j d' ej=>?_,fun j t ot ej=>?_,fun j k t t' a' ot ot' e1 e2 e3 e4=>?_,fun b hb=>upd_occ (o.e.occ b hb),o.e.sr.keep fun b hb=>upd_ne fun z=>h5 (by rw [← z];exact hb)⟩,o.g,fun j t a' ot e1 e2=>?_⟩,?_⟩
 ·rcases get_set ej with ⟨rfl,z,_⟩|⟨ne,z⟩
  ·subst z;cases os'
  ·obtain ⟨v,k1,k2⟩:=o.e.val j d' z
   exact ⟨v,k1,mv k2⟩
 ·rcases get_set ej with ⟨rfl,z,_⟩|⟨ne,z⟩
  ·subst z
   exact ⟨a,hs,r mvl,h4,h5⟩
  ·obtain ⟨a',k1,k2,k4,k5⟩:=o.e.own j t ot z
   have hne:a'≠a:=fun ea=>ne (o.e.apart i j s t a os ot e z hs (by rw [← ea];exact k1))
   exact ⟨a',k1,k2.move mvl (upd_ne hne),k4,k5⟩
 ·obtain ⟨x1,y1,z1⟩:=back ot e1
  obtain ⟨x2,y2,z2⟩:=back ot' e2
  exact o.e.apart j k _ _ a' y1 y2 z1 z2 e3 e4
 ·obtain ⟨x1,y1,z1⟩:=back ot e1
  exact o.o j _ a' y1 z1 e2
 ·refine ⟨fun b f bb hn=>⟨upd_ne fun z=>?_,f,fun z=>z⟩,fun b hb=>upd_occ hb,fun _ e=>e⟩
  rw [z] at bb
  rcases bb with bb|bb
  ·exact bb h4
  ·exact o.o i s a os e hs bb
theorem OkS.grow (o:OkS K w F G B σ H env st){i:Nat}{ds ds':List D}{a:Addr}{xs xs':List V}(e:env[i]?=some (Slot.own ds))(hs:σ[i]?=some (some (V.ref a)))(ha:H a=some (.lst xs))(r:RepL K w F B H xs' ds') :
  OkS K w F G B σ (upd H a (.lst xs')) (env.set i (.own ds')) st∧StepS F G B H F B (upd H a (.lst xs')) :=
 o.growO rfl rfl e hs fun m=>⟨xs',upd_same,m r⟩
theorem OkS.pushM (o:OkS K w F G B σ H env st)(x:Ext F H F1 H1)(s:SR st1 F1 H1){v:V}{d:D}{own:Bool}(r:Rep K w F1 B H1 v d)(fr:own=true→Fresh K w B H F1 H1 v d) :
  ∃ B1:Addr→Prop,OkS K w F1 G B1 (σ++[some v]) H1 (env++[PL.mk own d]) st1∧StepS F G B H F1 B1 H1:=by
 have plain:PL.mk own d=.val d→∃ B1:Addr→Prop,OkS K w F1 G B1 (σ++[some v]) H1 (env++[PL.mk own d]) st1∧StepS F G B H F1 B1 H1:=fun e=>⟨B,by rw [e];exact (o.ext x s).pushV r,x.step⟩
 cases own with
 | false=>exact plain rfl
 | true =>
  cases d with
  | lst ds=>exact o.pushF x s (fr rfl)
  | _=>exact plain rfl
theorem set_app {α:Type}{l:List α}{x y:α}{j:Nat}(h:j<l.length):(l++[x]).set j y=l.set j y++[x]:=by
 rw [List.set_append]
 simp [h]
end
section
variable {X:Cx}{pr:Prog}{XR:XRel}{C:SC}{n:Nat}{W:WX}{cx:Ctx}
variable {p q r:Expr}{ps:List Expr}{a b c e:E}{es:Es}{pos:Pos}
theorem swap_eq (Gd:Good X pr XR C n){ts:List Expr}{k:Nat}{p:Pos}{v:Expr}{o:Option (List Str)}(h:swapC C.sc [.Tuple ts k p] v=some o):swappedStores [.Tuple ts k p] v X.env=pure o:=by
 have hb:X.env.blockKind=.function:=by unfold Env.blockKind;rw [Gd.kind];rfl
 have hk:∀ x,X.env.kindOf x=C.sc.names.lookup x:=fun x=>by show X.env.scope.names.lookup x=_;rw [Gd.sc]
 cases v
 case Tuple vs k2 p2 =>
  unfold swapC at h
  unfold swappedStores
  simp only [hk,hb] at h ⊢
  simp only [show ((ScopeKind.function:ScopeKind) != ScopeKind.function)=false from rfl,Bool.or_false]
  split at h
  ·rename_i z
   cases h
   exact if_pos z
  rename_i z1
  refine Eq.trans (if_neg z1) ?_
  split at h
  ·rename_i z
   cases h
   exact if_pos z
  rename_i z2
  refine Eq.trans (if_neg z2) ?_
  split at h
  ·rename_i z
   cases h
   exact if_pos z
  rename_i z3
  refine Eq.trans (if_neg z3) ?_
  split at h
  ·rename_i z
   cases h
   exact if_pos z
  rename_i z4
  refine Eq.trans (if_neg z4) ?_
  split at h
  ·cases h
  rename_i z5
  refine Eq.trans (if_neg z5) ?_
  cases h
  rfl
 all_goals
  have h':(some none:Option (Option (List Str)))=some o:=h
  cases h'
  rfl
end
end PL
end
section
namespace PL
open PySem PySem.Spec PyProof.Rows L2
section
variable {X:Cx}{pr:Prog}{XR:XRel}{C:SC}{n:Nat}{W:WX}{cx:Ctx}
variable {p q r:Expr}{ps:List Expr}{a b c e:E}{es:Es}{pos:Pos}
theorem s_asgT (Gd:Good X pr XR C n){tg:Tg}{ts:List Expr}{k:Nat}{pt:Pos}(hw:swapC C.sc [.Tuple ts k pt] p=some none)(hg:PG X (.Tuple ts k pt) (tG X.K X.w tg))(he:PE X p (gE X XR W cx e)) :
  PS X (.Assign [.Tuple ts k pt] p pos) (gS X XR W cx (.asgT tg e)) :=
 PS.of (ps_asg he hg (by unfold swapsWithSole;exact swaps_tup _ _ _ _ _) (swap_eq Gd hw) rfl) fun D σ H h=>by
  obtain ⟨F,G,B,env,st,ok,h⟩:=h
  unfold evS at h
  refine ok.use h fun d st' v F' H' x s o r fr h=>?_
  cases q1:putT tg d env with
  | none=>rw [q1] at h;exact h.elim
  | some env' =>
   rw [q1,Q.opt_some] at h
   refine ⟨F',B,env,st',d,env',o.e,r,q1,fun σ' okg _ _ og=>?_⟩
   exact h F' B σ' H' x.step ⟨okg,o.g,fun j s a os e1 e2=>by
    obtain ⟨z1,z2⟩:=og j s a os e1 e2
    exact o.o j s a os z1 z2⟩
theorem s_par2 (Gd:Good X pr XR C n)(hcal:C.cal=true){o1 o2:Bool}{i j:Nat}{x y:Str}{px py pt p2:Pos}{k k2:Nat}(h1:o1=true→fresh a=true)(h2:o2=true→fresh b=true)(hi:C.N[i]?=some x)(hj:C.N[j]?=some y)(hij:i≠j)
  (lx:C.sc.names.lookup x=some .local) (ly:C.sc.names.lookup y=some .local) (hw:swapC C.sc [.Tuple [.Name x px,.Name y py] k pt] (.Tuple [p,q] k2 p2)=some (some [x,y])) (hs1:isStar p=false) (hs2:isStar q=false)
  (ha:PE X p (gE X XR W cx a)) (hb:PE X q (gE X XR W cx b)):PS X (.Assign [.Tuple [.Name x px,.Name y py] k pt] (.Tuple [p,q] k2 p2) pos) (gS X XR W cx (.par2 o1 o2 i j a b)):=by
 refine PS.of (ps_par (Gd.calm hcal) Gd.nd (by rw [Gd.N];exact hi) (by rw [Gd.N];exact hj) hij (by rw [Gd.sc];exact lx) (by rw [Gd.sc];exact ly) (pa_cons ha (pa_cons hb pa_nil (star_ns hs2 _ _)) (star_ns hs1 _ _)) (swap_eq Gd hw) rfl) fun D σ H h=>?_
 obtain ⟨F,G,B,env,st,ok,h⟩:=h
 unfold evS at h
 have hl:=ok.e.len
 show gE X XR W cx a σ H fun v H1=>gE X XR W cx b σ H1 fun u H2=>∃ v' w',[v,u]=[v',w']∧D.nx ((σ.set i (some v')).set j (some w')) H2
 refine ok.use h fun d1 st1 v F1 H1 x1 s1 ok1 r1 fr1 h=>?_
 obtain ⟨B1,okp,t1⟩:=ok.pushM x1 s1 r1 (own:=o1) fun z=>fr1 (h1 z)
 refine (okp.base hl).use (h.shift t1) fun d2 st2 u F2 H2 x2 s2 ok2 r2 fr2 h=>?_
 obtain ⟨B2,okq,t2⟩:=okp.pushM x2 s2 r2 (own:=o2) fun z=>fr2 (h2 z)
 split at h
 ·rename_i hz
  obtain ⟨z1,z2,z3⟩:=hz
  have f1:=okq.pop (by simp [hl]) j
  rw [set_app (by omega),set_app z2] at f1
  have f2:=f1.pop (by simp [hl]) i
  rw [List.set_comm _ _ (Ne.symm z3),List.set_comm _ _ (Ne.symm z3)] at f2
  exact ⟨v,u,rfl,h F2 B2 _ H2 t2 f2⟩
 ·exact h.elim
theorem own_at {K:PySem.W.Frag}{w:World}{F:Foot}{G B:Addr→Prop}{σ:L2.St}{H:Hp}{env:Env}{st:St}{i:Nat}{ds:List D}(ok:OkS K w F G B σ H env st)(e:ownAt env i=some ds) :
  env[i]?=some (.own ds)∧∃ a xs,σ[i]?=some (some (.ref a))∧H a=some (.lst xs)∧RepL K w F B H xs ds∧B a∧¬ F.inn a:=by
 have e':env[i]?=some (.own ds):=by
  unfold ownAt at e
  split at e
  ·cases e;assumption
  ·cases e
 obtain ⟨a,h1,⟨xs,h2,h3⟩,h4,h5⟩:=ok.e.own i _ rfl e'
 exact ⟨e',a,xs,h1,h2,h3,h4,h5⟩
theorem m1_few {e:Expr}(h:isStar e=false)(cpos:Pos)(env:PySem.Env):((backTo cpos (starEach [e] env)).all (fun x=>!x.1)&&(backToKw cpos (keywordEach [] env)).all (fun x=>x.1.isSome)
  && decide (([e]:List Expr).length+([]:List Keyword).length+(if ([]:List Keyword).isEmpty then 0 else 1)<30))=true:=by
 rw [star_ns h];rfl
theorem s_ext (Gd:Good X pr XR C n){fz:List Nat}{i:Nat}{x:Str}{px apos cpos:Pos}(hl:(apos.endLine==cpos.line)=true)(hx:okName x=true)(hv:Vis X.env.scope x)(hN:C.N[i]?=some x)(hs:isStar p=false)(he:PE X p (gE X XR W cx e)) :
  PS X (.Expr (.Call (.Attribute (.Name x px) "extend" apos) [p] [] cpos) pos) (gS X XR W cx (.ext fz i e)) := by
 unfold okName at hx
 simp only [Bool.and_eq_true,Bool.not_eq_true'] at hx
 have star:=star_ns hs [] X.env
 refine PS.of (ps_expr (pe_bm PySem.F.plainAttrs_list PySem.F.slot_list_extend PySem.F.type_list_extend mt_extend (pe_var (by rw [Gd.N];exact hN) hv hx.1 hx.2.1) (pa_cons he pa_nil star) rfl (m1_few hs _ _) hl star rfl) rfl) fun D σ H h=>?_
 obtain ⟨F,G,B,env,st,ok,h⟩:=h
 unfold evS at h
 cases q1:ownAt env i with
 | none=>rw [q1] at h;exact h.elim
 | some ds =>
  rw [q1,Q.opt_some] at h
  obtain ⟨e1,a,xs,h1,h2,h3,h4,h5⟩:=own_at ok q1
  refine ⟨_,h1,.inl ⟨rfl,xs,.of h2⟩,?_⟩
  show gE X XR W cx e σ H fun v H1=>rExtend (.ref a) [v] H1 fun _ H2=>D.nx σ H2
  refine ok.useF fz h fun d st1 v F1 H1 x1 s1 ok1 r1 rB _ h=>?_
  have k:=x1.keep a h5 (by rw [h2];simp)
  have h2':H1 a=some (.lst xs):=by rw [k.1];exact h2
  have l3:=h3.ext x1
  have fin:∀ (us:List PL.D) (b:Addr) (zs:List V),v=.ref b→H1 b=some (.lst zs)→RepL X.K X.w F1 B H1 zs us→d=.lst us→lstAt fz d=some us→rExtend (.ref a) [v] H1 fun _ H2=>D.nx σ H2:=by
   intro us b zs ev hb lb ed el
   rw [el,Q.opt_some] at h
   split at h
   ·rename_i hz
    obtain ⟨g1,g2⟩:=ok1.grow e1 h1 h2' (l3.append lb)
    subst ev
    exact ⟨a,b,xs,zs,rfl,rfl,h2',hb,by rw [l3.length,lb.length,← lineEq];exact hz,h F1 B σ _ (x1.step.trans g2) g1⟩
   ·exact h.elim
  cases d with
  | lst us =>
   by_cases hz:fz=[]∨PL.D.nols us=true
   case neg =>
    have hu:lstAt fz (.lst us)=none:=if_neg hz
    rw [hu] at h
    exact h.elim
   have hu:lstAt fz (.lst us)=some us:=if_pos hz
   rcases hz with hz|hz
   ·obtain ⟨b,zs,ev,hb,lb⟩:=(r1 (.inr (.inl hz))).isL
    exact fin us b zs ev hb lb rfl hu
   ·obtain ⟨B1,rB,kB⟩:=rB
    obtain ⟨b,zs,ev,hb,lb⟩:=rB.isL
    exact fin us b zs ev hb (lb.nol kB hz) rfl hu
  | _=>exact h.elim
end
end PL
end
section
namespace PL
open PySem PySem.Spec PyProof.Rows L2
section
variable {X:Cx}{pr:Prog}{XR:XRel}{C:SC}{n:Nat}{W:WX}{cx:Ctx}
variable {p q r:Expr}{ps:List Expr}{a b c e:E}{es:Es}{pos:Pos}
section
variable {pins:List (Addr × Obj)}{σ:L2.St}{H:Hp}{s:Shared}{F:Foot}{B:Addr→Prop}{vv:V}{u:Value}{d:D}
theorem p_val (hu:X.A.units+65<cLine){x:Str}{j:Nat}{p1 p2:Pos}{t:Bool}(I:Inv X pins σ H s)(r:Rep X.K X.w F B H vv d)(ru:RelV vv u)(e:eqD d (.str x.cps.toList)=some t) :
  wpAny (model X.prog X.w) X.A (matchPattern (.MatchValue (.Constant (.str x) j p1) p2) X.env u) (fun o s1=>Inv X pins σ H s1∧o=if t then some [] else none) X.xe s:=by
 refine wpAny_matchPattern_Value (thn (pe_str.run pins s σ H (fun v H1=>v=.str x∧H1=H) I ⟨rfl,rfl⟩) fun y s1 ⟨v,H1,I1,r1,e1,e2⟩=>?_)
 subst e1 e2
 refine thn (((op_eq.or (op_eqD (by omega)):OpR X (compareOp .Eq) (rEqA X.K))) pins s1 σ H1 vv (.str x) u y (fun z H2=>z=.bl t∧H2=H1) I1 ru r1 (eq_ok e r (.str x _ rfl) ⟨rfl,rfl⟩)) fun c s2 ⟨z,H2,I2,rz,e3,e4⟩=>?_
 subst e3 e4
 cases rz
 refine wpAny_truthy_bool ?_
 cases t
 ·exact ⟨I2,rfl⟩
 ·exact ⟨I2,rfl⟩
theorem p_vals (hu:X.A.units+65<cLine):∀ {ss:List (List Nat)} {pps:List Pattern} {s:Shared} {t:Bool},chkVals ss pps=true→Inv X pins σ H s→Rep X.K X.w F B H vv d→RelV vv u→valIn d ss=some t →
  wpAny (model X.prog X.w) X.A (matchFirst pps X.env u) (fun o s1=>Inv X pins σ H s1∧o=if t then some [] else none) X.xe s
 | [],[],s,t,_,I,r,ru,e=>by
  simp only [valIn,Option.some.injEq] at e
  subst e
  exact wpAny_matchFirst_nil ⟨I,rfl⟩
 | x::ss,pp::pps,s,t,h,I,r,ru,e=>by
  unfold chkVals at h
  split at h<;>try contradiction
  rename_i heq1 heq2
  cases heq1
  cases heq2
  simp only [Bool.and_eq_true,decide_eq_true_eq] at h
  obtain ⟨rfl,h⟩:=h
  unfold valIn at e
  obtain ⟨t1,e1,e2⟩:=Option.bind_eq_some_iff.mp e
  refine wpAny_matchFirst_cons (thn (p_val hu I r ru e1) fun o s1 ⟨I1,ho⟩=>?_)
  subst ho
  cases t1 with
  | true =>
   simp only [if_true,Option.some.injEq] at e2
   subst e2
   exact ⟨I1,rfl⟩
  | false =>
   simp only [Bool.false_eq_true,if_false] at e2
   exact p_vals hu h I1 r ru e2
 | [],_::_,_,_,h,_,_,_,_=>by simp [chkVals] at h
 | _::_,[],_,_,h,_,_,_,_=>by simp [chkVals] at h
theorem names_vals:∀ {ss:List (List Nat)} {pps:List Pattern},chkVals ss pps=true→∀ bs:List (Str × Value),((namesOfAll (pps.take 1)).filterMap fun n=>(bs.lookup n).map (n,·))=[]
 | [],[],_,_=>rfl
 | x::ss,pp::pps,h,bs=>by
  unfold chkVals at h
  split at h<;>try contradiction
  rename_i heq1 heq2
  cases heq2
  rfl
 | [],_::_,h,_=>by simp [chkVals] at h
 | _::_,[],h,_=>by simp [chkVals] at h
inductive PB (C:SC) (K:PySem.W.Frag) (w:World) (F:Foot) (B:Addr→Prop) (H:Hp):List Pt→List D→List (Str × Value)→Prop
 | nil:PB C K w F B H [] [] []
 | cap {i:Nat} {x:Str} {v:V} {u:Value} {d:D} {ps:List Pt} {ds:List D} {bs:List (Str × Value)} (hN:C.N[i]?=some x) (hs:C.st x=true) (r:Rep K w F B H v d) (ru:RelV v u) (t:PB C K w F B H ps ds bs):PB C K w F B H (.cap i::ps) (d::ds) ((x,u)::bs)
 | any {d:D} {ps:List Pt} {ds:List D} {bs:List (Str × Value)} (t:PB C K w F B H ps ds bs):PB C K w F B H (.any::ps) (d::ds) bs
 | val {y:List Nat} {d:D} {ps:List Pt} {ds:List D} {bs:List (Str × Value)} (t:PB C K w F B H ps ds bs):PB C K w F B H (.val y::ps) (d::ds) bs
theorem pts_star:∀ {ps:List Pt} {pps:List Pattern},chkPts C ps pps=true→pps.findIdx? (·.isStar)=none∧pps.length=ps.length
 | [],[],_=>⟨rfl,rfl⟩
 | p::ps,q::pps,h=>by
  unfold chkPts at h
  simp only [Bool.and_eq_true] at h
  obtain ⟨h1,h2⟩:=h
  obtain ⟨e1,e2⟩:=pts_star h2
  have z:q.isStar=false:=by
   unfold chkPt at h1
   split at h1<;>first|rfl|contradiction
  refine ⟨?_,by simp [e2]⟩
  rw [List.findIdx?_cons,z]
  simp [e1]
 | [],_::_,h=>by simp [chkPts] at h
 | _::_,[],h=>by simp [chkPts] at h
theorem pts_run (hu:X.A.units+65<cLine):∀ {ps:List Pt} {pps:List Pattern} {vs:List V} {us:List Value} {ds:List D} {s:Shared} {t:Bool},chkPts C ps pps=true→ds.length=ps.length→Inv X pins σ H s→RepL X.K X.w F B H vs ds→Vals vs us→ptsIn ps ds=some t →
  wpAny (model X.prog X.w) X.A (matchEach pps X.env us) (fun o s1=>Inv X pins σ H s1∧if t then ∃ bs,o=some bs∧PB C X.K X.w F B H ps ds bs else o=none) X.xe s
 | [],[],_,_,[],s,t,_,_,I,r,ru,e=>by
  simp only [ptsIn,Option.some.injEq] at e
  subst e
  exact wpAny_matchEach_nil ⟨I,_,rfl,.nil⟩
 | p::ps,q::pps,vs,us,d::ds,s,t,h,hn,I,r,ru,e=>by
  unfold chkPts at h
  simp only [Bool.and_eq_true] at h
  obtain ⟨h1,h2⟩:=h
  cases r with
  | cons r1 r2 =>
  cases ru with
  | cons u1 u2 =>
  unfold ptsIn at e
  obtain ⟨t1,e1,e2⟩:=Option.bind_eq_some_iff.mp e
  unfold chkPt at h1
  split at h1<;>try contradiction
  ·simp only [Bool.and_eq_true,decide_eq_true_eq] at h1
   simp only [ptIn,Option.some.injEq] at e1
   subst e1
   simp only [if_true] at e2
   refine wpAny_matchEach_cons (wpAny_matchPattern_Capture (thn (pts_run hu h2 (by simpa using hn) I r2 u2 e2) fun o s1 ⟨I1,ho⟩=>?_))
   cases t with
   | true =>
    obtain ⟨bs,rfl,hb⟩:=ho
    exact ⟨I1,_,rfl,.cap h1.1 h1.2 r1 u1 hb⟩
   | false =>
    have ho:o=none:=ho
    subst ho
    exact ⟨I1,rfl⟩
  ·simp only [ptIn,Option.some.injEq] at e1
   subst e1
   simp only [if_true] at e2
   refine wpAny_matchEach_cons (wpAny_matchPattern_Capture (thn (pts_run hu h2 (by simpa using hn) I r2 u2 e2) fun o s1 ⟨I1,ho⟩=>?_))
   cases t with
   | true =>
    obtain ⟨bs,rfl,hb⟩:=ho
    exact ⟨I1,_,rfl,.any hb⟩
   | false =>
    have ho:o=none:=ho
    subst ho
    exact ⟨I1,rfl⟩
  ·rename_i x _ _ _
   have h1:=of_decide_eq_true h1
   subst h1
   refine wpAny_matchEach_cons (thn (p_val hu I r1 u1 e1) fun o s1 ⟨I1,ho⟩=>?_)
   subst ho
   cases t1 with
   | false =>
    simp only [Bool.false_eq_true,if_false,Option.some.injEq] at e2 ⊢
    subst e2
    exact ⟨I1,by simp⟩
   | true =>
    simp only [if_true] at e2 ⊢
    refine thn (pts_run hu h2 (by simpa using hn) I1 r2 u2 e2) fun o s1 ⟨I1,ho⟩=>?_
    cases t with
    | true =>
     obtain ⟨bs,rfl,hb⟩:=ho
     exact ⟨I1,_,rfl,.val hb⟩
    | false =>
     have ho:o=none:=ho
     subst ho
     exact ⟨I1,by simp⟩
 | [],_::_,_,_,_,_,_,h,_,_,_,_,_=>by simp [chkPts] at h
 | _::_,[],_,_,_,_,_,h,_,_,_,_,_=>by simp [chkPts] at h
 | [],[],_,_,_::_,_,_,_,hn,_,_,_,_=>by simp at hn
 | _::_,_::_,_,_,[],_,_,_,hn,_,_,_,_=>by simp at hn
def PBO (C:SC)(K:PySem.W.Frag)(w:World)(F:Foot)(B:Addr→Prop)(H:Hp)(p:Pat)(d:D)(bs:List (Str × Value)):Prop :=
 match p with
 | .seq ps=>∃ ds,d=.tup ds∧PB C K w F B H ps ds bs
 | _=>bs=[]
theorem seq_no {ps:List Pattern}{pos:Pos}{T:String}{Q:Option (List (Str × Value))→Shared→Prop}(hT:s.TypeIs u T)(hb:flagOfType true (.type T)=pure false)(hs:ps.findIdx? (·.isStar)=none)
  (hw:(ps.all fun p=>p.isWildcard || (p.isStar&&p.names.isEmpty))=false) (h:Q none s):wpAny (model X.prog X.w) X.A (matchPattern (.MatchSequence ps pos) X.env u) Q X.xe s:=by
 refine wpAny_matchPattern_Sequence (wpAny_collectionFlag hT hb ?_) hs hw
 exact h
theorem p_run (hc:X.calm=true)(hu:X.A.units+65<cLine){p:Pat}{pp:Pattern}{t:Bool}(h:chkP C p pp=true)(I:Inv X pins σ H s)(r:Rep X.K X.w F B H vv d)(ru:RelV vv u)(e:patIn p d=some t) :
  wpAny (model X.prog X.w) X.A (matchPattern pp X.env u) (fun o s1=>Inv X pins σ H s1∧if t then ∃ bs,o=some bs∧PBO C X.K X.w F B H p d bs else o=none) X.xe s:=by
 unfold chkP at h
 split at h<;>try contradiction
 ·simp only [patIn,Option.some.injEq] at e
  subst e
  exact wpAny_matchPattern_Capture ⟨I,_,rfl,rfl⟩
 ·rename_i s0 x _ _ _
  have h:=of_decide_eq_true h
  subst h
  have e':eqD d (.str x.cps.toList)=some t:=by
   simp only [patIn,valIn] at e
   obtain ⟨t1,e1,e2⟩:=Option.bind_eq_some_iff.mp e
   rw [e1]
   cases t1<;>simpa using e2
  refine thn (p_val hu I r ru e') fun o s1 ⟨I1,ho⟩=>⟨I1,?_⟩
  subst ho
  cases t with
  | true=>exact ⟨_,rfl,rfl⟩
  | false=>rfl
 ·refine wpAny_matchPattern_Or (thn (p_vals hu h I r ru e) fun o s1 ⟨I1,ho⟩=>?_)
  subst ho
  cases t with
  | true=>exact ⟨I1,_,rfl,by simp only [names_vals h];rfl⟩
  | false=>exact ⟨I1,rfl⟩
 ·rename_i ps pps pos
  simp only [Bool.and_eq_true,Bool.not_eq_true'] at h
  obtain ⟨h1,h2⟩:=h
  obtain ⟨st1,st2⟩:=pts_star h1
  have no:∀ {T:String},s.TypeIs u T→flagOfType true (.type T)=pure false→t=false→wpAny (model X.prog X.w) X.A (matchPattern (.MatchSequence pps pos) X.env u) (fun o s1=>Inv X pins σ H s1∧if t then ∃ bs,o=some bs∧PBO C X.K X.w F B H (.seq ps) d bs else o=none) X.xe s:=fun hT hb ht=>by
   subst ht
   exact seq_no hT hb st1 h2 ⟨I,rfl⟩
  cases d with
  | tup ds =>
   obtain ⟨a,xs,rfl,hq,rl⟩:=r.isT
   cases ru
   obtain ⟨its,rv,ht,hz⟩:=I.tuple hq
   have hl:=rl.length
   have hl2:=rv.length
   have hfit:(its.toArray.size:Int)<2^63:=by
    rw [sizeLine_eq] at hz
    simp only [List.size_toArray]
    omega
   have e:(if ds.length=ps.length then ptsIn ps ds else some false)=some t:=e
   by_cases hn:ds.length=ps.length
   ·rw [if_pos hn] at e
    have hsz:its.toArray.size=pps.length:=by simp only [List.size_toArray];omega
    refine matchSeq_tuple_hit ht hfit hsz ?_ st1 h2
    rw [← hsz]
    refine unpackItems_tuple (I.ok.hd hc) ht fun h' hx=>?_
    have I1:Inv X pins σ H { s with heap:=h',toks:=s.toks+1+1 }:=I.kept (t':=s.toks+1+1) fun b o e=>hx b o (Nat.ne_of_lt (Heap.lt_size e)) e
    refine thn (pts_run hu h1 hn I1 rl (by simpa using rv) e) fun o s1 ⟨I1,ho⟩=>⟨I1,?_⟩
    cases t with
    | true =>
     obtain ⟨bs,e1,e2⟩:=ho
     exact ⟨bs,e1,_,rfl,e2⟩
    | false=>exact ho
   ·rw [if_neg hn] at e
    cases e
    exact matchSeq_tuple_miss ht hfit (by simp only [List.size_toArray];omega) ⟨I.kept (h':=s.heap) (t':=s.toks+1+1) fun _ _ e=>e,by simp⟩ st1 h2
  | non =>
   cases r
   have ru:u=Value.none:=ru
   subst ru
   exact no (T := "NoneType") rfl flag_seq_None (by simpa [patIn] using e.symm)
  | bl b =>
   cases r
   have ru:u=Value.bool b:=ru
   subst ru
   exact no (T := "bool") rfl flag_seq_bool (by simpa [patIn] using e.symm)
  | int i =>
   cases r
   obtain ⟨tk,rfl⟩:=ru
   exact no (T := "int") rfl flag_seq_int (by simpa [patIn] using e.symm)
  | str x =>
   cases r
   obtain ⟨tk,rfl⟩:=ru
   exact no (T := "str") rfl flag_seq_str (by simpa [patIn] using e.symm)
  | lst _=>simp [patIn] at e
  | dct _ _=>simp [patIn] at e
  | ob _ _=>simp [patIn] at e
theorem pb_store (Gd:Good X pr XR C n):∀ {ps:List Pt} {ds:List D} {bs:List (Str × Value)} {σ:L2.St} {env:Env} {st:St} {s:Shared} {G:Addr→Prop} {Z:L2.St→Prop},PB C X.K X.w F B H ps ds bs→Inv X pins σ H s→OkS X.K X.w F G B σ H env st →
  wpAny (model X.prog X.w) X.A (assignInOrder (bs.map fun (n,_)=>bindName X.env n) (bs.map (·.2))) (fun _ s1=>∃ σ1,Inv X pins σ1 H s1∧OkS X.K X.w F G B σ1 H (ptBind ps ds env) st) X.xe s
 | _,_,_,σ,env,st,s,G,Z,.nil,I,ok=>wpAny_assignInOrder_none ⟨σ,I,by simpa [ptBind] using ok⟩
 | _,_,_,σ,env,st,s,G,Z,.cap hN hs r ru t,I,ok=>by
  obtain ⟨l,f⟩:=Gd.st _ hs
  refine wpAny_assignInOrder_more (wpAny_bindName (store_ok I Gd.nd (by rw [Gd.N];exact hN) l ru (fun s1 I1=>?_) f))
  unfold ptBind
  exact pb_store Gd (Z:=Z) t I1 (ok.setV r)
 | _,_,_,σ,env,st,s,G,Z,.any t,I,ok=>by
  unfold ptBind
  exact pb_store Gd (Z:=Z) t I ok
 | _,_,_,σ,env,st,s,G,Z,.val t,I,ok=>by
  unfold ptBind
  exact pb_store Gd (Z:=Z) t I ok
theorem pbo_store (Gd:Good X pr XR C n){p:Pat}{pp:Pattern}{bs:List (Str × Value)}{σ:L2.St}{env:Env}{st:St}{s:Shared}{G:Addr→Prop}(h:chkP C p pp=true)(b:PBO C X.K X.w F B H p d bs)(I:Inv X pins σ H s)(ok:OkS X.K X.w F G B σ H env st) :
  wpAny (model X.prog X.w) X.A (assignInOrder (bs.map fun (n,_)=>bindName X.env n) (bs.map (·.2))) (fun _ s1=>∃ σ1,Inv X pins σ1 H s1∧OkS X.K X.w F G B σ1 H (patBind p d env) st) X.xe s:=by
 cases p with
 | seq ps =>
  obtain ⟨ds,rfl,b⟩:=b
  exact pb_store Gd (Z:=fun _=>True) b I ok
 | any =>
  have b:bs=[]:=b
  subst b
  exact wpAny_assignInOrder_none ⟨σ,I,ok⟩
 | vals ss =>
  have b:bs=[]:=b
  subst b
  exact wpAny_assignInOrder_none ⟨σ,I,ok⟩
end
inductive PCs (X:Cx) (XR:XRel) (W:WX) (cx:Ctx) (C:SC):Cs→List MatchCase→Prop
 | nil:PCs X XR W cx C .nil []
 | cons {p:Pat} {b:Ss} {r:Cs} {pp:Pattern} {pb:List Stmt} {pr:List MatchCase} (hp:chkP C p pp=true) (hb:PSs X pb (gSs X XR W cx b)) (t:PCs X XR W cx C r pr):PCs X XR W cx C (.cons p b r) (⟨pp,none,pb⟩::pr)
theorem m_run (Gd:Good X pr XR C n)(hcal:C.cal=true)(hu:X.A.units+65<cLine):∀ {cs:Cs} {pcs:List MatchCase},PCs X XR W cx C cs pcs→∀ {pins:List (Addr × Obj)} {σ:L2.St} {H:Hp} {s:Shared} {F:Foot} {G B:Addr→Prop} {env:Env} {st:St} {vv:V} {u:Value} {d:D} {first:Bool} {Z:Ends},
  Inv X pins σ H s→OkS X.K X.w F G B σ H env st→Rep X.K X.w F B H vv d→RelV vv u→RQ X.K X.w XR W F G B H (evC cx cs d env st) Z→wpAny (model X.prog X.w) X.A (matchCases pcs X.env u first) (SP X pins Z) X.xe s
 | _,_,.nil,pins,σ,H,s,F,G,B,env,st,vv,u,d,first,Z,I,ok,r,ru,h=>by
  unfold evC at h
  exact wpAny_matchCases_nil ⟨σ,H,I,h F B σ H StepS.refl ok⟩
 | _,_,.cons (p:=p) hp hb t,pins,σ,H,s,F,G,B,env,st,vv,u,d,first,Z,I,ok,r,ru,h=>by
  unfold evC at h
  cases e:patIn p d with
  | none=>rw [e] at h;exact h.elim
  | some k =>
   rw [e,Q.opt_some] at h
   refine wpAny_matchCases_cons (thn (p_run (Gd.calm hcal) hu hp I r ru e) fun o s1 ⟨I1,ho⟩=>?_)
   cases k with
   | true =>
    obtain ⟨bs,rfl,hbs⟩:=ho
    simp only [if_true] at h ⊢
    exact thn (pbo_store Gd hp hbs I1 ok) fun _ s2 ⟨σ2,I2,ok2⟩=>hb.run pins s2 σ2 H Z I2 ⟨F,G,B,_,st,ok2,h⟩
   | false =>
    have ho:o=none:=ho
    subst ho
    simp only [Bool.false_eq_true,if_false] at h ⊢
    exact m_run Gd hcal hu t I1 ok r ru h
theorem s_mtch (Gd:Good X pr XR C n)(hcal:C.cal=true){cs:Cs}{pcs:List MatchCase}(he:PE X p (gE X XR W cx e))(hc:PCs X XR W cx C cs pcs):PS X (.Match p pcs pos) (gS X XR W cx (.mtch e cs)):=by
 refine ⟨fun pins s σ H Z I h=>?_⟩
 have h':gE X XR W cx e σ H fun v H1=>∃ F G B env st d,OkS X.K X.w F G B σ H1 env st∧Rep X.K X.w F B H1 v d∧RQ X.K X.w XR W F G B H1 (evC cx cs d env st) Z:=by
  obtain ⟨F,G,B,env,st,ok,h⟩:=h
  unfold evS at h
  exact ok.use h fun d st1 v F1 H1 x1 s1 ok1 r1 _ h=>⟨F1,G,B,env,st1,d,ok1,r1,h.shift x1.step⟩
 refine wpAny_Match (thn (he.run pins s σ H _ I h') fun u s1 ⟨v,H1,I1,r1,F,G,B,env,st,d,ok,rr,hh⟩=>?_)
 exact m_run Gd hcal (by have:=Gd.un;omega) hc I1 ok rr r1 hh
theorem s_asgL (Gd:Good X pr XR C n)(hcal:C.cal=true){own:Bool}{i:Nat}{x:Str}{px:Pos}{e:E}{tg:Tg}{it:It}{c:Eo}{ow:List Nat}{pe ptg pit:Expr}{ifs:List Expr}{scope:Scope}{lpos:Pos}
  (hN:C.N[i]?=some x) (lx:C.sc.names.lookup x=some .local) (hw:lcSwap C.sc x px (.ListComp pe [⟨ptg,pit,ifs,0⟩] scope lpos)=true)
  (hi:PI X ptg pit (gI X XR W cx it)) (bok:BlkOk X.N X.env.scope scope (ownN C.N ow)) (hown:(ownN C.N ow).map (·.2)=ow) (htg:tgIn ow tg=true)
  (hg:∀ (s:Shared) (H:Hp) (Ca:Addr) (cl:List (Str × Addr)) (fp:List Addr),PG (X.blk s H scope (compEnvC scope cl Ca X.env) fp) ptg (tG X.K X.w tg))
  (ht:∀ (s:Shared) (H:Hp) (Ca:Addr) (cl:List (Str × Addr)) (fp:List Addr),PTs (X.blk s H scope (compEnvC scope cl Ca X.env) fp) ifs (tBo X.K X.w XR WF cx c))
  (he:∀ (s:Shared) (H:Hp) (Ca:Addr) (cl:List (Str × Addr)) (fp:List Addr),PE (X.blk s H scope (compEnvC scope cl Ca X.env) fp) pe (tE X.K X.w XR WF cx e))
  (hs:∀ x,foldedSetIterable pit X.env x=pure x):PS X (.Assign [.Name x px] (.ListComp pe [⟨ptg,pit,ifs,0⟩] scope lpos) pos) (gS X XR W cx (.asg own i (.lc e tg it c ow))):=by
 unfold lcSwap at hw
 simp only [Bool.and_eq_true,Bool.not_eq_true'] at hw
 refine PS.of (ps_setLc (Gd.calm hcal) Gd.nd (by rw [Gd.N];exact hN) (by rw [Gd.sc];exact lx) (sw_true Gd.kind (by rw [Gd.sc];exact lx) hw.2.1 hw.2.2) hi bok hg ht he hs) fun D σ H h=>?_
 rw [hown]
 exact lc_in Gd htg (put_in (fun _=>rfl) h)
theorem s_asgL2 (Gd:Good X pr XR C n)(hcal:C.cal=true){own:Bool}{i:Nat}{x:Str}{px:Pos}{e:E}{tg tg1:Tg}{it it1:It}{ow ow1:List Nat}{pe ptg pit ptg1 pit1:Expr}{scope:Scope}{lpos:Pos}
  (hN:C.N[i]?=some x) (lx:C.sc.names.lookup x=some .local) (hw:lcSwap C.sc x px (.ListComp pe [⟨ptg,pit,[],0⟩,⟨ptg1,pit1,[],0⟩] scope lpos)=true)
  (hi:PI X ptg pit (gI X XR W cx it)) (bok:BlkOk X.N X.env.scope scope (ownN C.N ow)) (hown:(ownN C.N ow).map (·.2)=ow) (htg:tgIn ow tg=true) (htg1:tgIn ow1 tg1=true) (hsub:∀ i∈ow1,i∈ow)
  (hg:∀ (s:Shared) (H:Hp) (Ca:Addr) (cl:List (Str × Addr)) (fp:List Addr),PG (X.blk s H scope (compEnvC scope cl Ca X.env) fp) ptg (tG X.K X.w tg))
  (ht:∀ (s:Shared) (H:Hp) (Ca:Addr) (cl:List (Str × Addr)) (fp:List Addr),PTs (X.blk s H scope (compEnvC scope cl Ca X.env) fp) [] (tBo X.K X.w XR WF cx .no))
  (hi1:∀ (s:Shared) (H:Hp) (Ca:Addr) (cl:List (Str × Addr)) (fp:List Addr),PI (X.blk s H scope (compEnvC scope cl Ca X.env) fp) ptg1 pit1 (tI X.K X.w XR WF cx it1))
  (hg1:∀ (s:Shared) (H:Hp) (Ca:Addr) (cl:List (Str × Addr)) (fp:List Addr),PG (X.blk s H scope (compEnvC scope cl Ca X.env) fp) ptg1 (tG X.K X.w tg1))
  (he:∀ (s:Shared) (H:Hp) (Ca:Addr) (cl:List (Str × Addr)) (fp:List Addr),PE (X.blk s H scope (compEnvC scope cl Ca X.env) fp) pe (tE X.K X.w XR WF cx e))
  (hs:∀ x,foldedSetIterable pit X.env x=pure x) (hs1:∀ env x,foldedSetIterable pit1 env x=pure x):PS X (.Assign [.Name x px] (.ListComp pe [⟨ptg,pit,[],0⟩,⟨ptg1,pit1,[],0⟩] scope lpos) pos) (gS X XR W cx (.asg own i (.lc2 e tg it tg1 it1 ow ow1))):=by
 unfold lcSwap at hw
 simp only [Bool.and_eq_true,Bool.not_eq_true'] at hw
 refine PS.of (ps_setLc2 (vs1:=ow1) (Gd.calm hcal) Gd.nd (by rw [Gd.N];exact hN) (by rw [Gd.sc];exact lx) (sw_true Gd.kind (by rw [Gd.sc];exact lx) hw.2.1 hw.2.2) hi bok (fun i hi=>by rw [hown];exact hsub i hi) hg ht hi1 hg1 ht he hs hs1) fun D σ H h=>?_
 rw [hown]
 exact lc2_in Gd htg htg1 hsub (put_in (fun _=>rfl) h)
end
end PL
end
section
namespace PL
open PySem PySem.Spec PyProof.Rows L2
section
variable {K:PySem.W.Frag}{w:World}{F:Foot}{G B:Addr→Prop}{σ:L2.St}{H:Hp}{env:Env}{s s':Strm}
theorem OkS.strm {x:Addr}{o:HO}(ok:OkS K w F G B σ H env (some s))(hx:F.inn x)(hs:SR (some s') F (upd H x o)):OkS K w F G B σ (upd H x o) env (some s')∧StepS F G B H F B (upd H x o):=by
 have mv:∀ {v:V} {d:D},Rep K w F B H v d→Rep K w F B (upd H x o) v d:=fun r=>r.move (fun a f b hn=>⟨upd_ne fun e=>f (by rw [e];exact hx),f,b⟩) fun _ e=>e
 have mvl:∀ {v:List V} {d:List D},RepL K w F B H v d→RepL K w F B (upd H x o) v d:=fun r=>r.move (fun a f b hn=>⟨upd_ne fun e=>f (by rw [e];exact hx),f,b⟩) fun _ e=>e
 refine ⟨⟨⟨ok.e.len,fun i d e=>?_,fun i s os e=>?_,ok.e.apart,fun b hb=>upd_occ (ok.e.occ b hb),hs⟩,ok.g,ok.o⟩,⟨fun a f _ _=>⟨upd_ne fun e=>f (by rw [e];exact hx),f,fun z=>z⟩,fun b hb=>upd_occ hb,fun _ e=>e⟩⟩
 ·obtain ⟨v,h1,h2⟩:=ok.e.val i d e
  exact ⟨v,h1,mv h2⟩
 ·obtain ⟨a,h1,h2,h4,h5⟩:=ok.e.own i s os e
  exact ⟨a,h1,h2.move mvl (upd_ne fun e=>h5 (by rw [e];exact hx)),h4,h5⟩
theorem StrIs.big {a0 a1 a2:Addr}{b:List Int}(S:StrIs F H s a0 a1 a2):StrIs F (upd H a1 (.lst (b.map V.int))) { s with big:=b } a0 a1 a2 :=
 ⟨S.at_,S.inn,S.n1,S.n2,S.n3,by rw [upd_ne S.n1];exact S.h0,upd_same,by rw [upd_ne S.n3.symm];exact S.h2,S.ne⟩
theorem StrIs.turn_ {a0 a1 a2:Addr}{t:Int}(S:StrIs F H s a0 a1 a2):StrIs F (upd H a0 (.lst [.ref a1,.ref a2,.int t])) { s with turn:=t } a0 a1 a2 :=
 ⟨S.at_,S.inn,S.n1,S.n2,S.n3,upd_same,by rw [upd_ne S.n1.symm];exact S.h1,by rw [upd_ne S.n2.symm];exact S.h2,S.ne⟩
theorem StrIs.in1 {a0 a1 a2:Addr}(S:StrIs F H s a0 a1 a2):F.inn a1:=(S.inn a1).mpr (.inr (.inl rfl))
theorem StrIs.in0 {a0 a1 a2:Addr}(S:StrIs F H s a0 a1 a2):F.inn a0:=(S.inn a0).mpr (.inl rfl)
end
section
variable {X:Cx}{pr:Prog}{XR:XRel}{C:SC}{n:Nat}{W:WX}{cx:Ctx}{q:Expr}{e:E}{pos:Pos}
theorem s_putB (Gd:Good X pr XR C n){i:Nat}{x:Str}{p p2 p3 p4 p5:Pos}{j j2:Nat}(h1:okName x=true)(h2:Vis X.env.scope x)(h3:C.N[i]?=some x)(hq:isLC q=false)(he:PE X q (gE X XR W cx e)) :
  PS X (.Assign [.Subscript (.Subscript (.Name x p) (.Constant (.int 0) j p2) p3) (.Constant (.int 0) j2 p4) p5] q pos) (gS X XR W cx (.sPutB i e)):=by
 refine PS.of (ps_asg he (pg_sub (sub_pe Gd h1 h2 h3) (pe_int (i:=0)) set_list) (by unfold swapsWithSole;exact swaps_no hq _ _ _) rfl rfl) fun D σ H h=>?_
 obtain ⟨F,G,B,env,st,ok,h⟩:=h
 unfold evS at h
 refine ok.use h fun d st1 v F1 H1 x1 s1 ok1 r1 _ h=>?_
 have fin:∀ (s:Strm) (b:Int) (z:Int) (r:List Int),strAt env i st1=some s→s.big=b::r→d=.int z→putB env i d st1=some (some { s with big:=z::r }) →
   tOp (rIxL X.K) (tVar i) (tC (.int 0)) σ H1 fun o H2=>tC (.int 0) σ H2 fun k H3=>rSetL o k v H3 fun H4=>D.nx σ H4:=by
  intro s b z r es eb ed ep
  subst ed
  obtain ⟨e1,a0,a1,a2,k1,S⟩:=str_at ok1.e es
  subst e1
  cases r1
  rw [ep,Q.opt_some] at h
  refine ⟨_,k1,a0,_,0,_,rfl,rfl,.of S.h0,ix3.1,?_⟩
  refine ⟨a1,_,0,0,rfl,rfl,S.h1,?_,?_⟩
  ·unfold ixN
   rw [eb]
   simp
  ·have S2:=S.big (b:=z::r)
   have e2:(s.big.map V.int).set 0 (.int z)=(z::r).map V.int:=by rw [eb];rfl
   rw [e2]
   obtain ⟨o2,t2⟩:=ok1.strm S.in1 S2.sr
   exact h F1 B σ _ (x1.step.trans t2) o2
 cases hs:strAt env i st1 with
 | none =>
  have:putB env i d st1=none:=by unfold putB;rw [hs]
  rw [this] at h
  exact h.elim
 | some s =>
  cases d with
  | int z =>
   cases hb:s.big with
   | nil =>
    have:putB env i (.int z) st1=none:=by unfold putB;rw [hs];simp only [hb]
    rw [this] at h
    exact h.elim
   | cons b r=>exact fin s b z r hs hb rfl (by unfold putB;rw [hs];simp only [hb])
  | _ =>
   unfold putB at h
   rw [hs] at h
   exact h.elim
theorem s_putT (Gd:Good X pr XR C n){i:Nat}{x:Str}{p p2 p3:Pos}{j:Nat}(h1:okName x=true)(h2:Vis X.env.scope x)(h3:C.N[i]?=some x)(hq:isLC q=false)(he:PE X q (gE X XR W cx e)) :
  PS X (.Assign [.Subscript (.Name x p) (.Constant (.int 2) j p2) p3] q pos) (gS X XR W cx (.sPutT i e)):=by
 refine PS.of (ps_asg he (pg_sub (nm_pe Gd h1 h2 h3) (pe_int (i:=2)) set_list) (by unfold swapsWithSole;exact swaps_no hq _ _ _) rfl rfl) fun D σ H h=>?_
 obtain ⟨F,G,B,env,st,ok,h⟩:=h
 unfold evS at h
 refine ok.use h fun d st1 v F1 H1 x1 s1 ok1 r1 _ h=>?_
 cases hs:strAt env i st1 with
 | none =>
  have:putU env i d st1=none:=by unfold putU;rw [hs]
  rw [this] at h
  exact h.elim
 | some s =>
  cases d with
  | int z =>
   have ep:putU env i (.int z) st1=some (some { s with turn:=z }):=by unfold putU;rw [hs]
   obtain ⟨e1,a0,a1,a2,k1,S⟩:=str_at ok1.e hs
   subst e1
   cases r1
   rw [ep,Q.opt_some] at h
   refine ⟨_,k1,a0,_,2,2,rfl,rfl,S.h0,rfl,?_⟩
   have S2:=S.turn_ (t:=z)
   obtain ⟨o2,t2⟩:=ok1.strm S.in0 S2.sr
   exact h F1 B σ _ (x1.step.trans t2) o2
  | _ =>
   unfold putU at h
   rw [hs] at h
   exact h.elim
theorem s_pop (Gd:Good X pr XR C n){i:Nat}{x:Str}{p p2 p3 p4 apos cpos:Pos}{j j2:Nat}(hl:(apos.endLine==cpos.line)=true)(h1:okName x=true)(h2:Vis X.env.scope x)(h3:C.N[i]?=some x) :
  PS X (.Expr (.Call (.Attribute (.Subscript (.Name x p) (.Constant (.int 0) j p2) p3) "pop" apos) [.Constant (.int 0) j2 p4] [] cpos) pos) (gS X XR W cx (.sPop i)) := by
 refine PS.of (ps_expr (pe_bm PySem.F.plainAttrs_list PySem.F.slot_list_pop PySem.F.type_list_pop mt_popAt (sub_pe Gd h1 h2 h3) (pa_cons pe_int pa_nil) rfl rfl hl rfl rfl) rfl) fun D σ H h=>?_
 obtain ⟨F,G,B,env,st,ok,h⟩:=h
 unfold evS at h
 cases hs:strAt env i st with
 | none =>
  have:popB env i st=none:=by unfold popB;rw [hs]
  rw [this] at h
  exact h.elim
 | some s =>
  cases hb:s.big with
  | nil =>
   have:popB env i st=none:=by unfold popB;rw [hs];simp only [hb]
   rw [this] at h
   exact h.elim
  | cons b r =>
   have ep:popB env i st=some (some { s with big:=r }):=by unfold popB;rw [hs];simp only [hb]
   rw [ep,Q.opt_some] at h
   obtain ⟨e1,a0,a1,a2,k1,S⟩:=str_at ok.e hs
   subst e1
   refine ⟨_,k1,a0,_,0,_,rfl,rfl,.of S.h0,ix3.1,.inl ⟨rfl,_,.of S.h1⟩,?_⟩
   refine ⟨a1,_,0,0,.int b,rfl,rfl,S.h1,by decide,by decide,?_,by rw [hb];rfl,?_⟩
   ·unfold seqIndex?
    rw [hb]
    simp
   ·have e2:(s.big.map V.int).eraseIdx 0=r.map V.int:=by rw [hb];rfl
    rw [e2]
    have S2:=S.big (b:=r)
    obtain ⟨o2,t2⟩:=ok.strm S.in1 S2.sr
    exact h F B σ _ t2 o2
theorem s_retS (Gd:Good X pr XR C n){i:Nat}{x:Str}{p p2 p3 p4 p5 p6 p7 p8 p9:Pos}{j1 j2:Nat}(h1:okName x=true)(h2:Vis X.env.scope x)(h3:C.N[i]?=some x)(hf:fresh e=true)(hs:isStar q=false)(he:PE X q (gE X XR W cx e)) :
  PS X (.Return (some (.List [q,.IfExp (.Compare (.Name x p) [.NotEq] [.List [] p2] p3) (.Name x p4) (.List [.Constant (.int 47) j1 p5] p6) p7,.Constant (.int 0) j2 p8] p9)) pos) (gS X XR W cx (.retS e i)):=by
 have hif:PE X (.IfExp (.Compare (.Name x p) [.NotEq] [.List [] p2] p3) (.Name x p4) (.List [.Constant (.int 47) j1 p5] p6) p7) (tIf (tTest (tOp (rCop X.K X.w .ne) (tVar i) (tLst tNil))) (tVar i) (tLst (tCons (tC (.int 47)) tNil))) :=
  pe_ifExp (pt_cmpR (cop_R (by have:=Gd.un;omega) .ne) (nm_pe Gd h1 h2 h3) (pe_lst pa_nil) rfl) (nm_pe Gd h1 h2 h3) (pe_lst (pa_cons pe_int pa_nil))
 refine PS.of (ps_ret (pe_lst (pa_cons he (pa_cons hif (pa_cons (pe_int (i:=0)) pa_nil)) (star_ns hs _ _)))) fun D σ H h=>?_
 obtain ⟨F,G,B,env,st,ok,h⟩:=h
 unfold evS at h
 show gE X XR W cx e σ H fun y1 H1=>tIf (tTest (tOp (rCop X.K X.w .ne) (tVar i) (tLst tNil))) (tVar i) (tLst (tCons (tC (.int 47)) tNil)) σ H1 fun y2 H2=>[y1,y2,.int 0].length≤sizeLine∧∀ p,H2 p=none→D.rt (.ref p) (upd H2 p (.lst [y1,y2,.int 0]))
 -- the first list, while the own list is read
 obtain ⟨B1,o1,l1⟩:=ok.frzs [i]
 refine ⟨F,B1,PL.freeze env [i],st,o1.e,?_⟩
 cases q1:evE cx e (freeze env [i]) st with
 | no=>rw [q1,R.use_no] at h;exact h
 | exc c fs st' =>
  rw [q1,R.use_exc] at h
  exact fun cls dx F' H' x s r=>h cls dx F' B σ H' x.step (ok.ext x s) r
 | ok d st' =>
  rw [q1,R.use_ok] at h
  intro y1 F1 H1 x1 s1 r1 fr
  have key:∃ xs ds big l,d=.lst xs∧ownAt env i=some ds∧st'=none∧PL.D.ints xs=some big∧PL.D.ints ds=some l∧mkS d (ownAt env i) st'=some (some ⟨big,if l=[] then [47] else l,0⟩):=by
   cases d with
   | lst xs =>
    cases ho:ownAt env i with
    | none=>rw [ho] at h;exact h.elim
    | some ds =>
     rw [ho] at h
     cases st' with
     | some _=>exact h.elim
     | none =>
      cases e1:PL.D.ints xs with
      | none =>
       unfold mkS at h
       simp only [e1] at h
       exact h.elim
      | some big =>
       cases e2:PL.D.ints ds with
       | none =>
        unfold mkS at h
        simp only [e1,e2] at h
        exact h.elim
       | some l=>exact ⟨xs,ds,big,l,rfl,rfl,rfl,e1,e2,by unfold mkS;simp only [e1,e2]⟩
   | _=>exact h.elim
  obtain ⟨xs,ds,big,l,rfl,eo,rfl,eb,el,em⟩:=key
  rw [em,Q.opt_some] at h
  obtain ⟨a1,vs,ds1,rfl,e1,hn1,hh1,f1,rl1⟩:=fr hf
  cases e1
  have ev:=rl1.ints eb
  subst ev
  obtain ⟨e2,a2,ys,hs2,hh2,rl2,b2,f2⟩:=own_at ok eo
  have ev:=rl2.ints el
  subst ev
  have hh2':H1 a2=some (.lst (l.map V.int)):=by rw [(x1.keep a2 f2 (by rw [hh2];simp)).1];exact hh2
  have n12:a2≠a1:=fun e=>by rw [e,hn1] at hh2;cases hh2
  have fin:∀ (H2:Hp) (a2':Addr),(∀ a,H1 a≠none→H2 a=H1 a)→H2 a2'=some (.lst ((if l=[] then [47] else l).map V.int))→a2'≠a1→(∀ a,¬ B a∨G a→H a≠none→a≠a2') →
    ∀ p,H2 p=none→D.rt (.ref p) (upd H2 p (.lst [.ref a1,.ref a2',.int 0])):=by
   intro H2 a2' k2 kh kn ko p hp
   have occ2:∀ a,H a≠none→H2 a≠none:=fun a ha=>by rw [k2 a (x1.occ a ha)];exact x1.occ a ha
   have pa1:p≠a1:=fun e=>by rw [e,k2 a1 (by rw [hh1];simp),hh1] at hp;cases hp
   have pa2:p≠a2':=fun e=>by rw [e,kh] at hp;cases hp
   refine h (.ref p) ⟨some p,fun b=>b=p∨b=a1∨b=a2'⟩ B _ ⟨fun a fa ba ha=>⟨?_,fun z=>?_,fun z=>z⟩,fun b hb=>upd_occ (occ2 b hb),fun a e=>?_⟩ ok.g ⟨p,a1,a2',rfl,fun b=>Iff.rfl,pa1,pa2,kn.symm,upd_same,?_,?_,?_⟩ (.ob0 rfl)
   ·rw [upd_ne fun e=>occ2 a ha (by rw [e];exact hp),k2 a (x1.occ a ha)]
    exact (x1.keep a fa ha).1
   ·rcases z with z|z|z
    ·exact occ2 a ha (by rw [z];exact hp)
    ·exact ha (by rw [z];exact hn1)
    ·exact ko a ba ha z
   ·have:=x1.at_ a e
    rw [s1.1] at this
    cases this
   ·rw [upd_ne pa1.symm,k2 a1 (by rw [hh1];simp)];exact hh1
   ·rw [upd_ne pa2.symm];exact kh
   ·by_cases hl:l=[]
    ·simp [hl]
    ·simp [hl]
  refine ⟨_,hs2,Nat.zero_le _,fun p hp=>?_⟩
  have hne:a2≠p:=fun e=>by rw [e,hp] at hh2';cases hh2'
  have k1:∀ a,H1 a≠none→upd H1 p (.lst []) a=H1 a:=fun a ha=>upd_ne fun e=>ha (by rw [e];exact hp)
  refine ne_ok (F:=F0) (B:=fun _=>False) (K:=X.K) (w:=X.w) (d1:=.lst (l.map PL.D.int)) (d2:=.lst []) (b:=l.isEmpty) ?_ (.lst (xs:=l.map V.int) (by rw [upd_ne hne];exact hh2') (fun z=>z) (fun z=>z) (RepL.of_ints _)) (.lst (xs:=[]) upd_same (fun z=>z) (fun z=>z) .nil) ?_
  ·show (if (PL.D.lst (l.map PL.D.int)).shaped&&(PL.D.lst []).shaped then some (PL.D.eqv (.lst (l.map PL.D.int)) (.lst [])) else none)=_
   rw [ints_shaped]
   have:(PL.D.lst []).shaped=true:=ints_shaped []
   rw [this]
   cases l<;>rfl
  refine ⟨_,rfl,?_⟩
  cases l with
  | nil =>
   rw [show (!([]:List Int).isEmpty)=false from rfl,if_neg Bool.false_ne_true]
   refine ⟨by show 1≤sizeLine;rw [sizeLine_eq];omega,fun p2 hp2=>⟨by show 3≤sizeLine;rw [sizeLine_eq];omega,fin _ p2 (fun a ha=>?_) upd_same (fun e=>?_) fun a _ ha e=>?_⟩⟩
   ·rw [upd_ne fun e=>by rw [← e,k1 a ha] at hp2;exact ha hp2,k1 a ha]
   ·rw [e,k1 a1 (by rw [hh1];simp),hh1] at hp2;cases hp2
   ·rw [← e,k1 a (x1.occ a ha)] at hp2
    exact x1.occ a ha hp2
  | cons z r =>
   rw [show (!(z::r).isEmpty)=true from rfl,if_pos rfl]
   refine ⟨_,hs2,by show 3≤sizeLine;rw [sizeLine_eq];omega,fin _ a2 k1 (by rw [k1 a2 (by rw [hh2'];simp)];exact hh2') n12 fun a ba ha e=>?_⟩
   subst e
   rcases ba with ba|ba
   ·exact ba b2
   ·exact ok.o i _ _ rfl e2 hs2 ba
end
end PL
end
section
namespace PL
open PySem PySem.Spec PyProof.Rows L2
section
variable {K:PySem.W.Frag}{w:World}{XR:XRel}{W:WX}{cx:Ctx}{F F1:Foot}{G B B1:Addr→Prop}{σ:L2.St}{H H1:Hp}{env:Env}{st:St}{Z:Ends}
theorem OkS.setU (o:OkS K w F G B σ H env st)(i:Nat):OkS K w F G B (σ.set i none) H (env.set i .un) st:=by
 have gs:∀ {j:Nat} {s:Slot},(env.set i .un)[j]?=some s→s≠.un→j≠i∧env[j]?=some s:=fun {j s} e n=>by
  by_cases hj:i=j
  ·subst hj
   by_cases hl:i<env.length
   ·rw [List.getElem?_set_self hl] at e;cases e;exact absurd rfl n
   ·rw [List.getElem?_eq_none (by simpa using hl)] at e;cases e
  ·rw [List.getElem?_set_ne hj] at e;exact ⟨Ne.symm hj,e⟩
 refine ⟨⟨by simpa using o.e.len,fun j d e=>?_,fun j s os e=>?_,fun j k s t a os ot e1 e2 e3 e4=>?_,o.e.occ,o.e.sr⟩,o.g,fun j s a os e1 e2=>?_⟩
 ·obtain ⟨n,e⟩:=gs e (by simp)
  rw [List.getElem?_set_ne (Ne.symm n)]
  exact o.e.val j d e
 ·obtain ⟨n,e⟩:=gs e (fun z=>by subst z;cases os)
  rw [List.getElem?_set_ne (Ne.symm n)]
  exact o.e.own j s os e
 ·obtain ⟨n1,e1⟩:=gs e1 (fun z=>by subst z;cases os)
  obtain ⟨n2,e2⟩:=gs e2 (fun z=>by subst z;cases ot)
  rw [List.getElem?_set_ne (Ne.symm n1)] at e3
  rw [List.getElem?_set_ne (Ne.symm n2)] at e4
  exact o.e.apart j k s t a os ot e1 e2 e3 e4
 ·obtain ⟨n1,e1⟩:=gs e1 (fun z=>by subst z;cases os)
  rw [List.getElem?_set_ne (Ne.symm n1)] at e2
  exact o.o j s a os e1 e2
theorem RQ.gone {q:PL.Q}{i:Nat}(h:RQ K w XR W F G B H (q.gone i) Z):RQ K w XR WF F G B H q { nx:=fun σ' H'=>Z.nx (σ'.set i none) H',rt:=Z.rt,bk:=fun σ' H'=>Z.bk (σ'.set i none) H',ct:=fun σ' H'=>Z.ct (σ'.set i none) H' }:=by
 cases q with
 | next env st=>exact fun F' B' σ' H' y o=>h F' B' _ H' y (o.setU i)
 | brk env st=>exact fun F' B' σ' H' y o=>h F' B' _ H' y (o.setU i)
 | cnt env st=>exact fun F' B' σ' H' y o=>h F' B' _ H' y (o.setU i)
 | ret d st=>exact h
 | exc c fs env st=>exact h.elim
 | no=>exact h
end
section
variable {X:Cx}{pr:Prog}{XR:XRel}{C:SC}{n:Nat}{W:WX}
theorem RQ.noX {K:PySem.W.Frag}{w:World}{F:Foot}{G B:Addr→Prop}{H:Hp}{Z:Ends}{q:PL.Q}(h:RQ K w XR W F G B H q.noX Z):RQ K w XR WF F G B H q Z:=by
 cases q with
 | next env st=>exact h
 | brk env st=>exact h
 | cnt env st=>exact h
 | ret d st=>exact h
 | exc c fs env st=>exact h.elim
 | no=>exact h
end
end PL
end
section
namespace PL
open PySem PySem.Spec PyProof.Rows L2
section
end
section
end
end PL
end
section
namespace PL
open PySem PySem.Spec PyProof.Rows L2
section
variable {X:Cx}
theorem ps_setDc {i:Nat}{y:Str}{py:Pos}{kx vx tg iter:Expr}{ifs:List Expr}{scope:Scope}{own:List (Str × Nat)}{pos spos:Pos}{wi:TI}{g:TG}{tt:TT}{tk tv:TE}(hc:X.calm=true)(hN:X.N.Nodup)(hy:X.N[i]?=some y)
  (hyl:X.env.scope.names.lookup y=some .local) (sw:swapsWith (.DictComp kx vx [⟨tg,iter,ifs,0⟩] scope pos) (some (.Name y py)) spos.line X.env=pure true) (hi:PI X tg iter wi) (ok:BlkOk X.N X.env.scope scope own)
  (hg:∀ (s:Shared) (H:Hp) (Ca:Addr) (cl:List (Str × Addr)) (fp:List Addr),PG (X.blk s H scope (compEnvC scope cl Ca X.env) fp) tg g) (ht:∀ (s:Shared) (H:Hp) (Ca:Addr) (cl:List (Str × Addr)) (fp:List Addr),PTs (X.blk s H scope (compEnvC scope cl Ca X.env) fp) ifs tt)
  (hk:∀ (s:Shared) (H:Hp) (Ca:Addr) (cl:List (Str × Addr)) (fp:List Addr),PE (X.blk s H scope (compEnvC scope cl Ca X.env) fp) kx tk)
  (he:∀ (s:Shared) (H:Hp) (Ca:Addr) (cl:List (Str × Addr)) (fp:List Addr),PE (X.blk s H scope (compEnvC scope cl Ca X.env) fp) vx tv) (hs:∀ x,foldedSetIterable iter X.env x=pure x) :
  PS X (.Assign [.Name y py] (.DictComp kx vx [⟨tg,iter,ifs,0⟩] scope pos) spos) (tAsg (tDc wi g tt tk tv (own.map (·.2))) (gName i)):=by
 refine ⟨fun pn s σ H D I h=>?_⟩
 rw [exec_Assign_Name_used _ _ _ _ sw]
 have h:tDc wi g tt tk tv (own.map (·.2)) σ H (fun x H1=>gName i x σ H1 D.nx):=h
 refine wpAny_bind (wpAny_standAt (wpAny_bind (wpAny_bind (m:=comprehension (.DictComp kx vx [⟨tg,iter,ifs,0⟩] scope pos) scope X.env (firstIterPos [⟨tg,iter,ifs,0⟩] pos) newDict false (eval iter X.env) (some (assign (.Name y py) X.env))) ?_)))
 refine thn (dc_core (Qf:=fun _ s'=>SP X pn D .next s') hc hN I hi ok hg ht hk he hs h fun L Ca s' m H' I' q hn f=>?_) fun _ s' hq=>wpAny_pure (wpAny_pure hq)
 show wpAny _ _ (assign (.Name y py) X.env (.ref L)) _ _ _
 refine wpAny_assign_Name (store_ok2 (v:=V.ref L) I' hN hy (.inl hyl) rfl (fun s2 I2 ⟨a,sb,ha⟩=>?_) (.inr hyl))
 have other:Ca≠a:=ha.elim (fun z=>by rw [z];exact f.2.1) fun z e=>f.2.2.2.2.1 y a z e.symm
 exact ⟨m,hn.sameBut sb other,fun h3 sb3=>⟨_,H',I2.turned (t':=s2.toks) (fun b o hb e=>(sb3.2 b hb).trans e) f.1 f.2.1 f.2.2.2.1 f.2.2.2.2.1 f.2.2.2.2.2,q⟩⟩
theorem ps_setDc2 {i:Nat}{y:Str}{py:Pos}{kE vE ga ia gb ib:Expr}{scope:Scope}{own:List (Str × Nat)}{vs1:List Nat}{pos spos:Pos}{wi wi1:TI}{g g1:TG}{tk tv:TE}(hc:X.calm=true)(hN:X.N.Nodup)(hy:X.N[i]?=some y)
  (hyl:X.env.scope.names.lookup y=some .local) (sw:swapsWith (dcX kE vE ga ia gb ib [] [] scope pos) (some (.Name y py)) spos.line X.env=pure true) (hi:PI X ga ia wi) (ok:BlkOk X.N X.env.scope scope own) (hv:∀ i∈vs1,i∈own.map (·.2))
  (hg:∀ (s:Shared) (H:Hp) (Ca:Addr) (cl:List (Str × Addr)) (fp:List Addr),PG (X.blk s H scope (compEnvC scope cl Ca X.env) fp) ga g)
  (hib:∀ (s:Shared) (H:Hp) (Ca:Addr) (cl:List (Str × Addr)) (fp:List Addr),PI (X.blk s H scope (compEnvC scope cl Ca X.env) fp) gb ib wi1)
  (hgb:∀ (s:Shared) (H:Hp) (Ca:Addr) (cl:List (Str × Addr)) (fp:List Addr),PG (X.blk s H scope (compEnvC scope cl Ca X.env) fp) gb g1)
  (hk:∀ (s:Shared) (H:Hp) (Ca:Addr) (cl:List (Str × Addr)) (fp:List Addr),PE (X.blk s H scope (compEnvC scope cl Ca X.env) fp) kE tk)
  (hw:∀ (s:Shared) (H:Hp) (Ca:Addr) (cl:List (Str × Addr)) (fp:List Addr),PE (X.blk s H scope (compEnvC scope cl Ca X.env) fp) vE tv)
  (hs:∀ x,foldedSetIterable ia X.env x=pure x) (hsb:∀ env x,foldedSetIterable ib env x=pure x) :
  PS X (.Assign [.Name y py] (dcX kE vE ga ia gb ib [] [] scope pos) spos) (tAsg (tDc2 wi g wi1 g1 tk tv (own.map (·.2)) vs1) (gName i)):=by
 refine ⟨fun pn s σ H D I h=>?_⟩
 rw [exec_Assign_Name_used _ _ _ _ sw]
 have h:tDc2 wi g wi1 g1 tk tv (own.map (·.2)) vs1 σ H (fun x H1=>gName i x σ H1 D.nx):=h
 refine wpAny_bind (wpAny_standAt (wpAny_bind (wpAny_bind (m:=comprehension (dcX kE vE ga ia gb ib [] [] scope pos) scope X.env (firstIterPos [⟨ga,ia,[],0⟩,⟨gb,ib,[],0⟩] pos) newDict false (eval ia X.env) (some (assign (.Name y py) X.env))) ?_)))
 refine thn (dc2_core (Qf:=fun _ s'=>SP X pn D .next s') hc hN I hi ok hv hg hib hgb hk hw hs hsb h fun L Ca s' m H' I' q hn f=>?_) fun _ s' hq=>wpAny_pure (wpAny_pure hq)
 show wpAny _ _ (assign (.Name y py) X.env (.ref L)) _ _ _
 refine wpAny_assign_Name (store_ok2 (v:=V.ref L) I' hN hy (.inl hyl) rfl (fun s2 I2 ⟨a,sb,ha⟩=>?_) (.inr hyl))
 have other:Ca≠a:=ha.elim (fun z=>by rw [z];exact f.2.1) fun z e=>f.2.2.2.2.1 y a z e.symm
 exact ⟨m,hn.sameBut sb other,fun h3 sb3=>⟨_,H',I2.turned (t':=s2.toks) (fun b o hb e=>(sb3.2 b hb).trans e) f.1 f.2.1 f.2.2.2.1 f.2.2.2.2.1 f.2.2.2.2.2,q⟩⟩
theorem sw_dict {kx vx:Expr}{gs:List Comprehension}{scope:Scope}{pos py:Pos}{y:Str}{l:Nat}{env:PySem.Env}(hk:env.scope.kind=.function)(hy:env.scope.names.lookup y=some .local)(hl:(py.line==pos.line)=true)
  (ha:(scope.names.any fun (n,k)=>n==y&&(k==.local || k==.cell))=false):swapsWith (.DictComp kx vx gs scope pos) (some (.Name y py)) l env=pure true:=by
 have ky:env.kindOf y=some .local:=hy
 have hb:env.blockKind=.function:=by unfold PySem.Env.blockKind;rw [hk];rfl
 unfold swapsWith
 simp only [hb,ky,ha,Expr.pos,hl]
 rfl
end
section
variable {X:Cx}{pr:Prog}{XR:XRel}{C:SC}{n:Nat}{W:WX}{cx:Ctx}{pos:Pos}
theorem s_asgD (Gd:Good X pr XR C n)(hcal:C.cal=true){own:Bool}{i:Nat}{x:Str}{px:Pos}{ek ev:E}{tg:Tg}{it:It}{c:Eo}{ow:List Nat}{pk pv ptg pit:Expr}{ifs:List Expr}{scope:Scope}{lpos:Pos}
  (hN:C.N[i]?=some x) (lx:C.sc.names.lookup x=some .local) (hw:lcSwap C.sc x px (.DictComp pk pv [⟨ptg,pit,ifs,0⟩] scope lpos)=true) (hf:own=true→fresh (.dc ek ev tg it c ow)=true)
  (hi:PI X ptg pit (gI X XR W cx it)) (bok:BlkOk X.N X.env.scope scope (ownN C.N ow)) (hown:(ownN C.N ow).map (·.2)=ow) (htg:tgIn ow tg=true)
  (hg:∀ (s:Shared) (H:Hp) (Ca:Addr) (cl:List (Str × Addr)) (fp:List Addr),PG (X.blk s H scope (compEnvC scope cl Ca X.env) fp) ptg (tG X.K X.w tg))
  (ht:∀ (s:Shared) (H:Hp) (Ca:Addr) (cl:List (Str × Addr)) (fp:List Addr),PTs (X.blk s H scope (compEnvC scope cl Ca X.env) fp) ifs (tBo X.K X.w XR WF cx c))
  (hk:∀ (s:Shared) (H:Hp) (Ca:Addr) (cl:List (Str × Addr)) (fp:List Addr),PE (X.blk s H scope (compEnvC scope cl Ca X.env) fp) pk (tE X.K X.w XR WF cx ek))
  (he:∀ (s:Shared) (H:Hp) (Ca:Addr) (cl:List (Str × Addr)) (fp:List Addr),PE (X.blk s H scope (compEnvC scope cl Ca X.env) fp) pv (tE X.K X.w XR WF cx ev))
  (hs:∀ x,foldedSetIterable pit X.env x=pure x):PS X (.Assign [.Name x px] (.DictComp pk pv [⟨ptg,pit,ifs,0⟩] scope lpos) pos) (gS X XR W cx (.asg own i (.dc ek ev tg it c ow))):=by
 unfold lcSwap at hw
 simp only [Bool.and_eq_true,Bool.not_eq_true'] at hw
 refine PS.of (ps_setDc (Gd.calm hcal) Gd.nd (by rw [Gd.N];exact hN) (by rw [Gd.sc];exact lx) (sw_dict Gd.kind (by rw [Gd.sc];exact lx) hw.2.1 hw.2.2) hi bok hg ht hk he hs) fun D σ H h=>?_
 rw [hown]
 exact dc_in Gd htg (put_in hf h)
theorem s_asgD2 (Gd:Good X pr XR C n)(hcal:C.cal=true){own:Bool}{i:Nat}{x:Str}{px:Pos}{ek ev:E}{tg tg1:Tg}{it it1:It}{ow ow1:List Nat}{pk pv ptg pit ptg1 pit1:Expr}{scope:Scope}{lpos:Pos}
  (hN:C.N[i]?=some x) (lx:C.sc.names.lookup x=some .local) (hw:lcSwap C.sc x px (dcX pk pv ptg pit ptg1 pit1 [] [] scope lpos)=true) (hf:own=true→fresh (.dc2 ek ev tg it tg1 it1 ow ow1)=true)
  (hi:PI X ptg pit (gI X XR W cx it)) (bok:BlkOk X.N X.env.scope scope (ownN C.N ow)) (hown:(ownN C.N ow).map (·.2)=ow) (htg:tgIn ow tg=true) (htg1:tgIn ow1 tg1=true) (hsub:∀ i∈ow1,i∈ow)
  (hg:∀ (s:Shared) (H:Hp) (Ca:Addr) (cl:List (Str × Addr)) (fp:List Addr),PG (X.blk s H scope (compEnvC scope cl Ca X.env) fp) ptg (tG X.K X.w tg))
  (hi1:∀ (s:Shared) (H:Hp) (Ca:Addr) (cl:List (Str × Addr)) (fp:List Addr),PI (X.blk s H scope (compEnvC scope cl Ca X.env) fp) ptg1 pit1 (tI X.K X.w XR WF cx it1))
  (hg1:∀ (s:Shared) (H:Hp) (Ca:Addr) (cl:List (Str × Addr)) (fp:List Addr),PG (X.blk s H scope (compEnvC scope cl Ca X.env) fp) ptg1 (tG X.K X.w tg1))
  (hk:∀ (s:Shared) (H:Hp) (Ca:Addr) (cl:List (Str × Addr)) (fp:List Addr),PE (X.blk s H scope (compEnvC scope cl Ca X.env) fp) pk (tE X.K X.w XR WF cx ek))
  (he:∀ (s:Shared) (H:Hp) (Ca:Addr) (cl:List (Str × Addr)) (fp:List Addr),PE (X.blk s H scope (compEnvC scope cl Ca X.env) fp) pv (tE X.K X.w XR WF cx ev))
  (hs:∀ x,foldedSetIterable pit X.env x=pure x) (hs1:∀ env x,foldedSetIterable pit1 env x=pure x):PS X (.Assign [.Name x px] (dcX pk pv ptg pit ptg1 pit1 [] [] scope lpos) pos) (gS X XR W cx (.asg own i (.dc2 ek ev tg it tg1 it1 ow ow1))):=by
 unfold lcSwap at hw
 simp only [Bool.and_eq_true,Bool.not_eq_true'] at hw
 refine PS.of (ps_setDc2 (vs1:=ow1) (Gd.calm hcal) Gd.nd (by rw [Gd.N];exact hN) (by rw [Gd.sc];exact lx) (sw_dict Gd.kind (by rw [Gd.sc];exact lx) hw.2.1 hw.2.2) hi bok (fun i hi=>by rw [hown];exact hsub i hi) hg hi1 hg1 hk he hs hs1) fun D σ H h=>?_
 rw [hown]
 exact dc2_in Gd htg htg1 hsub (put_in hf h)
theorem swaps_dc (Gd:Good X pr XR C n){kx vx:Expr}{gs:List Comprehension}{scope:Scope}{lpos px:Pos}{x:Str}{l:Nat}(h:lcSwap C.sc x px (.DictComp kx vx gs scope lpos)=false) :
  swapsWith (.DictComp kx vx gs scope lpos) (some (.Name x px)) l X.env=pure false:=by
 have hb:X.env.blockKind=.function:=by unfold PySem.Env.blockKind;rw [Gd.kind];rfl
 have hk:X.env.kindOf x=C.sc.names.lookup x:=by show X.env.scope.names.lookup x=_;rw [Gd.sc]
 unfold swapsWith
 simp only [hb,hk,Expr.pos]
 rw [show (ScopeKind.function==ScopeKind.function)=true from rfl,Bool.true_and,Bool.and_assoc]
 exact congrArg pure h
theorem lcSwap_locD {sc:Scope}{x:Str}{px:Pos}{pk pv:Expr}{gs:List Comprehension}{scope:Scope}{pos:Pos}(h:lcSwap sc x px (.DictComp pk pv gs scope pos)=true):sc.names.lookup x=some .local:=by
 unfold lcSwap at h
 simp only [Bool.and_eq_true] at h
 exact eq_of_beq h.1
end
end PL
end
section
namespace PL
open PySem PySem.Spec PyProof.Rows L2
section
variable {XR:XRel}{n:Nat}
theorem swaps_lc {X:Cx}{C:SC}{pr:Prog}(Gd:Good X pr XR C n){elt:Expr}{gs:List Comprehension}{scope:Scope}{pos px:Pos}{x:Str}{l:Nat}(h:lcSwap C.sc x px (.ListComp elt gs scope pos)=false) :
  swapsWith (.ListComp elt gs scope pos) (some (.Name x px)) l X.env=pure false:=by
 have hb:X.env.blockKind=.function:=by unfold Env.blockKind;rw [Gd.kind];rfl
 have hk:X.env.kindOf x=C.sc.names.lookup x:=by show X.env.scope.names.lookup x=_;rw [Gd.sc]
 unfold swapsWith
 simp only [hb,hk,Expr.pos]
 rw [show (ScopeKind.function==ScopeKind.function)=true from rfl,Bool.true_and,Bool.and_assoc]
 exact congrArg pure h
theorem lcSwap_loc {sc:Scope}{x:Str}{px:Pos}{elt:Expr}{gs:List Comprehension}{scope:Scope}{pos:Pos}(h:lcSwap sc x px (.ListComp elt gs scope pos)=true):sc.names.lookup x=some .local:=by
 unfold lcSwap at h
 simp only [Bool.and_eq_true] at h
 exact eq_of_beq h.1
theorem lc_of {C:SC}{e:E}{elt:Expr}{gs:List Comprehension}{scope:Scope}{pos:Pos}(h:chkE C e (.ListComp elt gs scope pos)=true):(∃ e' tg it c own,e=.lc e' tg it c own)∨∃ e' tg it tg1 it1 own own1,e=.lc2 e' tg it tg1 it1 own own1:=by
 cases e<;>first|exact .inl ⟨_,_,_,_,_,rfl⟩|exact .inr ⟨_,_,_,_,_,_,_,rfl⟩|exact (Bool.false_ne_true h).elim|(rename_i a0;cases a0<;>exact (Bool.false_ne_true h).elim)|(rename_i a0 c0;cases a0<;>exact (Bool.false_ne_true h).elim)
theorem dc_of {C:SC}{e:E}{pk pv:Expr}{gs:List Comprehension}{scope:Scope}{pos:Pos}(h:chkE C e (.DictComp pk pv gs scope pos)=true):(∃ k v tg it c own,e=.dc k v tg it c own)∨∃ k v tg it tg1 it1 own own1,e=.dc2 k v tg it tg1 it1 own own1:=by
 cases e<;>first|exact .inl ⟨_,_,_,_,_,_,rfl⟩|exact .inr ⟨_,_,_,_,_,_,_,_,rfl⟩|exact (Bool.false_ne_true h).elim|(rename_i a0;cases a0<;>exact (Bool.false_ne_true h).elim)|(rename_i a0 c0;cases a0<;>exact (Bool.false_ne_true h).elim)
theorem lc_else {C:SC}{e:E}{p:Expr}(h:chkE C e p=true):isLC p=false∨(∃ elt gs scope pos,p=.ListComp elt gs scope pos)∨∃ pk pv gs scope pos,p=.DictComp pk pv gs scope pos:=by
 cases p<;>first|exact .inl rfl|exact .inr (.inl ⟨_,_,_,_,rfl⟩)|exact .inr (.inr ⟨_,_,_,_,_,rfl⟩)|skip
 all_goals
  cases e<;>first|exact (Bool.false_ne_true h).elim|(rename_i a0;cases a0<;>exact (Bool.false_ne_true h).elim)|(rename_i a0 c0;cases a0<;>exact (Bool.false_ne_true h).elim)
def PO (X:Cx):Prop:=PassesOwn (model X.prog X.w) X.A X.env X.xe∧X.stack=X.env::X.outer∧X.env.frame=some X.env.locals
mutual
theorem sSt:∀ (s:S) {pr:Prog} {X:Cx} {C:SC} {W:WX} {p:Stmt},Good X pr XR C n→Takes X W→(C.cal=true→PO X)→chkS C s p=true→PS X p (gS X XR W (pr.cxe n) s)
 | .asg o i e,pr,X,C,W,p,G,tk,po,h=>by
  cases p with
  | Assign v1 v2 v3 =>
   cases v1 with
   | cons v4 v5 =>
    cases v4 with
    | Name x0 p0 =>
     cases v5 with
     | nil =>
      replace h:=show (_&&_)=true from h
      simp only [Bool.and_eq_true,decide_eq_true_eq,Bool.or_eq_true,Bool.not_eq_true'] at h
      obtain ⟨h1,h2,h3,h4⟩:=h
      obtain ⟨l1,l2⟩:=G.st _ h3
      have hf:o=true→fresh e=true:=fun z=>h1.resolve_left (by rw [z];decide)
      rcases lc_else h4 with z|⟨elt,gs,scope,lpos,rfl⟩|⟨pk,pv,gs,scope,lpos,rfl⟩
      ·exact s_asg G.nd (by rw [G.N];exact h2) l1 l2 hf (swaps_no z _ _ _) (sE e G tk h4).v
      rotate_left
      ·cases hw:lcSwap C.sc x0 p0 (.DictComp pk pv gs scope lpos) with
       | false=>exact s_asg G.nd (by rw [G.N];exact h2) l1 l2 hf (swaps_dc G hw) (sE e G tk h4).v
       | true =>
        rcases dc_of h4 with ⟨k',v',tg,it,c,own,rfl⟩|⟨k',v',tg,it,tg1,it1,own,own1,rfl⟩
        ·obtain ⟨pk',pv',ptg,pit,ifs,scope',pos',ep,k0,k1,k2,k3,k4,k5,k6,k7,k7',k8⟩:=inv_dc h4
         cases ep
         refine s_asgD G k0 h2 (lcSwap_locD hw) hw hf (sI it G tk k5 k3) (by rw [G.N,G.sc];exact blkOk_by k2) (ownN_snd k1) k4 (fun s H Ca cl fp=>g_ok (G.blk k0 (blkOk_by k2).kind s H cl Ca fp) k6) (fun s H Ca cl fp=>?_) (fun s H Ca cl fp=>(sE k' (G.blk k0 (blkOk_by k2).kind s H cl Ca fp) Takes.wf k7).v) (fun s H Ca cl fp=>(sE v' (G.blk k0 (blkOk_by k2).kind s H cl Ca fp) Takes.wf k7').v) (foldOk k5 X.env)
         refine sB c (G.blk k0 (blkOk_by k2).kind s H cl Ca fp) Takes.wf ?_
         rcases k8 with ⟨rfl,rfl⟩|⟨c',p',rfl,rfl,h9⟩
         ·trivial
         ·exact h9
        ·obtain ⟨pk',pv',ptg,pit,ptg1,pit1,scope',pos',ep,k0,k1,k2,ks,k3,k4,k4',k5,k6,k7,k8,k9,k10,k11⟩:=inv_dc2 h4
         cases ep
         exact s_asgD2 G k0 h2 (lcSwap_locD hw) hw hf (sI it G tk k5 k3) (by rw [G.N,G.sc];exact blkOk_by k2) (ownN_snd k1) k4 k4' (fun i hi=>by
          have:=List.all_eq_true.mp ks i hi
          simpa using this) (fun s H Ca cl fp=>g_ok (G.blk k0 (blkOk_by k2).kind s H cl Ca fp) k6)
          (fun s H Ca cl fp=>sI it1 (G.blk k0 (blkOk_by k2).kind s H cl Ca fp) Takes.wf k8 k7) (fun s H Ca cl fp=>g_ok (G.blk k0 (blkOk_by k2).kind s H cl Ca fp) k9) (fun s H Ca cl fp=>(sE k' (G.blk k0 (blkOk_by k2).kind s H cl Ca fp) Takes.wf k10).v) (fun s H Ca cl fp=>(sE v' (G.blk k0 (blkOk_by k2).kind s H cl Ca fp) Takes.wf k11).v) (foldOk k5 X.env) fun env=>foldOk k8 env
      ·cases hw:lcSwap C.sc x0 p0 (.ListComp elt gs scope lpos) with
       | false=>exact s_asg G.nd (by rw [G.N];exact h2) l1 l2 hf (swaps_lc G hw) (sE e G tk h4).v
       | true =>
        rcases lc_of h4 with ⟨e',tg,it,c,own,rfl⟩|⟨e',tg,it,tg1,it1,own,own1,rfl⟩
        rotate_left
        ·obtain ⟨pe,ptg,pit,ptg1,pit1,scope',pos',ep,k0,k1,k2,ks,k3,k4,k4',k5,k6,k7,k8,k9,k10⟩:=inv_lc2 h4
         cases ep
         exact s_asgL2 G k0 h2 (lcSwap_loc hw) hw (sI it G tk k5 k3) (by rw [G.N,G.sc];exact blkOk_by k2) (ownN_snd k1) k4 k4' (fun i hi=>by
          have:=List.all_eq_true.mp ks i hi
          simpa using this) (fun s H Ca cl fp=>g_ok (G.blk k0 (blkOk_by k2).kind s H cl Ca fp) k6) (fun s H Ca cl fp=>no_test)
          (fun s H Ca cl fp=>sI it1 (G.blk k0 (blkOk_by k2).kind s H cl Ca fp) Takes.wf k8 k7) (fun s H Ca cl fp=>g_ok (G.blk k0 (blkOk_by k2).kind s H cl Ca fp) k9) (fun s H Ca cl fp=>(sE e' (G.blk k0 (blkOk_by k2).kind s H cl Ca fp) Takes.wf k10).v) (foldOk k5 X.env) fun env=>foldOk k8 env
        obtain ⟨pe,ptg,pit,ifs,scope',pos',ep,k0,k1,k2,k3,k4,k5,k6,k7,k8⟩:=inv_lc h4
        cases ep
        refine s_asgL G k0 h2 (lcSwap_loc hw) hw (sI it G tk k5 k3) (by rw [G.N,G.sc];exact blkOk_by k2) (ownN_snd k1) k4 (fun s H Ca cl fp=>g_ok (G.blk k0 (blkOk_by k2).kind s H cl Ca fp) k6) (fun s H Ca cl fp=>?_) (fun s H Ca cl fp=>(sE e' (G.blk k0 (blkOk_by k2).kind s H cl Ca fp) Takes.wf k7).v) (foldOk k5 X.env)
        refine sB c (G.blk k0 (blkOk_by k2).kind s H cl Ca fp) Takes.wf ?_
        rcases k8 with ⟨rfl,rfl⟩|⟨c',p',rfl,rfl,h9⟩
        ·trivial
        ·exact h9
     | _=>exact (Bool.false_ne_true h).elim
    | _=>exact (Bool.false_ne_true h).elim
   | _=>exact (Bool.false_ne_true h).elim
  | _=>exact (Bool.false_ne_true h).elim
 | .asgs fz i e,pr,X,C,W,p,G,tk,po,h=>(Bool.false_ne_true h).elim
 | .par2 o1 o2 i j a b,pr,X,C,W,p,G,tk,po,h=>by
  cases p with
  | Assign v15 v16 v17 =>
   cases v15 with
   | cons v18 v19 =>
    cases v18 with
    | Tuple v20 v21 v22 =>
     cases v20 with
     | cons v23 v24 =>
      cases v23 with
      | Name v25 v26 =>
       cases v24 with
       | cons v27 v28 =>
        cases v27 with
        | Name v29 v30 =>
         cases v28 with
         | nil =>
          cases v19 with
          | nil =>
           cases v16 with
           | Tuple v31 v32 v33 =>
            cases v31 with
            | cons v34 v35 =>
             cases v35 with
             | cons v36 v37 =>
              cases v37 with
              | nil =>
               replace h:=show (_&&_)=true from h
               simp only [locB,Bool.and_eq_true,decide_eq_true_eq,Bool.or_eq_true,Bool.not_eq_true'] at h
               obtain ⟨h0,⟨f1,f2⟩,⟨n1,n2,n3⟩,⟨l1,l2⟩,hw,⟨s1,s2⟩,c1,c2⟩:=h
               exact s_par2 G h0 (fun z=>f1.resolve_left (by rw [z];decide)) (fun z=>f2.resolve_left (by rw [z];decide)) n1 n2 n3 l1 l2 hw s1 s2 (sE a G tk c1).v (sE b G tk c2).v
              | _=>exact (Bool.false_ne_true h).elim
             | _=>exact (Bool.false_ne_true h).elim
            | _=>exact (Bool.false_ne_true h).elim
           | _=>exact (Bool.false_ne_true h).elim
          | _=>exact (Bool.false_ne_true h).elim
         | _=>exact (Bool.false_ne_true h).elim
        | _=>exact (Bool.false_ne_true h).elim
       | _=>exact (Bool.false_ne_true h).elim
      | _=>exact (Bool.false_ne_true h).elim
     | _=>exact (Bool.false_ne_true h).elim
    | _=>exact (Bool.false_ne_true h).elim
   | _=>exact (Bool.false_ne_true h).elim
  | _=>exact (Bool.false_ne_true h).elim
 | .par3 o1 o2 o3 i j l a b c,pr,X,C,W,p,G,tk,po,h=>(Bool.false_ne_true h).elim
 | .asgT2 o1 o2 i j a b,pr,X,C,W,p,G,tk,po,h=>(Bool.false_ne_true h).elim
 | .asgT tg e,pr,X,C,W,p,G,tk,po,h=>by
  cases p with
  | Assign v90 v91 v92 =>
   cases v90 with
   | cons v93 v94 =>
    cases v93 with
    | Tuple v95 v96 v97 =>
     cases v94 with
     | nil =>
      replace h:=show (_&&_)=true from h
      simp only [Bool.and_eq_true,decide_eq_true_eq] at h
      obtain ⟨h1,h3,h4⟩:=h
      exact s_asgT G h1 (g_ok G h3) (sE e G tk h4).v
     | _=>exact (Bool.false_ne_true h).elim
    | _=>exact (Bool.false_ne_true h).elim
   | _=>exact (Bool.false_ne_true h).elim
  | _=>exact (Bool.false_ne_true h).elim
 | .frz fz,pr,X,C,W,p,G,tk,po,h=>by
  first|exact (Bool.false_ne_true h).elim|(cases p<;>exact (Bool.false_ne_true h).elim)
 | .aug i e,pr,X,C,W,p,G,tk,po,h=>(Bool.false_ne_true h).elim
 | .dnew i,pr,X,C,W,p,G,tk,po,h=>(Bool.false_ne_true h).elim
 | .dput i k e,pr,X,C,W,p,G,tk,po,h=>(Bool.false_ne_true h).elim
 | .app fz i e,pr,X,C,W,p,G,tk,po,h=>(Bool.false_ne_true h).elim
 | .ext fz i e,pr,X,C,W,p,G,tk,po,h=>by
  cases p with
  | Expr v131 v132 =>
   cases v131 with
   | Call v133 v134 v135 v136 =>
    cases v133 with
    | Attribute v137 v138 v139 =>
     cases v137 with
     | Name v140 v141 =>
      cases v134 with
      | cons v142 v143 =>
       cases v143 with
       | nil =>
        cases v135 with
        | nil =>
         replace h:=show (_&&_)=true from h
         simp only [Bool.and_eq_true,decide_eq_true_eq,Bool.not_eq_true'] at h
         obtain ⟨rfl,h1,h2,h3,h4,h5,h6⟩:=h
         exact s_ext G h1 h2 (vis_of G h3) h4 h5 (sE e G tk h6).v
        | _=>exact (Bool.false_ne_true h).elim
       | _=>exact (Bool.false_ne_true h).elim
      | _=>exact (Bool.false_ne_true h).elim
     | _=>exact (Bool.false_ne_true h).elim
    | _=>exact (Bool.false_ne_true h).elim
   | _=>exact (Bool.false_ne_true h).elim
  | _=>exact (Bool.false_ne_true h).elim
 | .exp e,pr,X,C,W,p,G,tk,po,h=>(Bool.false_ne_true h).elim
 | .ite fz c a b,pr,X,C,W,p,G,tk,po,h=>by
  cases p with
  | If v146 v147 v148 v149 =>
   replace h:=show (_&&_)=true from h
   simp only [Bool.and_eq_true] at h
   exact s_ite (sE c G tk h.1).t (sSs a G tk po h.2.1) (sSs b G tk po h.2.2)
  | _=>exact (Bool.false_ne_true h).elim
 | .whl fz c b,pr,X,C,W,p,G,tk,po,h=>by
  cases p with
  | While v150 v151 v152 v153 =>
   cases v152 with
   | nil =>
    replace h:=show (_&&_)=true from h
    simp only [Bool.and_eq_true] at h
    exact s_whl (po h.1).1 (sE c G tk h.2.1).t (sSs b G tk po h.2.2)
   | _=>exact (Bool.false_ne_true h).elim
  | _=>exact (Bool.false_ne_true h).elim
 | .for_ tg it b,pr,X,C,W,p,G,tk,po,h=>by
  cases p with
  | For v154 v155 v156 v157 v158 =>
   cases v157 with
   | nil =>
    replace h:=show (_&&_)=true from h
    simp only [Bool.and_eq_true] at h
    exact s_for G h.1 (po h.1).1 (foldOk h.2.2.2.1 X.env) (sI it G tk h.2.2.2.1 h.2.1) (g_ok G h.2.2.1) (sSs b G tk po h.2.2.2.2)
   | _=>exact (Bool.false_ne_true h).elim
  | _=>exact (Bool.false_ne_true h).elim
 | .ret e,pr,X,C,W,p,G,tk,po,h=>by
  cases p with
  | Return v159 v160 =>
   cases v159 with
   | some v161 =>
    exact s_ret (sE e G tk h).v
   | _=>exact (Bool.false_ne_true h).elim
  | _=>exact (Bool.false_ne_true h).elim
 | .retN,pr,X,C,W,p,G,tk,po,h=>(Bool.false_ne_true h).elim
 | .pass,pr,X,C,W,p,G,tk,po,h=>(Bool.false_ne_true h).elim
 | .brk,pr,X,C,W,p,G,tk,po,h=>(Bool.false_ne_true h).elim
 | .cnt,pr,X,C,W,p,G,tk,po,h=>(Bool.false_ne_true h).elim
 | .mtch e cs,pr,X,C,W,p,G,tk,po,h=>by
  cases p with
  | Match v167 v168 v169 =>
   replace h:=show (_&&_)=true from h
   simp only [Bool.and_eq_true] at h
   exact s_mtch G h.1 (sE e G tk h.2.1).v (sCs cs G tk po h.2.2)
  | _=>exact (Bool.false_ne_true h).elim
 | .never,pr,X,C,W,p,G,tk,po,h=>by
  exact PS.of ps_never fun D σ H h=>by
   obtain ⟨F,G,B,env,st,ok,h⟩:=h
   exact h
 | .raise c,pr,X,C,W,p,G,tk,po,h=>(Bool.false_ne_true h).elim
 | .tryA cs i b hd,pr,X,C,W,p,G,tk,po,h=>(Bool.false_ne_true h).elim
 | .tryO cs b hd,pr,X,C,W,p,G,tk,po,h=>(Bool.false_ne_true h).elim
 | .sPutB i e,pr,X,C,W,p,G,tk,po,h=>by
  cases p with
  | Assign v213 v214 v215 =>
   cases v213 with
   | cons v216 v217 =>
    cases v216 with
    | Subscript v218 v219 v220 =>
     cases v218 with
     | Subscript v221 v222 v223 =>
      cases v221 with
      | Name v224 v225 =>
       cases v222 with
       | Constant v226 v227 v228 =>
        cases v226 with
        | int v229 =>
         cases v219 with
         | Constant v230 v231 v232 =>
          cases v230 with
          | int v233 =>
           cases v217 with
           | nil =>
            replace h:=show (_&&_)=true from h
            simp only [Bool.and_eq_true,decide_eq_true_eq,Bool.not_eq_true'] at h
            obtain ⟨rfl,rfl,h1,h2,h3,h4,h5⟩:=h
            exact s_putB G h1 (vis_of G h2) h3 h4 (sE e G tk h5).v
           | _=>exact (Bool.false_ne_true h).elim
          | _=>exact (Bool.false_ne_true h).elim
         | _=>exact (Bool.false_ne_true h).elim
        | _=>exact (Bool.false_ne_true h).elim
       | _=>exact (Bool.false_ne_true h).elim
      | _=>exact (Bool.false_ne_true h).elim
     | _=>exact (Bool.false_ne_true h).elim
    | _=>exact (Bool.false_ne_true h).elim
   | _=>exact (Bool.false_ne_true h).elim
  | _=>exact (Bool.false_ne_true h).elim
 | .sPop i,pr,X,C,W,p,G,tk,po,h=>by
  cases p with
  | Expr v234 v235 =>
   cases v234 with
   | Call v236 v237 v238 v239 =>
    cases v236 with
    | Attribute v240 v241 v242 =>
     cases v240 with
     | Subscript v243 v244 v245 =>
      cases v243 with
      | Name v246 v247 =>
       cases v244 with
       | Constant v248 v249 v250 =>
        cases v248 with
        | int v251 =>
         cases v237 with
         | cons v252 v253 =>
          cases v252 with
          | Constant v254 v255 v256 =>
           cases v254 with
           | int v257 =>
            cases v253 with
            | nil =>
             cases v238 with
             | nil =>
              replace h:=show (_&&_)=true from h
              simp only [Bool.and_eq_true,decide_eq_true_eq] at h
              obtain ⟨rfl,rfl,rfl,h0,h1,h2,h3⟩:=h
              exact s_pop G h0 h1 (vis_of G h2) h3
             | _=>exact (Bool.false_ne_true h).elim
            | _=>exact (Bool.false_ne_true h).elim
           | _=>exact (Bool.false_ne_true h).elim
          | _=>exact (Bool.false_ne_true h).elim
         | _=>exact (Bool.false_ne_true h).elim
        | _=>exact (Bool.false_ne_true h).elim
       | _=>exact (Bool.false_ne_true h).elim
      | _=>exact (Bool.false_ne_true h).elim
     | _=>exact (Bool.false_ne_true h).elim
    | _=>exact (Bool.false_ne_true h).elim
   | _=>exact (Bool.false_ne_true h).elim
  | _=>exact (Bool.false_ne_true h).elim
 | .sPutT i e,pr,X,C,W,p,G,tk,po,h=>by
  cases p with
  | Assign v258 v259 v260 =>
   cases v258 with
   | cons v261 v262 =>
    cases v261 with
    | Subscript v263 v264 v265 =>
     cases v263 with
     | Name v266 v267 =>
      cases v264 with
      | Constant v268 v269 v270 =>
       cases v268 with
       | int v271 =>
        cases v262 with
        | nil =>
         replace h:=show (_&&_)=true from h
         simp only [Bool.and_eq_true,decide_eq_true_eq,Bool.not_eq_true'] at h
         obtain ⟨rfl,h1,h2,h3,h4,h5⟩:=h
         exact s_putT G h1 (vis_of G h2) h3 h4 (sE e G tk h5).v
        | _=>exact (Bool.false_ne_true h).elim
       | _=>exact (Bool.false_ne_true h).elim
      | _=>exact (Bool.false_ne_true h).elim
     | _=>exact (Bool.false_ne_true h).elim
    | _=>exact (Bool.false_ne_true h).elim
   | _=>exact (Bool.false_ne_true h).elim
  | _=>exact (Bool.false_ne_true h).elim
 | .retS e j,pr,X,C,W,p,G,tk,po,h=>by
  cases p with
  | Return v272 v273 =>
   cases v272 with
   | some v274 =>
    cases v274 with
    | List v275 v276 =>
     cases v275 with
     | cons v277 v278 =>
      cases v278 with
      | cons v279 v280 =>
       cases v279 with
       | IfExp v281 v282 v283 v284 =>
        cases v281 with
        | Compare v285 v286 v287 v288 =>
         cases v285 with
         | Name v289 v290 =>
          cases v286 with
          | cons v291 v292 =>
           cases v291 with
           | NotEq =>
            cases v292 with
            | nil =>
             cases v287 with
             | cons v293 v294 =>
              cases v293 with
              | List v295 v296 =>
               cases v295 with
               | nil =>
                cases v294 with
                | nil =>
                 cases v282 with
                 | Name v297 v298 =>
                  cases v283 with
                  | List v299 v300 =>
                   cases v299 with
                   | cons v301 v302 =>
                    cases v301 with
                    | Constant v303 v304 v305 =>
                     cases v303 with
                     | int v306 =>
                      cases v302 with
                      | nil =>
                       cases v280 with
                       | cons v307 v308 =>
                        cases v307 with
                        | Constant v309 v310 v311 =>
                         cases v309 with
                         | int v312 =>
                          cases v308 with
                          | nil =>
                           replace h:=show (_&&_)=true from h
                           simp only [Bool.and_eq_true,decide_eq_true_eq,Bool.not_eq_true'] at h
                           obtain ⟨rfl,rfl,rfl,h1,h2,h3,h4,h5,h6⟩:=h
                           exact s_retS G h1 (vis_of G h2) h3 h4 h5 (sE e G tk h6).v
                          | _=>exact (Bool.false_ne_true h).elim
                         | _=>exact (Bool.false_ne_true h).elim
                        | _=>exact (Bool.false_ne_true h).elim
                       | _=>exact (Bool.false_ne_true h).elim
                      | _=>exact (Bool.false_ne_true h).elim
                     | _=>exact (Bool.false_ne_true h).elim
                    | _=>exact (Bool.false_ne_true h).elim
                   | _=>exact (Bool.false_ne_true h).elim
                  | _=>exact (Bool.false_ne_true h).elim
                 | _=>exact (Bool.false_ne_true h).elim
                | _=>exact (Bool.false_ne_true h).elim
               | _=>exact (Bool.false_ne_true h).elim
              | _=>exact (Bool.false_ne_true h).elim
             | _=>exact (Bool.false_ne_true h).elim
            | _=>exact (Bool.false_ne_true h).elim
           | _=>exact (Bool.false_ne_true h).elim
          | _=>exact (Bool.false_ne_true h).elim
         | _=>exact (Bool.false_ne_true h).elim
        | _=>exact (Bool.false_ne_true h).elim
       | _=>exact (Bool.false_ne_true h).elim
      | _=>exact (Bool.false_ne_true h).elim
     | _=>exact (Bool.false_ne_true h).elim
    | _=>exact (Bool.false_ne_true h).elim
   | _=>exact (Bool.false_ne_true h).elim
  | _=>exact (Bool.false_ne_true h).elim
theorem sSs:∀ (s:Ss) {pr:Prog} {X:Cx} {C:SC} {W:WX} {p:List Stmt},Good X pr XR C n→Takes X W→(C.cal=true→PO X)→chkSs C s p=true→PSs X p (gSs X XR W (pr.cxe n) s)
 | .nil,pr,X,C,W,p,G,tk,po,h=>by
  cases p with
  | nil=>exact ss_nil
  | cons _ _=>simp [chkSs] at h
 | .cons s r,pr,X,C,W,p,G,tk,po,h=>by
  by_cases hz:∃ fz,s=.frz fz
  ·obtain ⟨fz,rfl⟩:=hz
   have h':chkSs C r p=true:=by cases p<;>simpa [chkSs] using h
   exact ss_frz (sSs r G tk po h')
  ·cases p with
   | nil =>
    cases s<;>first|(simp [chkSs] at h;done)|exact absurd ⟨_,rfl⟩ hz
   | cons p ps =>
    have h':chkS C s p=true∧chkSs C r ps=true:=by
     cases s<;>first|exact absurd ⟨_,rfl⟩ hz|(simpa [chkSs] using h)
    exact ss_cons (sSt s G tk po h'.1) (sSs r G tk po h'.2)
theorem sCs:∀ (s:Cs) {pr:Prog} {X:Cx} {C:SC} {W:WX} {p:List MatchCase},Good X pr XR C n→Takes X W→(C.cal=true→PO X)→chkC C s p=true→PCs X XR W (pr.cxe n) C s p
 | .nil,pr,X,C,W,p,G,tk,po,h=>by
  cases p with
  | nil=>exact .nil
  | cons _ _=>simp [chkC] at h
 | .cons q b r,pr,X,C,W,p,G,tk,po,h=>by
  unfold chkC at h
  split at h<;>try contradiction
  rename_i heq
  cases heq
  simp only [Bool.and_eq_true] at h
  exact .cons h.1 (sSs b G tk po h.2.1) (sCs r G tk po h.2.2)
end
end
end PL
end
section
namespace PL
open PySem PySem.Spec PyProof.Rows L2
def spR (K:PySem.W.Frag)(w:World)(XR:XRel)(g:List D→St→R D)(np:Nat):Sp:=fun vs H Q E =>
 ∃ (F:Foot) (B:Addr→Prop) (st:St) (ds:List D),vs.length=np∧(∀ b,B b→H b≠none)∧SR st F H∧RepL K w F B H vs ds ∧
  match g ds st with
  | .ok d st'=>∀ v F' H',Ext F H F' H'→SR st' F' H'→Rep K w F' B H' v d→Q v H'
  | .exc c fs st'=>∀ cls dx F' H',Ext F H F' H'→SR st' F' H'→XR c fs cls dx F' H'→E cls dx H'
  | .no=>False
inductive DefIs (P:Program) (w:World) (K:PySem.W.Frag) (mg:Str→Option Value) (base:Heap) (XR:XRel) (pr:Prog) (fname gname:Nat→Option Str) (xt:XT) (f:Nat) (nm:Str) (a:Addr) (fd:FuncData) (ps:List Str):Prop
 | fn (N:List Str) (own qual:Str) (sd:Stmt) (b:Ss) (F:Fun K own qual sd a fd) (e:pr.fns f=some (.fn ps.length N.length b)) (c:chkFn fname gname xt N ps b sd=true)
 | prim (g:List D→St→R D) (e:pr.fns f=some (.prim g)) (l:∀ ds st,g ds st≠.no→ds.length=ps.length) (r:∀ n,FnG P w K mg base (n+1) a fd ps (spR K w XR g ps.length))
structure ModIs (P:Program)(w:World)(K:PySem.W.Frag)(mg:Str→Option Value)(base:Heap)(XR:XRel)(pr:Prog)(fname gname:Nat→Option Str)(xt:XT)(par:Nat→List Str):Prop where
 fns:∀ f nm,fname f=some nm→∃ (a:Addr) (fd:FuncData),mg nm=some (.ref a)∧PySem.W.keepIn K (.ref a)=true∧Binds K fd (par f) []∧DefIs P w K mg base XR pr fname gname xt f nm a fd (par f)
 gls:∀ g nm d,gname g=some nm→pr.gl g=some d→∃ (u:Value) (v:V),mg nm=some u∧RelV v u∧∀ F B H,Rep K w F B H v d
 blt:∀ x∈bltNames,mg x=none
 shown:pr.shown=shownD
 made:∀ c nm anc,xt.cls.lookup c=some (nm,anc)→∃ D:Addr,mg nm=some (.ref D)∧MadeK K D∧∀ F H,XR c [] (.ref D) none F H
 err:∀ c fs cls dx F H,XR c fs cls dx F H→∃ (D:Addr) (nm:Str) (anc:List Str),cls=.ref D∧xt.cls.lookup c=some (nm,anc)∧ClsX K mg xt c D∧(fs=[]→dx=none)
 nms:∀ x∈xt.nms,∃ E:Addr,mg x=some (.ref E)
 er:pr.er=none
theorem scope_ok {N ps:List Str}{sc:Scope}(h:scopeOk N ps sc=true):FnScope N ps sc∧N.all okName=true:=by
 unfold scopeOk at h
 simp only [Bool.and_eq_true,Bool.not_eq_true',decide_eq_true_eq,List.all_eq_true] at h
 obtain ⟨h1,h2,h3,h4,h5,h6,h7,h8⟩:=h
 refine ⟨⟨?_,h2,h3,h4,h5,fun x hx=>?_,fun y hy e=>?_⟩,by simpa using h7⟩
 ·split at h1
  ·assumption
  ·cases h1
 ·have q:=h6 x hx
  unfold isLoc at q
  split at q
  ·exact .inl (by assumption)
  ·exact .inr (by assumption)
  ·cases q
 ·have q:=h8 y hy
  rw [e] at q
  cases q
theorem run_len {P:Program}{w:World}{K:PySem.W.Frag}{mg:Str→Option Value}{base:Heap}{XR:XRel}{pr:Prog}{fname gname:Nat→Option Str}{xt:XT}{f:Nat}{nm:Str}{a:Addr}{fd:FuncData}{ps:List Str}
  (h:DefIs P w K mg base XR pr fname gname xt f nm a fd ps) (n:Nat) (ds:List D) (st:St) (e:run pr n f ds st≠.no):ds.length=ps.length:=by
 cases n with
 | zero=>exact absurd rfl e
 | succ n =>
  cases h with
  | fn N own qual sd b F e1 c =>
   unfold run at e
   rw [e1] at e
   dsimp only at e
   split at e
   ·assumption
   ·exact absurd rfl e
  | prim g e1 l r =>
   refine l ds st fun z=>e ?_
   unfold run
   rw [e1]
   exact z
theorem entry_get {n:Nat}{ds:List D}{i:Nat}{s:Slot}(h:(entry n ds)[i]?=some s):s=.un∨∃ d,s=.val d∧ds[i]?=some d:=by
 unfold entry at h
 by_cases hi:i<(ds.map Slot.val).length
 ·rw [List.getElem?_append_left hi,List.getElem?_map] at h
  cases e:ds[i]? with
  | none=>rw [e] at h;cases h
  | some d=>rw [e] at h;cases h;exact .inr ⟨d,rfl,rfl⟩
 ·rw [List.getElem?_append_right (by omega),List.getElem?_replicate] at h
  split at h
  ·cases h;exact .inl rfl
  ·cases h
theorem start_ok {K:PySem.W.Frag}{w:World}{F:Foot}{B:Addr→Prop}{H:Hp}{vs:List V}{ds:List D}{st:St}{N:List Str}(occ:∀ b,B b→H b≠none)(s:SR st F H)(r:RepL K w F B H vs ds):OkS K w F B B (start N vs) H (entry N.length ds) st:=by
 have hl:=r.length
 have noOwn:∀ (i:Nat) (s:Slot),s.isOwn=true→(entry N.length ds)[i]?≠some s:=fun i s os e=>by
  rcases entry_get e with z|⟨d,z,_⟩<;>(subst z;cases os)
 refine ⟨⟨?_,fun i d e=>?_,fun i s os e=>absurd e (noOwn i s os),fun i j s t a os ot e1 e2 e3 e4=>absurd e1 (noOwn i s os),occ,s⟩,fun _ h=>h,fun i s a os e1 e2=>absurd e1 (noOwn i s os)⟩
 ·unfold L2.start entry
  simp [hl]
 ·rcases entry_get e with z|⟨d',z,e2⟩
  ·cases z
  ·cases z
   obtain ⟨v,h1,h2⟩:=r.get e2
   refine ⟨v,?_,h2⟩
   unfold L2.start
   have hi:i<vs.length:=(List.getElem?_eq_some_iff.mp h1).1
   rw [List.getElem?_append_left (by simpa using hi),List.getElem?_map,h1]
   rfl
theorem StepS.ext {F F':Foot}{G B':Addr→Prop}{H H':Hp}(x:StepS F G G H F' B' H'):Ext F H F' H' :=
 ⟨fun a f h=>by
  have:=x.keep a f (Classical.em (G a)).symm h
  exact ⟨this.1,this.2.1⟩,x.occ,x.at_⟩
theorem good_of {P:Program}{w:World}{K:PySem.W.Frag}{mg:Str→Option Value}{base:Heap}{XR:XRel}{pr:Prog}{fname gname:Nat→Option Str}{xt:XT}{n:Nat}{N ps:List Str}{sd:Stmt}{qual:Str}{fa:Addr}{cdv:Value}{A:Around}{outer:List PySem.Env}{s:Shared}{H:Hp}{E:XK}
  {par:Nat→List Str} (M:ModIs P w K mg base XR pr fname gname xt par) (hs:scopeOk N ps (defScope sd)=true) (hr:Room n (A.deeper (envOfC qual (defScope sd) s.heap.objs.size fa cdv))) (hg:A.guards=some [])
  (ih:∀ f nm,fname f=some nm→∃ (a:Addr) (fd:FuncData) (ps:List Str),mg nm=some (.ref a)∧PySem.W.keepIn K (.ref a)=true∧Binds K fd ps []∧(∀ ds st,run pr n f ds st≠.no→ds.length=ps.length)∧FnG P w K mg base n a fd ps (spG K w XR pr n f ps.length)) :
  Good (cxOf (L2.CX P w) P w K mg base N qual (defScope sd) fa cdv A outer s H E) pr XR (fnSC fname gname xt (defScope sd) N) n:=by
 obtain ⟨S,_⟩:=scope_ok hs
 exact {
  sc:=rfl
  kind:=S.kind
  N:=rfl
  nd:=S.nd
  st:=fun x h=>by
   refine ⟨?_,.inl rfl⟩
   have h':isLoc (defScope sd) x=true:=h
   unfold isLoc at h'
   split at h'
   ·exact .inl (by assumption)
   ·exact .inr (by assumption)
   ·cases h'
  calm:=fun _=>rfl
  made:=M.made
  err:=M.err
  held:=fun c k e=>by rw [M.er] at e;cases e
  nms:=M.nms
  room:=fun _=>hr
  un:=hr.un
  gd:=hg
  fns:=ih
  gls:=M.gls
  blt:=M.blt
  shown:=M.shown }
theorem all_fn {P:Program}{w:World}{K:PySem.W.Frag}{mg:Str→Option Value}{base:Heap}{XR:XRel}{pr:Prog}{fname gname:Nat→Option Str}{xt:XT}{par:Nat→List Str}(M:ModIs P w K mg base XR pr fname gname xt par) :
  ∀ n f nm,fname f=some nm→∃ (a:Addr) (fd:FuncData),mg nm=some (.ref a)∧PySem.W.keepIn K (.ref a)=true∧Binds K fd (par f) []∧(∀ ds st,run pr n f ds st≠.no→ds.length=(par f).length)∧FnG P w K mg base n a fd (par f) (spG K w XR pr n f (par f).length)
 | 0,f,nm,h=>by
  obtain ⟨a,fd,h1,h2,h3,h4⟩:=M.fns f nm h
  refine ⟨a,fd,h1,h2,h3,fun ds st e=>absurd rfl e,⟨fun vs H Q E hsp=>?_,fun A outer s H args us vs Q E _ _ _ _ _ hsp=>?_⟩⟩
  ·obtain ⟨F,B,st,ds,hl,_⟩:=hsp
   exact hl
  ·obtain ⟨F,B,st,ds,_,_,_,_,z⟩:=hsp
   exact z.elim
 | n+1,f,nm,h=>by
  obtain ⟨a,fd,h1,h2,h3,h4⟩:=M.fns f nm h
  refine ⟨a,fd,h1,h2,h3,run_len h4 (n+1),?_⟩
  cases h4 with
  | prim g e l r =>
   have:=r n
   refine ⟨fun vs H Q E hsp=>?_,fun A outer s H args us vs Q E hr hg he hb hv hsp=>this.run A outer s H args us vs Q E hr hg he hb hv ?_⟩
   ·obtain ⟨F,B,st,ds,hl,_⟩:=hsp
    exact hl
   ·obtain ⟨F,B,st,ds,z1,z2,z3,z4,z5⟩:=hsp
    refine ⟨F,B,st,ds,z1,z2,z3,z4,?_⟩
    have e2:run pr (n+1) f ds st=g ds st:=by
     unfold run
     rw [e]
    rw [e2] at z5
    exact z5
  | fn N own qual sd b F e c =>
   have ih:∀ f nm,fname f=some nm→∃ (a:Addr) (fd:FuncData) (ps:List Str),mg nm=some (.ref a)∧PySem.W.keepIn K (.ref a)=true∧Binds K fd ps []∧(∀ ds st,run pr n f ds st≠.no→ds.length=ps.length)∧FnG P w K mg base n a fd ps (spG K w XR pr n f ps.length):=fun f nm h=>by
    obtain ⟨a,fd,h⟩:=all_fn M n f nm h
    exact ⟨a,fd,par f,h⟩
   unfold chkFn at c
   simp only [Bool.and_eq_true] at c
   obtain ⟨S,_⟩:=scope_ok c.1
   refine FnG.of F S (fun vs H Q E hsp=>?_) fun cdv A outer s H vs Q E hr hg hsp=>?_
   ·obtain ⟨F,B,st,ds,hl,_⟩:=hsp
    exact hl
   ·have G:=good_of (qual:=qual) (fa:=a) (cdv:=cdv) (outer:=outer) (s:=s) (H:=H) (E:=E) M c.1 hr hg ih
    have tk:Takes (cxOf (L2.CX P w) P w K mg base N qual (defScope sd) a cdv A outer s H E) (fun cls d _ H=>E cls d H):=takes_of (E:=E) rfl rfl rfl rfl
    have po:=passes_of (X:=cxOf (L2.CX P w) P w K mg base N qual (defScope sd) a cdv A outer s H E) rfl
    refine ⟨_,sSs b G tk (fun _=>⟨po,rfl,rfl⟩) c.2,?_⟩
    obtain ⟨F0,B,st,ds,z1,z2,z3,z4,z5⟩:=hsp
    refine ⟨F0,B,B,entry N.length ds,st,start_ok z2 z3 z4,?_⟩
    rw [show pr.cxe n=pr.cx n by unfold Prog.cxe Prog.cx;rw [M.er]]
    have e2:run pr (n+1) f ds st=outR (evSs (pr.cx n) b (entry N.length ds) st):=by
     unfold run
     rw [e]
     dsimp only
     rw [if_pos (by rw [← z4.length];exact z1)]
    rw [e2] at z5
    cases q:evSs (pr.cx n) b (entry N.length ds) st with
    | next env st' =>
     rw [q] at z5
     exact fun F' B' σ' H' x o=>z5 .non F' H' x.ext o.e.sr .non
    | ret d st' =>
     rw [q] at z5
     exact fun v F' B' H' x g s r=>z5 v F' H' x.ext s (r.anti g)
    | exc c fs env st' =>
     rw [q] at z5
     exact fun cls dx F' B' σ' H' x o r=>z5 cls dx F' H' x.ext o.e.sr r
    | brk env st'=>rw [q] at z5;exact z5.elim
    | cnt env st'=>rw [q] at z5;exact z5.elim
    | no=>rw [q] at z5;exact z5.elim
end PL
end
section
namespace PL
open PySem PySem.Spec PyProof.Rows L2
theorem law_go {P:Program}{w:World}{K:PySem.W.Frag}{mg mb:Str→Option Value}{k:Nat}{fa a:Addr}{x:Str}{s:Shared}{vs:List Value}{ns:List Int}{XR:XRel}{g:List D→St→R D}
  (KX : K.In s.heap) (hns : s.heap.Ns mainGlobals mg) (hb : s.heap.Ns builtinsNs mb) (hbb : ∀ x : Str, x ≠ "__name__" → mb x = bootBuiltins x) (hlim : s.heap.NoLimit) (hg : s.gens = #[])
  (ha : s.heap.get? a = some { cls := .type "list", data := .seq vs.toArray }) (hi : IntsAre vs ns) (hl : ns.length ≤ sizeLine) (hr : Room k callerA)
  (F:∀ base:Heap,K.In base→base.Ns mainGlobals mg→∃ fd:FuncData,Binds K fd [x] []∧FnG P w K mg base k fa fd [x] (spR K w XR g 1))
  (hgo:∃ st',g [.ob 1 (ns.map D.int)] none=.ok (.bl true) st') :
  codeAny (model P w) callerA (.call (.ref fa) ⟨[.ref a],[]⟩) (fun r s'=>r=.ok (.ret (.bool true))∧OldK s.heap s'.heap∧s'.os=s.os∧AllBare s'.gens) s:=by
 have rv:=vals_ints hi
 have lv:=hi.length
 obtain ⟨st',hgo⟩:=hgo
 have main : ∀ H : Hp, (∀ b, H b = none ∨ (b = a ∧ K.lookup a = none ∧ H b = some (.frz { cls := .type "list", data := .seq vs.toArray } (.lst (ns.map V.int))))) →
   Rep K w F0 (fun _=>False) H (.ref a) (.ob 1 (ns.map D.int))→HOk P w H s.heap →
   codeAny (model P w) callerA (.call (.ref fa) ⟨[.ref a],[]⟩) (fun r s'=>r=.ok (.ret (.bool true))∧OldK s.heap s'.heap∧s'.os=s.os∧AllBare s'.gens) s:=by
  intro H hH hrep hok
  have notA:∀ {b:Addr} {o:Obj},s.heap.get? b=some o→(∃ es ep,o.data=.dict es ep)∨K.lookup b=some o→H b=none:=by
   intro b o e hd
   rcases hH b with z|⟨z1,z2,z3⟩
   ·exact z
   ·subst z1
    rcases hd with ⟨es,ep,hd⟩|hd
    ·rw [ha] at e
     have e':=Option.some.inj e
     rw [← e'] at hd
     cases hd
    ·rw [z2] at hd;cases hd
  have keepNs:∀ {b:Addr} {m:Str→Option Value},s.heap.Ns b m→(hidT s.heap H).Ns b m:=by
   intro b m h
   obtain ⟨o,es,ep,e,d,r⟩:=h
   exact ⟨o,es,ep,hidT_get e (notA e (.inl ⟨es,ep,d⟩)),d,r⟩
  have kb:K.In (hidT s.heap H):=fun b o e=>hidT_get (KX b o e) (notA (KX b o e) (.inr e))
  obtain ⟨mc,l1,l2⟩:=hlim
  have md:Mod K mg (hidT s.heap H):=⟨kb,keepNs hns,⟨mb,keepNs hb,hbb⟩,⟨mc,keepNs l1,l2⟩⟩
  have e0:Env0 P w K mg (hidT s.heap H) callerA [] s H:=⟨rfl,md,fun b o e=>of_hidT e,Nat.le_of_eq (hidT_size _ _),trivial,fun b z=>absurd (show b∈([]:List Addr) from z) (by simp),hok,.of_eq hg⟩
  have sp:spR K w XR g 1 [.ref a] H (fun v _=>v=.bl true) (fun _ _ _=>False):=by
   refine ⟨F0,fun _=>False,none,[.ob 1 (ns.map D.int)],rfl,fun b z=>z.elim,⟨rfl,fun b z=>z⟩,.cons hrep .nil,?_⟩
   rw [hgo]
   intro v F' H' _ _ r
   cases r
   rfl
  obtain ⟨fd,bd,F1⟩:=F _ kb (keepNs hns)
  refine codeAny_mono (F1.run callerA [] s H ⟨[.ref a],[]⟩ [.ref a] [.ref a] (fun v _=>v=.bl true) (fun _ _ _=>False) hr rfl e0 (bd s [.ref a] KX rfl) (.cons rfl .nil) sp) fun r s2 h=>?_
  cases r with
  | error e =>
   obtain ⟨_,_,_,_,_,_,_,_,_,_,_,_,z⟩:=h
   exact z.elim
  | ok fl =>
   cases fl with
   | next=>exact h.elim
   | brk=>exact h.elim
   | cont=>exact h.elim
   | ret u =>
    obtain ⟨v,H',os,bare,un,ok2,r,q⟩:=h
    have q':v=.bl true:=q
    rw [q'] at r
    have r':u=Value.bool true:=r
    refine ⟨by rw [r'],OldK.of_keep fun b o e=>?_,os,bare⟩
    rcases hH b with z|⟨z1,_,z3⟩
    ·exact un.keep b o e z (by simp [frs]) (by simp)
    ·obtain ⟨k1,_⟩:=ok2 b _ (un.frzs b _ _ z3)
     subst z1
     rw [ha] at e
     rw [← Option.some.inj e]
     exact k1
 cases hk:K.lookup a with
 | some o =>
  have e:=KX a o hk
  rw [ha] at e
  have e:=Option.some.inj e
  rw [← e] at hk
  refine main (fun _=>none) (fun b=>.inl rfl) (.ob1W ns (.inr ⟨_,vs.toArray,_,hk,rfl,rfl,rfl,by rw [List.size_toArray,lv];exact hl,by simpa using rv⟩)) fun b u z=>by
   have z':(none:Option HO)=some u:=z
   cases z'
 | none =>
  have at_ : ∀ b : Addr, (fun c : Addr => if c = a then some (HO.frz { cls := .type "list", data := .seq vs.toArray } (.lst (ns.map V.int))) else none) b ≠ none → b = a := by
   intro b z
   by_cases hb:b=a
   ·exact hb
   ·exact absurd (if_neg hb) z
  refine main (fun c => if c = a then some (.frz { cls := .type "list", data := .seq vs.toArray } (.lst (ns.map V.int))) else none) (fun b => ?_) (.ob1 ns (if_pos rfl) (fun z => z) (fun z => z)) fun b u z => ?_
  ·by_cases hb:b=a
   ·exact .inr ⟨hb,hk,if_pos hb⟩
   ·exact .inl (if_neg hb)
  ·have hb:=at_ b (by rw [z];simp)
   subst hb
   have z : (if b = b then some (HO.frz { cls := .type "list", data := .seq vs.toArray } (.lst (ns.map V.int))) else none) = some u := z
   rw [if_pos rfl] at z
   have z:=Option.some.inj z
   subst z
   exact ⟨ha,by rw [List.length_map];exact hl,vs,_,rv,ha⟩
theorem law_end {l:PySem.W.OpenLaw}{m k f:Nat}{q:Program}{loose:List Str}{XP:(Str→Option Value)→Heap→Prop}{YP:World→Heap→Prop}{d:DefRec}{K:Params→PySem.W.Frag}{XR:World→XRel}{pr:Prog}{fname gname:Nat→Option Str}{xt:XT}{par:Nat→List Str}{x:Str}
  (hn:l.most=some m) (hm:m≤sizeLine) (hdf:d.params.defaults=[]) (hr:Room k callerA) (hY:∀ (w:World) (h:Heap),YP w h→(K w.params).In h) (hf:fname f=some d.name) (hp:par f=[x])
  (M:∀ (w:World) (mg:Str→Option Value),(∀ y r,PySem.W.nsIn (K w.params) mainGlobals y=some r→mg y=r)→∀ base:Heap,ModIs l.prog w (K w.params) mg base (XR w) pr fname gname xt par)
  (go:∀ ns:List Int,ns.length≤m→∃ st',run pr k f [.ob 1 (ns.map D.int)] none=.ok (.bl true) st') :
  PySem.W.WalkO q loose XP YP l.row.toRowW d [] (fun f vs=>PySem.call f vs):=by
 refine Att.attach_call hn hdf fun w s₀ s₁ mg mb fa o pm cd doc a vs ns G Y ho hd hcd hmg hobj hints hlen hg=>?_
 have KX:=hY w _ Y
 refine law_go (x:=x) (XR:=XR w) (g:=run pr k f) KX G.T.g G.T.b G.T.builtins G.T.nolimit hg hobj hints (Nat.le_trans hlen hm) hr (fun base h1 h2=>?_) (go ns hlen)
 obtain ⟨a',fd',e1,_,e3,_,e5⟩:=all_fn (M w mg (fun y r e=>by cases r with|none=>exact PySem.W.mg_none_of KX G.T.g e|some v=>exact PySem.W.mg_of KX G.T.g e) base) k f d.name hf
 rw [hmg] at e1
 cases e1
 rw [hp] at e3 e5
 exact ⟨fd',e3,e5⟩
end PL
end
section
namespace PL
open PySem PySem.Spec PyProof.Rows L2
theorem rv_ref {a:Addr}:RelV (.ref a) (Value.ref a):=rfl
theorem rv_int {i:Int}{t:Tok}:RelV (.int i) (Value.int i t):=⟨t,rfl⟩
theorem rv_str {x:Str}{t:Tok}:RelV (.str x) (Value.str x t):=⟨t,rfl⟩
structure DefP where
 nm:Str
 ps:List Str
 N:List Str
 sd:Stmt
def fnameL (ds:List (Nat × DefP))(f:Nat):Option Str:=(ds.lookup f).map (·.nm)
def parL (ds:List (Nat × DefP))(f:Nat):List Str:=((ds.lookup f).map (·.ps)).getD []
def gnameL (gs:List (Nat × Str))(g:Nat):Option Str:=gs.lookup g
def progL (fl:List (Nat × Fn))(gl:List (Nat × D)):Prog:={ fns:=fun f=>fl.lookup f,gl:=fun g=>gl.lookup g,shown:=shownD }
def TextOk (fname gname:Nat→Option Str)(xt:XT):List (Nat × DefP)→List (Nat × Fn)→Prop
 | [],[]=>True
 | (i,d)::ds,(j,.fn p n b)::fs=>(j=i∧p=d.ps.length∧n=d.N.length∧chkFn fname gname xt d.N d.ps b d.sd=true)∧TextOk fname gname xt ds fs
 | _,_=>False
theorem TextOk.get {fname gname:Nat→Option Str}{xt:XT}:∀ {ds:List (Nat × DefP)} {fl:List (Nat × Fn)} {i:Nat} {d:DefP},TextOk fname gname xt ds fl→ds.lookup i=some d→∃ b,fl.lookup i=some (.fn d.ps.length d.N.length b)∧chkFn fname gname xt d.N d.ps b d.sd=true
 | [],_,_,_,_,e=>by simp [List.lookup] at e
 | (k,d)::ds,(j,.fn p n b)::fs,i,d',h,e=>by
  obtain ⟨⟨rfl,rfl,rfl,h3⟩,h4⟩:=h
  by_cases hk:i=j
  ·subst hk
   simp [List.lookup] at e
   subst e
   exact ⟨b,by simp [List.lookup],h3⟩
  ·have hb:(i==j)=false:=by simpa using hk
   simp only [List.lookup,hb] at e ⊢
   exact TextOk.get h4 e
 | _::_,[],_,_,h,_=>h.elim
 | _::_,(_,.prim _)::_,_,_,h,_=>h.elim
def DefAt (K:PySem.W.Frag)(d:DefP):Prop:=∃ (a:Addr) (fd:FuncData),PySem.W.nsIn K mainGlobals d.nm=some (some (.ref a))∧(∃ o,Fun K o o d.sd a fd)∧Binds K fd d.ps []
theorem def_at {K:PySem.W.Frag}(d:DefP){f:Addr}{oc:Value}{od an:Option Addr}{osl:Array (Option Value)}{kV doc pm cdv ct:Value}
  (b:∀ (kV doc pm:Value) (an:Option Addr) (cdv ct:Value) (us:List Value),us.length=d.ps.length→bindArgs (PySem.W.fnOf d.nm d.nm (defArgs d.sd) (defBody d.sd) (defScope d.sd) .none kV doc pm an cdv ct) ⟨us,[]⟩=pure (d.ps.zip us))
  (a:PySem.W.nsIn K mainGlobals d.nm=some (some (.ref f)))
  (l:K.lookup f=some ⟨oc,od,.func (PySem.W.fnOf d.nm d.nm (defArgs d.sd) (defBody d.sd) (defScope d.sd) .none kV doc pm an cdv ct),osl⟩)
  (c:PySem.W.codeIn K cdv d.nm=true) (k:PySem.W.keepIn K (.ref f)=true):DefAt K d:=⟨f,_,a,⟨_,fun_mk l c k⟩,(fun_mk l c k).binds b⟩
def DefsAt (K:PySem.W.Frag):List (Nat × DefP)→Prop
 | []=>True
 | d::r=>DefAt K d.2∧DefsAt K r
theorem DefsAt.get {K:PySem.W.Frag}:∀ {ds:List (Nat × DefP)} {i:Nat} {d:DefP},DefsAt K ds→ds.lookup i=some d→DefAt K d
 | [],_,_,_,e=>by simp [List.lookup] at e
 | (k,d)::ds,i,d',h,e=>by
  by_cases hk:i=k
  ·subst hk
   simp [List.lookup] at e
   subst e
   exact h.1
  ·have hb:(i==k)=false:=by simpa using hk
   simp only [List.lookup,hb] at e
   exact DefsAt.get h.2 e
def ConAt (K:PySem.W.Frag)(w:World)(x:Str)(d:D):Prop:=∃ (u:Value) (v:V),PySem.W.nsIn K mainGlobals x=some (some u)∧RelV v u∧∀ F B H,Rep K w F B H v d
def ConsAt (K:PySem.W.Frag)(w:World):List (Nat × Str)→List (Nat × D)→Prop
 | [],[]=>True
 | x::xs,d::ds=>(d.1=x.1∧ConAt K w x.2 d.2)∧ConsAt K w xs ds
 | _,_=>False
theorem ConsAt.get {K:PySem.W.Frag}{w:World}:∀ {xs:List (Nat × Str)} {ds:List (Nat × D)} {i:Nat} {x:Str} {d:D},ConsAt K w xs ds→xs.lookup i=some x→ds.lookup i=some d→ConAt K w x d
 | [],_,_,_,_,_,e,_=>by simp [List.lookup] at e
 | (j,x)::xs,(k,d)::ds,i,_,_,h,e1,e2=>by
  obtain ⟨⟨h1,h2⟩,h3⟩:=h
  simp only at h1 h2
  subst h1
  by_cases hk:i=k
  ·subst hk
   simp [List.lookup] at e1 e2
   subst e1
   subst e2
   exact h2
  ·have hb:(i==k)=false:=by simpa using hk
   simp only [List.lookup,hb] at e1 e2
   exact ConsAt.get h3 e1 e2
 | _::_,[],_,_,_,h,_,_=>h.elim
def FreeAt (K:PySem.W.Frag):List Str→Prop
 | []=>True
 | x::r=>PySem.W.nsIn K mainGlobals x=some none∧FreeAt K r
theorem FreeAt.get {K:PySem.W.Frag}:∀ {l:List Str} {x:Str},FreeAt K l→x∈l→PySem.W.nsIn K mainGlobals x=some none
 | _::_,_,h,.head _=>h.1
 | _::_,_,h,.tail _ m=>FreeAt.get h.2 m
def XR0 (K:PySem.W.Frag)(T:XT):XRel:=fun c fs cls dx _ _=>fs=[]∧dx=none∧∃ (D:Addr) (nm:Str) (anc:List Str),cls=.ref D∧T.cls.lookup c=some (nm,anc)∧PySem.W.nsIn K mainGlobals nm=some (some (.ref D))
def AskAt (K:PySem.W.Frag)(D:Addr)(anc:List Str):List Str→Prop
 | []=>True
 | x::r=>(∃ E:Addr,PySem.W.nsIn K mainGlobals x=some (some (.ref E))∧PySem.W.kitOne K (.ref D) (.ref E)=some (anc.contains x)∧PySem.W.exmOne K (.ref D) (.ref E)=some (anc.contains x))∧AskAt K D anc r
theorem AskAt.get {K:PySem.W.Frag}{D:Addr}{anc:List Str}:∀ {l:List Str} {x:Str},AskAt K D anc l→x∈l→∃ E:Addr,PySem.W.nsIn K mainGlobals x=some (some (.ref E))∧PySem.W.kitOne K (.ref D) (.ref E)=some (anc.contains x)∧PySem.W.exmOne K (.ref D) (.ref E)=some (anc.contains x)
 | _::_,_,h,.head _=>h.1
 | _::_,_,h,.tail _ m=>AskAt.get h.2 m
def ErrsAt (K:PySem.W.Frag)(nms:List Str):List (Nat × Str × List Str)→Prop
 | []=>True
 | c::r=>(∃ D:Addr,PySem.W.nsIn K mainGlobals c.2.1=some (some (.ref D))∧MadeK K D∧ExcC K D∧AskAt K D c.2.2 nms)∧ErrsAt K nms r
theorem ErrsAt.get {K:PySem.W.Frag}{nms:List Str}:∀ {l:List (Nat × Str × List Str)} {c:Nat} {nm:Str} {anc:List Str},ErrsAt K nms l→l.lookup c=some (nm,anc)→∃ D:Addr,PySem.W.nsIn K mainGlobals nm=some (some (.ref D))∧MadeK K D∧ExcC K D∧AskAt K D anc nms
 | [],_,_,_,_,e=>by simp [List.lookup] at e
 | (k,d)::r,c,nm,anc,h,e=>by
  by_cases hk:c=k
  ·subst hk
   simp [List.lookup] at e
   subst e
   exact h.1
  ·have hb:(c==k)=false:=by simpa using hk
   simp only [List.lookup,hb] at e
   exact ErrsAt.get h.2 e
def NamAt (K:PySem.W.Frag):List Str→Prop
 | []=>True
 | x::r=>(∃ E:Addr,PySem.W.nsIn K mainGlobals x=some (some (.ref E)))∧NamAt K r
theorem NamAt.get {K:PySem.W.Frag}:∀ {l:List Str} {x:Str},NamAt K l→x∈l→∃ E:Addr,PySem.W.nsIn K mainGlobals x=some (some (.ref E))
 | _::_,_,h,.head _=>h.1
 | _::_,_,h,.tail _ m=>NamAt.get h.2 m
theorem mod_of {P:Program}{w:World}{K:PySem.W.Frag}{mg:Str→Option Value}{base:Heap}{xt:XT}{ds:List (Nat × DefP)}{fl:List (Nat × Fn)}{gs:List (Nat × Str)}{gl:List (Nat × D)}(NS:∀ y r,PySem.W.nsIn K mainGlobals y=some r→mg y=r)
  (T:TextOk (fnameL ds) (gnameL gs) xt ds fl) (A:DefsAt K ds) (C:ConsAt K w gs gl) (Z:FreeAt K bltNames) (E:ErrsAt K xt.nms xt.cls) (N:NamAt K xt.nms):ModIs P w K mg base (XR0 K xt) (progL fl gl) (fnameL ds) (gnameL gs) xt (parL ds) where
 fns:=fun f nm e=>by
  unfold fnameL at e
  obtain ⟨d,e1,rfl⟩:=Option.map_eq_some_iff.mp e
  obtain ⟨b,t1,t2⟩:=T.get e1
  obtain ⟨a,fd,h1,⟨o,h2⟩,h3⟩:=A.get e1
  have hp:parL ds f=d.ps:=by unfold parL;rw [e1];rfl
  refine ⟨a,fd,NS _ _ h1,h2.kp,by rw [hp];exact h3,?_⟩
  rw [hp]
  exact .fn d.N o o d.sd b h2 t1 t2
 gls:=fun g nm d e1 e2=>by
  obtain ⟨u,v,h1,h2,h3⟩:=C.get (i:=g) e1 e2
  exact ⟨u,v,NS _ _ h1,h2,h3⟩
 blt:=fun x hx=>NS _ _ (Z.get hx)
 shown:=rfl
 made:=fun c nm anc e=>by
  obtain ⟨D,h1,h2,_⟩:=E.get e
  exact ⟨D,NS _ _ h1,h2,fun F H=>⟨rfl,rfl,D,nm,anc,rfl,e,h1⟩⟩
 err:=fun c fs cls dx F H h=>by
  obtain ⟨_,e2,D,nm,anc,e3,e4,e5⟩:=h
  obtain ⟨D',h1,h2,h3,h4⟩:=E.get e4
  rw [h1] at e5
  cases e5
  refine ⟨D,nm,anc,e3,e4,⟨h3,fun nm' anc' e6 x hx=>?_⟩,fun _=>e2⟩
  rw [e4] at e6
  cases e6
  obtain ⟨E',k1,k2,k3⟩:=h4.get hx
  exact ⟨E',NS _ _ k1,k2,k3⟩
 nms:=fun x hx=>by
  obtain ⟨E',h⟩:=N.get hx
  exact ⟨E',NS _ _ h⟩
 er:=rfl
theorem con_int {K:PySem.W.Frag}{w:World}{x:Str}{i:Int}{t:Tok}(h:PySem.W.nsIn K mainGlobals x=some (some (.int i t))):ConAt K w x (.int i):=⟨_,.int i,h,⟨t,rfl⟩,fun _ _ _=>.int i⟩
theorem con_str {K:PySem.W.Frag}{w:World}{x y:Str}{t:Tok}{s:List Nat}(h:PySem.W.nsIn K mainGlobals x=some (some (.str y t)))(e:y.cps.toList=s):ConAt K w x (.str s):=⟨_,.str y,h,⟨t,rfl⟩,fun _ _ _=>.str y s e⟩
inductive DEs (K:PySem.W.Frag) (w:World):List DictEntry→List K0→List V→List D→Prop
 | nil:DEs K w [] [] [] []
 | cons {e:DictEntry} {es:List DictEntry} {x:Str} {t:Tok} {s:List Nat} {ks:List K0} {v:V} {vs:List V} {d:D} {ds:List D} (hk:e.key=.str x t) (hh:e.hash=PyData.keyHash w.params x) (hs:x.cps.toList=s) (rv:RelV v e.val)
   (r:∀ F B H,Rep K w F B H v d) (t:DEs K w es ks vs ds):DEs K w (e::es) (.s s::ks) (v::vs) (d::ds)
theorem DEs.lit {K:PySem.W.Frag}{w:World}:∀ {es:List DictEntry} {ks:List K0} {vs:List V} {ds:List D},DEs K w es ks vs ds→PySem.W.KeysLit w.params es
 | _,_,_,_,.nil=>trivial
 | _,_,_,_,.cons hk hh _ _ _ t=>⟨⟨_,_,hk,hh⟩,t.lit⟩
theorem DEs.reps {K:PySem.W.Frag}{w:World}:∀ {es:List DictEntry} {ks:List K0} {vs:List V} {ds:List D},DEs K w es ks vs ds→ks.length=vs.length∧∀ F B H,RepL K w F B H vs ds
 | _,_,_,_,.nil=>⟨rfl,fun _ _ _=>.nil⟩
 | _,_,_,_,.cons _ _ _ _ r t=>⟨by simp [t.reps.1],fun F B H=>.cons (r F B H) (t.reps.2 F B H)⟩
theorem DEs.find {K:PySem.W.Frag}{w:World}(z:Str):∀ {es:List DictEntry} {ks:List K0} {vs:List V} {ds:List D},DEs K w es ks vs ds →
  match findK (.s z.cps.toList) ks vs with
  | some v=>∃ e,es.find? (·.key.isStr z)=some e∧RelV v e.val
  | none=>es.find? (·.key.isStr z)=none
 | _,_,_,_,.nil=>by simp [findK]
 | _,_,_,_,.cons (e:=e) (x:=x) hk hh hs rv r t=>by
  have ih:=t.find z
  subst hs
  have q:e.key.isStr z=decide (x=z):=by
   rw [hk,PySem.W.isStr_of]
   simp only [Value.isStrOf]
   by_cases hx:x=z
   ·simp [hx]
   ·simp [hx]
  by_cases hx:x=z
  ·subst hx
   simp only [findK,if_true]
   exact ⟨e,by simp [q],rv⟩
  ·have hne:¬ (K0.s x.cps.toList=K0.s z.cps.toList):=by
    intro h
    injection h with h
    exact hx (by rw [← str_of x,← str_of z,h])
   simp only [findK,hne,if_false,List.find?_cons,q,hx,decide_false]
   exact ih
theorem DEs.noref {K:PySem.W.Frag}{w:World}:∀ {es:List DictEntry} {ks:List K0} {vs:List V} {ds:List D},DEs K w es ks vs ds→es.any (·.refKey)=false
 | _,_,_,_,.nil=>rfl
 | _,_,_,_,.cons (e:=e) hk hh hs rv r t=>by
  rw [List.any_cons,t.noref,Bool.or_false]
  obtain ⟨a,b,c⟩:=e
  simp only at hk
  subst hk
  rfl
theorem con_dct {K : PySem.W.Frag}{w : World}{x : Str}{a : Addr}{es : List DictEntry}{n : Nat}{ks : List K0}{vs : List V}{ds : List D}(h : PySem.W.nsIn K mainGlobals x = some (some (.ref a)))(l : K.lookup a = some ⟨.type "dict", none, .dict es.toArray n, #[]⟩)
  (low:(a==sysModules)=false) (E:DEs K w es ks vs ds) (hs:ks.any K0.isS=true):ConAt K w x (.dct ks ds):=by
 refine ⟨_,.ref a,h,rfl,fun F B H=>?_⟩
 refine .dctW (es:=es.toArray) (n:=n) (xs:=vs) ⟨l,by simpa using E.lit,low⟩ hs E.reps.1 (fun z=>?_) (E.reps.2 F B H)
 have f:=E.find z
 have q:PySem.W.nsIn K a z=(match es.find? (·.key.isStr z) with|some e=>some (some e.val)|none=>if es.any (·.refKey) then none else some none):=by
  unfold PySem.W.nsIn
  rw [show K.lookup a = some ⟨.type "dict", none, .dict es.toArray n, #[]⟩ from l]
  rfl
 rw [q]
 cases e:findK (.s z.cps.toList) ks vs with
 | none =>
  rw [e] at f
  rw [f,E.noref]
  exact ⟨none,rfl,rfl⟩
 | some v =>
  rw [e] at f
  obtain ⟨en,h1,h2⟩:=f
  rw [h1]
  exact ⟨some en.val,rfl,en.val,rfl,h2⟩
theorem rep_tupW {K : PySem.W.Frag}{w : World}{a : Addr}{od : Option Addr}{its : List Value}{n : Nat}{sl : Array (Option Value)}{xs : List V}{ds : List D}(l : K.lookup a = some ⟨.type "tuple", od, .seq its.toArray n, sl⟩)(z : its.length ≤ 1000)(v : Vals xs its)(r : ∀ F B H, RepL K w F B H xs ds) :
  ∀ F B H,Rep K w F B H (.ref a) (.tup ds):=fun F B H=>.tupW l rfl rfl (by rw [List.size_toArray,sizeLine_eq];omega) (by simpa using v) (r F B H)
theorem law_endX {l:PySem.W.OpenLaw}{m k f:Nat}{q:Program}{loose:List Str}{XP:(Str→Option Value)→Heap→Prop}{YP:World→Heap→Prop}{d:DefRec}{K:Params→PySem.W.Frag}{pr:Prog}{fname gname:Nat→Option Str}{xt:XT}{par:Nat→List Str}{x:Str}
  (hn:l.most=some m) (hm:m≤sizeLine) (hdf:d.params.defaults=[]) (hr:Room k callerA) (hY:∀ (w:World) (h:Heap),YP w h→(K w.params).In h) (hf:fname f=some d.name) (hp:par f=[x])
  (M:∀ (w:World) (mg:Str→Option Value),(∀ y r,PySem.W.nsIn (K w.params) mainGlobals y=some r→mg y=r)→∀ base:Heap,ModIs l.prog w (K w.params) mg base (XR0 (K w.params) xt) pr fname gname xt par)
  (go:∀ ns:List Int,ns.length≤m→∃ st',run pr k f [.ob 1 (ns.map D.int)] none=.ok (.bl true) st') :
  PySem.W.WalkO q loose XP YP l.row.toRowW d [] (fun f vs=>PySem.call f vs):=law_end hn hm hdf hr hY hf hp M go
end PL
end
section
namespace PL
theorem run_fn {X:Prog}{k f ps ns:Nat}{b:Ss}{ds:List D}{st:St}(h:X.fns f=some (.fn ps ns b))(hl:ds.length=ps):run X (k+1) f ds st=outR (evSs (X.cx k) b (entry ns ds) st):=by
 unfold run
 rw [h]
 simp [hl]
section
@[simp] theorem q_add (a b:Int):bop .add (.int a) (.int b)=some (.int (a+b)):=rfl
@[simp] theorem q_sub (a b:Int):bop .sub (.int a) (.int b)=some (.int (a-b)):=rfl
@[simp] theorem q_mul (a b:Int):bop .mul (.int a) (.int b)=if mulOk a b then some (.int (a*b)) else none:=rfl
@[simp] theorem q_div (a b:Int):bop .div (.int a) (.int b)=if divOk b then some (.int (a.fdiv b)) else none:=rfl
@[simp] theorem q_mod (a b:Int):bop .mod (.int a) (.int b)=if b≠0 then some (.int (a.fmod b)) else none:=rfl
@[simp] theorem q_pow (a b:Int):bop .pow (.int a) (.int b)=if 0≤b∧b≤1000000∧a.natAbs<2^64 then some (.int (a^b.toNat)) else none:=rfl
@[simp] theorem q_addT (a b:List D):bop .add (.tup a) (.tup b)=if a.length+b.length≤line then some (.tup (a++b)) else none:=rfl
@[simp] theorem q_addL (a b:List D):bop .add (.lst a) (.lst b)=if a.length+b.length≤line then some (.lst (a++b)) else none:=rfl
@[simp] theorem q_lt (a b:Int):cop .lt (.int a) (.int b)=some (decide (a<b)):=rfl
@[simp] theorem q_le (a b:Int):cop .le (.int a) (.int b)=some (decide (a≤b)):=rfl
@[simp] theorem q_gt (a b:Int):cop .gt (.int a) (.int b)=some (decide (b<a)):=rfl
@[simp] theorem q_ge (a b:Int):cop .ge (.int a) (.int b)=some (decide (b≤a)):=rfl
@[simp] theorem q_eq (x y:D):cop .eq x y=eqD x y:=rfl
@[simp] theorem q_ne (x y:D):cop .ne x y=(eqD x y).map not:=rfl
@[simp] theorem q_in (x y:D):cop .inn x y=D.has x y:=rfl
@[simp] theorem q_nin (x y:D):cop .nin x y=(D.has x y).map not:=rfl
@[simp] theorem q_eqS (a b:List Nat):eqD (.str a) (.str b)=some (a==b):=rfl
@[simp] theorem q_eqI (a b:Int):eqD (.int a) (.int b)=some (a==b):=by
 show (if D.shaped (.int a)&&D.shaped (.int b) then some (D.eqv (.int a) (.int b)) else none)=_
 rfl
@[simp] theorem q_eqIS (a:Int) (b:List Nat):eqD (.int a) (.str b)=if (D.str b).shaped then some false else none:=by
 show (if D.shaped (.int a)&&D.shaped (.str b) then some (D.eqv (.int a) (.str b)) else none)=_
 rfl
@[simp] theorem q_eqLN (a:List D):eqD (.lst a) (.lst [])=if (D.lst a).shaped then some a.isEmpty else none:=by
 show (if D.shaped (.lst a)&&D.shaped (.lst []) then some (D.eqv (.lst a) (.lst [])) else none)=_
 rw [show D.shaped (.lst [])=true from rfl,Bool.and_true]
 cases a<;>rfl
@[simp] theorem q_eqTS (a:List D) (b:List Nat):eqD (.tup a) (.str b)=if (D.tup a).shaped&&(D.str b).shaped then some false else none:=rfl
@[simp] theorem q_subT (xs:List D) (i:Int):subD (.tup xs) (.int i)=ix xs i:=rfl
@[simp] theorem q_subL (xs:List D) (i:Int):subD (.lst xs) (.int i)=ix xs i:=rfl
@[simp] theorem q_subDS (ks:List K0) (vs:List D) (s:List Nat):subD (.dct ks vs) (.str s)=findK (.s s) ks vs:=rfl
@[simp] theorem q_ix0 {α:Type} (a:α) (l:List α):ix (a::l) 0=some a:=rfl
@[simp] theorem q_ix1 {α:Type} (a b:α) (l:List α):ix (a::b::l) 1=some b:=rfl
@[simp] theorem q_ix2 {α:Type} (a b c:α) (l:List α):ix (a::b::c::l) 2=some c:=rfl
@[simp] theorem q_ix3 {α:Type} (a b c d:α) (l:List α):ix (a::b::c::d::l) 3=some d:=rfl
@[simp] theorem q_hasDS (s:List Nat) (ks:List K0) (vs:List D):D.has (.str s) (.dct ks vs)=some (ks.contains (.s s)):=rfl
@[simp] theorem q_hasT (k:D) (ys:List D):D.has k (.tup ys)=if k.flat&&ys.all D.flat then some (ys.any fun y=>D.eqv y k) else none:=rfl
@[simp] theorem q_hasL (k:D) (ys:List D):D.has k (.lst ys)=if k.shaped&&ys.all D.shaped then some (ys.any fun y=>D.eqv y k) else none:=rfl
@[simp] theorem q_len (sh:D→List Nat) (ds:List D):biD sh .len ds=lenD ds:=rfl
@[simp] theorem q_lenL (xs:List D):lenD [.lst xs]=some (.int xs.length):=rfl
@[simp] theorem q_lenT (xs:List D):lenD [.tup xs]=some (.int xs.length):=rfl
@[simp] theorem q_abs (sh:D→List Nat) (i:Int):biD sh .abs [.int i]=some (.int (if i<0 then -i else i)):=rfl
@[simp] theorem q_max2 (sh:D→List Nat) (i j:Int):biD sh .max2 [.int i,.int j]=some (.int (if j > i then j else i)):=rfl
@[simp] theorem q_min2 (sh:D→List Nat) (i j:Int):biD sh .min2 [.int i,.int j]=some (.int (if j<i then j else i)):=rfl
@[simp] theorem q_maxL (sh:D→List Nat) (xs:List D):biD sh .maxL [.lst xs]=(D.ints xs).bind fun l=>(maxI l).map .int:=rfl
@[simp] theorem q_maxT (sh:D→List Nat) (xs:List D):biD sh .maxL [.tup xs]=(D.ints xs).bind fun l=>(maxI l).map .int:=rfl
@[simp] theorem q_minL (sh:D→List Nat) (xs:List D):biD sh .minL [.lst xs]=match D.ints xs with|some l=>(minI l).map .int|none=>minT xs:=rfl
@[simp] theorem q_sum (sh:D→List Nat) (xs:List D):biD sh .sum [.lst xs]=(D.ints xs).map fun l=>.int l.sum:=rfl
@[simp] theorem q_intB (sh:D→List Nat) (b:Bool):biD sh .int [.bl b]=some (.int (if b then 1 else 0)):=rfl
@[simp] theorem q_intI (sh:D→List Nat) (i:Int):biD sh .int [.int i]=some (.int i):=rfl
@[simp] theorem q_repr (sh:D→List Nat) (d:D):biD sh .repr [d]=if d.reprOk then some (.str (sh d)) else none:=rfl
@[simp] theorem q_tyT (xs:List D) (t:Ty):isTy (.tup xs) t=some (t==.tuple):=rfl
@[simp] theorem q_tyL (xs:List D) (t:Ty):isTy (.lst xs) t=some (t==.list):=rfl
@[simp] theorem q_tyI (i:Int) (t:Ty):isTy (.int i) t=some (t==.int):=rfl
@[simp] theorem q_tyS (s:List Nat) (t:Ty):isTy (.str s) t=some (t==.str):=rfl
@[simp] theorem q_putN (i:Nat) (d:D) (env:Env):putT (.nm i) d env=some (env.set i (.val d)):=rfl
@[simp] theorem q_putT (ts:Tgs) (xs:List D) (env:Env):putT (.tp ts) (.tup xs) env=putTs ts xs env:=rfl
@[simp] theorem q_putNil (env:Env):putTs .nil [] env=some env:=rfl
@[simp] theorem q_putCons (t:Tg) (r:Tgs) (x:D) (xs:List D) (env:Env):putTs (.cons t r) (x::xs) env=(putT t x env).bind (putTs r xs):=rfl
@[simp] theorem q_wipe0 (env:Env):wipeE env []=env:=rfl
@[simp] theorem q_wipe1 (env:Env) (v:Nat) (vs:List Nat):wipeE env (v::vs)=(wipeE env vs).set v .un:=rfl
@[simp] theorem q_frz0 (env:Env):freeze env []=env:=rfl
@[simp] theorem q_mkF (d:D):mk false d=.val d:=rfl
@[simp] theorem q_mkT (ds:List D):mk true (.lst ds)=.own ds:=rfl
@[simp] theorem q_madeOk (ys:List D) (st:St):R.made (.ok ys st)=if ys.length≤line then .ok (.lst ys) st else .no:=rfl
@[simp] theorem q_getV (d:D):Slot.get (.val d)=some d:=rfl
@[simp] theorem q_envget (env:Env) (i:Nat):Env.get env i=(env[i]?).bind Slot.get:=rfl
@[simp] theorem q_itemT (xs:List D):D.items (.tup xs)=some xs:=rfl
@[simp] theorem q_itemL (xs:List D):D.items (.lst xs)=some xs:=rfl
@[simp] theorem q_walkT (xs:List D):D.walk (.tup xs)=some xs:=rfl
@[simp] theorem q_walkL (xs:List D):D.walk (.lst xs)=some xs:=rfl
@[simp] theorem q_enmT (xs:List D):enmO 0 (.tup xs)=some (enmD 0 xs):=rfl
@[simp] theorem q_enmL (xs:List D):enmO 0 (.lst xs)=some (enmD 0 xs):=rfl
@[simp] theorem q_isd (ks:List K0) (vs:List D):D.isDct (.dct ks vs)=some ():=rfl
@[simp] theorem q_isl (xs:List D):D.isLst (.lst xs)=some ():=rfl
@[simp] theorem q_cnt (xs:List D) (b:Bool):cntD (.lst xs) (.bl b)=(D.bools xs).map fun l=>.int (l.count b:Nat):=rfl
@[simp] theorem q_getS (ks:List K0) (vs:List D) (s:List Nat) (z:D):getD (.dct ks vs) (.str s) z=some ((findK (.s s) ks vs).getD z):=rfl
@[simp] theorem q_neg (i:Int):negD (.int i)=some (.int (-i)):=rfl
@[simp] theorem q_trI (i:Int):D.truth (.int i)=some (i != 0):=rfl
@[simp] theorem q_outX (c:Nat) (fs:List D) (env:Env) (st:St):outR (.exc c fs env st)=.exc c fs st:=rfl
@[simp] theorem q_line:line=16777216:=rfl
theorem q_step (fe:Env→St→R D)(fc:Env→St→R Bool)(tg:Tg)(own:List Nat)(env:Env)(d:D)(st:St) :
  lcStep fe fc tg own env d st=R.opt (putT tg d (wipeE env own)) fun env'=>(fc env' st).bind fun t st=>if t then (fe env' st).bind fun y st=>.ok (some y) st else .ok none st:=rfl
@[simp] theorem q_own (env:Env) (i:Nat):ownAt env i=(env[i]?).bind fun s=>match s with|.own ds=>some ds|_=>none:=by
 unfold ownAt
 cases env[i]? with
 | none=>rfl
 | some s=>cases s<;>rfl
end
theorem mapR_of {α:Type}{f:D→St→R (Option D)}{i g:α→D}{st:St}:∀ {l:List α},(∀ a∈l,f (i a) st=.ok (some (g a)) st)→mapR f (l.map i) st=.ok (l.map g) st
 | [],_=>rfl
 | a::l,h=>by
  show mapR f (i a::l.map i) st=_
  unfold mapR
  rw [h a (by simp),R.bind_ok,mapR_of (fun x hx=>h x (by simp [hx]))]
  rfl
theorem mapR_opt {α:Type}{f:D→St→R (Option D)}{i:α→D}{g:α→Option D}{st:St}:∀ {l:List α},(∀ a∈l,f (i a) st=.ok (g a) st)→mapR f (l.map i) st=.ok (l.filterMap g) st
 | [],_=>rfl
 | a::l,h=>by
  show mapR f (i a::l.map i) st=_
  unfold mapR
  rw [h a (by simp),R.bind_ok,mapR_opt (fun x hx=>h x (by simp [hx])),List.filterMap_cons]
  cases g a<;>rfl
theorem forL_inv {f:D→Env→St→Q}{P:Nat→Env→St→Prop}:∀ {ds:List D} {i:Nat} {env:Env} {st:St},P i env st →
  (∀ j d env st,ds[j]?=some d→P (i+j) env st→∃ env' st',f d env st=.next env' st'∧P (i+j+1) env' st')→∃ env' st',forL f ds env st=.next env' st'∧P (i+ds.length) env' st'
 | [],i,env,st,h,_=>⟨env,st,rfl,h⟩
 | d::ds,i,env,st,h,hs=>by
  obtain ⟨env1,st1,e1,h1⟩:=hs 0 d env st rfl h
  obtain ⟨env2,st2,e2,h2⟩:=forL_inv (P:=P) (ds:=ds) (i:=i+1) h1 (fun j x env st hj hp=>by
   have:=hs (j+1) x env st (by simpa using hj) (by rw [show i+(j+1)=i+1+j by omega];exact hp)
   rw [show i+(j+1)+1=i+1+j+1 by omega] at this
   exact this)
  refine ⟨env2,st2,?_,by rw [List.length_cons,show i+(ds.length+1)=i+1+ds.length by omega];exact h2⟩
  unfold forL
  rw [e1]
  exact e2
def Older (s s':Strm)(k:Int):Prop:=s.turn≤s'.turn∧s'.turn≤s.turn+k
def bDraw:Ss:=(.cons (.whl [] (.sHas 0)
 (.cons (.asg false 5 (.sBig 0))
 (.cons (.ite [] (.cmp .gt (.loc 5) (.cst (.int 0)))
 (.cons (.sPutB 0 (.bin .div (.loc 5) (.loc 1)))
 (.cons (.ret (.bin .mod (.loc 5) (.loc 1)))
 .nil))
 .nil)
 (.cons (.sPop 0)
 .nil))))
 (.cons (.asg false 2 (.bin .add (.sTurn 0) (.cst (.int 1))))
 (.cons (.sPutT 0 (.loc 2))
 (.cons (.asg false 3 (.bin .mod (.sCell 0 2) (.cst (.int 2147483587))))
 (.cons (.asg false 4 (.bin .mod (.bin .add (.bin .add (.bin .mul (.loc 3) (.bin .add (.cst (.int 39373)) (.bin .mul (.cst (.int 69069)) (.loc 2)))) (.bin .mul (.bin .mul (.cst (.int 48271)) (.loc 2)) (.loc 2))) (.cst (.int 67))) (.cst (.int 2147483647))))
 (.cons (.ret (.bin .mod (.bin .div (.bin .mod (.bin .mul (.loc 4) (.loc 4)) (.cst (.int 2147483629))) (.cst (.int 16))) (.loc 1)))
 .nil))))))
theorem log2_lt {n k:Nat}(h:n<2^k)(hk:0<k):n.log2<k:=by
 by_cases h0:n=0
 ·subst h0;simpa [Nat.log2_zero] using hk
 ·exact (Nat.log2_lt h0).mpr h
theorem mulOk_of {a b:Int}{j k:Nat}(h1:a.natAbs<2^j)(h2:b.natAbs<2^k)(hj:0<j)(hk:0<k)(h:j+k≤1000000):mulOk a b=true:=by
 unfold mulOk
 have:=log2_lt h1 hj
 have:=log2_lt h2 hk
 simp
 omega
theorem whlL_next {c:Env→St→R Bool}{f:Env→St→Q}{n:Nat}{env env':Env}{st st1 st2:St}(hc:c env st=.ok true st1)(hf:f env st1=.next env' st2):whlL c f (n+1) env st=whlL c f n env' st2:=by
 conv=>lhs;unfold whlL
 rw [hc]
 simp [R.use,hf]
theorem whlL_done {c:Env→St→R Bool}{f:Env→St→Q}{n:Nat}{env:Env}{st st1:St}(hc:c env st=.ok false st1):whlL c f (n+1) env st=.next env st1:=by
 conv=>lhs;unfold whlL
 rw [hc]
 simp [R.use]
theorem whlL_ret {c:Env→St→R Bool}{f:Env→St→Q}{n:Nat}{env:Env}{st st1 st2:St}{d:D}(hc:c env st=.ok true st1)(hf:f env st1=.ret d st2):whlL c f (n+1) env st=.ret d st2:=by
 conv=>lhs;unfold whlL
 rw [hc]
 simp [R.use,hf]
abbrev dEnv (many:Int)(s:Slot):Env:=[.val (.ob 0 []),.val (.int many),.un,.un,.un,s]
abbrev dBody:Ss:=(.cons (.asg false 5 (.sBig 0)) (.cons (.ite [] (.cmp .gt (.loc 5) (.cst (.int 0))) (.cons (.sPutB 0 (.bin .div (.loc 5) (.loc 1))) (.cons (.ret (.bin .mod (.loc 5) (.loc 1))) .nil)) .nil) (.cons (.sPop 0) .nil)))
noncomputable abbrev dWhl (cx:Ctx):=whlL (whlTest (evE cx (.sHas 0)) []) (evSs cx dBody)
theorem draw_loop {cx:Ctx}{many:Int}(hm:0<many)(hm2:divOk many=true):∀ (big:List Int) (n:Nat) (cells:List Int) (turn:Int) (s:Slot),big.length<n →
  (∃ v b',0≤v∧v<many∧b'.length≤big.length∧dWhl cx n (dEnv many s) (some ⟨big,cells,turn⟩)=.ret (.int v) (some ⟨b',cells,turn⟩)) ∨
  (∃ s',dWhl cx n (dEnv many s) (some ⟨big,cells,turn⟩)=.next (dEnv many s') (some ⟨[],cells,turn⟩))
 | [],n,cells,turn,s,hn=>by
  obtain ⟨n,rfl⟩:∃ m,n=m+1:=⟨n-1,by simp at hn;omega⟩
  right
  exact ⟨s,whlL_done (by simp [whlTest,evE,strAt])⟩
 | b::big,n,cells,turn,s,hn=>by
  obtain ⟨n,rfl⟩:∃ m,n=m+1:=⟨n-1,by simp at hn;omega⟩
  have hne:many≠0:=by omega
  have hd:=hm2
  by_cases hb:0<b
  ·left
   refine ⟨b.fmod many,b.fdiv many::big,Int.fmod_nonneg_of_pos b hm,Int.fmod_lt_of_pos b hm,by simp,?_⟩
   exact whlL_ret (st1:=some ⟨b::big,cells,turn⟩) (by simp [whlTest,evE,strAt]) (by simp [evSs,evS,evE,strAt,hb,hd,hne,putB])
  ·have ih:=draw_loop (cx:=cx) hm hm2 big n cells turn (.val (.int b)) (by simp at hn;omega)
   have e:dWhl cx (n+1) (dEnv many s) (some ⟨b::big,cells,turn⟩)=dWhl cx n (dEnv many (.val (.int b))) (some ⟨big,cells,turn⟩):=by
    exact whlL_next (st1:=some ⟨b::big,cells,turn⟩) (by simp [whlTest,evE,strAt]) (by simp [evSs,evS,evE,strAt,hb,popB])
   rw [e]
   rcases ih with ⟨v,b',h0,h1,h2,h3⟩|h
   ·exact .inl ⟨v,b',h0,h1,by simp;omega,h3⟩
   ·exact .inr h
theorem draw_any {X:Prog}{f:Nat}(hX:X.fns f=some (.fn 2 6 bDraw))(k:Nat)(s:Strm){many:Int}(hm:0<many)(hm2:divOk many=true)(ht:s.turn.natAbs<2^60)(hb:s.big.length<1000000) :
  ∃ v s',run X (k+1) f [.ob 0 [],.int many] (some s)=.ok (.int v) (some s')∧0≤v∧v<many∧Older s s' 1∧s'.big.length≤s.big.length:=by
 obtain ⟨big,cells,turn⟩:=s
 simp only at ht hb
 rw [run_fn hX rfl]
 have e0:entry 6 [.ob 0 [],.int many]=dEnv many .un:=rfl
 rw [e0]
 have hw:evSs (X.cx k) bDraw (dEnv many .un) (some ⟨big,cells,turn⟩)=(dWhl (X.cx k) turns (dEnv many .un) (some ⟨big,cells,turn⟩)).then (evSs (X.cx k) (.cons (.asg false 2 (.bin .add (.sTurn 0) (.cst (.int 1))))
 (.cons (.sPutT 0 (.loc 2))
 (.cons (.asg false 3 (.bin .mod (.sCell 0 2) (.cst (.int 2147483587))))
 (.cons (.asg false 4 (.bin .mod (.bin .add (.bin .add (.bin .mul (.loc 3) (.bin .add (.cst (.int 39373)) (.bin .mul (.cst (.int 69069)) (.loc 2)))) (.bin .mul (.bin .mul (.cst (.int 48271)) (.loc 2)) (.loc 2))) (.cst (.int 67))) (.cst (.int 2147483647))))
 (.cons (.ret (.bin .mod (.bin .div (.bin .mod (.bin .mul (.loc 4) (.loc 4)) (.cst (.int 2147483629))) (.cst (.int 16))) (.loc 1)))
 .nil)))))):=by
  unfold bDraw
  rw [evSs,evS]
 rw [hw]
 rcases draw_loop (cx:=X.cx k) hm hm2 big turns cells turn .un (by unfold turns;omega) with ⟨v,b',h0,h1,h2,e⟩|⟨s',e⟩
 ·rw [e]
  exact ⟨v,_,rfl,h0,h1,⟨by simp,by simp;omega⟩,h2⟩
 ·rw [e,Q.then_next]
  generalize hc0:(cells[((turn+1)%(cells.length:Int)).toNat]?.getD 0)=c0
  obtain ⟨t,ht1⟩:∃ t,t=turn+1:=⟨_,rfl⟩
  have hn:many≠0:=by omega
  have b0:t.natAbs<2^61:=by omega
  obtain ⟨c,hc⟩:∃ c,c=c0.fmod 2147483587:=⟨_,rfl⟩
  have c1:0≤c:=by rw [hc];exact Int.fmod_nonneg_of_pos c0 (by decide)
  have c2:c<2147483587:=by rw [hc];exact Int.fmod_lt_of_pos c0 (by decide)
  have m1:mulOk 69069 t=true:=mulOk_of (j:=17) (k:=61) (by decide) b0 (by decide) (by decide) (by decide)
  have m2:mulOk c (39373+69069*t)=true:=mulOk_of (j:=31) (k:=80) (by omega) (by omega) (by decide) (by decide) (by decide)
  have m3:mulOk 48271 t=true:=mulOk_of (j:=17) (k:=61) (by decide) b0 (by decide) (by decide) (by decide)
  have m4:mulOk (48271*t) t=true:=mulOk_of (j:=80) (k:=61) (by omega) b0 (by decide) (by decide) (by decide)
  obtain ⟨m,hm'⟩:∃ m,m=(c*(39373+69069*t)+48271*t*t+67).fmod 2147483647:=⟨_,rfl⟩
  have d1:0≤m:=by rw [hm'];exact Int.fmod_nonneg_of_pos _ (by decide)
  have d2:m<2147483647:=by rw [hm'];exact Int.fmod_lt_of_pos _ (by decide)
  have m5:mulOk m m=true:=mulOk_of (j:=31) (k:=31) (by omega) (by omega) (by decide) (by decide) (by decide)
  refine ⟨(((m*m).fmod 2147483629).fdiv 16).fmod many,⟨[],cells,t⟩,?_,Int.fmod_nonneg_of_pos _ hm,Int.fmod_lt_of_pos _ hm,⟨by simp;omega,by simp;omega⟩,by simp⟩
  have dv:divOk 16=true:=by decide
  rw [ht1] at m1 m2 m3 m4 hm' ⊢
  simp [evSs,evS,evE,strAt,putU,cellD,hc0,← hc,m1,m2,m3,m4,← hm',m5,dv,hn]
theorem draw_ok {X:Prog}{f:Nat}(hX:X.fns f=some (.fn 2 6 bDraw))(k:Nat)(s:Strm){many:Int}(hm:0<many)(hm2:many<1073741824)(ht:s.turn.natAbs<2^60)(hb:s.big.length<1000000) :
  ∃ v s',run X (k+1) f [.ob 0 [],.int many] (some s)=.ok (.int v) (some s')∧0≤v∧v<many∧Older s s' 1∧s'.big.length≤s.big.length :=
 draw_any hX k s hm (by unfold divOk;simp;left;omega) ht hb
def bStream:Ss:=(.cons (.asg true 1 (.lc (.bi .abs (.cons (.loc 2) .nil)) (.nm 2) (.seq (.loc 0)) .no [2]))
 (.cons (.retS (.lc (.loc 2) (.nm 2) (.seq (.loc 1)) (.so (.cmp .ge (.loc 2) (.bin .pow (.cst (.int 10)) (.cst (.int 18))))) [2]) 1)
 .nil))
theorem stream_ok {X:Prog}{f:Nat}(hX:X.fns f=some (.fn 1 3 bStream))(k:Nat)(ns:List Int)(hl:ns.length≤1000) :
  ∃ s,run X (k+1) f [.ob 1 (ns.map D.int)] none=.ok (.ob 0 []) (some s)∧s.turn=0∧s.big.length≤ns.length:=by
 rw [run_fn hX rfl]
 obtain ⟨ab,hab⟩:∃ ab:Int→Int,ab=fun i=>if i<0 then -i else i:=⟨_,rfl⟩
 have e1:∀ (env:Env),mapR (lcStep (evE (X.cx k) (.bi .abs (.cons (.loc 2) .nil))) (evB (X.cx k) .no) (.nm 2) [2] [.val (.ob 1 (ns.map D.int)),.un,.un]) (ns.map D.int) none=.ok (ns.map fun i=>D.int (ab i)) none:=fun env=>by
  refine mapR_of (i:=D.int) (g:=fun i=>D.int (ab i)) fun i _=>?_
  simp [q_step,evB,evE,evEs,hab]
 have e2:mapR (lcStep (evE (X.cx k) (.loc 2)) (evB (X.cx k) (.so (.cmp .ge (.loc 2) (.bin .pow (.cst (.int 10)) (.cst (.int 18)))))) (.nm 2) [2] [.val (.ob 1 (ns.map D.int)),.val (.lst (ns.map fun i=>D.int (ab i))),.un]) (ns.map fun i=>D.int (ab i)) none =
   .ok (ns.filterMap fun i=>if 1000000000000000000≤ab i then some (D.int (ab i)) else none) none:=by
  refine mapR_opt (i:=fun i=>D.int (ab i)) (g:=fun i=>if 1000000000000000000≤ab i then some (D.int (ab i)) else none) fun i _=>?_
  by_cases hi:1000000000000000000≤ab i
  ·simp [q_step,evB,evE,hi]
  ·simp [q_step,evB,evE,hi]
 have l2:(ns.filterMap fun i=>if 1000000000000000000≤ab i then some (D.int (ab i)) else none).length≤ns.length:=List.length_filterMap_le _ _
 have i2:D.ints (ns.filterMap fun i=>if 1000000000000000000≤ab i then some (D.int (ab i)) else none)=some (ns.filterMap fun i=>if 1000000000000000000≤ab i then some (ab i) else none):=by
  clear e1 e2 l2 hl
  induction ns with
  | nil=>rfl
  | cons a r ih =>
   rw [List.filterMap_cons,List.filterMap_cons]
   by_cases ha:1000000000000000000≤ab a
   ·simp only [ha,if_true,D.ints,ih];rfl
   ·simp only [ha,if_false];exact ih
 have i1:D.ints (ns.map fun i=>D.int (ab i))=some (ns.map ab):=by
  have:=D.ints_map (ns.map ab)
  rw [List.map_map] at this
  exact this
 refine ⟨⟨ns.filterMap fun i=>if 1000000000000000000≤ab i then some (ab i) else none,if ns.map ab=[] then [47] else ns.map ab,0⟩,?_,rfl,?_⟩
 ·unfold bStream
  have ll:ns.length≤line:=by unfold line;omega
  have l3:(ns.filterMap fun i=>if 1000000000000000000≤ab i then some (D.int (ab i)) else none).length≤line:=by unfold line;omega
  rw [evSs,evS,evE,evI,evE]
  simp only [entry,List.map_cons,List.map_nil,List.length_cons,List.length_nil,Env.get,Slot.get,D.walk,R.lift_some,R.bind_ok,Option.bind_some,List.replicate,List.cons_append,List.nil_append,List.getElem?_cons_zero]
  rw [e1 []]
  simp only [R.made,List.length_map,ll,if_true,R.use_ok,mk,List.set_cons_succ,List.set_cons_zero,Q.then_next]
  rw [evSs,evS]
  simp only [freeze,frz1,List.getElem?_cons_succ,List.getElem?_cons_zero,Slot.frz,List.set_cons_succ,List.set_cons_zero]
  rw [evE,evI,evE]
  simp only [Env.get,Slot.get,D.walk,R.lift_some,R.bind_ok,Option.bind_some,List.getElem?_cons_succ,List.getElem?_cons_zero]
  rw [e2]
  simp only [R.made,l3,if_true,R.use_ok,ownAt,List.getElem?_cons_succ,List.getElem?_cons_zero,mkS,i1,i2,Q.opt_some,Q.then_ret,outR_ret]
 ·have:=List.length_filterMap_le (fun i=>if 1000000000000000000≤ab i then some (ab i) else none) ns
  exact this
theorem lc_ofq {cx:Ctx}{e:E}{tg:Tg}{it:It}{c:Eo}{own:List Nat}{env:Env}{st st1 st2:St}{ds ys:List D}(hi:evI cx it env st=.ok ds st1)(hm:mapR (lcStep (evE cx e) (evB cx c) tg own env) ds st1=.ok ys st2)(hl:ys.length≤line) :
  evE cx (.lc e tg it c own) env st=.ok (.lst ys) st2:=by
 rw [evE,hi,R.bind_ok,hm]
 exact if_pos hl
theorem for_ofq {cx:Ctx}{tg:Tg}{it:It}{b:Ss}{env:Env}{st st1:St}{ds:List D}(hi:evI cx it env st=.ok ds st1):evS cx (.for_ tg it b) env st=forL (forStep (evSs cx b) tg) ds env st1:=by
 rw [evS,hi,R.use_ok]
theorem ints_mapc {α:Type}(l:List α)(f:α→Int):D.ints (l.map fun a=>D.int (f a))=some (l.map f):=by
 induction l with
 | nil=>rfl
 | cons a r ih=>simp [D.ints,ih]
end PL
end
section
namespace LB
open PL
def f0:Ss:=(.cons (.ite [] (.not (.isi (.loc 0) .tuple))
 (.cons (.ret (.lst .nil))
 .nil)
 .nil)
 (.cons (.ret (.lc (.tup (.cons (.loc 1) (.cons (.loc 2) .nil))) (.tp (.cons (.nm 1) (.cons (.nm 2) .nil))) (.enm (.loc 0) 0) (.so (.and (.cmp .gt (.loc 1) (.cst (.int 0))) (.call 1 (.cons (.loc 0) (.cons (.loc 1) .nil))))) [1,2]))
 .nil))
abbrev H0 (X:Prog):Prop:=X.fns 0=some (.fn 1 3 f0)
def f1:Ss:=(.cons (.asg false 2 (.ifx (.cmp .inn (.sub (.loc 0) (.cst (.int 0))) (.glb 3)) (.sub (.glb 3) (.sub (.loc 0) (.cst (.int 0)))) (.sub (.glb 4) (.sub (.loc 0) (.cst (.int 0))))))
 (.cons (.ret (.cmp .nin (.sub (.loc 2) (.bin .sub (.loc 1) (.cst (.int 1)))) (.glb 5)))
 .nil))
abbrev H1 (X:Prog):Prop:=X.fns 1=some (.fn 2 3 f1)
def f2:Ss:=(.cons (.ret (.bin .add (.cst (.int 1)) (.bi .sum (.cons (.lc (.call 2 (.cons (.loc 2) .nil)) (.tp (.cons (.nm 1) (.cons (.nm 2) .nil))) (.seq (.call 0 (.cons (.loc 0) .nil))) .no [1,2]) .nil))))
 .nil)
abbrev H2 (X:Prog):Prop:=X.fns 2=some (.fn 1 3 f2)
def f3:Ss:=(.cons (.asg false 1 (.lc (.call 3 (.cons (.loc 3) .nil)) (.tp (.cons (.nm 2) (.cons (.nm 3) .nil))) (.seq (.call 0 (.cons (.loc 0) .nil))) .no [2,3]))
 (.cons (.ite [] (.cmp .eq (.loc 1) (.lst .nil))
 (.cons (.ret (.cst (.int 1)))
 .nil)
 .nil)
 (.cons (.ite [] (.cmp .eq (.sub (.loc 0) (.cst (.int 0))) (.cst (.str [105,102])))
 (.cons (.ret (.bi .min2 (.cons (.bin .add (.glb 0) (.cst (.int 1))) (.cons (.bin .add (.bin .add (.cst (.int 1)) (.sub (.loc 1) (.cst (.int 0)))) (.bi .max2 (.cons (.sub (.loc 1) (.cst (.int 1))) (.cons (.sub (.loc 1) (.cst (.int 2))) .nil)))) .nil))))
 .nil)
 .nil)
 (.cons (.ret (.bi .min2 (.cons (.bin .add (.glb 0) (.cst (.int 1))) (.cons (.bin .add (.cst (.int 1)) (.ifx (.cmp .eq (.sub (.loc 0) (.cst (.int 0))) (.cst (.str [114,101,112,101,97,116]))) (.bin .mul (.sub (.loc 0) (.cst (.int 1))) (.sub (.loc 1) (.cst (.int 0)))) (.bi .sum (.cons (.loc 1) .nil)))) .nil))))
 .nil))))
abbrev H3 (X:Prog):Prop:=X.fns 3=some (.fn 1 4 f3)
def f4:Ss:=(.cons (.ret (.tup (.cons (.bi .min2 (.cons (.bin .add (.glb 1) (.cst (.int 1))) (.cons (.sub (.loc 0) (.cst (.int 0))) .nil))) (.cons (.bi .min2 (.cons (.bin .add (.glb 1) (.cst (.int 1))) (.cons (.sub (.loc 0) (.cst (.int 1))) .nil))) .nil))))
 .nil)
abbrev H4 (X:Prog):Prop:=X.fns 4=some (.fn 1 1 f4)
def f5:Ss:=(.cons (.ret (.call 4 (.cons (.tup (.cons (.bi .max2 (.cons (.sub (.loc 0) (.cst (.int 0))) (.cons (.bin .mul (.sub (.loc 0) (.cst (.int 0))) (.sub (.loc 1) (.cst (.int 0)))) .nil))) (.cons (.bi .max2 (.cons (.sub (.loc 0) (.cst (.int 1))) (.cons (.bin .add (.bin .mul (.sub (.loc 0) (.cst (.int 1))) (.sub (.loc 1) (.cst (.int 0)))) (.sub (.loc 1) (.cst (.int 1)))) .nil))) .nil))) .nil)))
 .nil)
abbrev H5 (X:Prog):Prop:=X.fns 5=some (.fn 2 2 f5)
def f6:Ss:=(.cons (.asg false 2 (.tup (.cons (.cst (.int 1)) (.cons (.cst (.int 0)) .nil))))
 (.cons (.for_ (.nm 3) (.rng1 (.loc 0))
 (.cons (.asg false 2 (.call 5 (.cons (.loc 2) (.cons (.loc 1) .nil))))
 .nil))
 (.cons (.ret (.loc 2))
 .nil)))
abbrev H6 (X:Prog):Prop:=X.fns 6=some (.fn 2 4 f6)
def f7:Ss:=(.cons (.asg false 1 (.lc (.call 7 (.cons (.loc 6) .nil)) (.tp (.cons (.nm 5) (.cons (.nm 6) .nil))) (.seq (.call 0 (.cons (.loc 0) .nil))) .no [5,6]))
 (.cons (.ite [] (.cmp .eq (.loc 1) (.lst .nil))
 (.cons (.ret (.ifx (.cmp .eq (.loc 0) (.glb 2)) (.tup (.cons (.cst (.int 1)) (.cons (.cst (.int 0)) .nil))) (.tup (.cons (.cst (.int 0)) (.cons (.bi .abs (.cons (.loc 0) .nil)) .nil)))))
 .nil)
 .nil)
 (.cons (.par2 false false 2 3 (.lc (.loc 7) (.tp (.cons (.nm 7) (.cons (.nm 8) .nil))) (.seq (.loc 1)) .no [7,8]) (.lc (.loc 8) (.tp (.cons (.nm 7) (.cons (.nm 8) .nil))) (.seq (.loc 1)) .no [7,8]))
 (.cons (.mtch (.sub (.loc 0) (.cst (.int 0))) (.cons (.vals [[97,100,100]]) (.cons (.ret (.call 4 (.cons (.tup (.cons (.bi .sum (.cons (.loc 2) .nil)) (.cons (.bi .sum (.cons (.loc 3) .nil)) .nil))) .nil)))
 .nil)
 (.cons (.vals [[115,117,98]]) (.cons (.ret (.call 4 (.cons (.tup (.cons (.bi .sum (.cons (.loc 2) .nil)) (.cons (.bi .sum (.cons (.loc 3) .nil)) .nil))) .nil)))
 .nil)
 (.cons (.vals [[109,117,108]]) (.cons (.asg false 4 (.bi .max2 (.cons (.cst (.int 1)) (.cons (.bi .abs (.cons (.sub (.loc 0) (.cst (.int 1))) .nil)) .nil))))
 (.cons (.ret (.call 4 (.cons (.tup (.cons (.bin .mul (.sub (.loc 2) (.cst (.int 0))) (.loc 4)) (.cons (.bin .mul (.sub (.loc 3) (.cst (.int 0))) (.loc 4)) .nil))) .nil)))
 .nil))
 (.cons (.vals [[109,111,100]]) (.cons (.ret (.tup (.cons (.sub (.loc 2) (.cst (.int 0))) (.cons (.bi .max2 (.cons (.sub (.loc 3) (.cst (.int 0))) (.cons (.bin .sub (.sub (.loc 0) (.cst (.int 2))) (.cst (.int 1))) .nil))) .nil))))
 .nil)
 (.cons (.vals [[116,104,101,110]]) (.cons (.ret (.call 5 (.cons (.sub (.loc 1) (.cst (.int 0))) (.cons (.sub (.loc 1) (.cst (.int 1))) .nil))))
 .nil)
 (.cons (.vals [[114,101,112,101,97,116]]) (.cons (.ret (.call 6 (.cons (.sub (.loc 0) (.cst (.int 1))) (.cons (.sub (.loc 1) (.cst (.int 0))) .nil))))
 .nil)
 .nil)))))))
 (.cons (.ret (.tup (.cons (.bi .maxL (.cons (.loc 2) .nil)) (.cons (.bi .maxL (.cons (.loc 3) .nil)) .nil))))
 .nil)))))
abbrev H7 (X:Prog):Prop:=X.fns 7=some (.fn 1 9 f7)
def f8:Ss:=(.cons (.asg true 1 (.lc (.bi .abs (.cons (.loc 2) .nil)) (.nm 2) (.seq (.loc 0)) .no [2]))
 (.cons (.retS (.lc (.loc 2) (.nm 2) (.seq (.loc 1)) (.so (.cmp .ge (.loc 2) (.bin .pow (.cst (.int 10)) (.cst (.int 18))))) [2]) 1)
 .nil))
abbrev H8 (X:Prog):Prop:=X.fns 8=some (.fn 1 3 f8)
def f9:Ss:=(.cons (.whl [] (.sHas 0)
 (.cons (.asg false 5 (.sBig 0))
 (.cons (.ite [] (.cmp .gt (.loc 5) (.cst (.int 0)))
 (.cons (.sPutB 0 (.bin .div (.loc 5) (.loc 1)))
 (.cons (.ret (.bin .mod (.loc 5) (.loc 1)))
 .nil))
 .nil)
 (.cons (.sPop 0)
 .nil))))
 (.cons (.asg false 2 (.bin .add (.sTurn 0) (.cst (.int 1))))
 (.cons (.sPutT 0 (.loc 2))
 (.cons (.asg false 3 (.bin .mod (.sCell 0 2) (.cst (.int 2147483587))))
 (.cons (.asg false 4 (.bin .mod (.bin .add (.bin .add (.bin .mul (.loc 3) (.bin .add (.cst (.int 39373)) (.bin .mul (.cst (.int 69069)) (.loc 2)))) (.bin .mul (.bin .mul (.cst (.int 48271)) (.loc 2)) (.loc 2))) (.cst (.int 67))) (.cst (.int 2147483647))))
 (.cons (.ret (.bin .mod (.bin .div (.bin .mod (.bin .mul (.loc 4) (.loc 4)) (.cst (.int 2147483629))) (.cst (.int 16))) (.loc 1)))
 .nil))))))
abbrev H9 (X:Prog):Prop:=X.fns 9=some (.fn 2 6 f9)
def f10:Ss:=(.cons (.asg false 2 (.call 9 (.cons (.loc 0) (.cons (.cst (.int 14)) .nil))))
 (.cons (.ite [] (.or (.cmp .eq (.loc 1) (.cst (.int 0))) (.cmp .lt (.loc 2) (.cst (.int 2))))
 (.cons (.ret (.sub (.lst (.cons (.bin .sub (.call 9 (.cons (.loc 0) (.cons (.cst (.int 19)) .nil))) (.cst (.int 9))) (.cons (.cst (.str [120])) (.cons (.cst (.str [120])) .nil)))) (.call 9 (.cons (.loc 0) (.cons (.cst (.int 3)) .nil)))))
 .nil)
 .nil)
 (.cons (.asg false 3 (.call 10 (.cons (.loc 0) (.cons (.bin .sub (.loc 1) (.cst (.int 1))) .nil))))
 (.cons (.ite [] (.cmp .eq (.loc 2) (.cst (.int 2)))
 (.cons (.ret (.tup (.cons (.cst (.str [109,117,108])) (.cons (.bin .sub (.call 9 (.cons (.loc 0) (.cons (.cst (.int 7)) .nil))) (.cst (.int 3))) (.cons (.loc 3) .nil)))))
 .nil)
 .nil)
 (.cons (.ite [] (.cmp .lt (.loc 2) (.cst (.int 5)))
 (.cons (.ret (.tup (.cons (.sub (.lst (.cons (.cst (.str [100,105,118])) (.cons (.cst (.str [109,111,100])) .nil))) (.bin .sub (.loc 2) (.cst (.int 3)))) (.cons (.loc 3) (.cons (.bin .add (.cst (.int 2)) (.call 9 (.cons (.loc 0) (.cons (.cst (.int 3)) .nil)))) .nil)))))
 .nil)
 .nil)
 (.cons (.ite [] (.cmp .eq (.loc 2) (.cst (.int 5)))
 (.cons (.ret (.tup (.cons (.cst (.str [114,101,112,101,97,116])) (.cons (.call 9 (.cons (.loc 0) (.cons (.cst (.int 3)) .nil))) (.cons (.loc 3) .nil)))))
 .nil)
 .nil)
 (.cons (.asg false 4 (.call 10 (.cons (.loc 0) (.cons (.bin .sub (.loc 1) (.cst (.int 1))) .nil))))
 (.cons (.ite [] (.cmp .lt (.loc 2) (.cst (.int 8)))
 (.cons (.ret (.tup (.cons (.cst (.str [105,102])) (.cons (.call 11 (.cons (.loc 0) (.cons (.bin .sub (.loc 1) (.cst (.int 1))) .nil))) (.cons (.loc 3) (.cons (.loc 4) .nil))))))
 .nil)
 .nil)
 (.cons (.ret (.tup (.cons (.sub (.lst (.cons (.cst (.str [97,100,100])) (.cons (.cst (.str [97,100,100])) (.cons (.cst (.str [115,117,98])) (.cons (.cst (.str [109,105,110])) (.cons (.cst (.str [109,97,120])) (.cons (.cst (.str [116,104,101,110])) .nil))))))) (.bin .sub (.loc 2) (.cst (.int 8)))) (.cons (.loc 3) (.cons (.loc 4) .nil)))))
 .nil)))))))))
abbrev H10 (X:Prog):Prop:=X.fns 10=some (.fn 2 5 f10)
def f11:Ss:=(.cons (.asg false 2 (.call 9 (.cons (.loc 0) (.cons (.cst (.int 8)) .nil))))
 (.cons (.ite [] (.or (.cmp .lt (.loc 1) (.cst (.int 2))) (.cmp .lt (.loc 2) (.cst (.int 5))))
 (.cons (.asg false 1 (.bi .max2 (.cons (.cst (.int 0)) (.cons (.bin .sub (.loc 1) (.cst (.int 1))) .nil))))
 (.cons (.ret (.tup (.cons (.sub (.lst (.cons (.cst (.str [108,101,115,115])) (.cons (.cst (.str [115,97,109,101])) .nil))) (.bin .mod (.loc 2) (.cst (.int 2)))) (.cons (.call 10 (.cons (.loc 0) (.cons (.loc 1) .nil))) (.cons (.call 10 (.cons (.loc 0) (.cons (.loc 1) .nil))) .nil)))))
 .nil))
 .nil)
 (.cons (.ite [] (.cmp .eq (.loc 2) (.cst (.int 5)))
 (.cons (.ret (.tup (.cons (.cst (.str [110,111,116])) (.cons (.call 11 (.cons (.loc 0) (.cons (.bin .sub (.loc 1) (.cst (.int 1))) .nil))) .nil))))
 .nil)
 .nil)
 (.cons (.ret (.tup (.cons (.sub (.lst (.cons (.cst (.str [97,110,100])) (.cons (.cst (.str [111,114])) .nil))) (.bin .sub (.loc 2) (.cst (.int 6)))) (.cons (.call 11 (.cons (.loc 0) (.cons (.bin .sub (.loc 1) (.cst (.int 1))) .nil))) (.cons (.call 11 (.cons (.loc 0) (.cons (.bin .sub (.loc 1) (.cst (.int 1))) .nil))) .nil)))))
 .nil))))
abbrev H11 (X:Prog):Prop:=X.fns 11=some (.fn 2 3 f11)
def f12:Ss:=(.cons (.ite [] (.not (.isi (.loc 0) .tuple))
 (.cons (.ret (.lst .nil))
 .nil)
 .nil)
 (.cons (.asg false 1 (.get (.dct [.s [109,117,108],.s [114,101,112,101,97,116],.s [100,105,118],.s [109,111,100],.s [110,111,116],.s [105,102]] (.cons (.lst (.cons (.cst (.int 2)) .nil)) (.cons (.lst (.cons (.cst (.int 2)) .nil)) (.cons (.lst (.cons (.cst (.int 1)) .nil)) (.cons (.lst (.cons (.cst (.int 1)) .nil)) (.cons (.lst (.cons (.cst (.int 1)) .nil)) (.cons (.lst (.cons (.cst (.int 1)) (.cons (.cst (.int 2)) (.cons (.cst (.int 3)) .nil)))) .nil))))))) (.sub (.loc 0) (.cst (.int 0))) (.lst (.cons (.cst (.int 1)) (.cons (.cst (.int 2)) .nil)))))
 (.cons (.ret (.lc (.tup (.cons (.loc 2) (.cons (.sub (.loc 0) (.loc 2)) .nil))) (.nm 2) (.seq (.loc 1)) .no [2]))
 .nil)))
abbrev H12 (X:Prog):Prop:=X.fns 12=some (.fn 1 3 f12)
def f13:Ss:=(.cons (.asg true 1 (.lst (.cons (.tup (.cons (.tup .nil) (.cons (.loc 0) .nil))) .nil)))
 (.cons (.for_ (.tp (.cons (.nm 2) (.cons (.nm 3) .nil))) (.seq (.call 12 (.cons (.loc 0) .nil)))
 (.cons (.ext [] 1 (.lc (.tup (.cons (.bin .add (.tup (.cons (.loc 2) .nil)) (.loc 4)) (.cons (.loc 5) .nil))) (.tp (.cons (.nm 4) (.cons (.nm 5) .nil))) (.seq (.call 13 (.cons (.loc 3) .nil))) .no [4,5]))
 .nil))
 (.cons (.frz [1])
 (.cons (.ret (.loc 1))
 .nil))))
abbrev H13 (X:Prog):Prop:=X.fns 13=some (.fn 1 6 f13)
def f14:Ss:=(.cons (.asg false 1 (.lc (.call 14 (.cons (.loc 3) .nil)) (.tp (.cons (.nm 2) (.cons (.nm 3) .nil))) (.seq (.call 12 (.cons (.loc 0) .nil))) .no [2,3]))
 (.cons (.ite [] (.cmp .eq (.loc 1) (.lst .nil))
 (.cons (.ret (.cst (.int 1)))
 .nil)
 .nil)
 (.cons (.ite [] (.cmp .eq (.sub (.loc 0) (.cst (.int 0))) (.cst (.str [105,102])))
 (.cons (.ret (.bin .add (.bin .add (.cst (.int 1)) (.sub (.loc 1) (.cst (.int 0)))) (.bi .maxL (.cons (.slc (.loc 1) (.so (.cst (.int 1))) .no) .nil))))
 .nil)
 .nil)
 (.cons (.ret (.bin .add (.cst (.int 1)) (.ifx (.cmp .eq (.sub (.loc 0) (.cst (.int 0))) (.cst (.str [114,101,112,101,97,116]))) (.bin .mul (.sub (.loc 0) (.cst (.int 1))) (.sub (.loc 1) (.cst (.int 0)))) (.bi .sum (.cons (.loc 1) .nil)))))
 .nil))))
abbrev H14 (X:Prog):Prop:=X.fns 14=some (.fn 1 4 f14)
def f15:Ss:=(.cons (.ite [] (.not (.isi (.loc 0) .tuple))
 (.cons (.ret (.ifx (.isi (.loc 0) .str) (.tup (.cons (.cst (.int 1)) (.cons (.cst (.int 0)) .nil))) (.tup (.cons (.cst (.int 0)) (.cons (.bi .abs (.cons (.loc 0) .nil)) .nil)))))
 .nil)
 .nil)
 (.cons (.asg false 1 (.lc (.call 15 (.cons (.loc 8) .nil)) (.tp (.cons (.nm 7) (.cons (.nm 8) .nil))) (.seq (.call 12 (.cons (.loc 0) .nil))) .no [7,8]))
 (.cons (.par2 false false 2 3 (.lc (.sub (.loc 9) (.cst (.int 0))) (.nm 9) (.seq (.loc 1)) .no [9]) (.lc (.sub (.loc 9) (.cst (.int 1))) (.nm 9) (.seq (.loc 1)) .no [9]))
 (.cons (.ite [] (.cmp .inn (.sub (.loc 0) (.cst (.int 0))) (.tup (.cons (.cst (.str [97,100,100])) (.cons (.cst (.str [115,117,98])) .nil))))
 (.cons (.ret (.tup (.cons (.bi .sum (.cons (.loc 2) .nil)) (.cons (.bi .sum (.cons (.loc 3) .nil)) .nil))))
 .nil)
 .nil)
 (.cons (.ite [] (.cmp .eq (.sub (.loc 0) (.cst (.int 0))) (.cst (.str [109,117,108])))
 (.cons (.ret (.tup (.cons (.bin .mul (.sub (.loc 2) (.cst (.int 0))) (.bi .max2 (.cons (.cst (.int 1)) (.cons (.bi .abs (.cons (.sub (.loc 0) (.cst (.int 1))) .nil)) .nil)))) (.cons (.bin .mul (.sub (.loc 3) (.cst (.int 0))) (.bi .max2 (.cons (.cst (.int 1)) (.cons (.bi .abs (.cons (.sub (.loc 0) (.cst (.int 1))) .nil)) .nil)))) .nil))))
 .nil)
 .nil)
 (.cons (.ite [] (.cmp .eq (.sub (.loc 0) (.cst (.int 0))) (.cst (.str [109,111,100])))
 (.cons (.ret (.tup (.cons (.sub (.loc 2) (.cst (.int 0))) (.cons (.bi .max2 (.cons (.sub (.loc 3) (.cst (.int 0))) (.cons (.bin .sub (.sub (.loc 0) (.cst (.int 2))) (.cst (.int 1))) .nil))) .nil))))
 .nil)
 .nil)
 (.cons (.ite [] (.cmp .eq (.sub (.loc 0) (.cst (.int 0))) (.cst (.str [116,104,101,110])))
 (.cons (.ret (.tup (.cons (.bi .max2 (.cons (.sub (.loc 2) (.cst (.int 0))) (.cons (.bin .mul (.sub (.loc 2) (.cst (.int 0))) (.sub (.loc 2) (.cst (.int 1)))) .nil))) (.cons (.bi .max2 (.cons (.sub (.loc 3) (.cst (.int 0))) (.cons (.bin .add (.bin .mul (.sub (.loc 3) (.cst (.int 0))) (.sub (.loc 2) (.cst (.int 1)))) (.sub (.loc 3) (.cst (.int 1)))) .nil))) .nil))))
 .nil)
 .nil)
 (.cons (.ite [] (.cmp .eq (.sub (.loc 0) (.cst (.int 0))) (.cst (.str [114,101,112,101,97,116])))
 (.cons (.asgT (.tp (.cons (.nm 5) (.cons (.nm 6) .nil))) (.tup (.cons (.cst (.int 1)) (.cons (.cst (.int 0)) .nil))))
 (.cons (.for_ (.nm 4) (.rng1 (.sub (.loc 0) (.cst (.int 1))))
 (.cons (.par2 false false 5 6 (.bi .max2 (.cons (.loc 5) (.cons (.bin .mul (.loc 5) (.sub (.loc 2) (.cst (.int 0)))) .nil))) (.bi .max2 (.cons (.loc 6) (.cons (.bin .add (.bin .mul (.loc 6) (.sub (.loc 2) (.cst (.int 0)))) (.sub (.loc 3) (.cst (.int 0)))) .nil))))
 .nil))
 (.cons (.ret (.tup (.cons (.loc 5) (.cons (.loc 6) .nil))))
 .nil)))
 .nil)
 (.cons (.ret (.tup (.cons (.bi .maxL (.cons (.loc 2) .nil)) (.cons (.bi .maxL (.cons (.loc 3) .nil)) .nil))))
 .nil)))))))))
abbrev H15 (X:Prog):Prop:=X.fns 15=some (.fn 1 10 f15)
abbrev G0 (X:Prog):Prop:=X.gl 0=some ((.int 10000))
abbrev G1 (X:Prog):Prop:=X.gl 1=some ((.int 1000000000000000000))
abbrev G2 (X:Prog):Prop:=X.gl 2=some ((.str [120]))
abbrev G3 (X:Prog):Prop:=X.gl 3=some ((.dct [.s [97,100,100],.s [115,117,98],.s [109,105,110],.s [109,97,120],.s [109,117,108],.s [100,105,118],.s [109,111,100],.s [105,102],.s [116,104,101,110],.s [114,101,112,101,97,116]] [(.tup [(.str [112,114,111,103,114,97,109]),(.str [112,114,111,103,114,97,109])]),(.tup [(.str [112,114,111,103,114,97,109]),(.str [112,114,111,103,114,97,109])]),(.tup [(.str [112,114,111,103,114,97,109]),(.str [112,114,111,103,114,97,109])]),(.tup [(.str [112,114,111,103,114,97,109]),(.str [112,114,111,103,114,97,109])]),(.tup [(.str [102,97,99,116,111,114]),(.str [112,114,111,103,114,97,109])]),(.tup [(.str [112,114,111,103,114,97,109]),(.str [100,105,118,105,115,111,114])]),(.tup [(.str [112,114,111,103,114,97,109]),(.str [100,105,118,105,115,111,114])]),(.tup [(.str [116,101,115,116]),(.str [112,114,111,103,114,97,109]),(.str [112,114,111,103,114,97,109])]),(.tup [(.str [112,114,111,103,114,97,109]),(.str [112,114,111,103,114,97,109])]),(.tup [(.str [116,105,109,101,115]),(.str [112,114,111,103,114,97,109])])]))
abbrev G4 (X:Prog):Prop:=X.gl 4=some ((.dct [.s [108,101,115,115],.s [115,97,109,101],.s [110,111,116],.s [97,110,100],.s [111,114]] [(.tup [(.str [112,114,111,103,114,97,109]),(.str [112,114,111,103,114,97,109])]),(.tup [(.str [112,114,111,103,114,97,109]),(.str [112,114,111,103,114,97,109])]),(.tup [(.str [116,101,115,116])]),(.tup [(.str [116,101,115,116]),(.str [116,101,115,116])]),(.tup [(.str [116,101,115,116]),(.str [116,101,115,116])])]))
abbrev G5 (X:Prog):Prop:=X.gl 5=some ((.dct [.s [102,97,99,116,111,114],.s [100,105,118,105,115,111,114],.s [116,105,109,101,115]] [(.tup [(.int (-100)),(.int 100)]),(.tup [(.int 2),(.int 12)]),(.tup [(.int 0),(.int 12)])]))
end LB
end
section
namespace LT
open PL LB
structure HIt (X:Prog):Prop where
 f0:H0 X
 f1:H1 X
 g3:G3 X
 g4:G4 X
 g5:G5 X
structure HCnt (X:Prog):Prop extends HIt X where
 f2:H2 X
structure HRun (X:Prog):Prop extends HIt X where
 f3:H3 X
 g0:G0 X
structure HRc (X:Prog):Prop extends HIt X where
 f4:H4 X
 f5:H5 X
 f6:H6 X
 f7:H7 X
 g1:G1 X
 g2:G2 X
structure HGen (X:Prog):Prop where
 f9:H9 X
 f10:H10 X
 f11:H11 X
structure HPt (X:Prog):Prop where
 f12:H12 X
structure HPths (X:Prog):Prop extends HPt X where
 f13:H13 X
structure HLr (X:Prog):Prop extends HPt X where
 f14:H14 X
structure HLrc (X:Prog):Prop extends HPt X where
 f15:H15 X
inductive K2 where
 | add|sub|min|max|then_|less|same|and_|or_
inductive Tr where
 | x|n (i:Int)|mul (c:Int) (a:Tr)|two (k:K2) (a b:Tr)|dv (a:Tr) (c:Int)|md (a:Tr) (c:Int)|rep (c:Int) (a:Tr)|nt (a:Tr)|cond (t a b:Tr)
def K2.nm:K2→List Nat
 | .add=>[97,100,100]|.sub=>[115,117,98]|.min=>[109,105,110]|.max=>[109,97,120]|.then_=>[116,104,101,110]|.less=>[108,101,115,115]|.same=>[115,97,109,101]|.and_=>[97,110,100]|.or_=>[111,114]
def toD:Tr→D
 | .x=>.str [120]
 | .n i=>.int i
 | .mul c a=>.tup [.str [109,117,108],.int c,toD a]
 | .two k a b=>.tup [.str k.nm,toD a,toD b]
 | .dv a c=>.tup [.str [100,105,118],toD a,.int c]
 | .md a c=>.tup [.str [109,111,100],toD a,.int c]
 | .rep c a=>.tup [.str [114,101,112,101,97,116],.int c,toD a]
 | .nt a=>.tup [.str [110,111,116],toD a]
 | .cond t a b=>.tup [.str [105,102],toD t,toD a,toD b]
def subs:Tr→List (Nat × Tr)
 | .x=>[]|.n _=>[]
 | .mul _ a=>[(2,a)]
 | .two _ a b=>[(1,a),(2,b)]
 | .dv a _=>[(1,a)]
 | .md a _=>[(1,a)]
 | .rep _ a=>[(2,a)]
 | .nt a=>[(1,a)]
 | .cond t a b=>[(1,t),(2,a),(3,b)]
def partD (p:Nat × Tr):D:=.tup [.int p.1,toD p.2]
section
variable {X:Prog}(h:HIt X)
include h
theorem r1 (k:Nat)(a b:D)(st:St):run X (k+1) 1 [a,b] st=outR (evSs (X.cx k) f1 (entry 3 [a,b]) st):=run_fn h.f1 rfl
theorem r0 (k:Nat)(a:D)(st:St):run X (k+1) 0 [a] st=outR (evSs (X.cx k) f0 (entry 3 [a]) st):=run_fn h.f0 rfl
theorem items_ok (k:Nat)(t:Tr)(st:St):run X (k+2) 0 [toD t] st=.ok (.lst ((subs t).map partD)) st:=by
 rw [r0 h]
 cases t with
 | two q a b =>
  cases q<;>simp [K2.nm,f0,toD,subs,partD,r1 h,f1,h.g3,h.g4,h.g5,evSs,evS,evE,evI,evB,evEs,entry,enmD,mapR,q_step,findK]
 | _=>simp [f0,toD,subs,partD,r1 h,f1,h.g3,h.g4,h.g5,evSs,evS,evE,evI,evB,evEs,entry,enmD,mapR,q_step,findK]
end
end LT
end
section
namespace LT
open PL LB
def dp:Tr→Nat
 | .x=>0|.n _=>0
 | .mul _ a=>dp a+1
 | .two _ a b=>max (dp a) (dp b)+1
 | .dv a _=>dp a+1
 | .md a _=>dp a+1
 | .rep _ a=>dp a+1
 | .nt a=>dp a+1
 | .cond t a b=>max (dp t) (max (dp a) (dp b))+1
theorem dp_sub {t:Tr}{p:Nat × Tr}(h:p∈subs t):dp p.2+1≤dp t:=by
 cases t<;>simp [subs] at h<;>simp only [dp]
 case mul=>subst h;simp only;omega
 case two=>rcases h with h|h<;>subst h<;>simp only<;>omega
 case dv=>subst h;simp only;omega
 case md=>subst h;simp only;omega
 case rep=>subst h;simp only;omega
 case nt=>subst h;simp only;omega
 case cond=>rcases h with h|h|h<;>subst h<;>simp only<;>omega
theorem subs_len (t:Tr):(subs t).length≤3:=by cases t<;>simp [subs]
def cnt:Tr→Int
 | .x=>1|.n _=>1
 | .mul _ a=>1+cnt a
 | .two _ a b=>1+(cnt a+cnt b)
 | .dv a _=>1+cnt a
 | .md a _=>1+cnt a
 | .rep _ a=>1+cnt a
 | .nt a=>1+cnt a
 | .cond t a b=>1+(cnt t+(cnt a+cnt b))
theorem cnt_eq (t:Tr):cnt t=1+((subs t).map fun p=>cnt p.2).sum:=by cases t<;>simp [cnt,subs]
def lrun:Tr→Int
 | .x=>1|.n _=>1
 | .mul _ a=>1+lrun a
 | .two _ a b=>1+(lrun a+lrun b)
 | .dv a _=>1+lrun a
 | .md a _=>1+lrun a
 | .rep c a=>1+c*lrun a
 | .nt a=>1+lrun a
 | .cond t a b=>1+lrun t+max (lrun a) (lrun b)
def cap (i:Int):Int:=min 10001 i
def sane:Tr→Prop
 | .x=>True|.n _=>True
 | .mul _ a=>sane a
 | .two _ a b=>sane a∧sane b
 | .dv a _=>sane a
 | .md a c=>1≤c∧sane a
 | .rep c a=>(0≤c∧c<1000)∧sane a
 | .nt a=>sane a
 | .cond t a b=>sane t∧sane a∧sane b
theorem sane_sub {t:Tr}(hs:sane t){p:Nat × Tr}(h:p∈subs t):sane p.2:=by
 cases t<;>simp [subs] at h<;>simp only [sane] at hs
 case mul=>subst h;exact hs
 case two=>rcases h with h|h<;>subst h;exact hs.1;exact hs.2
 case dv=>subst h;exact hs
 case md=>subst h;exact hs.2
 case rep=>subst h;exact hs.2
 case nt=>subst h;exact hs
 case cond=>rcases h with h|h|h<;>subst h;exact hs.1;exact hs.2.1;exact hs.2.2
theorem lrun_pos:∀ t:Tr,sane t→1≤lrun t
 | .x,_=>by simp [lrun]
 | .n _,_=>by simp [lrun]
 | .mul _ a,h=>by have:=lrun_pos a h;simp only [lrun];omega
 | .two _ a b,h=>by have:=lrun_pos a h.1;have:=lrun_pos b h.2;simp only [lrun];omega
 | .dv a _,h=>by have:=lrun_pos a h;simp only [lrun];omega
 | .md a _,h=>by have:=lrun_pos a h.2;simp only [lrun];omega
 | .rep c a,h=>by
  have:=lrun_pos a h.2
  have h0:0≤c:=h.1.1
  have:=Int.mul_nonneg h0 (show 0≤lrun a by omega)
  simp only [lrun];omega
 | .nt a,h=>by have:=lrun_pos a h;simp only [lrun];omega
 | .cond t a b,h=>by have:=lrun_pos t h.1;have:=lrun_pos a h.2.1;have:=lrun_pos b h.2.2;simp only [lrun];omega
section
variable {X:Prog}(h:HCnt X)
include h
theorem count_ok (t:Tr):∀ (k:Nat) (st:St),dp t≤k→run X (k+3) 2 [toD t] st=.ok (.int (cnt t)) st:=by
 suffices H:∀ (n:Nat) (t:Tr),dp t≤n→∀ (k:Nat) (st:St),n≤k→run X (k+3) 2 [toD t] st=.ok (.int (cnt t)) st from fun k st hk=>H (dp t) t (Nat.le_refl _) k st hk
 intro n
 induction n using Nat.strongRecOn with
 | _ n ih =>
  intro t ht k st hk
  rw [run_fn h.f2 rfl]
  have hm:mapR (lcStep (evE (X.cx (k+2)) (.call 2 (.cons (.loc 2) .nil))) (evB (X.cx (k+2)) .no) (.tp (.cons (.nm 1) (.cons (.nm 2) .nil))) [1,2] [.val (toD t),.un,.un]) ((subs t).map partD) st=.ok ((subs t).map fun p=>.int (cnt p.2)) st:=mapR_of fun p hp=>by
   have hd:=dp_sub hp
   obtain ⟨k',rfl⟩:∃ k',k=k'+1:=⟨k-1,by omega⟩
   have:=ih (n-1) (by omega) p.2 (by omega) k' st (by omega)
   simp [q_step,partD,evB,evE,evEs]
   rw [show k'+1+2=k'+3 by omega,this]
   simp
  have hl:=subs_len t
  obtain ⟨eL,hE⟩:∃ eL,eL=E.lc (.call 2 (.cons (.loc 2) .nil)) (.tp (.cons (.nm 1) (.cons (.nm 2) .nil))) (.seq (.call 0 (.cons (.loc 0) .nil))) .no [1,2]:=⟨_,rfl⟩
  have he:evE (X.cx (k+2)) eL [.val (toD t),.un,.un] st=.ok (.lst ((subs t).map fun p=>.int (cnt p.2))) st:=by
   rw [hE]
   exact lc_ofq (by simp [evI,evE,evEs,items_ok h.toHIt]) hm (by simp;omega)
  unfold f2
  rw [← hE]
  simp [evSs,evS,evE,evEs,entry,he,ints_mapc,cnt_eq t]
end
end LT
end
section
namespace LT
open PL LB
section
variable {X:Prog}(h:HPt X)
include h
theorem parts_ok (k:Nat)(t:Tr)(st:St):run X (k+1) 12 [toD t] st=.ok (.lst ((subs t).map partD)) st:=by
 rw [run_fn h.f12 rfl]
 cases t with
 | two q a b =>
  cases q<;>simp [K2.nm,f12,toD,subs,partD,evSs,evS,evE,evI,evB,evEs,entry,mapR,q_step,findK,ix]
 | _=>simp [f12,toD,subs,partD,evSs,evS,evE,evI,evB,evEs,entry,mapR,q_step,findK,ix]
end
section
variable {X:Prog}(h:HRun X)
include h
theorem run_ok (t:Tr):∀ (k:Nat) (st:St),sane t→dp t≤k→run X (k+3) 3 [toD t] st=.ok (.int (cap (lrun t))) st:=by
 suffices H:∀ (n:Nat) (t:Tr),dp t≤n→sane t→∀ (k:Nat) (st:St),n≤k→run X (k+3) 3 [toD t] st=.ok (.int (cap (lrun t))) st from fun k st hs hk=>H (dp t) t (Nat.le_refl _) hs k st hk
 intro n
 induction n using Nat.strongRecOn with
 | _ n ih =>
  intro t ht hsane k st hk
  rw [run_fn h.f3 rfl]
  have hm:mapR (lcStep (evE (X.cx (k+2)) (.call 3 (.cons (.loc 3) .nil))) (evB (X.cx (k+2)) .no) (.tp (.cons (.nm 2) (.cons (.nm 3) .nil))) [2,3] [.val (toD t),.un,.un,.un]) ((subs t).map partD) st=.ok ((subs t).map fun p=>.int (cap (lrun p.2))) st:=mapR_of fun p hp=>by
   have hd:=dp_sub hp
   obtain ⟨k',rfl⟩:∃ k',k=k'+1:=⟨k-1,by omega⟩
   have:=ih (n-1) (by omega) p.2 (by omega) (sane_sub hsane hp) k' st (by omega)
   simp [q_step,partD,evB,evE,evEs]
   rw [show k'+1+2=k'+3 by omega,this]
   simp
  have hl:=subs_len t
  obtain ⟨eL,hE⟩:∃ eL,eL=E.lc (.call 3 (.cons (.loc 3) .nil)) (.tp (.cons (.nm 2) (.cons (.nm 3) .nil))) (.seq (.call 0 (.cons (.loc 0) .nil))) .no [2,3]:=⟨_,rfl⟩
  have he:evE (X.cx (k+2)) eL [.val (toD t),.un,.un,.un] st=.ok (.lst ((subs t).map fun p=>.int (cap (lrun p.2)))) st:=by
   rw [hE]
   exact lc_ofq (by simp [evI,evE,evEs,items_ok h.toHIt]) hm (by simp;omega)
  have sh:∀ l:List Int,(D.lst (l.map D.int)).shaped=true:=fun l=>by
   have:D.plains (l.map D.int)=true∧D.depths (l.map D.int)=0:=by
    induction l with
    | nil=>exact ⟨rfl,rfl⟩
    | cons a r ih=>simp [D.plains,D.plain,D.depths,D.depth,ih.1,ih.2]
   unfold D.shaped
   simp [D.plain,D.depth,this]
  have shs:(D.lst ((subs t).map fun p=>.int (cap (lrun p.2)))).shaped=true:=by
   have:=sh ((subs t).map fun p=>cap (lrun p.2))
   rw [List.map_map] at this
   exact this
  unfold f3
  rw [← hE]
  have pos:=lrun_pos _ hsane
  cases t with
  | x=>simp [subs,toD] at he;unfold cap;simp [evSs,evS,evE,evEs,entry,he,shs,toD,h.g0,D.ints,lrun,D.shaped,D.plain,D.plains,D.depth,D.depths,K2.nm,show min (10001:Int) 1=1 by decide]
  | n i=>simp [subs,toD] at he;unfold cap;simp [evSs,evS,evE,evEs,entry,he,shs,toD,h.g0,D.ints,lrun,D.shaped,D.plain,D.plains,D.depth,D.depths,K2.nm,show min (10001:Int) 1=1 by decide]
  | mul c a =>
   simp [subs,toD] at he shs
   simp [evSs,evS,evE,evEs,entry,he,shs,toD,h.g0,D.ints,lrun,D.shaped,D.plain,D.plains,D.depth,D.depths,K2.nm]
   have:=lrun_pos a hsane
   unfold cap
   omega
  | two q a b =>
   have h3:=lrun_pos a hsane.1
   have h4:=lrun_pos b hsane.2
   cases q<;>(simp [subs,toD,K2.nm] at he shs;simp [evSs,evS,evE,evEs,entry,he,shs,toD,h.g0,D.ints,lrun,D.shaped,D.plain,D.plains,D.depth,D.depths,K2.nm];unfold cap;omega)
  | dv a c =>
   simp [subs,toD] at he shs
   simp [evSs,evS,evE,evEs,entry,he,shs,toD,h.g0,D.ints,lrun,D.shaped,D.plain,D.plains,D.depth,D.depths,K2.nm]
   have:=lrun_pos a hsane
   unfold cap
   omega
  | md a c =>
   simp [subs,toD] at he shs
   simp [evSs,evS,evE,evEs,entry,he,shs,toD,h.g0,D.ints,lrun,D.shaped,D.plain,D.plains,D.depth,D.depths,K2.nm]
   have:=lrun_pos a hsane.2
   unfold cap
   omega
  | nt a =>
   simp [subs,toD] at he shs
   simp [evSs,evS,evE,evEs,entry,he,shs,toD,h.g0,D.ints,lrun,D.shaped,D.plain,D.plains,D.depth,D.depths,K2.nm]
   have:=lrun_pos a hsane
   unfold cap
   omega
  | cond t a b =>
   simp [subs,toD] at he shs
   simp [evSs,evS,evE,evEs,entry,he,shs,toD,h.g0,D.ints,lrun,D.shaped,D.plain,D.plains,D.depth,D.depths,K2.nm]
   have:=lrun_pos t hsane.1
   have:=lrun_pos a hsane.2.1
   have:=lrun_pos b hsane.2.2
   unfold cap
   omega
  | rep c a =>
   simp [subs,toD] at he shs
   simp [evSs,evS,evE,evEs,entry,he,shs,toD,h.g0,D.ints,lrun,D.shaped,D.plain,D.plains,D.depth,D.depths,K2.nm]
   have h1:=lrun_pos a hsane.2
   obtain ⟨c0,c1⟩:=hsane.1
   have hc:0≤cap (lrun a)∧cap (lrun a)≤10001:=by unfold cap;omega
   have m1:mulOk c (cap (lrun a))=true:=mulOk_of (j:=10) (k:=14) (by omega) (by omega) (by decide) (by decide) (by decide)
   simp [m1]
   unfold cap
   by_cases hz:lrun a≤10001
   ·rw [show min 10001 (lrun a)=lrun a by omega]
    omega
   ·rw [show min 10001 (lrun a)=10001 by omega]
    by_cases hc0:c=0
    ·subst hc0;simp;decide
    ·have:=Int.mul_le_mul_of_nonneg_left (show 10001≤lrun a by omega) c0
     omega
end
end LT
end
section
namespace LT
open PL LB
def W:Tr→Nat
 | .x=>2
 | .n i=>i.natAbs+2
 | .mul c a=>W a+c.natAbs+4
 | .two _ a b=>W a+W b+3
 | .dv a c=>W a+c.natAbs+3
 | .md a c=>W a+c.natAbs+3
 | .rep c a=>(c.natAbs+1)*(W a+3)
 | .nt a=>W a+3
 | .cond t a b=>W t+W a+W b+3
theorem two_le (n:Nat):(n:Int)<2^n:=by
 have:n<2^n:=Nat.lt_two_pow_self
 exact_mod_cast this
theorem W_sub {t:Tr}{p:Nat × Tr}(h:p∈subs t):W p.2+1≤W t:=by
 cases t<;>simp [subs] at h<;>simp only [W]
 case mul=>subst h;simp only;omega
 case two=>rcases h with h|h<;>subst h<;>simp only<;>omega
 case dv=>subst h;simp only;omega
 case md=>subst h;simp only;omega
 case rep c a =>
  subst h
  have:=Nat.le_mul_of_pos_left (W a+3) (show 0<c.natAbs+1 by omega)
  simp only
  omega
 case nt=>subst h;simp only;omega
 case cond=>rcases h with h|h|h<;>subst h<;>simp only<;>omega
theorem W_pos (t:Tr):2≤W t:=by
 cases t<;>simp only [W]<;>try omega
 rename_i c a
 have:=Nat.le_mul_of_pos_left (W a+3) (show 0<c.natAbs+1 by omega)
 omega
theorem pow_add2 (a b:Nat):(2:Int)^a*2^b=2^(a+b):=by rw [Int.pow_add]
theorem one_le_pow (n : Nat) : (1 : Int) ≤ 2 ^ n := by have : (0 : Int) < 2 ^ n := Int.pow_pos (by decide)
                                                       omega
theorem pow_mono {a b:Nat}(h:a≤b):(2:Int)^a≤2^b:=by
 have:(2:Nat)^a≤2^b:=Nat.pow_le_pow_right (by decide) h
 exact_mod_cast this
theorem sum_lt {a b:Int}{m n:Nat}(h1:a<2^m)(h2:b<2^n)(k:Nat)(hk:m+1≤k)(hk2:n+1≤k):a+b<2^k:=by
 have:=pow_mono hk
 have:=pow_mono hk2
 have e1:(2:Int)^(m+1)=2^m*2:=Int.pow_succ ..
 have e2:(2:Int)^(n+1)=2^n*2:=Int.pow_succ ..
 omega
theorem lrun_lt:∀ t:Tr,sane t→lrun t<2^W t
 | .x,_=>by simp [lrun,W]
 | .n i,_=>by
  have:=one_le_pow (i.natAbs+1)
  have:(2:Int)^(i.natAbs+2)=2^(i.natAbs+1)*2:=Int.pow_succ ..
  simp only [lrun,W]
  omega
 | .mul c a,h=>by
  have:=lrun_lt a h
  simp only [lrun,W]
  exact sum_lt (m:=1) (by decide) this _ (by omega) (by omega)
 | .two q a b,h=>by
  have h1:=lrun_lt a h.1
  have h2:=lrun_lt b h.2
  simp only [lrun,W]
  exact sum_lt (m:=1) (by decide) (sum_lt h1 h2 (W a+W b+1) (by have:=W_pos b;omega) (by have:=W_pos a;omega)) _ (by omega) (by omega)
 | .dv a c,h=>by
  have:=lrun_lt a h
  simp only [lrun,W]
  exact sum_lt (m:=1) (by decide) this _ (by omega) (by omega)
 | .md a c,h=>by
  have:=lrun_lt a h.2
  simp only [lrun,W]
  exact sum_lt (m:=1) (by decide) this _ (by omega) (by omega)
 | .rep c a,h=>by
  have h1:=lrun_lt a h.2
  have h0:=lrun_pos a h.2
  have hc:c<2^c.natAbs:=by have:=two_le c.natAbs;have:=h.1.1;omega
  have hm:c*lrun a<2^(c.natAbs+W a):=by
   rw [← pow_add2]
   have:=h.1.1
   exact Int.mul_lt_mul hc (Int.le_of_lt h1) (by omega) (Int.le_of_lt (Int.pow_pos (by decide)))
  have hw:c.natAbs+W a+1≤(c.natAbs+1)*(W a+3):=by
   rw [Nat.add_mul,Nat.mul_add]
   omega
  simp only [lrun,W]
  exact sum_lt (m:=1) (by decide) hm _ (by have:=W_pos a;omega) (by omega)
 | .nt a,h=>by
  have:=lrun_lt a h
  simp only [lrun,W]
  exact sum_lt (m:=1) (by decide) this _ (by omega) (by omega)
 | .cond t a b,h=>by
  have h1:=lrun_lt t h.1
  have h2:=lrun_lt a h.2.1
  have h3:=lrun_lt b h.2.2
  have hm:max (lrun a) (lrun b)<2^(W a+W b):=by
   have:=pow_mono (show W a≤W a+W b by omega)
   have:=pow_mono (show W b≤W a+W b by omega)
   omega
  simp only [lrun,W]
  exact sum_lt (sum_lt (m:=1) (by decide) h1 (W t+2) (by omega) (by omega)) hm _ (by omega) (by omega)
end LT
end
section
namespace LT
open PL LB
section
variable {X:Prog}(h:HLr X)
include h
theorem lrun_ok (t:Tr):∀ (k:Nat) (st:St),sane t→W t≤400000→dp t≤k→run X (k+3) 14 [toD t] st=.ok (.int (lrun t)) st:=by
 suffices H:∀ (n:Nat) (t:Tr),dp t≤n→sane t→W t≤400000→∀ (k:Nat) (st:St),n≤k→run X (k+3) 14 [toD t] st=.ok (.int (lrun t)) st from fun k st hs hW hk=>H (dp t) t (Nat.le_refl _) hs hW k st hk
 intro n
 induction n using Nat.strongRecOn with
 | _ n ih =>
  intro t ht hsane hW k st hk
  rw [run_fn h.f14 rfl]
  have hm:mapR (lcStep (evE (X.cx (k+2)) (.call 14 (.cons (.loc 3) .nil))) (evB (X.cx (k+2)) .no) (.tp (.cons (.nm 2) (.cons (.nm 3) .nil))) [2,3] [.val (toD t),.un,.un,.un]) ((subs t).map partD) st=.ok ((subs t).map fun p=>.int (lrun p.2)) st:=mapR_of fun p hp=>by
   have hd:=dp_sub hp
   obtain ⟨k',rfl⟩:∃ k',k=k'+1:=⟨k-1,by omega⟩
   have:=ih (n-1) (by omega) p.2 (by omega) (sane_sub hsane hp) (by have:=W_sub hp;omega) k' st (by omega)
   simp [q_step,partD,evB,evE,evEs]
   rw [show k'+1+2=k'+3 by omega,this]
   simp
  have hl:=subs_len t
  obtain ⟨eL,hE⟩:∃ eL,eL=E.lc (.call 14 (.cons (.loc 3) .nil)) (.tp (.cons (.nm 2) (.cons (.nm 3) .nil))) (.seq (.call 12 (.cons (.loc 0) .nil))) .no [2,3]:=⟨_,rfl⟩
  have he:evE (X.cx (k+2)) eL [.val (toD t),.un,.un,.un] st=.ok (.lst ((subs t).map fun p=>.int (lrun p.2))) st:=by
   rw [hE]
   exact lc_ofq (by simp [evI,evE,evEs,parts_ok h.toHPt]) hm (by simp;omega)
  have sh:∀ l:List Int,(D.lst (l.map D.int)).shaped=true:=fun l=>by
   have:D.plains (l.map D.int)=true∧D.depths (l.map D.int)=0:=by
    induction l with
    | nil=>exact ⟨rfl,rfl⟩
    | cons a r ih=>simp [D.plains,D.plain,D.depths,D.depth,ih.1,ih.2]
   unfold D.shaped
   simp [D.plain,D.depth,this]
  have shs:(D.lst ((subs t).map fun p=>.int (lrun p.2))).shaped=true:=by
   have:=sh ((subs t).map fun p=>lrun p.2)
   rw [List.map_map] at this
   exact this
  unfold f14
  rw [← hE]
  have pos:=lrun_pos _ hsane
  cases t with
  | x=>simp [subs,toD] at he;simp [evSs,evS,evE,evEs,evO,entry,he,shs,toD,D.ints,lrun,D.shaped,D.plain,D.plains,D.depth,D.depths,K2.nm,D.part]
  | n i=>simp [subs,toD] at he;simp [evSs,evS,evE,evEs,evO,entry,he,shs,toD,D.ints,lrun,D.shaped,D.plain,D.plains,D.depth,D.depths,K2.nm,D.part]
  | two q a b=>cases q<;>(simp [subs,toD,K2.nm] at he shs;simp [evSs,evS,evE,evEs,evO,entry,he,shs,toD,D.ints,lrun,D.shaped,D.plain,D.plains,D.depth,D.depths,K2.nm,D.part])
  | rep c a =>
   simp [subs,toD] at he shs
   have h1:=lrun_pos a hsane.2
   have h3:=lrun_lt a hsane.2
   have h4:=W_sub (t:=.rep c a) (p:=(2,a)) (by simp [subs])
   obtain ⟨c0,c1⟩:=hsane.1
   have h5:(lrun a).natAbs<2^W a:=by
    have:((lrun a).natAbs:Int)<2^W a:=by omega
    exact_mod_cast this
   have m1:mulOk c (lrun a)=true:=mulOk_of (j:=10) (k:=W a) (by omega) h5 (by decide) (by have:=W_pos a;omega) (by simp only at h4;omega)
   simp [evSs,evS,evE,evEs,evO,entry,he,shs,toD,D.ints,lrun,D.shaped,D.plain,D.plains,D.depth,D.depths,K2.nm,D.part,m1]
  | cond t a b =>
   simp [subs,toD] at he shs
   simp [evSs,evS,evE,evEs,evO,entry,he,shs,toD,D.ints,lrun,D.shaped,D.plain,D.plains,D.depth,D.depths,K2.nm,D.part,cutD,cut,endI,clampI,maxI]
  | _ =>
   simp [subs,toD] at he shs
   simp [evSs,evS,evE,evEs,evO,entry,he,shs,toD,D.ints,lrun,D.shaped,D.plain,D.plains,D.depth,D.depths,K2.nm,D.part]
end
end LT
end
section
namespace LT
open PL LB
def pre (i:Int)(l:List (List Int × Tr)):List (List Int × Tr):=l.map fun q=>(i::q.1,q.2)
def pths:Tr→List (List Int × Tr)
 | .x=>[([],.x)]
 | .n i=>[([],.n i)]
 | .mul c a=>([],.mul c a)::pre 2 (pths a)
 | .two q a b=>([],.two q a b)::(pre 1 (pths a)++pre 2 (pths b))
 | .dv a c=>([],.dv a c)::pre 1 (pths a)
 | .md a c=>([],.md a c)::pre 1 (pths a)
 | .rep c a=>([],.rep c a)::pre 2 (pths a)
 | .nt a=>([],.nt a)::pre 1 (pths a)
 | .cond t a b=>([],.cond t a b)::(pre 1 (pths t)++(pre 2 (pths a)++pre 3 (pths b)))
def pthD (q:List Int × Tr):D:=.tup [.tup (q.1.map D.int),toD q.2]
def heads (t:Tr)(i:Nat):List (List Int × Tr):=([],t)::(((subs t).take i).map fun p=>pre p.1 (pths p.2)).flatten
theorem heads_all (t:Tr):heads t (subs t).length=pths t:=by
 cases t<;>simp [heads,subs,pths]
theorem heads_more {t:Tr}{i:Nat}{p:Nat × Tr}(h:(subs t)[i]?=some p):heads t (i+1)=heads t i++pre p.1 (pths p.2):=by
 unfold heads
 rw [List.take_add_one,h]
 simp
theorem pre_len (i:Int)(l:List (List Int × Tr)):(pre i l).length=l.length:=by simp [pre]
theorem pths_len:∀ t:Tr,((pths t).length:Int)=cnt t
 | .x=>rfl
 | .n _=>rfl
 | .mul _ a=>by simp [pths,cnt,pre_len,pths_len a];omega
 | .two _ a b=>by simp [pths,cnt,pre_len,pths_len a,pths_len b];omega
 | .dv a _=>by simp [pths,cnt,pre_len,pths_len a];omega
 | .md a _=>by simp [pths,cnt,pre_len,pths_len a];omega
 | .rep _ a=>by simp [pths,cnt,pre_len,pths_len a];omega
 | .nt a=>by simp [pths,cnt,pre_len,pths_len a];omega
 | .cond t a b=>by simp [pths,cnt,pre_len,pths_len t,pths_len a,pths_len b];omega
theorem cnt_le:∀ t:Tr,cnt t≤W t
 | .x=>by simp [cnt,W]
 | .n _=>by simp [cnt,W];omega
 | .mul _ a=>by have:=cnt_le a;simp only [cnt,W];omega
 | .two _ a b=>by have:=cnt_le a;have:=cnt_le b;simp only [cnt,W];omega
 | .dv a _=>by have:=cnt_le a;simp only [cnt,W];omega
 | .md a _=>by have:=cnt_le a;simp only [cnt,W];omega
 | .rep c a=>by
  have h:=cnt_le a
  have:=Nat.le_mul_of_pos_left (W a+3) (show 0<c.natAbs+1 by omega)
  simp only [cnt,W]
  omega
 | .nt a=>by have:=cnt_le a;simp only [cnt,W];omega
 | .cond t a b=>by have:=cnt_le t;have:=cnt_le a;have:=cnt_le b;simp only [cnt,W];omega
theorem pths_dp:∀ (t:Tr) (q:List Int × Tr),q∈pths t→q.1.length≤dp t:=by
 have pl:∀ (i:Int) (l:List (List Int × Tr)) (n:Nat),(∀ q∈l,q.1.length≤n)→∀ q∈pre i l,q.1.length≤n+1:=by
  intro i l n h q hq
  unfold pre at hq
  obtain ⟨q',h1,rfl⟩:=List.mem_map.mp hq
  have:=h q' h1
  simp only [List.length_cons]
  omega
 intro t
 induction t with
 | x=>intro q hq;simp [pths] at hq;subst hq;simp
 | n i=>intro q hq;simp [pths] at hq;subst hq;simp
 | mul c a ih=>intro q hq;simp only [pths,List.mem_cons] at hq;rcases hq with rfl|hq;simp;have:=pl _ _ _ ih q hq;simp only [dp];omega
 | two k a b ih1 ih2 =>
  intro q hq
  simp only [pths,List.mem_cons,List.mem_append] at hq
  simp only [dp]
  rcases hq with rfl|hq|hq
  ·simp
  ·have:=pl _ _ _ ih1 q hq;omega
  ·have:=pl _ _ _ ih2 q hq;omega
 | dv a c ih=>intro q hq;simp only [pths,List.mem_cons] at hq;rcases hq with rfl|hq;simp;have:=pl _ _ _ ih q hq;simp only [dp];omega
 | md a c ih=>intro q hq;simp only [pths,List.mem_cons] at hq;rcases hq with rfl|hq;simp;have:=pl _ _ _ ih q hq;simp only [dp];omega
 | rep c a ih=>intro q hq;simp only [pths,List.mem_cons] at hq;rcases hq with rfl|hq;simp;have:=pl _ _ _ ih q hq;simp only [dp];omega
 | nt a ih=>intro q hq;simp only [pths,List.mem_cons] at hq;rcases hq with rfl|hq;simp;have:=pl _ _ _ ih q hq;simp only [dp];omega
 | cond t a b ih1 ih2 ih3 =>
  intro q hq
  simp only [pths,List.mem_cons,List.mem_append] at hq
  simp only [dp]
  rcases hq with rfl|hq|hq|hq
  ·simp
  ·have:=pl _ _ _ ih1 q hq;omega
  ·have:=pl _ _ _ ih2 q hq;omega
  ·have:=pl _ _ _ ih3 q hq;omega
theorem heads_len (t:Tr)(i:Nat):(heads t i).length≤(pths t).length:=by
 rw [← heads_all t]
 unfold heads
 simp only [List.length_cons]
 have:((((subs t).take i).map fun p=>pre p.1 (pths p.2)).flatten).length≤((((subs t).take (subs t).length).map fun p=>pre p.1 (pths p.2)).flatten).length:=by
  rw [List.take_length]
  conv=>rhs;rw [← List.take_append_drop i (subs t),List.map_append,List.flatten_append,List.length_append]
  omega
 omega
section
variable {X:Prog}(h:HPths X)
include h
theorem paths_ok (t:Tr):∀ (k:Nat) (st:St),W t≤400000→dp t≤k→k≤1000→run X (k+3) 13 [toD t] st=.ok (.lst ((pths t).map pthD)) st:=by
 suffices H:∀ (n:Nat) (t:Tr),dp t≤n→W t≤400000→∀ (k:Nat) (st:St),n≤k→k≤1000→run X (k+3) 13 [toD t] st=.ok (.lst ((pths t).map pthD)) st from fun k st hW hk hk2=>H (dp t) t (Nat.le_refl _) hW k st hk hk2
 intro n
 induction n using Nat.strongRecOn with
 | _ n ih =>
  intro t ht hW k st hk hk2
  rw [run_fn h.f13 rfl]
  obtain ⟨eB,hB⟩:∃ eB,eB=Ss.cons (.ext [] 1 (.lc (.tup (.cons (.bin .add (.tup (.cons (.loc 2) .nil)) (.loc 4)) (.cons (.loc 5) .nil))) (.tp (.cons (.nm 4) (.cons (.nm 5) .nil))) (.seq (.call 13 (.cons (.loc 3) .nil))) .no [4,5])) .nil:=⟨_,rfl⟩
  obtain ⟨env',st2,e1,s2,s3,he2,hst⟩:=forL_inv (f:=forStep (evSs (X.cx (k+2)) eB) (.tp (.cons (.nm 2) (.cons (.nm 3) .nil)))) (P:=fun i env st'=>∃ s2 s3,env=[.val (toD t),.own ((heads t i).map pthD),s2,s3,.un,.un]∧st'=st)
   (ds:=(subs t).map partD) (i:=0) (env:=[.val (toD t),.own ((heads t 0).map pthD),.un,.un,.un,.un]) (st:=st) ⟨_,_,rfl,rfl⟩ (fun j d env st' hj hp=>by
    obtain ⟨s2,s3,rfl,rfl⟩:=hp
    rw [List.getElem?_map] at hj
    obtain ⟨p,hp,rfl⟩:=Option.map_eq_some_iff.mp hj
    have hmem:p∈subs t:=List.mem_of_getElem? hp
    have hd:=dp_sub hmem
    have hw:=W_sub hmem
    obtain ⟨k',rfl⟩:∃ k',k=k'+1:=⟨k-1,by omega⟩
    have hc:run X (k'+1+2) 13 [toD p.2] st'=.ok (.lst ((pths p.2).map pthD)) st':=ih (n-1) (by omega) p.2 (by omega) (by omega) k' st' (by omega) (by omega)
    have hm:∀ env:Env,env=[.val (toD t),.own ((heads t (0+j)).map pthD),.val (.int p.1),.val (toD p.2),.un,.un]→mapR (lcStep (evE (X.cx (k'+1+2)) (.tup (.cons (.bin .add (.tup (.cons (.loc 2) .nil)) (.loc 4)) (.cons (.loc 5) .nil)))) (evB (X.cx (k'+1+2)) .no) (.tp (.cons (.nm 4) (.cons (.nm 5) .nil))) [4,5] env) ((pths p.2).map pthD) st'=.ok ((pths p.2).map fun q=>pthD ((p.1:Int)::q.1,q.2)) st':=fun env henv=>mapR_of fun q hq=>by
     subst henv
     have:=pths_dp p.2 q hq
     simp [q_step,pthD,evB,evE,evEs,show 1+q.1.length≤16777216 by omega]
    have hl:(((pths p.2).map fun q=>pthD ((p.1:Int)::q.1,q.2))).length≤line:=by
     have h1:=pths_len p.2
     have h3:=cnt_le p.2
     simp
     omega
    have he:evE (X.cx (k'+1+2)) (.lc (.tup (.cons (.bin .add (.tup (.cons (.loc 2) .nil)) (.loc 4)) (.cons (.loc 5) .nil))) (.tp (.cons (.nm 4) (.cons (.nm 5) .nil))) (.seq (.call 13 (.cons (.loc 3) .nil))) .no [4,5]) [.val (toD t),.own ((heads t (0+j)).map pthD),.val (.int p.1),.val (toD p.2),.un,.un] st'=.ok (.lst ((pths p.2).map fun q=>pthD ((p.1:Int)::q.1,q.2))) st' :=
     lc_ofq (by simp [evI,evE,evEs,hc]) (hm _ rfl) hl
    have hlen:(heads t (0+j)).length+(pths p.2).length≤line:=by
     have h1:=heads_len t (0+j+1)
     rw [heads_more (by simpa using hp),List.length_append,pre_len] at h1
     have h3:=pths_len t
     have h4:=cnt_le t
     rw [q_line]
     omega
    refine ⟨[.val (toD t),.own ((heads t (0+j+1)).map pthD),.val (.int p.1),.val (toD p.2),.un,.un],st',?_,_,_,rfl,rfl⟩
    rw [hB]
    unfold forStep
    simp only [partD,q_putT,q_putCons,q_putN,q_putNil,Option.bind_some,List.set_cons_succ,List.set_cons_zero,Q.opt_some]
    rw [evSs,evS]
    simp only [q_own,List.getElem?_cons_succ,List.getElem?_cons_zero,Option.bind_some,Q.opt_some,q_frz0]
    rw [he]
    simp only [R.use_ok,lstAt,true_or,if_true,Q.opt_some,List.length_map,hlen,Q.then_next,List.set_cons_succ,List.set_cons_zero]
    rw [evSs]
    rw [heads_more (by simpa using hp)]
    simp [pre,List.map_map])
  rw [he2,hst] at e1
  have hb:f13=Ss.cons (.asg true 1 (.lst (.cons (.tup (.cons (.tup .nil) (.cons (.loc 0) .nil))) .nil))) (.cons (.for_ (.tp (.cons (.nm 2) (.cons (.nm 3) .nil))) (.seq (.call 12 (.cons (.loc 0) .nil))) eB) (.cons (.frz [1]) (.cons (.ret (.loc 1)) .nil))):=by rw [hB];rfl
  rw [hb]
  rw [evSs,evS]
  have e0:evE (X.cx (k+2)) (.lst (.cons (.tup (.cons (.tup .nil) (.cons (.loc 0) .nil))) .nil)) (entry 6 [toD t]) st=.ok (.lst ((heads t 0).map pthD)) st:=by
   simp [evE,evEs,entry,heads,pthD]
  rw [e0]
  simp only [R.use_ok,q_mkT,Q.then_next]
  rw [evSs,for_ofq (ds:=(subs t).map partD) (st1:=st) (by simp [evI,evE,evEs,entry,parts_ok h.toHPt])]
  have e2:(entry 6 [toD t]).set 1 (.own ((heads t 0).map pthD))=[.val (toD t),.own ((heads t 0).map pthD),.un,.un,.un,.un]:=by simp [entry]
  rw [e2,e1]
  simp only [Q.then_next,Nat.zero_add,List.length_map]
  rw [heads_all]
  simp [evSs,evS,evE,freeze,frz1,Slot.frz]
end
end LT
end
section
namespace LT
open PL LB
def rstep (a b:Int)(p:Int × Int):Int × Int:=(max p.1 (p.1*a),max p.2 (p.2*a+b))
def rloop (a b:Int):Nat→Int × Int
 | 0=>(1,0)
 | n+1=>rstep a b (rloop a b n)
def rc:Tr→Int × Int
 | .x=>(1,0)
 | .n i=>(0,if i<0 then -i else i)
 | .mul c a=>((rc a).1*max 1 (if c<0 then -c else c),(rc a).2*max 1 (if c<0 then -c else c))
 | .two .add a b=>((rc a).1+(rc b).1,(rc a).2+(rc b).2)
 | .two .sub a b=>((rc a).1+(rc b).1,(rc a).2+(rc b).2)
 | .two .then_ a b=>rstep (rc b).1 (rc b).2 (rc a)
 | .two _ a b=>(max (rc a).1 (rc b).1,max (rc a).2 (rc b).2)
 | .dv a _=>rc a
 | .md a c=>((rc a).1,max (rc a).2 (c-1))
 | .rep c a=>rloop (rc a).1 (rc a).2 c.toNat
 | .nt a=>rc a
 | .cond t a b=>(max (max (rc t).1 (rc a).1) (rc b).1,max (max (rc t).2 (rc a).2) (rc b).2)
def Low (p:Int × Int)(n:Nat):Prop:=0≤p.1∧0≤p.2∧p.1<2^n∧p.2<2^n
theorem Low.mono {p:Int × Int}{m n:Nat}(h:Low p m)(hn:m≤n):Low p n:=by
 have:=pow_mono hn
 obtain ⟨h1,h2,h3,h4⟩:=h
 exact ⟨h1,h2,by omega,by omega⟩
theorem mul_lt {a b:Int}{m n:Nat}(h0:0≤a)(h1:a<2^m)(h2:0≤b)(h3:b<2^n):a*b<2^(m+n):=by
 rw [← pow_add2]
 by_cases hb:b=0
 ·subst hb
  have:=Int.mul_pos (show (0:Int)<2^m from Int.pow_pos (by decide)) (show (0:Int)<2^n from Int.pow_pos (by decide))
  omega
 ·exact Int.mul_lt_mul h1 (Int.le_of_lt h3) (by omega) (Int.le_of_lt (Int.pow_pos (by decide)))
theorem low_step {a b:Int}{p:Int × Int}{m n:Nat}(h:Low p m)(h1:0≤a)(h2:0≤b)(h3:a<2^n)(h4:b<2^n)(hm:1≤m):Low (rstep a b p) (m+n+1):=by
 obtain ⟨q1,q2,q3,q4⟩:=h
 have m1:=mul_lt q1 q3 h1 h3
 have m2:=mul_lt q2 q4 h1 h3
 have n1:=Int.mul_nonneg q1 h1
 have n2:=Int.mul_nonneg q2 h1
 have s2:=sum_lt m2 h4 (m+n+1) (by omega) (by omega)
 have:=pow_mono (show m≤m+n+1 by omega)
 have:=pow_mono (show m+n≤m+n+1 by omega)
 unfold rstep Low
 simp only
 omega
theorem low_loop {a b:Int}{n:Nat}(h1:0≤a)(h2:0≤b)(h3:a<2^n)(h4:b<2^n):∀ j,Low (rloop a b j) (j*(n+1)+1)
 | 0=>by unfold rloop Low;simp
 | j+1=>by
  have:=low_step (low_loop h1 h2 h3 h4 j) h1 h2 h3 h4 (by omega)
  unfold rloop
  exact this.mono (by rw [Nat.add_mul];omega)
theorem abs_lt (i:Int):(if i<0 then -i else i)<2^i.natAbs:=by have:=two_le i.natAbs;omega
theorem low_rc:∀ t:Tr,sane t→Low (rc t) (W t)
 | .x,_=>by unfold Low;simp [rc,W]
 | .n i,_=>by
  have h1:=abs_lt i
  have h2:=pow_mono (show i.natAbs≤i.natAbs+2 by omega)
  have h3:=one_le_pow (i.natAbs+2)
  unfold Low
  simp only [rc,W]
  omega
 | .mul c a,h=>by
  obtain ⟨q1,q2,q3,q4⟩:=low_rc a h
  have h1:=abs_lt c
  have h2:=pow_mono (show c.natAbs≤c.natAbs+1 by omega)
  have h3:(2:Int)^(c.natAbs+1)=2^c.natAbs*2:=Int.pow_succ ..
  have h4:=one_le_pow c.natAbs
  generalize hm:max 1 (if c<0 then -c else c)=f
  have f0:0≤f:=by omega
  have f1:f<2^(c.natAbs+1):=by omega
  have m1:=mul_lt q1 q3 f0 f1
  have m2:=mul_lt q2 q4 f0 f1
  have n1:=Int.mul_nonneg q1 f0
  have n2:=Int.mul_nonneg q2 f0
  have:=pow_mono (show W a+(c.natAbs+1)≤W (.mul c a) by simp only [W];omega)
  unfold Low
  simp only [rc,hm]
  omega
 | .two q a b,h=>by
  have l1:=low_rc a h.1
  have l2:=low_rc b h.2
  obtain ⟨p1,p2,p3,p4⟩:=l1
  obtain ⟨q1,q2,q3,q4⟩:=l2
  have g1:=pow_mono (show W a≤W a+W b+3 by omega)
  have g2:=pow_mono (show W b≤W a+W b+3 by omega)
  have hs:=sum_lt p3 q3 (W a+W b+3) (by omega) (by omega)
  have ho:=sum_lt p4 q4 (W a+W b+3) (by omega) (by omega)
  cases q
  case then_ =>
   have:=low_step (p:=rc a) (low_rc a h.1) q1 q2 q3 q4 (by have:=W_pos a;omega)
   exact this.mono (by simp only [W];omega)
  all_goals
   unfold Low
   simp only [rc,W]
   omega
 | .dv a c,h=>(low_rc a h).mono (by simp only [W];omega)
 | .md a c,h=>by
  obtain ⟨p1,p2,p3,p4⟩:=low_rc a h.2
  have h1:=abs_lt c
  have g1:=pow_mono (show W a≤W a+c.natAbs+3 by omega)
  have g2:=pow_mono (show c.natAbs≤W a+c.natAbs+3 by omega)
  unfold Low
  simp only [rc,W]
  omega
 | .rep c a,h=>by
  obtain ⟨p1,p2,p3,p4⟩:=low_rc a h.2
  have:=low_loop p1 p2 p3 p4 c.toNat
  refine this.mono ?_
  have hc:c.toNat≤c.natAbs:=by omega
  simp only [W]
  have:=Nat.mul_le_mul hc (show W a+1≤W a+3 by omega)
  rw [Nat.add_mul]
  omega
 | .nt a,h=>(low_rc a h).mono (by simp only [W];omega)
 | .cond t a b,h=>by
  obtain ⟨p1,p2,p3,p4⟩:=low_rc t h.1
  obtain ⟨q1,q2,q3,q4⟩:=low_rc a h.2.1
  obtain ⟨r1,r2,r3,r4⟩:=low_rc b h.2.2
  have g1:=pow_mono (show W t≤W t+W a+W b+3 by omega)
  have g2:=pow_mono (show W a≤W t+W a+W b+3 by omega)
  have g3:=pow_mono (show W b≤W t+W a+W b+3 by omega)
  unfold Low
  simp only [rc,W]
  omega
abbrev CC:Int:=1000000000000000001
def cp (p:Int × Int):Int × Int:=(min CC p.1,min CC p.2)
theorem cap_mul {a f:Int}(h0:0≤a)(hf:1≤f):min CC (min CC a*f)=min CC (a*f):=by
 by_cases h:a≤CC
 ·rw [show min CC a=a by omega]
 ·rw [show min CC a=CC by omega]
  have h1:=Int.mul_le_mul_of_nonneg_left hf (show 0≤a by omega)
  have h2:=Int.mul_le_mul_of_nonneg_left hf (show (0:Int)≤CC by decide)
  omega
theorem cap_step {a b:Int}{p:Int × Int}(h1:0≤a)(h2:0≤b)(p1:0≤p.1)(p2:0≤p.2):cp (rstep (min CC a) (min CC b) (cp p))=cp (rstep a b p):=by
 obtain ⟨s,o⟩:=p
 simp only at p1 p2
 unfold rstep cp
 simp only [Prod.mk.injEq]
 have sa:=Int.mul_nonneg p1 h1
 have oa:=Int.mul_nonneg p2 h1
 constructor
 ·by_cases hs:CC≤s
  ·rw [show min CC s=CC by omega];omega
  ·rw [show min CC s=s by omega]
   by_cases ha:a≤CC
   ·rw [show min CC a=a by omega]
   ·rw [show min CC a=CC by omega]
    by_cases hz:s=0
    ·subst hz;simp
    ·have:=Int.mul_le_mul_of_nonneg_right (show 1≤s by omega) (show (0:Int)≤CC by decide)
     have:=Int.mul_le_mul_of_nonneg_right (show 1≤s by omega) (show (0:Int)≤a by omega)
     omega
 ·by_cases ho:CC≤o
  ·rw [show min CC o=CC by omega];omega
  ·rw [show min CC o=o by omega]
   by_cases ha:a≤CC
   ·rw [show min CC a=a by omega]
    omega
   ·rw [show min CC a=CC by omega]
    by_cases hz:o=0
    ·subst hz;simp;omega
    ·have:=Int.mul_le_mul_of_nonneg_right (show 1≤o by omega) (show (0:Int)≤CC by decide)
     have:=Int.mul_le_mul_of_nonneg_right (show 1≤o by omega) (show (0:Int)≤a by omega)
     omega
end LT
end
section
namespace LT
open PL LB
def rD (p:Int × Int):D:=.tup [.int p.1,.int p.2]
theorem nat_lt {a:Int}{n:Nat}(h0:0≤a)(h:a<2^n):a.natAbs<2^n:=by
 have:((a.natAbs:Nat):Int)<2^n:=by omega
 exact_mod_cast this
theorem mulOk_low {a b:Int}{m n:Nat}(h0:0≤a)(h:a<2^m)(h1:0≤b)(h2:b<2^n)(hm:0<m)(hn:0<n)(hk:m+n≤1000000):mulOk a b=true:=mulOk_of (nat_lt h0 h) (nat_lt h1 h2) hm hn hk
theorem flS (s:List Nat):D.flat (.str s)=true:=rfl
theorem eqSS (a b:List Nat):D.eqv (.str a) (.str b)=(a==b):=rfl
theorem ints0:D.ints []=some []:=rfl
theorem ints1 (i:Int)(r:List D):D.ints (.int i::r)=(D.ints r).map (i :: ·):=by simp [D.ints]
section
variable {X:Prog}(h:HLrc X)
include h
theorem lreach_ok (t:Tr):∀ (k:Nat) (st:St),sane t→W t≤400000→dp t≤k→run X (k+3) 15 [toD t] st=.ok (rD (rc t)) st:=by
 suffices H:∀ (n:Nat) (t:Tr),dp t≤n→sane t→W t≤400000→∀ (k:Nat) (st:St),n≤k→run X (k+3) 15 [toD t] st=.ok (rD (rc t)) st from fun k st hs hW hk=>H (dp t) t (Nat.le_refl _) hs hW k st hk
 intro n
 induction n using Nat.strongRecOn with
 | _ n ih =>
  intro t ht hsane hW k st hk
  rw [run_fn h.f15 rfl]
  have hl:=subs_len t
  obtain ⟨e1,hE1⟩:∃ eL,eL=E.lc (.call 15 (.cons (.loc 8) .nil)) (.tp (.cons (.nm 7) (.cons (.nm 8) .nil))) (.seq (.call 12 (.cons (.loc 0) .nil))) .no [7,8]:=⟨_,rfl⟩
  obtain ⟨e2,hE2⟩:∃ eL,eL=E.lc (.sub (.loc 9) (.cst (.int 0))) (.nm 9) (.seq (.loc 1)) .no [9]:=⟨_,rfl⟩
  obtain ⟨e3,hE3⟩:∃ eL,eL=E.lc (.sub (.loc 9) (.cst (.int 1))) (.nm 9) (.seq (.loc 1)) .no [9]:=⟨_,rfl⟩
  obtain ⟨eF,hF⟩:∃ eF,eF=S.for_ (.nm 4) (.rng1 (.sub (.loc 0) (.cst (.int 1)))) (.cons (.par2 false false 5 6 (.bi .max2 (.cons (.loc 5) (.cons (.bin .mul (.loc 5) (.sub (.loc 2) (.cst (.int 0)))) .nil))) (.bi .max2 (.cons (.loc 6) (.cons (.bin .add (.bin .mul (.loc 6) (.sub (.loc 2) (.cst (.int 0)))) (.sub (.loc 3) (.cst (.int 0)))) .nil)))) .nil):=⟨_,rfl⟩
  have g1:evE (X.cx (k+2)) e1 [.val (toD t),.un,.un,.un,.un,.un,.un,.un,.un,.un] st=.ok (.lst ((subs t).map fun p=>rD (rc p.2))) st:=by
   rw [hE1]
   refine lc_ofq (ds:=(subs t).map partD) (st1:=st) (by simp [evI,evE,evEs,parts_ok h.toHPt]) (mapR_of fun p hp=>?_) (by simp;omega)
   have hd:=dp_sub hp
   have hw:=W_sub hp
   obtain ⟨k',rfl⟩:∃ k',k=k'+1:=⟨k-1,by omega⟩
   have:run X (k'+1+2) 15 [toD p.2] st=.ok (rD (rc p.2)) st:=ih (n-1) (by omega) p.2 (by omega) (sane_sub hsane hp) (by omega) k' st (by omega)
   simp [q_step,partD,evB,evE,evEs,this]
  have g2:evE (X.cx (k+2)) e2 [.val (toD t),.val (.lst ((subs t).map fun p=>rD (rc p.2))),.un,.un,.un,.un,.un,.un,.un,.un] st=.ok (.lst ((subs t).map fun p=>.int (rc p.2).1)) st:=by
   rw [hE2]
   refine lc_ofq (ds:=(subs t).map fun p=>rD (rc p.2)) (st1:=st) (by simp [evI,evE,evEs]) (mapR_of fun p hp=>?_) (by simp;omega)
   simp [q_step,rD,evB,evE,evEs]
  have g3:evE (X.cx (k+2)) e3 [.val (toD t),.val (.lst ((subs t).map fun p=>rD (rc p.2))),.un,.un,.un,.un,.un,.un,.un,.un] st=.ok (.lst ((subs t).map fun p=>.int (rc p.2).2)) st:=by
   rw [hE3]
   refine lc_ofq (ds:=(subs t).map fun p=>rD (rc p.2)) (st1:=st) (by simp [evI,evE,evEs]) (mapR_of fun p hp=>?_) (by simp;omega)
   simp [q_step,rD,evB,evE,evEs]
  unfold f15
  rw [← hE1,← hE2,← hE3,← hF]
  cases t with
  | x=>simp [evSs,evS,evE,evEs,entry,toD,rc,rD]
  | n i=>simp [evSs,evS,evE,evEs,entry,toD,rc,rD]
  | two q a b =>
   obtain ⟨p1,p2,p3,p4⟩:=low_rc a hsane.1
   obtain ⟨q1,q2,q3,q4⟩:=low_rc b hsane.2
   have wa:=W_pos a
   have wb:=W_pos b
   simp only [W] at hW
   have m1:mulOk (rc a).1 (rc b).1=true:=mulOk_low p1 p3 q1 q3 (by omega) (by omega) (by omega)
   have m2:mulOk (rc a).2 (rc b).1=true:=mulOk_low p2 p4 q1 q3 (by omega) (by omega) (by omega)
   cases q<;>(simp [subs,toD,K2.nm,rD] at g1 g2 g3;simp [evSs,evS,evE,evEs,entry,toD,rc,rD,rstep,g1,g2,g3,K2.nm,flS,eqSS,ints0,ints1,maxI,m1,m2]<;>omega)
  | mul c a =>
   obtain ⟨p1,p2,p3,p4⟩:=low_rc a hsane
   have wa:=W_pos a
   simp only [W] at hW
   have hc:=abs_lt c
   have hc2:max 1 (if c<0 then -c else c)<2^(c.natAbs+1):=by
    have h3:(2:Int)^(c.natAbs+1)=2^c.natAbs*2:=Int.pow_succ ..
    have h4:=one_le_pow c.natAbs
    omega
   have ec:(if 1<(if c<0 then -c else c) then (if c<0 then -c else c) else 1)=max 1 (if c<0 then -c else c):=by omega
   have m1:mulOk (rc a).1 (max 1 (if c<0 then -c else c))=true:=mulOk_low p1 p3 (by omega) hc2 (by omega) (by omega) (by omega)
   have m2:mulOk (rc a).2 (max 1 (if c<0 then -c else c))=true:=mulOk_low p2 p4 (by omega) hc2 (by omega) (by omega) (by omega)
   simp [subs,toD,rD] at g1 g2 g3
   simp [evSs,evS,evE,evEs,entry,toD,rc,rD,g1,g2,g3,flS,eqSS,ints0,ints1,maxI,ec,m1,m2]
  | rep c a =>
   obtain ⟨p1,p2,p3,p4⟩:=low_rc a hsane.2
   have wa:=W_pos a
   obtain ⟨c0,c1⟩:=hsane.1
   have hWc:∀ j:Nat,j≤c.toNat→j*(W a+1)+1≤400000:=fun j hj=>by
    simp only [W] at hW
    have:=Nat.mul_le_mul (show j≤c.natAbs by omega) (show W a+1≤W a+3 by omega)
    rw [Nat.add_mul] at hW
    omega
   have wb:W a≤400000:=by
    simp only [W] at hW
    have:=Nat.mul_le_mul (show 1≤c.natAbs+1 by omega) (show W a≤W a+3 by omega)
    omega
   have gF:∃ y,PL.evS (X.cx (k+2)) eF [.val (.tup [.str [114,101,112,101,97,116],.int c,toD a]),.val (.lst [.tup [.int (rc a).1,.int (rc a).2]]),.val (.lst [.int (rc a).1]),.val (.lst [.int (rc a).2]),.un,.val (.int 1),.val (.int 0),.un,.un,.un] st=.next [.val (.tup [.str [114,101,112,101,97,116],.int c,toD a]),.val (.lst [.tup [.int (rc a).1,.int (rc a).2]]),.val (.lst [.int (rc a).1]),.val (.lst [.int (rc a).2]),y,.val (.int (rloop (rc a).1 (rc a).2 c.toNat).1),.val (.int (rloop (rc a).1 (rc a).2 c.toNat).2),.un,.un,.un] st:=by
    rw [hF,for_ofq (ds:=rngI 0 c) (st1:=st) (by simp [evI,evE,evEs,rngD,show okR 0=true by decide,show okR c=true by simp [okR];omega])]
    obtain ⟨env',st',e,⟨y,hy,hst⟩⟩:=forL_inv (f:=forStep (evSs (X.cx (k+2)) (.cons (.par2 false false 5 6 (.bi .max2 (.cons (.loc 5) (.cons (.bin .mul (.loc 5) (.sub (.loc 2) (.cst (.int 0)))) .nil))) (.bi .max2 (.cons (.loc 6) (.cons (.bin .add (.bin .mul (.loc 6) (.sub (.loc 2) (.cst (.int 0)))) (.sub (.loc 3) (.cst (.int 0)))) .nil)))) .nil)) (.nm 4)) (ds:=rngI 0 c) (i:=0)
     (P:=fun i env st'=>∃ y,env=[.val (.tup [.str [114,101,112,101,97,116],.int c,toD a]),.val (.lst [.tup [.int (rc a).1,.int (rc a).2]]),.val (.lst [.int (rc a).1]),.val (.lst [.int (rc a).2]),y,.val (.int (rloop (rc a).1 (rc a).2 i).1),.val (.int (rloop (rc a).1 (rc a).2 i).2),.un,.un,.un]∧st'=st) (env:=_) (st:=st) ⟨.un,rfl,rfl⟩ (by
      rintro j d env st' hd ⟨y,rfl,rfl⟩
      have hj:j<c.toNat:=by
       have:=(List.getElem?_eq_some_iff.1 hd).1
       simpa [rngI] using this
      obtain ⟨q1,q2,q3,q4⟩:=low_loop p1 p2 p3 p4 j
      have hw:=hWc j (by omega)
      have m1:mulOk (rloop (rc a).1 (rc a).2 j).1 (rc a).1=true:=mulOk_low q1 q3 p1 p3 (by omega) (by omega) (by omega)
      have m2:mulOk (rloop (rc a).1 (rc a).2 j).2 (rc a).1=true:=mulOk_low q2 q4 p1 p3 (by omega) (by omega) (by omega)
      refine ⟨[.val (.tup [.str [114,101,112,101,97,116],.int c,toD a]),.val (.lst [.tup [.int (rc a).1,.int (rc a).2]]),.val (.lst [.int (rc a).1]),.val (.lst [.int (rc a).2]),.val d,.val (.int (rloop (rc a).1 (rc a).2 (j+1)).1),.val (.int (rloop (rc a).1 (rc a).2 (j+1)).2),.un,.un,.un],st',?_,⟨_,by rw [Nat.zero_add],rfl⟩⟩
      simp [forStep,evSs,PL.evS,evE,evEs,m1,m2,rloop,rstep]
      omega)
    refine ⟨y,?_⟩
    have hlen:(rngI 0 c).length=c.toNat:=by simp [rngI]
    rw [Nat.zero_add,hlen] at hy
    exact e.trans (by rw [hy,hst])
   obtain ⟨y,gF⟩:=gF
   simp [subs,toD,rD] at g1 g2 g3
   simp [evSs,evS,evE,evEs,entry,toD,rc,rD,g1,g2,g3,flS,eqSS,ints0,ints1,maxI,gF]
  | _ =>
   simp [subs,toD,rD] at g1 g2 g3
   simp [evSs,evS,evE,evEs,entry,toD,rc,rD,g1,g2,g3,flS,eqSS,ints0,ints1,maxI]<;>omega
end
end LT
end
section
namespace LT
open PL LB
theorem hCC:CC=1000000000000000001:=rfl
theorem cp_le {p:Int × Int}{n:Nat}(h:Low p n):0≤(cp p).1∧(cp p).1≤CC∧0≤(cp p).2∧(cp p).2≤CC:=by
 obtain ⟨h1,h2,h3,h4⟩:=h
 unfold cp
 simp only
 have:=hCC
 omega
theorem low_cc {a:Int}(h:a≤CC):a<2^61:=by
 have:CC<2^61:=by decide
 omega
section
variable {X:Prog}(h:HRc X)
include h
theorem capped_ok (k:Nat)(s o:Int)(st:St):run X (k+1) 4 [.tup [.int s,.int o]] st=.ok (rD (cp (s,o))) st:=by
 rw [run_fn h.f4 rfl]
 simp [f4,evSs,evS,evE,evEs,entry,h.g1,rD,cp]
 have:=hCC
 omega
theorem behind_ok (k:Nat)(p q:Int × Int)(st:St)(p1:0≤p.1)(p2:0≤p.2)(p3:p.1≤CC)(p4:p.2≤CC)(q1:0≤q.1)(q3:q.1≤CC):run X (k+2) 5 [rD p,rD q] st=.ok (rD (cp (rstep q.1 q.2 p))) st:=by
 rw [run_fn h.f5 rfl]
 have m1:mulOk p.1 q.1=true:=mulOk_low p1 (low_cc p3) q1 (low_cc q3) (by omega) (by omega) (by omega)
 have m2:mulOk p.2 q.1=true:=mulOk_low p2 (low_cc p4) q1 (low_cc q3) (by omega) (by omega) (by omega)
 simp [f5,evSs,evS,evE,evEs,entry,h.g1,rD,m1,m2,capped_ok h,rstep]
 simp [rD,cp]
 have:=hCC
 omega
theorem rep_ok (k:Nat)(c:Int)(p:Int × Int)(st:St)(c0:0≤c)(c1:c<1000)(p1:0≤p.1)(p2:0≤p.2):run X (k+3) 6 [.int c,rD (cp p)] st=.ok (rD (cp (rloop p.1 p.2 c.toNat))) st:=by
 rw [run_fn h.f6 rfl]
 obtain ⟨eF,hF⟩:∃ eF,eF=S.for_ (.nm 3) (.rng1 (.loc 0)) (.cons (.asg false 2 (.call 5 (.cons (.loc 2) (.cons (.loc 1) .nil)))) .nil):=⟨_,rfl⟩
 have gF:∃ y,PL.evS (X.cx (k+2)) eF [.val (.int c),.val (rD (cp p)),.val (.tup [.int 1,.int 0]),.un] st=.next [.val (.int c),.val (rD (cp p)),.val (rD (cp (rloop p.1 p.2 c.toNat))),y] st:=by
  rw [hF,for_ofq (ds:=rngI 0 c) (st1:=st) (by simp [evI,evE,evEs,rngD,show okR 0=true by decide,show okR c=true by simp [okR];omega])]
  obtain ⟨env',st',e,⟨y,hy,hst⟩⟩:=forL_inv (f:=forStep (evSs (X.cx (k+2)) (.cons (.asg false 2 (.call 5 (.cons (.loc 2) (.cons (.loc 1) .nil)))) .nil)) (.nm 3)) (ds:=rngI 0 c) (i:=0)
   (P:=fun i env st'=>∃ y,env=[.val (.int c),.val (rD (cp p)),.val (rD (cp (rloop p.1 p.2 i))),y]∧st'=st) (env:=_) (st:=st) ⟨.un,rfl,rfl⟩ (by
    rintro j d env st' hd ⟨y,rfl,rfl⟩
    obtain ⟨n,hn1,hn2⟩:∃ n:Nat,p.1<2^n∧p.2<2^n:=by
     refine ⟨p.1.toNat+p.2.toNat,?_,?_⟩
     ·have:=two_le p.1.toNat;have:=pow_mono (show p.1.toNat≤p.1.toNat+p.2.toNat by omega);omega
     ·have:=two_le p.2.toNat;have:=pow_mono (show p.2.toNat≤p.1.toNat+p.2.toNat by omega);omega
    have lw:=low_loop p1 p2 hn1 hn2 j
    have l1:=cp_le lw
    have l2:=cp_le (p:=p) (n:=n) ⟨p1,p2,hn1,hn2⟩
    refine ⟨[.val (.int c),.val (rD (cp p)),.val (rD (cp (rloop p.1 p.2 (j+1)))),.val d],st',?_,⟨_,by rw [Nat.zero_add],rfl⟩⟩
    have:=behind_ok h k (cp (rloop p.1 p.2 j)) (cp p) st' l1.1 l1.2.2.1 l1.2.1 l1.2.2.2 l2.1 l2.2.1
    simp [forStep,evSs,PL.evS,evE,evEs,this]
    rw [rloop,← cap_step p1 p2 lw.1 lw.2.1]
    rfl)
  refine ⟨y,?_⟩
  have hlen:(rngI 0 c).length=c.toNat:=by simp [rngI]
  rw [Nat.zero_add,hlen] at hy
  exact e.trans (by rw [hy,hst])
 obtain ⟨y,gF⟩:=gF
 unfold f6
 rw [← hF]
 simp [evSs,PL.evS,evE,evEs,entry,gF]
end
end LT
end
section
namespace LT
open PL LB
theorem shR (l:List (Int × Int)):(D.lst (l.map rD)).shaped=true:=by
 have:D.plains (l.map rD)=true∧D.depths (l.map rD)≤1:=by
  induction l with
  | nil=>exact ⟨rfl,by decide⟩
  | cons a r ih =>
   refine ⟨?_,?_⟩
   ·simp [D.plains,D.plain,rD,ih.1]
   ·simp [D.depths,D.depth,rD]
    exact Nat.max_le.2 ⟨Nat.le_refl _,ih.2⟩
 unfold D.shaped
 simp [D.plain,D.depth,this.1]
 omega
section
variable {X:Prog}(h:HRc X)
include h
theorem reach_ok (t:Tr):∀ (k:Nat) (st:St),sane t→W t≤400000→dp t≤k→run X (k+4) 7 [toD t] st=.ok (rD (cp (rc t))) st:=by
 suffices H:∀ (n:Nat) (t:Tr),dp t≤n→sane t→W t≤400000→∀ (k:Nat) (st:St),n≤k→run X (k+4) 7 [toD t] st=.ok (rD (cp (rc t))) st from fun k st hs hW hk=>H (dp t) t (Nat.le_refl _) hs hW k st hk
 intro n
 induction n using Nat.strongRecOn with
 | _ n ih =>
  intro t ht hsane hW k st hk
  rw [run_fn h.f7 rfl]
  have hl:=subs_len t
  obtain ⟨e1,hE1⟩:∃ eL,eL=E.lc (.call 7 (.cons (.loc 6) .nil)) (.tp (.cons (.nm 5) (.cons (.nm 6) .nil))) (.seq (.call 0 (.cons (.loc 0) .nil))) .no [5,6]:=⟨_,rfl⟩
  obtain ⟨e2,hE2⟩:∃ eL,eL=E.lc (.loc 7) (.tp (.cons (.nm 7) (.cons (.nm 8) .nil))) (.seq (.loc 1)) .no [7,8]:=⟨_,rfl⟩
  obtain ⟨e3,hE3⟩:∃ eL,eL=E.lc (.loc 8) (.tp (.cons (.nm 7) (.cons (.nm 8) .nil))) (.seq (.loc 1)) .no [7,8]:=⟨_,rfl⟩
  have g1:evE (X.cx (k+3)) e1 [.val (toD t),.un,.un,.un,.un,.un,.un,.un,.un] st=.ok (.lst ((subs t).map fun p=>rD (cp (rc p.2)))) st:=by
   rw [hE1]
   refine lc_ofq (ds:=(subs t).map partD) (st1:=st) (by simp [evI,evE,evEs,items_ok h.toHIt]) (mapR_of fun p hp=>?_) (by simp;omega)
   have hd:=dp_sub hp
   have hw:=W_sub hp
   obtain ⟨k',rfl⟩:∃ k',k=k'+1:=⟨k-1,by omega⟩
   have:run X (k'+1+3) 7 [toD p.2] st=.ok (rD (cp (rc p.2))) st:=ih (n-1) (by omega) p.2 (by omega) (sane_sub hsane hp) (by omega) k' st (by omega)
   simp [q_step,partD,evB,evE,evEs,this]
  have g2:evE (X.cx (k+3)) e2 [.val (toD t),.val (.lst ((subs t).map fun p=>rD (cp (rc p.2)))),.un,.un,.un,.un,.un,.un,.un] st=.ok (.lst ((subs t).map fun p=>.int (cp (rc p.2)).1)) st:=by
   rw [hE2]
   refine lc_ofq (ds:=(subs t).map fun p=>rD (cp (rc p.2))) (st1:=st) (by simp [evI,evE,evEs]) (mapR_of fun p hp=>?_) (by simp;omega)
   simp [q_step,rD,evB,evE,evEs]
  have g3:evE (X.cx (k+3)) e3 [.val (toD t),.val (.lst ((subs t).map fun p=>rD (cp (rc p.2)))),.un,.un,.un,.un,.un,.un,.un] st=.ok (.lst ((subs t).map fun p=>.int (cp (rc p.2)).2)) st:=by
   rw [hE3]
   refine lc_ofq (ds:=(subs t).map fun p=>rD (cp (rc p.2))) (st1:=st) (by simp [evI,evE,evEs]) (mapR_of fun p hp=>?_) (by simp;omega)
   simp [q_step,rD,evB,evE,evEs]
  have g4:(D.lst ((subs t).map fun p=>rD (cp (rc p.2)))).shaped=true:=by
   have:=shR ((subs t).map fun p=>cp (rc p.2))
   rw [List.map_map] at this
   exact this
  have hcc:=hCC
  unfold f7
  rw [← hE1,← hE2,← hE3]
  cases t with
  | x =>
   simp [subs,toD,rD] at g1 g2 g3 g4
   simp [evSs,evS,evC,evE,evEs,entry,toD,g1,g2,g3,g4,flS,eqSS,ints0,ints1,h.g1,h.g2,rc,rD,cp]
   omega
  | n i =>
   simp [subs,toD,rD] at g1 g2 g3 g4
   simp only [W] at hW
   simp [evSs,evS,evC,evE,evEs,entry,toD,g1,g2,g3,g4,flS,eqSS,ints0,ints1,h.g1,h.g2,rc,rD,cp,show (D.str [120]).shaped=true from rfl]
   omega
  | two q a b =>
   obtain ⟨p1,p2,p3,p4⟩:=low_rc a hsane.1
   obtain ⟨q1,q2,q3,q4⟩:=low_rc b hsane.2
   have l1:=cp_le (low_rc a hsane.1)
   have l2:=cp_le (low_rc b hsane.2)
   cases q
   case then_ =>
    simp [subs,toD,K2.nm] at g1 g2 g3 g4
    have:=behind_ok h (k+1) (cp (rc a)) (cp (rc b)) st l1.1 l1.2.2.1 l1.2.1 l1.2.2.2 l2.1 l2.2.1
    simp [evSs,evS,evC,evE,evEs,entry,toD,g1,g2,g3,g4,flS,eqSS,ints0,ints1,h.g1,h.g2,K2.nm,patIn,patBind,valIn,this]
    rw [rc,← cap_step q1 q2 p1 p2]
    rfl
   case add=>
    simp [subs,toD,K2.nm,rD,cp] at g1 g2 g3 g4
    simp [evSs,evS,evC,evE,evEs,entry,toD,g1,g2,g3,g4,flS,eqSS,ints0,ints1,h.g1,h.g2,K2.nm,patIn,patBind,valIn,capped_ok h,rc,rD,cp]
    simp only [cp] at l1 l2
    omega
   case sub=>
    simp [subs,toD,K2.nm,rD,cp] at g1 g2 g3 g4
    simp [evSs,evS,evC,evE,evEs,entry,toD,g1,g2,g3,g4,flS,eqSS,ints0,ints1,h.g1,h.g2,K2.nm,patIn,patBind,valIn,capped_ok h,rc,rD,cp]
    simp only [cp] at l1 l2
    omega
   all_goals
    simp [subs,toD,K2.nm,rD,cp] at g1 g2 g3 g4
    simp [evSs,evS,evC,evE,evEs,entry,toD,g1,g2,g3,g4,flS,eqSS,ints0,ints1,h.g1,h.g2,K2.nm,patIn,patBind,valIn,capped_ok h,rc,rD,cp,maxI]
    omega
  | mul c a =>
   obtain ⟨p1,p2,p3,p4⟩:=low_rc a hsane
   have l1:=cp_le (low_rc a hsane)
   simp only [W] at hW
   have hc:=abs_lt c
   have hc2:max 1 (if c<0 then -c else c)<2^20:=by omega
   have ec:(if 1<(if c<0 then -c else c) then (if c<0 then -c else c) else 1)=max 1 (if c<0 then -c else c):=by omega
   have m1:mulOk (cp (rc a)).1 (max 1 (if c<0 then -c else c))=true:=mulOk_low l1.1 (low_cc l1.2.1) (by omega) hc2 (by omega) (by omega) (by omega)
   have m2:mulOk (cp (rc a)).2 (max 1 (if c<0 then -c else c))=true:=mulOk_low l1.2.2.1 (low_cc l1.2.2.2) (by omega) hc2 (by omega) (by omega) (by omega)
   have k1:=cap_mul (a:=(rc a).1) (f:=max 1 (if c<0 then -c else c)) p1 (by omega)
   have k2:=cap_mul (a:=(rc a).2) (f:=max 1 (if c<0 then -c else c)) p2 (by omega)
   simp only [cp] at m1 m2
   simp [subs,toD,rD,cp] at g1 g2 g3 g4
   simp [evSs,evS,evC,evE,evEs,entry,toD,g1,g2,g3,g4,flS,eqSS,ints0,ints1,h.g1,h.g2,patIn,patBind,valIn,capped_ok h,ec,m1,m2]
   simp [rc,rD,cp,k1,k2]
  | rep c a =>
   obtain ⟨p1,p2,p3,p4⟩:=low_rc a hsane.2
   simp [subs,toD] at g1 g2 g3 g4
   have:=rep_ok h k c (rc a) st hsane.1.1 hsane.1.2 p1 p2
   simp [evSs,evS,evC,evE,evEs,entry,toD,g1,g2,g3,g4,flS,eqSS,ints0,ints1,h.g1,h.g2,patIn,patBind,valIn,this,rc]
  | md a c =>
   have l1:=cp_le (low_rc a hsane.2)
   simp only [cp,W] at l1 hW
   simp [subs,toD,rD,cp] at g1 g2 g3 g4
   simp [evSs,evS,evC,evE,evEs,entry,toD,g1,g2,g3,g4,flS,eqSS,ints0,ints1,h.g1,h.g2,patIn,patBind,valIn,rc,rD,cp,maxI]
   omega
  | cond t a b =>
   simp [subs,toD,rD,cp] at g1 g2 g3 g4
   simp [evSs,evS,evC,evE,evEs,entry,toD,g1,g2,g3,g4,flS,eqSS,ints0,ints1,h.g1,h.g2,patIn,patBind,valIn,rc,rD,cp,maxI]
   omega
  | _ =>
   simp [subs,toD,rD,cp] at g1 g2 g3 g4
   simp [evSs,evS,evC,evE,evEs,entry,toD,g1,g2,g3,g4,flS,eqSS,ints0,ints1,h.g1,h.g2,patIn,patBind,valIn,rc,rD,cp,maxI]
end
end LT
end
section
namespace LT
open PL LB
def wf:Bool→Tr→Bool
 | true,.x=>true
 | true,.n i=>decide (-1000000≤i∧i≤1000000)
 | true,.mul c a=>decide (-100≤c∧c≤100)&&wf true a
 | true,.two .add a b=>wf true a&&wf true b
 | true,.two .sub a b=>wf true a&&wf true b
 | true,.two .min a b=>wf true a&&wf true b
 | true,.two .max a b=>wf true a&&wf true b
 | true,.two .then_ a b=>wf true a&&wf true b
 | true,.dv a c=>decide (2≤c∧c≤12)&&wf true a
 | true,.md a c=>decide (2≤c∧c≤12)&&wf true a
 | true,.rep c a=>decide (0≤c∧c≤12)&&wf true a
 | true,.cond t a b=>wf false t&&(wf true a&&wf true b)
 | false,.two .less a b=>wf true a&&wf true b
 | false,.two .same a b=>wf true a&&wf true b
 | false,.two .and_ a b=>wf false a&&wf false b
 | false,.two .or_ a b=>wf false a&&wf false b
 | false,.nt a=>wf false a
 | _,_=>false
theorem wf_sane:∀ (b:Bool) (t:Tr),wf b t=true→sane t
 | true,.x,_=>trivial
 | true,.n _,_=>trivial
 | true,.mul c a,h=>by simp [wf] at h;exact wf_sane true a h.2
 | true,.two q a b,h=>by cases q<;>simp [wf] at h<;>exact ⟨wf_sane true a h.1,wf_sane true b h.2⟩
 | true,.dv a c,h=>by simp [wf] at h;exact wf_sane true a h.2
 | true,.md a c,h=>by simp [wf] at h;exact ⟨by omega,wf_sane true a h.2⟩
 | true,.rep c a,h=>by simp [wf] at h;exact ⟨by omega,wf_sane true a h.2⟩
 | true,.nt a,h=>by simp [wf] at h
 | true,.cond t a b,h=>by simp [wf] at h;exact ⟨wf_sane false t h.1,wf_sane true a h.2.1,wf_sane true b h.2.2⟩
 | false,.x,h=>by simp [wf] at h
 | false,.n _,h=>by simp [wf] at h
 | false,.mul _ _,h=>by simp [wf] at h
 | false,.two q a b,h=>by
  cases q<;>simp [wf] at h
  ·exact ⟨wf_sane true a h.1,wf_sane true b h.2⟩
  ·exact ⟨wf_sane true a h.1,wf_sane true b h.2⟩
  ·exact ⟨wf_sane false a h.1,wf_sane false b h.2⟩
  ·exact ⟨wf_sane false a h.1,wf_sane false b h.2⟩
 | false,.dv _ _,h=>by simp [wf] at h
 | false,.md _ _,h=>by simp [wf] at h
 | false,.rep _ _,h=>by simp [wf] at h
 | false,.nt a,h=>by simp [wf] at h;exact wf_sane false a h
 | false,.cond _ _ _,h=>by simp [wf] at h
def sz:Tr→Nat
 | .x=>1
 | .n _=>1
 | .mul _ a=>sz a+1
 | .two .then_ a b=>sz a+sz b+2
 | .two .and_ a b=>sz a+sz b+3
 | .two .or_ a b=>sz a+sz b+3
 | .two _ a b=>sz a+sz b+1
 | .dv a _=>sz a+1
 | .md a _=>sz a+1
 | .rep c a=>1+c.toNat*(sz a+2)
 | .nt a=>sz a+1
 | .cond t a b=>sz t+sz a+sz b+2
def Z:Nat→Nat
 | 0=>1
 | n+1=>5*Z n+5
theorem Z_pos:∀ n,1≤Z n
 | 0=>by simp [Z]
 | n+1=>by have:=Z_pos n;simp only [Z];omega
def Ok (j:Int)(s:Strm):Prop:=0≤s.turn∧s.turn≤j∧s.big.length≤1000
def B:Nat→Int
 | 0=>10
 | n+1=>6*B n
def V:Nat→Nat
 | 0=>11
 | n+1=>5*V n+6
theorem B_pos:∀ n,10≤B n
 | 0=>by simp [B]
 | n+1=>by have:=B_pos n;simp only [B];omega
theorem V_pos:∀ n,11≤V n
 | 0=>by simp [V]
 | n+1=>by have:=V_pos n;simp only [V];omega
def Good (b:Bool)(t:Tr)(n m z:Nat):Prop:=wf b t=true∧dp t≤n∧W t≤m∧sz t≤z
def GP (X:Prog)(d:Nat):Prop:=∀ (k:Nat) (s:Strm) (j:Int),(0<d→0<k)→Ok j s→j+B d≤2^50→∃ t s',run X (k+d+2) 10 [.ob 0 [],.int d] (some s)=.ok (toD t) (some s')∧Good true t (2*d) (V d) (Z d)∧Ok (j+B d) s'
def GT (X:Prog)(d:Nat):Prop:=∀ (k:Nat) (s:Strm) (j:Int),Ok j s→j+3*B d≤2^50→∃ t s',run X (k+d+3) 11 [.ob 0 [],.int d] (some s)=.ok (toD t) (some s')∧Good false t (2*d+1) (3*V d+3) (3*Z d+3)∧Ok (j+3*B d) s'
theorem Ok.mono {j j':Int}{s:Strm}(h:Ok j s)(hj:j≤j'):Ok j' s:=⟨h.1,by have:=h.2.1;omega,h.2.2⟩
section
variable {X:Prog}(h:HGen X)
include h
theorem drw (k:Nat){s:Strm}{j m:Int}(hs:Ok j s)(hj:j≤2^50)(hm:0<m)(hm2:m<1000):∃ v s',run X (k+1) 9 [.ob 0 [],.int m] (some s)=.ok (.int v) (some s')∧0≤v∧v<m∧Ok (j+1) s':=by
 obtain ⟨h0,h1,h3⟩:=hs
 obtain ⟨v,s',e,v0,v1,⟨o1,o2⟩,hb⟩:=draw_ok (X:=X) (f:=9) h.f9 k s hm (by omega) (by omega) (by omega)
 exact ⟨v,s',e,v0,v1,⟨by omega,by omega,by omega⟩⟩
theorem gp0:GP X 0:=by
 intro k s j _ hs hj
 simp only [B] at hj
 obtain ⟨w,s1,e1,w0,w1,o1⟩:=drw h k (m:=14) hs (by omega) (by decide) (by decide)
 obtain ⟨a,s2,e2,a0,a1,o2⟩:=drw h k (m:=19) o1 (by omega) (by decide) (by decide)
 obtain ⟨b,s3,e3,f0,f1,o3⟩:=drw h k (m:=3) o2 (by omega) (by decide) (by decide)
 rw [run_fn h.f10 rfl]
 have hb:b=0∨b=1∨b=2:=by omega
 have o4:Ok (j+B 0) s3:=o3.mono (by simp only [B];omega)
 rcases hb with rfl|rfl|rfl
 ·exact ⟨.n (a-9),s3,by simp [f10,evSs,evS,evE,evEs,entry,e1,e2,e3,toD],⟨by simp [wf];try omega,by simp [dp],by simp only [W,V];omega,by simp [sz,Z]⟩,o4⟩
 ·exact ⟨.x,s3,by simp [f10,evSs,evS,evE,evEs,entry,e1,e2,e3,toD],⟨by simp [wf];try omega,by simp [dp],by simp only [W,V];omega,by simp [sz,Z]⟩,o4⟩
 ·exact ⟨.x,s3,by simp [f10,evSs,evS,evE,evEs,entry,e1,e2,e3,toD],⟨by simp [wf];try omega,by simp [dp],by simp only [W,V];omega,by simp [sz,Z]⟩,o4⟩
theorem gt_of (d e:Nat)(hd:d<2∧e=0∨d=e+1)(k:Nat)(hk0:0<e→0<k){s s1:Strm}{j w:Int}(hj:j+1+2*B e≤2^50)(hp:GP X e)(hw:d<2∨w<5)(w0:0≤w)(w1:w<8)(o1:Ok (j+1) s1)
  (e1:run X (k+e+2) 9 [.ob 0 [],.int 8] (some s)=.ok (.int w) (some s1)):∃ t s',run X (k+e+3) 11 [.ob 0 [],.int d] (some s)=.ok (toD t) (some s')∧Good false t (2*d+1) (3*V d+3) (3*Z d+3)∧Ok (j+1+2*B e) s':=by
 have hB:=B_pos e
 obtain ⟨t1,s2,e2,⟨p1,p2,p3,p4⟩,o2⟩:=hp k s1 (j+1) hk0 o1 (by omega)
 obtain ⟨t2,s3,e3,⟨q1,q2,q3,q4⟩,o3⟩:=hp k s2 (j+1+B e) hk0 o2 (by omega)
 rw [run_fn h.f11 rfl]
 have hm:(if 1<(d:Int) then (d:Int)-1 else 0)=e:=by omega
 have hc:(decide ((d:Int)<2)=true∨decide (w<5)=true):=by simp;omega
 have hV:V e≤V d:=by
  rcases hd with ⟨h1,h3⟩|h1
  ·subst h3
   have:d=0∨d=1:=by omega
   rcases this with rfl|rfl<;>simp [V]
  ·subst h1;simp only [V];omega
 have hZ:Z e≤Z d∧(d=e+1→2*Z e+2≤Z d)∧1≤Z e∧(e=0→Z e=1):=by
  refine ⟨?_,fun h1=>by subst h1;simp only [Z];omega,Z_pos e,fun h1=>by subst h1;rfl⟩
  rcases hd with ⟨h1,h3⟩|h1
  ·subst h3
   exact Z_pos d
  ·subst h1;simp only [Z];omega
 have he:e≤d:=by omega
 have ez:d<2→e=0:=by omega
 have ed:dp t1≤2*d∧dp t2≤2*d:=by omega
 have key:∀ q:K2,wf false (.two q t1 t2)=true→Good false (.two q t1 t2) (2*d+1) (3*V d+3) (3*Z d+3):=fun q hq=>⟨hq,by simp only [dp];omega,by simp only [W];omega,by cases q<;>simp [wf] at hq<;>simp only [sz]<;>omega⟩
 have o4:Ok (j+1+2*B e) s3:=o3.mono (by omega)
 have hw8:w=0∨w=1∨w=2∨w=3∨w=4∨w=5∨w=6∨w=7:=by omega
 rcases hw8 with rfl|rfl|rfl|rfl|rfl|rfl|rfl|rfl
 ·by_cases hd2:(d:Int)<2
  ·exact ⟨.two .less t1 t2,s3,by simp [f11,evSs,evS,evE,evEs,entry,e1,hd2,hm,e2,e3,toD,K2.nm],key _ (by simp [wf,p1,q1]),o4⟩
  ·exact ⟨.two .less t1 t2,s3,by simp [f11,evSs,evS,evE,evEs,entry,e1,hd2,hm,e2,e3,toD,K2.nm],key _ (by simp [wf,p1,q1]),o4⟩
 ·by_cases hd2:(d:Int)<2
  ·exact ⟨.two .same t1 t2,s3,by simp [f11,evSs,evS,evE,evEs,entry,e1,hd2,hm,e2,e3,toD,K2.nm],key _ (by simp [wf,p1,q1]),o4⟩
  ·exact ⟨.two .same t1 t2,s3,by simp [f11,evSs,evS,evE,evEs,entry,e1,hd2,hm,e2,e3,toD,K2.nm],key _ (by simp [wf,p1,q1]),o4⟩
 ·by_cases hd2:(d:Int)<2
  ·exact ⟨.two .less t1 t2,s3,by simp [f11,evSs,evS,evE,evEs,entry,e1,hd2,hm,e2,e3,toD,K2.nm],key _ (by simp [wf,p1,q1]),o4⟩
  ·exact ⟨.two .less t1 t2,s3,by simp [f11,evSs,evS,evE,evEs,entry,e1,hd2,hm,e2,e3,toD,K2.nm],key _ (by simp [wf,p1,q1]),o4⟩
 ·by_cases hd2:(d:Int)<2
  ·exact ⟨.two .same t1 t2,s3,by simp [f11,evSs,evS,evE,evEs,entry,e1,hd2,hm,e2,e3,toD,K2.nm],key _ (by simp [wf,p1,q1]),o4⟩
  ·exact ⟨.two .same t1 t2,s3,by simp [f11,evSs,evS,evE,evEs,entry,e1,hd2,hm,e2,e3,toD,K2.nm],key _ (by simp [wf,p1,q1]),o4⟩
 ·by_cases hd2:(d:Int)<2
  ·exact ⟨.two .less t1 t2,s3,by simp [f11,evSs,evS,evE,evEs,entry,e1,hd2,hm,e2,e3,toD,K2.nm],key _ (by simp [wf,p1,q1]),o4⟩
  ·exact ⟨.two .less t1 t2,s3,by simp [f11,evSs,evS,evE,evEs,entry,e1,hd2,hm,e2,e3,toD,K2.nm],key _ (by simp [wf,p1,q1]),o4⟩
 ·by_cases hd2:(d:Int)<2
  ·exact ⟨.two .same t1 t2,s3,by simp [f11,evSs,evS,evE,evEs,entry,e1,hd2,hm,e2,e3,toD,K2.nm],key _ (by simp [wf,p1,q1]),o4⟩
  ·exact absurd hw (by omega)
 ·by_cases hd2:(d:Int)<2
  ·exact ⟨.two .less t1 t2,s3,by simp [f11,evSs,evS,evE,evEs,entry,e1,hd2,hm,e2,e3,toD,K2.nm],key _ (by simp [wf,p1,q1]),o4⟩
  ·exact absurd hw (by omega)
 ·by_cases hd2:(d:Int)<2
  ·exact ⟨.two .same t1 t2,s3,by simp [f11,evSs,evS,evE,evEs,entry,e1,hd2,hm,e2,e3,toD,K2.nm],key _ (by simp [wf,p1,q1]),o4⟩
  ·exact absurd hw (by omega)
theorem gt_step (d:Nat)(hp:GP X (d+1))(ht:GT X (d+1)):GT X (d+2):=by
 intro k s j hs hj
 have hB:=B_pos (d+1)
 have hV:=V_pos (d+1)
 have eB:B (d+2)=6*B (d+1):=rfl
 have eV:V (d+2)=5*V (d+1)+6:=rfl
 have eZ:Z (d+2)=5*Z (d+1)+5:=rfl
 obtain ⟨w,s1,e1,w0,w1,o1⟩:=drw h (k+d+3) (m:=8) hs (by omega) (by decide) (by decide)
 by_cases hw:w<5
 ·obtain ⟨t,s',e,g,o⟩:=gt_of h (d+2) (d+1) (.inr rfl) (k+1) (fun _=>by omega) (s:=s) (s1:=s1) (j:=j) (w:=w) (by omega) hp (.inr hw) w0 w1 o1 (by rw [show k+1+(d+1)+2=k+d+3+1 by omega];exact e1)
  exact ⟨t,s',by rw [show k+(d+2)+3=k+1+(d+1)+3 by omega];exact e,g,o.mono (by omega)⟩
 ·obtain ⟨t1,s2,e2,⟨p1,p2,p3,p4⟩,o2⟩:=ht k s1 (j+1) o1 (by omega)
  obtain ⟨t2,s3,e3,⟨q1,q2,q3,q4⟩,o3⟩:=ht k s2 (j+1+3*B (d+1)) o2 (by omega)
  rw [run_fn h.f11 rfl]
  have hd:((d+2:Nat):Int)-1=((d+1:Nat):Int):=by omega
  have hd2:¬ ((d+2:Nat):Int)<2:=by omega
  have e1':run X (k+d+4) 9 [.ob 0 [],.int 8] (some s)=.ok (.int w) (some s1):=e1
  have hk:k+(d+2)+2=k+d+4:=by omega
  have hk2:k+(d+1)+3=k+d+4:=by omega
  rw [hk2] at e2 e3
  show ∃ t s',outR (evSs (X.cx (k+(d+2)+2)) f11 _ _)=_∧_
  rw [hk]
  generalize hD:((d+2:Nat):Int)=D at *
  generalize hE:((d+1:Nat):Int)=E at *
  have hw8:w=5∨w=6∨w=7:=by omega
  rcases hw8 with rfl|rfl|rfl
  ·exact ⟨.nt t1,s2,by simp [f11,evSs,evS,evE,evEs,entry,e1',hd2,hd,e2,toD],⟨by simp [wf,p1],by simp only [dp];omega,by simp only [W];omega,by simp only [sz];omega⟩,o2.mono (by omega)⟩
  ·exact ⟨.two .and_ t1 t2,s3,by simp [f11,evSs,evS,evE,evEs,entry,e1',hd2,hd,e2,e3,toD,K2.nm],⟨by simp [wf,p1,q1],by simp only [dp];omega,by simp only [W];omega,by simp only [sz];omega⟩,o3.mono (by omega)⟩
  ·exact ⟨.two .or_ t1 t2,s3,by simp [f11,evSs,evS,evE,evEs,entry,e1',hd2,hd,e2,e3,toD,K2.nm],⟨by simp [wf,p1,q1],by simp only [dp];omega,by simp only [W];omega,by simp only [sz];omega⟩,o3.mono (by omega)⟩
end
end LT
end
section
namespace LT
open PL LB
theorem ix4 {α:Type}(a b c d e:α)(l:List α):ix (a::b::c::d::e::l) 4=some e:=rfl
theorem ix5 {α:Type}(a b c d e f:α)(l:List α):ix (a::b::c::d::e::f::l) 5=some f:=rfl
section
variable {X:Prog}(h:HGen X)
include h
theorem gp_step (d:Nat)(hp:GP X d)(ht:GT X d):GP X (d+1):=by
 intro k s j hk0 hs hj
 obtain ⟨k0,rfl⟩:∃ k0,k=k0+1:=⟨k-1,by have:=hk0 (by omega);omega⟩
 have hB:=B_pos d
 have hV:=V_pos d
 have eB:B (d+1)=6*B d:=rfl
 have eV:V (d+1)=5*V d+6:=rfl
 have eZ:Z (d+1)=5*Z d+5:=rfl
 have hZ:=Z_pos d
 obtain ⟨w,s1,e1,w0,w1,o1⟩:=drw h (k0+1+d+1) (m:=14) hs (by omega) (by decide) (by decide)
 rw [run_fn h.f10 rfl]
 have hk:k0+1+(d+1)+1=k0+1+d+2:=by omega
 show ∃ t s',outR (evSs (X.cx (k0+1+(d+1)+1)) f10 _ _)=_∧_
 rw [hk]
 have hd:((d+1:Nat):Int)-1=(d:Int):=by omega
 have hd2:¬ ((d+1:Nat):Int)=0:=by omega
 have e1':run X (k0+1+d+2) 9 [.ob 0 [],.int 14] (some s)=.ok (.int w) (some s1):=e1
 generalize hD:((d+1:Nat):Int)=D at *
 by_cases hw:w<2
 ·obtain ⟨a,s2,e2,a0,a1,o2⟩:=drw h (k0+1+d+1) (m:=19) o1 (by omega) (by decide) (by decide)
  obtain ⟨b,s3,e3,f0,f1,o3⟩:=drw h (k0+1+d+1) (m:=3) o2 (by omega) (by decide) (by decide)
  have e2':run X (k0+1+d+2) 9 [.ob 0 [],.int 19] (some s1)=.ok (.int a) (some s2):=e2
  have e3':run X (k0+1+d+2) 9 [.ob 0 [],.int 3] (some s2)=.ok (.int b) (some s3):=e3
  have o4:Ok (j+B (d+1)) s3:=o3.mono (by omega)
  have hb:b=0∨b=1∨b=2:=by omega
  rcases hb with rfl|rfl|rfl
  ·exact ⟨.n (a-9),s3,by simp [f10,evSs,evS,evE,evEs,entry,hd2,hw,e1',e2',e3',toD],⟨by simp [wf];try omega,by simp [dp],by simp only [W];omega,by simp only [sz];omega⟩,o4⟩
  ·exact ⟨.x,s3,by simp [f10,evSs,evS,evE,evEs,entry,hd2,hw,e1',e2',e3',toD],⟨by simp [wf];try omega,by simp [dp],by simp only [W];omega,by simp only [sz];omega⟩,o4⟩
  ·exact ⟨.x,s3,by simp [f10,evSs,evS,evE,evEs,entry,hd2,hw,e1',e2',e3',toD],⟨by simp [wf];try omega,by simp [dp],by simp only [W];omega,by simp only [sz];omega⟩,o4⟩
 ·obtain ⟨t1,s2,e2,⟨p1,p2,p3,p4⟩,o2⟩:=hp (k0+1) s1 (j+1) (fun _=>by omega) o1 (by omega)
  by_cases hw5:w≤5
  ·have hw3:w=2∨w=3∨w=4∨w=5:=by omega
   rcases hw3 with rfl|rfl|rfl|rfl
   ·obtain ⟨a,s3,e3,a0,a1,o3⟩:=drw h (k0+1+d+1) (m:=7) o2 (by omega) (by decide) (by decide)
    have e3':run X (k0+1+d+2) 9 [.ob 0 [],.int 7] (some s2)=.ok (.int a) (some s3):=e3
    exact ⟨.mul (a-3) t1,s3,by simp [f10,evSs,evS,evE,evEs,entry,hd2,hd,e1',e2,e3',toD],⟨by simp [wf,p1];try omega,by simp only [dp];omega,by simp only [W];omega,by simp only [sz];omega⟩,o3.mono (by omega)⟩
   ·obtain ⟨a,s3,e3,a0,a1,o3⟩:=drw h (k0+1+d+1) (m:=3) o2 (by omega) (by decide) (by decide)
    have e3':run X (k0+1+d+2) 9 [.ob 0 [],.int 3] (some s2)=.ok (.int a) (some s3):=e3
    exact ⟨.dv t1 (2+a),s3,by simp [f10,evSs,evS,evE,evEs,entry,hd2,hd,e1',e2,e3',toD],⟨by simp [wf,p1];try omega,by simp only [dp];omega,by simp only [W];omega,by simp only [sz];omega⟩,o3.mono (by omega)⟩
   ·obtain ⟨a,s3,e3,a0,a1,o3⟩:=drw h (k0+1+d+1) (m:=3) o2 (by omega) (by decide) (by decide)
    have e3':run X (k0+1+d+2) 9 [.ob 0 [],.int 3] (some s2)=.ok (.int a) (some s3):=e3
    exact ⟨.md t1 (2+a),s3,by simp [f10,evSs,evS,evE,evEs,entry,hd2,hd,e1',e2,e3',toD],⟨by simp [wf,p1];try omega,by simp only [dp];omega,by simp only [W];omega,by simp only [sz];omega⟩,o3.mono (by omega)⟩
   ·obtain ⟨a,s3,e3,a0,a1,o3⟩:=drw h (k0+1+d+1) (m:=3) o2 (by omega) (by decide) (by decide)
    have e3':run X (k0+1+d+2) 9 [.ob 0 [],.int 3] (some s2)=.ok (.int a) (some s3):=e3
    refine ⟨.rep a t1,s3,by simp [f10,evSs,evS,evE,evEs,entry,hd2,hd,e1',e2,e3',toD],⟨by simp [wf,p1];try omega,by simp only [dp];omega,?_,by simp only [sz];have:=Nat.mul_le_mul_right (sz t1+2) (show a.toNat≤2 by omega);omega⟩,o3.mono (by omega)⟩
    have:=Nat.mul_le_mul (show a.natAbs+1≤3 by omega) (Nat.le_refl (W t1+3))
    simp only [W]
    omega
  ·obtain ⟨t2,s3,e3,⟨q1,q2,q3,q4⟩,o3⟩:=hp (k0+1) s2 (j+1+B d) (fun _=>by omega) o2 (by omega)
   by_cases hw8:w<8
   ·obtain ⟨t3,s4,e4,⟨r1,r2,r3,r4⟩,o4⟩:=ht k0 s3 (j+1+B d+B d) o3 (by omega)
    have e4':run X (k0+1+d+2) 11 [.ob 0 [],.int d] (some s3)=.ok (toD t3) (some s4):=by rw [show k0+1+d+2=k0+d+3 by omega];exact e4
    have hw6:w=6∨w=7:=by omega
    have g:Good true (.cond t3 t1 t2) (2*(d+1)) (V (d+1)) (Z (d+1)):=⟨by simp [wf,p1,q1,r1],by simp only [dp];omega,by simp only [W];omega,by simp only [sz];omega⟩
    have o5:Ok (j+B (d+1)) s4:=o4.mono (by omega)
    rcases hw6 with rfl|rfl
    ·exact ⟨.cond t3 t1 t2,s4,by simp [f10,evSs,evS,evE,evEs,entry,hd2,hd,e1',e2,e3,e4',toD,K2.nm],g,o5⟩
    ·exact ⟨.cond t3 t1 t2,s4,by simp [f10,evSs,evS,evE,evEs,entry,hd2,hd,e1',e2,e3,e4',toD,K2.nm],g,o5⟩
   ·have hw9:w=8∨w=9∨w=10∨w=11∨w=12∨w=13:=by omega
    have o4:Ok (j+B (d+1)) s3:=o3.mono (by omega)
    have key:∀ q:K2,wf true (.two q t1 t2)=true→Good true (.two q t1 t2) (2*(d+1)) (V (d+1)) (Z (d+1)):=fun q hq=>⟨hq,by simp only [dp];omega,by simp only [W];omega,by cases q<;>simp [wf] at hq<;>simp only [sz]<;>omega⟩
    rcases hw9 with rfl|rfl|rfl|rfl|rfl|rfl
    ·exact ⟨.two .add t1 t2,s3,by simp [f10,evSs,evS,evE,evEs,entry,hd2,hd,e1',e2,e3,toD,K2.nm,ix4,ix5],key _ (by simp [wf,p1,q1]),o4⟩
    ·exact ⟨.two .add t1 t2,s3,by simp [f10,evSs,evS,evE,evEs,entry,hd2,hd,e1',e2,e3,toD,K2.nm,ix4,ix5],key _ (by simp [wf,p1,q1]),o4⟩
    ·exact ⟨.two .sub t1 t2,s3,by simp [f10,evSs,evS,evE,evEs,entry,hd2,hd,e1',e2,e3,toD,K2.nm,ix4,ix5],key _ (by simp [wf,p1,q1]),o4⟩
    ·exact ⟨.two .min t1 t2,s3,by simp [f10,evSs,evS,evE,evEs,entry,hd2,hd,e1',e2,e3,toD,K2.nm,ix4,ix5],key _ (by simp [wf,p1,q1]),o4⟩
    ·exact ⟨.two .max t1 t2,s3,by simp [f10,evSs,evS,evE,evEs,entry,hd2,hd,e1',e2,e3,toD,K2.nm,ix4,ix5],key _ (by simp [wf,p1,q1]),o4⟩
    ·exact ⟨.two .then_ t1 t2,s3,by simp [f10,evSs,evS,evE,evEs,entry,hd2,hd,e1',e2,e3,toD,K2.nm,ix4,ix5],key _ (by simp [wf,p1,q1]),o4⟩
end
end LT
end
section
namespace LT
open PL LB
section
variable {X:Prog}(h:HGen X)
include h
theorem gt_low (d:Nat)(hd:d<2)(hp:GP X 0):GT X d:=by
 intro k s j hs hj
 have hB:=B_pos d
 obtain ⟨w,s1,e1,w0,w1,o1⟩:=drw h (k+d+1) (m:=8) hs (by omega) (by decide) (by decide)
 have b0:B 0=10:=rfl
 obtain ⟨t,s',e,g,o⟩:=gt_of h d 0 (.inl ⟨hd,rfl⟩) (k+d) (fun hh=>absurd hh (by decide)) (s:=s) (s1:=s1) (j:=j) (w:=w) (by omega) hp (.inl hd) w0 w1 o1 e1
 exact ⟨t,s',e,g,o.mono (by omega)⟩
theorem both (d:Nat):GP X d∧GT X d:=by
 induction d with
 | zero=>exact ⟨gp0 h,gt_low h 0 (by decide) (gp0 h)⟩
 | succ d ih =>
  refine ⟨gp_step h d ih.1 ih.2,?_⟩
  cases d with
  | zero=>exact gt_low h 1 (by decide) (gp0 h)
  | succ d=>exact gt_step h d ih.1 ih.2
end
end LT
end
section
namespace LT
open PL LB
theorem depT:∀ t:Tr,(toD t).depth≤dp t
 | .x=>by simp [toD,D.depth]
 | .n i=>by simp [toD,D.depth]
 | .mul c a=>by have:=depT a;simp only [toD,D.depth,D.depths,dp];omega
 | .dv a c=>by have:=depT a;simp only [toD,D.depth,D.depths,dp];omega
 | .md a c=>by have:=depT a;simp only [toD,D.depth,D.depths,dp];omega
 | .rep c a=>by have:=depT a;simp only [toD,D.depth,D.depths,dp];omega
 | .nt a=>by have:=depT a;simp only [toD,D.depth,D.depths,dp];omega
 | .two q a b=>by have:=depT a;have:=depT b;simp only [toD,D.depth,D.depths,dp];omega
 | .cond t a b=>by have:=depT a;have:=depT b;have:=depT t;simp only [toD,D.depth,D.depths,dp];omega
end LT
end
section
namespace LB
open PL
def f133:Ss:=(.cons (.ret (.and (.isi (.loc 0) .int) (.and (.not (.isi (.loc 0) .bool)) (.chn .le .le (.loc 1) (.loc 0) (.loc 2)))))
 .nil)
abbrev H133 (X:Prog):Prop:=X.fns 133=some (.fn 3 3 f133)
end LB
end
section
namespace LB
open PL
def f313:Ss:=(.cons (.ite [] (.isi (.loc 0) .str)
 (.cons (.ret (.cmp .eq (.loc 0) (.glb 2)))
 .nil)
 .nil)
 (.cons (.ret (.call 133 (.cons (.loc 0) (.cons (.bin .sub (.cst (.int 0)) (.glb 13)) (.cons (.glb 13) .nil)))))
 .nil))
abbrev H313 (X:Prog):Prop:=X.fns 313=some (.fn 1 1 f313)
def f314:Ss:=(.cons (.ite [] (.or (.not (.isi (.loc 0) .tuple)) (.or (.cmp .eq (.loc 0) (.tup .nil)) (.not (.isi (.sub (.loc 0) (.cst (.int 0))) .str))))
 (.cons (.ret (.cst .non))
 .nil)
 .nil)
 (.cons (.asg false 2 (.ifx (.cmp .eq (.loc 1) (.cst (.str [112,114,111,103,114,97,109]))) (.get1 (.glb 3) (.sub (.loc 0) (.cst (.int 0)))) (.get1 (.glb 4) (.sub (.loc 0) (.cst (.int 0))))))
 (.cons (.ite [] (.or (.isn (.loc 2)) (.cmp .ne (.bi .len (.cons (.loc 0) .nil)) (.bin .add (.bi .len (.cons (.loc 2) .nil)) (.cst (.int 1)))))
 (.cons (.ret (.cst .non))
 .nil)
 .nil)
 (.cons (.asg false 3 (.lc (.call 315 (.cons (.loc 4) (.cons (.loc 5) .nil))) (.tp (.cons (.nm 4) (.cons (.nm 5) .nil))) (.zp (.loc 2) (.slc (.loc 0) (.so (.cst (.int 1))) .no)) (.so (.cmp .inn (.loc 4) (.glb 5))) [4,5]))
 (.cons (.ret (.ifx (.bi .all (.cons (.loc 3) .nil)) (.loc 2) (.cst .non)))
 .nil)))))
abbrev H314 (X:Prog):Prop:=X.fns 314=some (.fn 2 6 f314)
def f315:Ss:=(.cons (.asgT (.tp (.cons (.nm 2) (.cons (.nm 3) .nil))) (.sub (.glb 5) (.loc 0)))
 (.cons (.ret (.call 133 (.cons (.loc 1) (.cons (.loc 2) (.cons (.loc 3) .nil)))))
 .nil))
abbrev H315 (X:Prog):Prop:=X.fns 315=some (.fn 2 4 f315)
def f316:Ss:=(.cons (.ite [] (.and (.cmp .eq (.loc 1) (.cst (.str [112,114,111,103,114,97,109]))) (.call 313 (.cons (.loc 0) .nil)))
 (.cons (.ret (.cst .non))
 .nil)
 .nil)
 (.cons (.asg false 3 (.call 314 (.cons (.loc 0) (.cons (.loc 1) .nil))))
 (.cons (.ite [] (.isn (.loc 3))
 (.cons (.ret (.loc 2))
 .nil)
 .nil)
 (.cons (.for_ (.tp (.cons (.nm 4) (.cons (.tp (.cons (.nm 5) (.cons (.nm 6) .nil))) .nil))) (.enmz (.loc 3) (.slc (.loc 0) (.so (.cst (.int 1))) .no) 1)
 (.cons (.ite [] (.cmp .nin (.loc 5) (.glb 5))
 (.cons (.asg false 7 (.call 316 (.cons (.loc 6) (.cons (.loc 5) (.cons (.tup (.star (.loc 2) (.cons (.loc 4) .nil))) .nil)))))
 (.cons (.ite [] (.isnn (.loc 7))
 (.cons (.ret (.loc 7))
 .nil)
 .nil)
 .nil))
 .nil)
 .nil))
 (.cons (.ret (.cst .non))
 .nil)))))
abbrev H316 (X:Prog):Prop:=X.fns 316=some (.fn 3 8 f316)
def f317:Ss:=(.cons (.ite [] (.cmp .gt (.call 2 (.cons (.loc 0) .nil)) (.glb 14))
 (.cons (.ret (.cst (.str [110,111,100,101,115])))
 .nil)
 .nil)
 (.cons (.ite [] (.cmp .gt (.call 3 (.cons (.loc 0) .nil)) (.glb 0))
 (.cons (.ret (.cst (.str [114,117,110])))
 .nil)
 .nil)
 (.cons (.ret (.ifx (.cmp .gt (.bi .maxL (.cons (.call 7 (.cons (.loc 0) .nil)) .nil)) (.glb 1)) (.cst (.str [114,101,97,99,104])) (.cst .non)))
 .nil)))
abbrev H317 (X:Prog):Prop:=X.fns 317=some (.fn 1 1 f317)
def f318:Ss:=(.cons (.asg false 2 (.lst (.cons (.tup (.cons (.loc 1) (.cons (.loc 0) .nil))) .nil)))
 (.cons (.for_ (.tp (.cons (.nm 3) (.cons (.nm 4) .nil))) (.seq (.call 0 (.cons (.loc 0) .nil)))
 (.cons (.asg false 2 (.lst (.star (.loc 2) (.star (.call 318 (.cons (.loc 4) (.cons (.tup (.star (.loc 1) (.cons (.loc 3) .nil))) .nil))) .nil))))
 .nil))
 (.cons (.ret (.loc 2))
 .nil)))
abbrev H318 (X:Prog):Prop:=X.fns 318=some (.fn 2 5 f318)
def f319:Ss:=(.cons (.asg false 2 (.call 316 (.cons (.loc 0) (.cons (.loc 1) (.cons (.tup .nil) .nil)))))
 (.cons (.ite [] (.isnn (.loc 2))
 (.cons (.ret (.tup (.cons (.loc 2) (.cons (.cst (.str [102,111,114,109])) .nil))))
 .nil)
 .nil)
 (.cons (.for_ (.tp (.cons (.nm 3) (.cons (.nm 4) .nil))) (.seq (.call 318 (.cons (.loc 0) (.cons (.tup .nil) .nil))))
 (.cons (.asg false 5 (.call 317 (.cons (.loc 4) .nil)))
 (.cons (.ite [] (.isnn (.loc 5))
 (.cons (.ret (.tup (.cons (.loc 3) (.cons (.loc 5) .nil))))
 .nil)
 .nil)
 .nil)))
 (.cons (.ret (.cst .non))
 .nil))))
abbrev H319 (X:Prog):Prop:=X.fns 319=some (.fn 2 6 f319)
def f320:Ss:=(.cons (.ret (.call 319 (.cons (.loc 0) (.cons (.cst (.str [112,114,111,103,114,97,109])) .nil))))
 .nil)
abbrev H320 (X:Prog):Prop:=X.fns 320=some (.fn 1 1 f320)
def f321:Ss:=(.cons (.ret (.isn (.call 320 (.cons (.loc 0) .nil))))
 .nil)
abbrev H321 (X:Prog):Prop:=X.fns 321=some (.fn 1 1 f321)
def f323:Ss:=(.cons (.ite [] (.not (.isi (.loc 1) .tuple))
 (.cons (.ret (.cst (.bl false)))
 .nil)
 .nil)
 (.cons (.asg false 2 (.loc 0))
 (.cons (.for_ (.nm 3) (.seq (.loc 1))
 (.cons (.asg false 4 (.dpl (.call 0 (.cons (.loc 2) .nil))))
 (.cons (.ite [] (.or (.not (.call 133 (.cons (.loc 3) (.cons (.cst (.int 1)) (.cons (.cst (.int 3)) .nil))))) (.cmp .nin (.loc 3) (.loc 4)))
 (.cons (.ret (.cst (.bl false)))
 .nil)
 .nil)
 (.cons (.asg false 2 (.sub (.loc 4) (.loc 3)))
 .nil))))
 (.cons (.ret (.cst (.bl true)))
 .nil))))
abbrev H323 (X:Prog):Prop:=X.fns 323=some (.fn 2 5 f323)
def f324:Ss:=(.cons (.asg false 2 (.loc 0))
 (.cons (.for_ (.nm 3) (.seq (.loc 1))
 (.cons (.asg false 2 (.sub (.loc 2) (.loc 3)))
 .nil))
 (.cons (.ret (.loc 2))
 .nil)))
abbrev H324 (X:Prog):Prop:=X.fns 324=some (.fn 2 4 f324)
def f325:Ss:=(.cons (.ite [] (.not (.call 323 (.cons (.loc 0) (.cons (.loc 1) .nil))))
 (.cons .never
 .nil)
 .nil)
 (.cons (.ret (.call 324 (.cons (.loc 0) (.cons (.loc 1) .nil))))
 .nil))
abbrev H325 (X:Prog):Prop:=X.fns 325=some (.fn 2 2 f325)
abbrev G13 (X:Prog):Prop:=X.gl 13=some ((.int 1000000))
abbrev G14 (X:Prog):Prop:=X.gl 14=some ((.int 60))
end LB
end
section
namespace LT
open PL LB
structure HJf (X:Prog):Prop extends HIt X where
 f133:H133 X
 f313:H313 X
 f314:H314 X
 f315:H315 X
 f316:H316 X
 g2:G2 X
 g13:G13 X
theorem cut1 {α:Type}(a:α)(l:List α):cut (a::l) (some 1) none=l:=by
 have e:clampI (l.length+1) 1=1:=by unfold clampI;simp
 unfold cut endI
 simp [e]
def kd:Bool→List Nat
 | true=>[112,114,111,103,114,97,109]
 | false=>[116,101,115,116]
section
variable {X:Prog}
theorem int_in (h:H133 X)(k:Nat)(v lo hi:Int)(st:St):run X (k+1) 133 [.int v,.int lo,.int hi] st=.ok (.bl (decide (lo≤v)&&decide (v≤hi))) st:=by
 rw [run_fn h rfl]
 unfold f133
 by_cases h1:lo≤v<;>by_cases h2:v≤hi<;>simp [evSs,evS,evE,evEs,entry,isTy,cop,h1,h2]
theorem int_tup (h:H133 X)(k:Nat)(l:List D)(lo hi:Int)(st:St):run X (k+1) 133 [.tup l,.int lo,.int hi] st=.ok (.bl false) st:=by
 rw [run_fn h rfl]
 unfold f133
 simp [evSs,evS,evE,evEs,entry,isTy]
variable (h:HJf X)
include h
theorem leaf_n (k:Nat)(i:Int)(st:St)(hi:-1000000≤i∧i≤1000000):run X (k+2) 313 [.int i] st=.ok (.bl true) st:=by
 rw [run_fn h.f313 rfl]
 unfold f313
 simp [evSs,evS,evE,evEs,entry,h.g13,int_in h.f133,hi.1,hi.2]
theorem leaf_x (k:Nat)(st:St):run X (k+2) 313 [.str [120]] st=.ok (.bl true) st:=by
 rw [run_fn h.f313 rfl]
 unfold f313
 simp [evSs,evS,evE,evEs,entry,h.g2]
theorem leaf_tup (k:Nat)(l:List D)(st:St):run X (k+2) 313 [.tup l] st=.ok (.bl false) st:=by
 rw [run_fn h.f313 rfl]
 unfold f313
 simp [evSs,evS,evE,evEs,entry,h.g13,int_tup h.f133]
theorem fixed_f (k:Nat)(c:Int)(st:St)(hc:-100≤c∧c≤100):run X (k+2) 315 [.str [102,97,99,116,111,114],.int c] st=.ok (.bl true) st:=by
 rw [run_fn h.f315 rfl]
 unfold f315
 simp [evSs,evS,evE,evEs,entry,h.g5,findK,int_in h.f133,hc.1,hc.2]
theorem fixed_d (k:Nat)(c:Int)(st:St)(hc:2≤c∧c≤12):run X (k+2) 315 [.str [100,105,118,105,115,111,114],.int c] st=.ok (.bl true) st:=by
 rw [run_fn h.f315 rfl]
 unfold f315
 simp [evSs,evS,evE,evEs,entry,h.g5,findK,int_in h.f133,hc.1,hc.2]
theorem fixed_t (k:Nat)(c:Int)(st:St)(hc:0≤c∧c≤12):run X (k+2) 315 [.str [116,105,109,101,115],.int c] st=.ok (.bl true) st:=by
 rw [run_fn h.f315 rfl]
 unfold f315
 simp [evSs,evS,evE,evEs,entry,h.g5,findK,int_in h.f133,hc.1,hc.2]
end
def P0:D:=.str (kd true)
def T0:D:=.str (kd false)
def kinds:Tr→List D
 | .x=>[]|.n _=>[]
 | .mul _ _=>[.str [102,97,99,116,111,114],P0]
 | .two .and_ _ _=>[T0,T0]
 | .two .or_ _ _=>[T0,T0]
 | .two _ _ _=>[P0,P0]
 | .dv _ _=>[P0,.str [100,105,118,105,115,111,114]]
 | .md _ _=>[P0,.str [100,105,118,105,115,111,114]]
 | .rep _ _=>[.str [116,105,109,101,115],P0]
 | .nt _=>[T0]
 | .cond _ _ _=>[T0,P0,P0]
theorem plT:∀ t:Tr,(toD t).plain=true
 | .x=>by simp [toD,D.plain]
 | .n i=>by simp [toD,D.plain]
 | .two k a b=>by cases k<;>simp [toD,D.plain,D.plains,plT a,plT b,K2.nm]
 | .mul c a=>by simp [toD,D.plain,D.plains,plT a]
 | .dv a c=>by simp [toD,D.plain,D.plains,plT a]
 | .md a c=>by simp [toD,D.plain,D.plains,plT a]
 | .rep c a=>by simp [toD,D.plain,D.plains,plT a]
 | .nt a=>by simp [toD,D.plain,D.plains,plT a]
 | .cond t a b=>by simp [toD,D.plain,D.plains,plT t,plT a,plT b]
theorem shT {t:Tr}(hd:dp t≤60):(toD t).shaped=true:=by
 have:=depT t
 unfold D.shaped
 rw [plT t,Bool.true_and]
 exact decide_eq_true (by omega)
theorem ne_nil {t:Tr}(hd:dp t≤60)(hl:kinds t≠[]):eqD (toD t) (.tup [])=some false:=by
 have e:eqD (toD t) (.tup [])=if (toD t).shaped&&D.shaped (.tup []) then some (D.eqv (toD t) (.tup [])) else none:=by
  cases t<;>first|rfl|exact absurd rfl hl
 rw [e,shT hd,show D.shaped (.tup [])=true from rfl]
 cases t<;>first|exact absurd rfl hl|simp [toD,D.eqv,D.eqvs]
section
variable {X:Prog}(h:HJf X)
include h
theorem kinds_ok (t:Tr)(b:Bool)(k:Nat)(st:St)(hw:wf b t=true)(hd:dp t≤60)(hl:kinds t≠[]):run X (k+3) 314 [toD t,.str (kd b)] st=.ok (.tup (kinds t)) st:=by
 rw [run_fn h.f314 rfl]
 unfold f314
 have e0:=ne_nil hd hl
 cases t with
 | x=>exact absurd rfl hl
 | n i=>exact absurd rfl hl
 | two q a c=>cases q<;>cases b<;>first|(simp [wf] at hw;done)|simp [toD,K2.nm] at e0<;>simp [e0,kinds,P0,T0,kd,K2.nm,toD,h.g3,h.g4,h.g5,evSs,evS,evE,evI,evB,evEs,entry,zipO,zipD,mapR,q_step,findK,getD,D.isDct,D.isN,evO,D.part,cutD,cut1,biD,allD,D.bools]
 | mul c a=>cases b<;>simp [wf] at hw;simp [toD] at e0;simp [e0,kinds,P0,T0,kd,toD,h.g3,h.g4,h.g5,evSs,evS,evE,evI,evB,evEs,entry,zipO,zipD,mapR,q_step,findK,getD,D.isDct,D.isN,evO,D.part,cutD,cut1,biD,allD,D.bools,fixed_f h _ _ _ hw.1]
 | dv a c=>cases b<;>simp [wf] at hw;simp [toD] at e0;simp [e0,kinds,P0,T0,kd,toD,h.g3,h.g4,h.g5,evSs,evS,evE,evI,evB,evEs,entry,zipO,zipD,mapR,q_step,findK,getD,D.isDct,D.isN,evO,D.part,cutD,cut1,biD,allD,D.bools,fixed_d h _ _ _ hw.1]
 | md a c=>cases b<;>simp [wf] at hw;simp [toD] at e0;simp [e0,kinds,P0,T0,kd,toD,h.g3,h.g4,h.g5,evSs,evS,evE,evI,evB,evEs,entry,zipO,zipD,mapR,q_step,findK,getD,D.isDct,D.isN,evO,D.part,cutD,cut1,biD,allD,D.bools,fixed_d h _ _ _ hw.1]
 | rep c a=>cases b<;>simp [wf] at hw;simp [toD] at e0;simp [e0,kinds,P0,T0,kd,toD,h.g3,h.g4,h.g5,evSs,evS,evE,evI,evB,evEs,entry,zipO,zipD,mapR,q_step,findK,getD,D.isDct,D.isN,evO,D.part,cutD,cut1,biD,allD,D.bools,fixed_t h _ _ _ hw.1]
 | nt a=>cases b<;>simp [wf] at hw;simp [toD] at e0;simp [e0,kinds,P0,T0,kd,toD,h.g3,h.g4,h.g5,evSs,evS,evE,evI,evB,evEs,entry,zipO,zipD,mapR,q_step,findK,getD,D.isDct,D.isN,evO,D.part,cutD,cut1,biD,allD,D.bools]
 | cond t a c=>cases b<;>simp [wf] at hw;simp [toD] at e0;simp [e0,kinds,P0,T0,kd,toD,h.g3,h.g4,h.g5,evSs,evS,evE,evI,evB,evEs,entry,zipO,zipD,mapR,q_step,findK,getD,D.isDct,D.isN,evO,D.part,cutD,cut1,biD,allD,D.bools]
end
end LT
end
section
namespace LT
open PL LB
section
variable {X:Prog}(h:HJf X)
include h
theorem no_leaf (t:Tr)(k:Nat)(st:St)(hl:kinds t≠[]):run X (k+2) 313 [toD t] st=.ok (.bl false) st:=by
 cases t with
 | x=>exact absurd rfl hl
 | n i=>exact absurd rfl hl
 | two q a b=>exact leaf_tup h k _ st
 | _=>exact leaf_tup h k _ st
theorem bad_ok : ∀ (t : Tr) (b : Bool) (k : Nat) (p : List D) (st : St), wf b t = true → dp t ≤ k → dp t ≤ 60 → p.length + dp t ≤ 1000 → run X (k + 4) 316 [toD t, .str (kd b), .tup p] st = .ok .non st := by
  intro t
  induction t with
  | x =>
    intro b k p st hw hk hd hp
    cases b <;> simp [wf] at hw
    rw [run_fn h.f316 rfl]
    unfold f316
    simp [toD, kd, evSs, evS, evE, evEs, entry, leaf_x h]
  | n i =>
    intro b k p st hw hk hd hp
    cases b <;> simp [wf] at hw
    rw [run_fn h.f316 rfl]
    unfold f316
    simp [toD, kd, evSs, evS, evE, evEs, entry, leaf_n h _ i _ hw]
  | mul c a ih =>
    intro b k p st hw hk hd hp
    cases b <;> simp [wf] at hw
    simp only [dp] at hk hd hp
    obtain ⟨k', rfl⟩ : ∃ k', k = k' + 1 := ⟨k - 1, by omega⟩
    have e1 := no_leaf h (.mul c a) (k' + 2) st (by simp [kinds])
    have e2 := kinds_ok h (.mul c a) true (k' + 1) st (by simp [wf, hw]) (by simp only [dp]; omega) (by simp [kinds])
    have e3 := ih true k' (p ++ [.int 2]) st hw.2 (by omega) (by omega) (by simp; omega)
    rw [run_fn h.f316 rfl]
    unfold f316
    simp [toD, kinds, P0, T0, kd] at e1 e2 e3
    simp [toD, kd, evSs, evS, evE, evEs, evI, evO, D.part, cutD, cut1, entry, zipO, zipD, enmD, forStep, forL, h.g5, D.isN, e1, e2, e3, show p.length + 1 ≤ 16777216 by omega]
  | two q a c iha ihc =>
    intro b k p st hw hk hd hp
    simp only [dp] at hk hd hp
    obtain ⟨k', rfl⟩ : ∃ k', k = k' + 1 := ⟨k - 1, by omega⟩
    have e1 := no_leaf h (.two q a c) (k' + 2) st (by cases q <;> simp [kinds])
    have e2 := kinds_ok h (.two q a c) b (k' + 1) st hw (by simp only [dp]; omega) (by cases q <;> simp [kinds])
    have e3 := fun b hb => iha b k' (p ++ [.int 1]) st hb (by omega) (by omega) (by simp; omega)
    have e4 := fun b hb => ihc b k' (p ++ [.int 2]) st hb (by omega) (by omega) (by simp; omega)
    rw [run_fn h.f316 rfl]
    unfold f316
    have hl : p.length + 1 ≤ 16777216 := by omega
    cases q <;> cases b <;> first
      | (simp [wf] at hw; done)
      | (simp [wf] at hw
         have z3 := e3 _ hw.1
         have z4 := e4 _ hw.2
         clear e3 e4
         simp [toD, K2.nm, kinds, P0, T0, kd] at e1 e2 z3 z4
         simp [toD, K2.nm, kd, evSs, evS, evE, evEs, evI, evO, D.part, cutD, cut1, entry, zipO, zipD, enmD, forStep, forL, h.g5, D.isN, e1, e2, z3, z4, hl])
  | dv a c ih =>
    intro b k p st hw hk hd hp
    cases b <;> simp [wf] at hw
    simp only [dp] at hk hd hp
    obtain ⟨k', rfl⟩ : ∃ k', k = k' + 1 := ⟨k - 1, by omega⟩
    have e1 := no_leaf h (.dv a c) (k' + 2) st (by simp [kinds])
    have e2 := kinds_ok h (.dv a c) true (k' + 1) st (by simp [wf, hw]) (by simp only [dp]; omega) (by simp [kinds])
    have e3 := ih true k' (p ++ [.int 1]) st hw.2 (by omega) (by omega) (by simp; omega)
    rw [run_fn h.f316 rfl]
    unfold f316
    simp [toD, kinds, P0, T0, kd] at e1 e2 e3
    simp [toD, kd, evSs, evS, evE, evEs, evI, evO, D.part, cutD, cut1, entry, zipO, zipD, enmD, forStep, forL, h.g5, D.isN, e1, e2, e3, show p.length + 1 ≤ 16777216 by omega]
  | md a c ih =>
    intro b k p st hw hk hd hp
    cases b <;> simp [wf] at hw
    simp only [dp] at hk hd hp
    obtain ⟨k', rfl⟩ : ∃ k', k = k' + 1 := ⟨k - 1, by omega⟩
    have e1 := no_leaf h (.md a c) (k' + 2) st (by simp [kinds])
    have e2 := kinds_ok h (.md a c) true (k' + 1) st (by simp [wf, hw]) (by simp only [dp]; omega) (by simp [kinds])
    have e3 := ih true k' (p ++ [.int 1]) st hw.2 (by omega) (by omega) (by simp; omega)
    rw [run_fn h.f316 rfl]
    unfold f316
    simp [toD, kinds, P0, T0, kd] at e1 e2 e3
    simp [toD, kd, evSs, evS, evE, evEs, evI, evO, D.part, cutD, cut1, entry, zipO, zipD, enmD, forStep, forL, h.g5, D.isN, e1, e2, e3, show p.length + 1 ≤ 16777216 by omega]
  | rep c a ih =>
    intro b k p st hw hk hd hp
    cases b <;> simp [wf] at hw
    simp only [dp] at hk hd hp
    obtain ⟨k', rfl⟩ : ∃ k', k = k' + 1 := ⟨k - 1, by omega⟩
    have e1 := no_leaf h (.rep c a) (k' + 2) st (by simp [kinds])
    have e2 := kinds_ok h (.rep c a) true (k' + 1) st (by simp [wf, hw]) (by simp only [dp]; omega) (by simp [kinds])
    have e3 := ih true k' (p ++ [.int 2]) st hw.2 (by omega) (by omega) (by simp; omega)
    rw [run_fn h.f316 rfl]
    unfold f316
    simp [toD, kinds, P0, T0, kd] at e1 e2 e3
    simp [toD, kd, evSs, evS, evE, evEs, evI, evO, D.part, cutD, cut1, entry, zipO, zipD, enmD, forStep, forL, h.g5, D.isN, e1, e2, e3, show p.length + 1 ≤ 16777216 by omega]
  | nt a ih =>
    intro b k p st hw hk hd hp
    cases b <;> simp [wf] at hw
    simp only [dp] at hk hd hp
    obtain ⟨k', rfl⟩ : ∃ k', k = k' + 1 := ⟨k - 1, by omega⟩
    have e1 := no_leaf h (.nt a) (k' + 2) st (by simp [kinds])
    have e2 := kinds_ok h (.nt a) false (k' + 1) st (by simp [wf, hw]) (by simp only [dp]; omega) (by simp [kinds])
    have e3 := ih false k' (p ++ [.int 1]) st hw (by omega) (by omega) (by simp; omega)
    rw [run_fn h.f316 rfl]
    unfold f316
    simp [toD, kinds, P0, T0, kd] at e1 e2 e3
    simp [toD, kd, evSs, evS, evE, evEs, evI, evO, D.part, cutD, cut1, entry, zipO, zipD, enmD, forStep, forL, h.g5, D.isN, e1, e2, e3, show p.length + 1 ≤ 16777216 by omega]
  | cond t a c iht iha ihc =>
    intro b k p st hw hk hd hp
    cases b <;> simp [wf] at hw
    simp only [dp] at hk hd hp
    obtain ⟨k', rfl⟩ : ∃ k', k = k' + 1 := ⟨k - 1, by omega⟩
    have e1 := no_leaf h (.cond t a c) (k' + 2) st (by simp [kinds])
    have e2 := kinds_ok h (.cond t a c) true (k' + 1) st (by simp [wf, hw]) (by simp only [dp]; omega) (by simp [kinds])
    have e3 := iht false k' (p ++ [.int 1]) st hw.1 (by omega) (by omega) (by simp; omega)
    have e4 := iha true k' (p ++ [.int 2]) st hw.2.1 (by omega) (by omega) (by simp; omega)
    have e5 := ihc true k' (p ++ [.int 3]) st hw.2.2 (by omega) (by omega) (by simp; omega)
    rw [run_fn h.f316 rfl]
    unfold f316
    simp [toD, kinds, P0, T0, kd] at e1 e2 e3 e4 e5
    simp [toD, kd, evSs, evS, evE, evEs, evI, evO, D.part, cutD, cut1, entry, zipO, zipD, enmD, forStep, forL, h.g5, D.isN, e1, e2, e3, e4, e5, show p.length + 1 ≤ 16777216 by omega]
end
end LT
end
section
namespace LT
open PL LB
def iter (f:Int→Int):Nat→Int→Int
 | 0,x=>x
 | n+1,x=>f (iter f n x)
def op2:K2→Int→Int→Int
 | .add,a,b=>a+b
 | .sub,a,b=>a-b
 | .min,a,b=>min a b
 | .max,a,b=>max a b
 | .less,a,b=>if a<b then 1 else 0
 | .same,a,b=>if a=b then 1 else 0
 | .and_,a,b=>if a≠0∧b≠0 then 1 else 0
 | .or_,a,b=>if a≠0∨b≠0 then 1 else 0
 | .then_,_,b=>b
def sem:Tr→Int→Int
 | .x,x=>x
 | .n i,_=>i
 | .mul c a,x=>c*sem a x
 | .two .then_ a b,x=>sem b (sem a x)
 | .two k a b,x=>op2 k (sem a x) (sem b x)
 | .dv a c,x=>(sem a x).fdiv c
 | .md a c,x=>(sem a x).fmod c
 | .rep c a,x=>iter (sem a) c.toNat x
 | .nt a,x=>if sem a x=0 then 1 else 0
 | .cond t a b,x=>if sem t x=0 then sem b x else sem a x
theorem sem_test:∀ (t:Tr),wf false t=true→∀ x,sem t x=0∨sem t x=1
 | .two q a b,h,x=>by
  cases q<;>simp [wf] at h<;>simp only [sem,op2]<;>split<;>simp
 | .nt a,h,x=>by simp only [sem];split<;>simp
 | .x,h,_=>by simp [wf] at h
 | .n _,h,_=>by simp [wf] at h
 | .mul _ _,h,_=>by simp [wf] at h
 | .dv _ _,h,_=>by simp [wf] at h
 | .md _ _,h,_=>by simp [wf] at h
 | .rep _ _,h,_=>by simp [wf] at h
 | .cond _ _ _,h,_=>by simp [wf] at h
def aI (i:Int):Int:=(i.natAbs:Int)
theorem aI_nn (i:Int):0≤aI i:=by unfold aI;omega
def In (p:Int × Int)(x v:Int):Prop:=aI v≤p.1*aI x+p.2
theorem In.mono {p q:Int × Int}{x v:Int}(h:In p x v)(h1:p.1≤q.1)(h2:p.2≤q.2):In q x v:=by
 unfold In at *
 have:=Int.mul_le_mul_of_nonneg_right h1 (aI_nn x)
 omega
theorem In.then {p q:Int × Int}{x y z:Int}(h:In p x y)(h2:In q y z)(q1:0≤q.1):In (rstep q.1 q.2 p) x z:=by
 have a:In (p.1*q.1,p.2*q.1+q.2) x z:=by
  unfold In at *
  have:=Int.mul_le_mul_of_nonneg_left h q1
  rw [Int.mul_add] at this
  have e1:q.1*(p.1*aI x)=p.1*q.1*aI x:=by rw [← Int.mul_assoc,Int.mul_comm q.1]
  have e2:q.1*p.2=p.2*q.1:=Int.mul_comm ..
  simp only
  omega
 exact a.mono (by unfold rstep;simp only;omega) (by unfold rstep;simp only;omega)
theorem rep_In {f:Int→Int}{p:Int × Int}(p1:0≤p.1)(hf:∀ y,In p y (f y))(x:Int):∀ n,In (rloop p.1 p.2 n) x (iter f n x)
 | 0=>by unfold In rloop iter;simp
 | n+1=>by
  unfold rloop iter
  exact (rep_In p1 hf x n).then (hf _) p1
theorem fdiv_abs {v c:Int}(h:1≤c):aI (v.fdiv c)≤aI v:=by
 unfold aI
 rw [Int.fdiv_eq_ediv_of_nonneg _ (by omega)]
 have h1:=Int.ediv_mul_le v (show c≠0 by omega)
 have h2:=Int.lt_ediv_add_one_mul_self v (show 0<c by omega)
 have e:(v/c+1)*c=v/c*c+c:=by rw [Int.add_mul,Int.one_mul]
 by_cases hq:0≤v/c
 ·have:=Int.mul_le_mul_of_nonneg_left h hq
  omega
 ·have hq2:v<0:=by
   by_cases hv:0≤v
   ·exact absurd (Int.ediv_nonneg hv (by omega)) hq
   ·omega
  have h3:-(v/c)-1≤(-(v/c)-1)*c:=by
   have:=Int.mul_le_mul_of_nonneg_left h (show 0≤-(v/c)-1 by omega)
   omega
  have e2:(-(v/c)-1)*c=-(v/c*c)-c:=by rw [Int.sub_mul,Int.neg_mul,Int.one_mul]
  omega
theorem low2 (t:Tr)(b:Bool)(h:wf b t=true):0≤(rc t).1∧0≤(rc t).2:=by
 have:=low_rc t (wf_sane b t h)
 exact ⟨this.1,this.2.1⟩
theorem reach_le:∀ (t:Tr),wf true t=true→∀ x,In (rc t) x (sem t x)
 | .x,_,x=>by unfold In;simp [rc,sem]
 | .n i,_,x=>by unfold In;simp [rc,sem,aI];omega
 | .mul c a,h,x=>by
  simp [wf] at h
  have ih:=reach_le a h.2 x
  obtain ⟨l1,l2⟩:=low2 a true h.2
  unfold In at *
  simp only [rc,sem]
  have e:aI (c*sem a x)=aI c*aI (sem a x):=by unfold aI;rw [Int.natAbs_mul];simp
  rw [e]
  have h1:aI c≤max 1 (if c<0 then -c else c):=by unfold aI;omega
  have h2:=Int.mul_le_mul_of_nonneg_right h1 (aI_nn (sem a x))
  have h3:=Int.mul_le_mul_of_nonneg_left ih (show 0≤max 1 (if c<0 then -c else c) by omega)
  generalize max 1 (if c<0 then -c else c)=m at *
  rw [Int.mul_add] at h3
  have e1:m*((rc a).1*aI x)=(rc a).1*m*aI x:=by rw [← Int.mul_assoc,Int.mul_comm m]
  have e2:m*(rc a).2=(rc a).2*m:=Int.mul_comm ..
  omega
 | .two q a b,h,x=>by
  cases q<;>simp [wf] at h
  ·have i1:=reach_le a h.1 x
   have i2:=reach_le b h.2 x
   unfold In at *
   simp only [rc,sem,op2]
   rw [Int.add_mul]
   unfold aI at *
   omega
  ·have i1:=reach_le a h.1 x
   have i2:=reach_le b h.2 x
   unfold In at *
   simp only [rc,sem,op2]
   rw [Int.add_mul]
   unfold aI at *
   omega
  ·have i1:=(reach_le a h.1 x).mono (q:=rc (.two .min a b)) (by simp only [rc];omega) (by simp only [rc];omega)
   have i2:=(reach_le b h.2 x).mono (q:=rc (.two .min a b)) (by simp only [rc];omega) (by simp only [rc];omega)
   simp only [sem,op2]
   rcases (show min (sem a x) (sem b x)=sem a x∨min (sem a x) (sem b x)=sem b x by omega) with e|e<;>rw [e]<;>assumption
  ·have i1:=(reach_le a h.1 x).mono (q:=rc (.two .max a b)) (by simp only [rc];omega) (by simp only [rc];omega)
   have i2:=(reach_le b h.2 x).mono (q:=rc (.two .max a b)) (by simp only [rc];omega) (by simp only [rc];omega)
   simp only [sem,op2]
   rcases (show max (sem a x) (sem b x)=sem a x∨max (sem a x) (sem b x)=sem b x by omega) with e|e<;>rw [e]<;>assumption
  ·simp only [rc,sem]
   exact (reach_le a h.1 x).then (reach_le b h.2 _) (low2 b true h.2).1
 | .dv a c,h,x=>by
  simp [wf] at h
  have ih:=reach_le a h.2 x
  have:=fdiv_abs (v:=sem a x) (c:=c) (by omega)
  unfold In at *
  simp only [rc,sem]
  omega
 | .md a c,h,x=>by
  simp [wf] at h
  have l:=low2 a true h.2
  have h1:=Int.fmod_nonneg_of_pos (sem a x) (show 0<c by omega)
  have h2:=Int.fmod_lt_of_pos (sem a x) (show 0<c by omega)
  have h3:=Int.mul_nonneg l.1 (aI_nn x)
  unfold In
  simp only [rc,sem]
  unfold aI at *
  omega
 | .rep c a,h,x=>by
  simp [wf] at h
  simp only [rc,sem]
  exact rep_In (low2 a true h.2).1 (fun y=>reach_le a h.2 y) x _
 | .cond t a b,h,x=>by
  simp [wf] at h
  have i1:=(reach_le a h.2.1 x).mono (q:=rc (.cond t a b)) (by simp only [rc];omega) (by simp only [rc];omega)
  have i2:=(reach_le b h.2.2 x).mono (q:=rc (.cond t a b)) (by simp only [rc];omega) (by simp only [rc];omega)
  simp only [sem]
  split<;>assumption
 | .nt a,h,_=>by simp [wf] at h
theorem In.bits {p:Int × Int}{m n:Nat}{x v:Int}(h:In p x v)(l:Low p m)(hx:x.natAbs<2^n):v.natAbs<2^(n+m+1):=by
 obtain ⟨l1,l2,l3,l4⟩:=l
 have hx':aI x<2^n:=by unfold aI;exact_mod_cast hx
 have h1:p.1*aI x<2^(m+n):=mul_lt l1 l3 (aI_nn x) hx'
 have h2:=sum_lt h1 l4 (n+m+1) (by omega) (by omega)
 have:aI v<2^(n+m+1):=by unfold In at h;omega
 unfold aI at this
 exact_mod_cast this
theorem sem_bits {t:Tr}(h:wf true t=true){n:Nat}{x:Int}(hx:x.natAbs<2^n):(sem t x).natAbs<2^(n+W t+1):=(reach_le t h x).bits (low_rc t (wf_sane _ t h)) hx
theorem iter_bits {a:Tr}(h:wf true a=true){n:Nat}{x:Int}(hx:x.natAbs<2^n)(j:Nat):(iter (sem a) j x).natAbs<2^(n+j*(W a+1)):=by
 induction j with
 | zero=>simpa [iter] using hx
 | succ j ih =>
  have:=sem_bits h ih
  rw [show n+(j+1)*(W a+1)=n+j*(W a+1)+W a+1 by rw [Nat.add_mul];omega]
  exact this
end LT
end
section
namespace LB
open PL
def f17:Ss:=(.cons (.ite [] (.not (.isi (.loc 0) .tuple))
 (.cons (.ret (.ifx (.isi (.loc 0) .str) (.loc 1) (.loc 0)))
 .nil)
 .nil)
 (.cons (.mtch (.loc 0) (.cons (.seq [.val [97,100,100],.cap 2,.cap 3]) (.cons (.ret (.bin .add (.call 17 (.cons (.loc 2) (.cons (.loc 1) .nil))) (.call 17 (.cons (.loc 3) (.cons (.loc 1) .nil)))))
 .nil)
 (.cons (.seq [.val [115,117,98],.cap 2,.cap 3]) (.cons (.ret (.bin .sub (.call 17 (.cons (.loc 2) (.cons (.loc 1) .nil))) (.call 17 (.cons (.loc 3) (.cons (.loc 1) .nil)))))
 .nil)
 (.cons (.seq [.val [109,105,110],.cap 2,.cap 3]) (.cons (.ret (.bi .min2 (.cons (.call 17 (.cons (.loc 2) (.cons (.loc 1) .nil))) (.cons (.call 17 (.cons (.loc 3) (.cons (.loc 1) .nil))) .nil))))
 .nil)
 (.cons (.seq [.val [109,97,120],.cap 2,.cap 3]) (.cons (.ret (.bi .max2 (.cons (.call 17 (.cons (.loc 2) (.cons (.loc 1) .nil))) (.cons (.call 17 (.cons (.loc 3) (.cons (.loc 1) .nil))) .nil))))
 .nil)
 (.cons (.seq [.val [109,117,108],.cap 4,.cap 2]) (.cons (.ret (.bin .mul (.loc 4) (.call 17 (.cons (.loc 2) (.cons (.loc 1) .nil)))))
 .nil)
 (.cons (.seq [.val [100,105,118],.cap 2,.cap 5]) (.cons (.ret (.bin .div (.call 17 (.cons (.loc 2) (.cons (.loc 1) .nil))) (.loc 5)))
 .nil)
 (.cons (.seq [.val [109,111,100],.cap 2,.cap 5]) (.cons (.ret (.bin .mod (.call 17 (.cons (.loc 2) (.cons (.loc 1) .nil))) (.loc 5)))
 .nil)
 (.cons (.seq [.val [105,102],.cap 6,.cap 2,.cap 3]) (.cons (.ret (.call 17 (.cons (.ifx (.call 19 (.cons (.loc 6) (.cons (.loc 1) .nil))) (.loc 2) (.loc 3)) (.cons (.loc 1) .nil))))
 .nil)
 (.cons (.seq [.val [116,104,101,110],.cap 2,.cap 3]) (.cons (.ret (.call 17 (.cons (.loc 3) (.cons (.call 17 (.cons (.loc 2) (.cons (.loc 1) .nil))) .nil))))
 .nil)
 .nil))))))))))
 (.cons (.ret (.call 18 (.cons (.sub (.loc 0) (.cst (.int 1))) (.cons (.sub (.loc 0) (.cst (.int 2))) (.cons (.loc 1) .nil)))))
 .nil)))
abbrev H17 (X:Prog):Prop:=X.fns 17=some (.fn 2 7 f17)
def f18:Ss:=(.cons (.for_ (.nm 3) (.rng1 (.loc 0))
 (.cons (.asg false 2 (.call 17 (.cons (.loc 1) (.cons (.loc 2) .nil))))
 .nil))
 (.cons (.ret (.loc 2))
 .nil))
abbrev H18 (X:Prog):Prop:=X.fns 18=some (.fn 3 4 f18)
def f19:Ss:=(.cons (.mtch (.loc 0) (.cons (.seq [.val [108,101,115,115],.cap 2,.cap 3]) (.cons (.ret (.cmp .lt (.call 17 (.cons (.loc 2) (.cons (.loc 1) .nil))) (.call 17 (.cons (.loc 3) (.cons (.loc 1) .nil)))))
 .nil)
 (.cons (.seq [.val [115,97,109,101],.cap 2,.cap 3]) (.cons (.ret (.cmp .eq (.call 17 (.cons (.loc 2) (.cons (.loc 1) .nil))) (.call 17 (.cons (.loc 3) (.cons (.loc 1) .nil)))))
 .nil)
 (.cons (.seq [.val [110,111,116],.cap 4]) (.cons (.ret (.not (.call 19 (.cons (.loc 4) (.cons (.loc 1) .nil)))))
 .nil)
 (.cons (.seq [.val [97,110,100],.cap 4,.cap 5]) (.cons (.ret (.and (.call 19 (.cons (.loc 4) (.cons (.loc 1) .nil))) (.call 19 (.cons (.loc 5) (.cons (.loc 1) .nil)))))
 .nil)
 .nil)))))
 (.cons (.ret (.or (.call 19 (.cons (.sub (.loc 0) (.cst (.int 1))) (.cons (.loc 1) .nil))) (.call 19 (.cons (.sub (.loc 0) (.cst (.int 2))) (.cons (.loc 1) .nil)))))
 .nil))
abbrev H19 (X:Prog):Prop:=X.fns 19=some (.fn 2 6 f19)
def f22:Ss:=(.cons (.for_ (.tp (.cons (.nm 1) (.cons (.nm 2) .nil))) (.seq (.call 13 (.cons (.loc 0) .nil)))
 (.cons (.ite [] (.or (.cmp .gt (.bi .len (.cons (.call 13 (.cons (.loc 2) .nil)) .nil)) (.cst (.int 60))) (.or (.cmp .gt (.call 14 (.cons (.loc 2) .nil)) (.cst (.int 10000))) (.cmp .gt (.bi .maxL (.cons (.call 15 (.cons (.loc 2) .nil)) .nil)) (.bin .pow (.cst (.int 10)) (.cst (.int 18))))))
 (.cons (.ret (.cst (.bl false)))
 .nil)
 .nil)
 .nil))
 (.cons (.ret (.cst (.bl true)))
 .nil))
abbrev H22 (X:Prog):Prop:=X.fns 22=some (.fn 1 3 f22)
def f23:Ss:=(.cons (.asg false 2 (.call 10 (.cons (.loc 0) (.cons (.loc 1) .nil))))
 (.cons (.ret (.ifx (.call 22 (.cons (.loc 2) .nil)) (.loc 2) (.tup (.cons (.cst (.str [97,100,100])) (.cons (.cst (.str [120])) (.cons (.call 9 (.cons (.loc 0) (.cons (.cst (.int 9)) .nil))) .nil))))))
 .nil))
abbrev H23 (X:Prog):Prop:=X.fns 23=some (.fn 2 3 f23)
def f24:Ss:=(.cons (.asg false 1 (.lst (.cons (.bin .sub (.call 9 (.cons (.loc 0) (.cons (.cst (.int 9)) .nil))) (.cst (.int 4))) (.cons (.bin .sub (.call 9 (.cons (.loc 0) (.cons (.cst (.int 201)) .nil))) (.cst (.int 100))) (.cons (.bin .sub (.call 9 (.cons (.loc 0) (.cons (.bin .mul (.cst (.int 2)) (.bin .pow (.cst (.int 10)) (.cst (.int 12)))) .nil))) (.bin .pow (.cst (.int 10)) (.cst (.int 12)))) .nil)))))
 (.cons (.asg false 2 (.lst (.cons (.bin .sub (.bin .pow (.cst (.int 10)) (.cst (.int 40))) (.cst (.int 1))) (.cons (.bin .sub (.cst (.int 1)) (.bin .pow (.cst (.int 10)) (.cst (.int 40)))) (.cons (.bin .pow (.cst (.int 10)) (.cst (.int 18))) (.cons (.call 9 (.cons (.loc 0) (.cons (.bin .pow (.cst (.int 10)) (.cst (.int 30))) .nil))) .nil))))))
 (.cons (.ret (.sub (.bin .add (.loc 1) (.lst (.cons (.sub (.loc 2) (.call 9 (.cons (.loc 0) (.cons (.cst (.int 4)) .nil)))) (.cons (.sub (.loc 1) (.cst (.int 0))) .nil)))) (.call 9 (.cons (.loc 0) (.cons (.cst (.int 5)) .nil)))))
 .nil)))
abbrev H24 (X:Prog):Prop:=X.fns 24=some (.fn 1 3 f24)
end LB
end
section
namespace LT
open PL LB
structure HVal (X:Prog):Prop where
 f17:H17 X
 f18:H18 X
 f19:H19 X
theorem dp_pos_mul {c:Int}{b:Nat}{v:Int}(hc:c.natAbs≤100)(hv:v.natAbs<2^b)(hb:b≤950000)(b0:0<b):mulOk c v=true :=
 mulOk_of (j:=7) (k:=b) (by omega) hv (by decide) b0 (by omega)
theorem div_of {c:Int}(h:2≤c)(h2:c≤12):divOk c=true:=by
 unfold divOk
 simp
 omega
theorem okR_of {c:Int}(h:0≤c)(h2:c≤100):okR c=true:=by simp [okR];omega
theorem rep_W {n:Nat}{c:Int}{a:Tr}(c0:0≤c):n+c.toNat*(W a+1)+W a≤n+W (.rep c a):=by
 simp only [W]
 have h1:=Nat.mul_le_mul (show c.toNat≤c.natAbs by omega) (show W a+1≤W a+3 by omega)
 have e:(c.natAbs+1)*(W a+3)=c.natAbs*(W a+3)+(W a+3):=by rw [Nat.add_mul,Nat.one_mul]
 omega
section
variable {X:Prog}(h:HVal X)
include h
theorem rep_loop {a:Tr}{k m n:Nat}{c:Int}{st:St}(c0:0≤c)(c1:c≤12)(ha:wf true a=true)(hv:∀ y:Int,y.natAbs<2^(n+c.toNat*(W a+1))→run X k 17 [toD a,.int y] st=.ok (.int (sem a y)) st){x:Int}(hx:x.natAbs<2^n) :
  run X (k+1) 18 [.int c,toD a,.int x] st=.ok (.int (iter (sem a) c.toNat x)) st:=by
 rw [run_fn h.f18 rfl]
 obtain ⟨env',st',e,⟨y,hy,hst⟩⟩:=forL_inv (f:=forStep (evSs (X.cx k) (.cons (.asg false 2 (.call 17 (.cons (.loc 1) (.cons (.loc 2) .nil)))) .nil)) (.nm 3)) (ds:=rngI 0 c) (i:=0)
  (P:=fun i env st'=>∃ y,env=[.val (.int c),.val (toD a),.val (.int (iter (sem a) i x)),y]∧st'=st) (env:=[.val (.int c),.val (toD a),.val (.int x),.un]) (st:=st) ⟨.un,rfl,rfl⟩ (by
   rintro j d env st' hd ⟨y,rfl,rfl⟩
   have hj:j<c.toNat:=by
    have:=(List.getElem?_eq_some_iff.1 hd).1
    simpa [rngI] using this
   have hb:(iter (sem a) (0+j) x).natAbs<2^(n+c.toNat*(W a+1)):=by
    rw [Nat.zero_add]
    exact Nat.lt_of_lt_of_le (iter_bits ha hx j) (Nat.pow_le_pow_right (by decide) (by have:=Nat.mul_le_mul_right (W a+1) (show j≤c.toNat by omega);omega))
   have hq:=hv _ hb
   refine ⟨[.val (.int c),.val (toD a),.val (.int (iter (sem a) (0+j+1) x)),.val d],st',?_,⟨_,rfl,rfl⟩⟩
   simp only [Nat.zero_add] at hq ⊢
   simp [forStep,evSs,evS,evE,evEs,hq,iter])
 have hlen:(rngI 0 c).length=c.toNat:=by simp [rngI]
 rw [Nat.zero_add,hlen] at hy
 subst hy
 rw [hst] at e
 have ef:evS (X.cx k) (.for_ (.nm 3) (.rng1 (.loc 0)) (.cons (.asg false 2 (.call 17 (.cons (.loc 1) (.cons (.loc 2) .nil)))) .nil)) [.val (.int c),.val (toD a),.val (.int x),.un] st=.next [.val (.int c),.val (toD a),.val (.int (iter (sem a) c.toNat x)),y] st:=by
  rw [for_ofq (ds:=rngI 0 c) (st1:=st) (by simp [evI,evE,evEs,rngD,show okR 0=true by decide,okR_of c0 (by omega)])]
  exact e
 have e0:entry 4 [.int c,toD a,.int x]=[.val (.int c),.val (toD a),.val (.int x),.un]:=rfl
 unfold f18
 rw [e0,evSs,ef]
 simp [evSs,evS,evE]
theorem val_both:∀ (m:Nat) (t:Tr),dp t≤m→∀ (k n:Nat) (x:Int) (st:St),2*m≤k→x.natAbs<2^n→n+W t≤900000 →
  (wf true t=true→run X (k+2) 17 [toD t,.int x] st=.ok (.int (sem t x)) st)∧(wf false t=true→run X (k+2) 19 [toD t,.int x] st=.ok (.bl (sem t x != 0)) st):=by
 intro m
 induction m using Nat.strongRecOn with
 | _ m ih =>
  intro t ht k n x st hk hx hn
  have sub:∀ a:Tr,dp a+1≤dp t→∀ (n:Nat) (y:Int),y.natAbs<2^n→n+W a≤900000→(wf true a=true→run X (k+1) 17 [toD a,.int y] st=.ok (.int (sem a y)) st)∧(wf false a=true→run X (k+1) 19 [toD a,.int y] st=.ok (.bl (sem a y != 0)) st):=fun a ha n y hy hn=>by
   have:=ih (m-1) (by omega) a (by omega) (k-1) n y st (by omega) hy hn
   rwa [show k-1+2=k+1 by omega] at this
  constructor
  ·intro hw
   rw [run_fn h.f17 rfl]
   cases t with
   | x=>simp [f17,evSs,evS,evE,evEs,entry,toD,sem]
   | n i=>simp [f17,evSs,evS,evE,evEs,entry,toD,sem]
   | mul c a =>
    simp [wf] at hw
    simp only [dp,W] at sub hn
    have h1:=(sub a (by omega) n x hx (by omega)).1 hw.2
    have m1:=dp_pos_mul (c:=c) (by omega) (sem_bits hw.2 hx) (by omega) (by omega)
    simp [f17,evSs,evS,evC,evE,evEs,entry,toD,sem,patIn,ptsIn,ptIn,ptBind,patBind,h1,m1]
   | dv a c =>
    simp [wf] at hw
    simp only [dp,W] at sub hn
    have h1:=(sub a (by omega) n x hx (by omega)).1 hw.2
    have d1:=div_of hw.1.1 hw.1.2
    simp [f17,evSs,evS,evC,evE,evEs,entry,toD,sem,patIn,ptsIn,ptIn,ptBind,patBind,h1,d1]
   | md a c =>
    simp [wf] at hw
    simp only [dp,W] at sub hn
    have h1:=(sub a (by omega) n x hx (by omega)).1 hw.2
    have d1:c≠0:=by omega
    simp [f17,evSs,evS,evC,evE,evEs,entry,toD,sem,patIn,ptsIn,ptIn,ptBind,patBind,h1,d1]
   | nt a=>simp [wf] at hw
   | cond t a b =>
    simp [wf] at hw
    simp only [dp,W] at sub hn
    have h0:=(sub t (by omega) n x hx (by omega)).2 hw.1
    have h1:=(sub a (by omega) n x hx (by omega)).1 hw.2.1
    have h2:=(sub b (by omega) n x hx (by omega)).1 hw.2.2
    by_cases hz:sem t x=0
    ·simp [f17,evSs,evS,evC,evE,evEs,entry,toD,sem,patIn,ptsIn,ptIn,ptBind,patBind,h0,h1,h2,hz]
    ·simp [f17,evSs,evS,evC,evE,evEs,entry,toD,sem,patIn,ptsIn,ptIn,ptBind,patBind,h0,h1,h2,hz]
   | rep c a =>
    simp [wf] at hw
    have hW:=rep_W (n:=n) (a:=a) hw.1.1
    simp only [dp] at sub ht
    have hr:run X (k+1) 18 [.int c,toD a,.int x] st=.ok (.int (iter (sem a) c.toNat x)) st:=by
     refine rep_loop h (k:=k) (m:=0) (n:=n) hw.1.1 hw.1.2 hw.2 (fun y hy=>?_) hx
     have:=(ih (m-1) (by omega) a (by omega) (k-2) _ y st (by omega) hy (by omega)).1 hw.2
     rwa [show k-2+2=k by omega] at this
    simp [f17,evSs,evS,evC,evE,evEs,entry,toD,sem,patIn,ptsIn,ptIn,ptBind,patBind,hr]
   | two q a b =>
    simp only [dp,W] at sub hn
    cases q<;>simp [wf] at hw
    case then_ =>
     have h1:=(sub a (by omega) n x hx (by omega)).1 hw.1
     have h2:=(sub b (by omega) (n+W a+1) (sem a x) (sem_bits hw.1 hx) (by omega)).1 hw.2
     simp [f17,evSs,evS,evC,evE,evEs,entry,toD,K2.nm,sem,patIn,ptsIn,ptIn,ptBind,patBind,h1,h2]
    all_goals
     have h1:=(sub a (by omega) n x hx (by omega)).1 hw.1
     have h2:=(sub b (by omega) n x hx (by omega)).1 hw.2
     simp [f17,evSs,evS,evC,evE,evEs,entry,toD,K2.nm,sem,op2,patIn,ptsIn,ptIn,ptBind,patBind,h1,h2]
     try omega
  ·intro hw
   rw [run_fn h.f19 rfl]
   cases t with
   | nt a =>
    simp [wf] at hw
    simp only [dp,W] at sub hn
    have h1:=(sub a (by omega) n x hx (by omega)).2 hw
    by_cases hz:sem a x=0<;>simp [f19,evSs,evS,evC,evE,evEs,entry,toD,sem,patIn,ptsIn,ptIn,ptBind,patBind,h1,hz]
   | two q a b =>
    simp only [dp,W] at sub hn
    cases q<;>simp [wf] at hw
    case less =>
     have h1:=(sub a (by omega) n x hx (by omega)).1 hw.1
     have h2:=(sub b (by omega) n x hx (by omega)).1 hw.2
     by_cases hz:sem a x<sem b x<;>simp [f19,evSs,evS,evC,evE,evEs,entry,toD,K2.nm,sem,op2,patIn,ptsIn,ptIn,ptBind,patBind,h1,h2,hz]
    case same =>
     have h1:=(sub a (by omega) n x hx (by omega)).1 hw.1
     have h2:=(sub b (by omega) n x hx (by omega)).1 hw.2
     by_cases hz:sem a x=sem b x<;>simp [f19,evSs,evS,evC,evE,evEs,entry,toD,K2.nm,sem,op2,patIn,ptsIn,ptIn,ptBind,patBind,h1,h2,hz]
    case and_ =>
     have h1:=(sub a (by omega) n x hx (by omega)).2 hw.1
     have h2:=(sub b (by omega) n x hx (by omega)).2 hw.2
     by_cases hz:sem a x=0<;>by_cases hz2:sem b x=0<;>simp [f19,evSs,evS,evC,evE,evEs,entry,toD,K2.nm,sem,op2,patIn,ptsIn,ptIn,ptBind,patBind,h1,h2,hz,hz2]
    case or_ =>
     have h1:=(sub a (by omega) n x hx (by omega)).2 hw.1
     have h2:=(sub b (by omega) n x hx (by omega)).2 hw.2
     by_cases hz:sem a x=0<;>by_cases hz2:sem b x=0<;>simp [f19,evSs,evS,evC,evE,evEs,entry,toD,K2.nm,sem,op2,patIn,ptsIn,ptIn,ptBind,patBind,h1,h2,hz,hz2]
   | _=>simp [wf] at hw
end
end LT
end
section
namespace LT
open PL LB
section
end
end LT
end
section
namespace LT
open PL LB
structure HFit (X:Prog):Prop extends HPths X,HLr X,HLrc X where
 f22:H22 X
structure HSm (X:Prog):Prop extends HFit X,HGen X where
 f23:H23 X
structure HInp (X:Prog):Prop extends HGen X where
 f24:H24 X
theorem drwB {X:Prog}(h:HGen X)(k:Nat){s:Strm}{j m:Int}(hs:Ok j s)(hj:j≤2^50)(hm:0<m)(hm2:divOk m=true):∃ v s',run X (k+1) 9 [.ob 0 [],.int m] (some s)=.ok (.int v) (some s')∧0≤v∧v<m∧Ok (j+1) s':=by
 obtain ⟨h0,h1,h3⟩:=hs
 obtain ⟨v,s',e,v0,v1,⟨o1,o2⟩,hb⟩:=draw_any (X:=X) (f:=9) h.f9 k s hm hm2 (by omega) (by omega)
 exact ⟨v,s',e,v0,v1,⟨by omega,by omega,by omega⟩⟩
theorem ix_mem {l:List Int}{P:Int→Prop}(h:∀ v∈l,P v){i:Int}(h0:0≤i)(h1:i<l.length):∃ v,ix (l.map D.int) i=some (.int v)∧P v:=by
 have hi:i.toNat<l.length:=by omega
 refine ⟨l[i.toNat],?_,h _ (List.getElem_mem hi)⟩
 unfold ix
 rw [if_pos h0,List.getElem?_map,List.getElem?_eq_getElem hi]
 rfl
theorem forL_all {α:Type}{f:D→Env→St→Q}{i:α→D}{p:α→Bool}{P:Env→Prop}{d:D}{st:St}:∀ {l:List α} {env:Env},P env→(∀ a∈l,∀ env,P env→if p a then ∃ env',f (i a) env st=.next env' st∧P env' else f (i a) env st=.ret d st) →
  if l.all p then ∃ env',forL f (l.map i) env st=.next env' st∧P env' else forL f (l.map i) env st=.ret d st
 | [],env,h,_=>by
  simp only [List.all_nil,if_true,List.map_nil]
  exact ⟨env,rfl,h⟩
 | a::l,env,h,hs=>by
  have h1:=hs a (by simp) env h
  by_cases hp:p a=true
  ·rw [if_pos hp] at h1
   obtain ⟨env',e1,h2⟩:=h1
   have ih:=forL_all (l:=l) h2 (fun b hb=>hs b (by simp [hb]))
   rw [List.all_cons,hp,Bool.true_and]
   have e:forL f ((a::l).map i) env st=forL f (l.map i) env' st:=by
    rw [List.map_cons]
    conv=>lhs;unfold forL
    rw [e1]
   rw [e]
   exact ih
  ·rw [if_neg hp] at h1
   have hp':p a=false:=by simpa using hp
   rw [List.all_cons,hp',Bool.false_and]
   simp only [Bool.false_eq_true,if_false,List.map_cons]
   unfold forL
   rw [h1]
theorem pths_of {P:Tr→Prop}(hP:∀ t p,P t→p∈subs t→P p.2):∀ t,P t→∀ q∈pths t,P q.2:=by
 have pr:∀ (i:Int) (l:List (List Int × Tr)),(∀ q∈l,P q.2)→∀ q∈pre i l,P q.2:=by
  intro i l h q hq
  unfold pre at hq
  obtain ⟨q',h1,rfl⟩:=List.mem_map.mp hq
  exact h q' h1
 intro t
 induction t with
 | x=>intro h q hq;simp [pths] at hq;subst hq;exact h
 | n i=>intro h q hq;simp [pths] at hq;subst hq;exact h
 | mul c a ih=>intro h q hq;simp only [pths,List.mem_cons] at hq;rcases hq with rfl|hq;exact h;exact pr _ _ (ih (hP _ (2,a) h (by simp [subs]))) q hq
 | dv a c ih=>intro h q hq;simp only [pths,List.mem_cons] at hq;rcases hq with rfl|hq;exact h;exact pr _ _ (ih (hP _ (1,a) h (by simp [subs]))) q hq
 | md a c ih=>intro h q hq;simp only [pths,List.mem_cons] at hq;rcases hq with rfl|hq;exact h;exact pr _ _ (ih (hP _ (1,a) h (by simp [subs]))) q hq
 | rep c a ih=>intro h q hq;simp only [pths,List.mem_cons] at hq;rcases hq with rfl|hq;exact h;exact pr _ _ (ih (hP _ (2,a) h (by simp [subs]))) q hq
 | nt a ih=>intro h q hq;simp only [pths,List.mem_cons] at hq;rcases hq with rfl|hq;exact h;exact pr _ _ (ih (hP _ (1,a) h (by simp [subs]))) q hq
 | two k a b ih1 ih2 =>
  intro h q hq
  simp only [pths,List.mem_cons,List.mem_append] at hq
  rcases hq with rfl|hq|hq
  ·exact h
  ·exact pr _ _ (ih1 (hP _ (1,a) h (by simp [subs]))) q hq
  ·exact pr _ _ (ih2 (hP _ (2,b) h (by simp [subs]))) q hq
 | cond t a b ih1 ih2 ih3 =>
  intro h q hq
  simp only [pths,List.mem_cons,List.mem_append] at hq
  rcases hq with rfl|hq|hq|hq
  ·exact h
  ·exact pr _ _ (ih1 (hP _ (1,t) h (by simp [subs]))) q hq
  ·exact pr _ _ (ih2 (hP _ (2,a) h (by simp [subs]))) q hq
  ·exact pr _ _ (ih3 (hP _ (3,b) h (by simp [subs]))) q hq
theorem pths_self (t:Tr):([],t)∈pths t:=by cases t<;>simp [pths]
def Fit (t:Tr):Prop:=cnt t≤60∧lrun t≤10000∧(rc t).1≤1000000000000000000∧(rc t).2≤1000000000000000000
instance (t:Tr):Decidable (Fit t):=by unfold Fit;exact inferInstance
def fitB (t:Tr):Bool:=(pths t).all fun q=>decide (Fit q.2)
theorem fit_of {t:Tr}(h:fitB t=true):Fit t:=by
 unfold fitB at h
 rw [List.all_eq_true] at h
 exact of_decide_eq_true (h _ (pths_self t))
theorem fit_all {t:Tr}(h:fitB t=true):∀ q∈pths t,Fit q.2:=by
 unfold fitB at h
 rw [List.all_eq_true] at h
 exact fun q hq=>of_decide_eq_true (h q hq)
theorem fits_ok {X:Prog}(h:HFit X)(t:Tr)(k:Nat)(st:St)(hs:sane t)(hW:W t≤400000)(hd:dp t≤k)(hk:k≤900):run X (k+4) 22 [toD t] st=.ok (.bl (fitB t)) st:=by
 rw [run_fn h.f22 rfl]
 obtain ⟨eB,hB⟩:∃ eB,eB=Ss.cons (.ite [] (.or (.cmp .gt (.bi .len (.cons (.call 13 (.cons (.loc 2) .nil)) .nil)) (.cst (.int 60))) (.or (.cmp .gt (.call 14 (.cons (.loc 2) .nil)) (.cst (.int 10000))) (.cmp .gt (.bi .maxL (.cons (.call 15 (.cons (.loc 2) .nil)) .nil)) (.bin .pow (.cst (.int 10)) (.cst (.int 18))))))
  (.cons (.ret (.cst (.bl false))) .nil) .nil) .nil:=⟨_,rfl⟩
 have all:=forL_all (f:=forStep (evSs (X.cx (k+3)) eB) (.tp (.cons (.nm 1) (.cons (.nm 2) .nil)))) (i:=pthD) (p:=fun q=>decide (Fit q.2)) (P:=fun env=>∃ a b,env=[.val (toD t),a,b]) (d:=.bl false) (st:=st) (l:=pths t) (env:=[.val (toD t),.un,.un]) ⟨_,_,rfl⟩ (by
  rintro q hq env ⟨a,b,rfl⟩
  obtain ⟨g1,g2,g3⟩:=pths_of (P:=fun u=>sane u∧dp u≤dp t∧W u≤W t) (fun u p hu hp=>⟨sane_sub hu.1 hp,by have:=dp_sub hp;omega,by have:=W_sub hp;omega⟩) t ⟨hs,by omega,by omega⟩ q hq
  have c13:run X (k+3) 13 [toD q.2] st=.ok (.lst ((pths q.2).map pthD)) st:=paths_ok h.toHPths q.2 k st (by omega) (by omega) (by omega)
  have c14:run X (k+3) 14 [toD q.2] st=.ok (.int (lrun q.2)) st:=lrun_ok h.toHLr q.2 k st g1 (by omega) (by omega)
  have c15:run X (k+3) 15 [toD q.2] st=.ok (rD (rc q.2)) st:=lreach_ok h.toHLrc q.2 k st g1 (by omega) (by omega)
  have pl:=pths_len q.2
  have e0:∀ r,forStep (evSs (X.cx (k+3)) eB) (.tp (.cons (.nm 1) (.cons (.nm 2) .nil))) (pthD q) [.val (toD t),a,b] st=r↔evSs (X.cx (k+3)) eB [.val (toD t),.val (.tup (q.1.map D.int)),.val (toD q.2)] st=r:=fun r=>by
   unfold forStep pthD
   simp
  simp only [rD] at c15
  by_cases k1:cnt q.2≤60
  ·by_cases k2:lrun q.2≤10000
   ·by_cases k3:max (rc q.2).1 (rc q.2).2≤1000000000000000000
    ·have hF:Fit q.2:=⟨k1,k2,by omega,by omega⟩
     rw [if_pos (by simpa using hF)]
     refine ⟨[.val (toD t),.val (.tup (q.1.map D.int)),.val (toD q.2)],(e0 _).mpr ?_,⟨_,_,rfl⟩⟩
     subst hB
     have k1':¬ 60<cnt q.2:=by omega
     have k2':¬ 10000<lrun q.2:=by omega
     have k3':¬ 1000000000000000000<max (rc q.2).1 (rc q.2).2:=by omega
     simp [evSs,evS,evE,evEs,c13,c14,c15,ints0,ints1,maxI,pl,k1',k2',k3']
    ·have hF:¬ Fit q.2:=fun ⟨_,_,h3,h4⟩=>k3 (by omega)
     rw [if_neg (by simpa using hF)]
     refine (e0 _).mpr ?_
     subst hB
     have k1':¬ 60<cnt q.2:=by omega
     have k2':¬ 10000<lrun q.2:=by omega
     have k3':1000000000000000000<max (rc q.2).1 (rc q.2).2:=by omega
     simp [evSs,evS,evE,evEs,c13,c14,c15,ints0,ints1,maxI,pl,k1',k2',k3']
   ·have hF:¬ Fit q.2:=fun ⟨_,h2,_⟩=>k2 h2
    rw [if_neg (by simpa using hF)]
    refine (e0 _).mpr ?_
    subst hB
    have k1':¬ 60<cnt q.2:=by omega
    have k2':10000<lrun q.2:=by omega
    simp [evSs,evS,evE,evEs,c13,c14,pl,k1',k2']
  ·have hF:¬ Fit q.2:=fun ⟨h1,_⟩=>k1 h1
   rw [if_neg (by simpa using hF)]
   refine (e0 _).mpr ?_
   subst hB
   have k1':60<cnt q.2:=by omega
   simp [evSs,evS,evE,evEs,c13,pl,k1'])
 have c13:run X (k+3) 13 [toD t] st=.ok (.lst ((pths t).map pthD)) st:=paths_ok h.toHPths t k st (by omega) (by omega) (by omega)
 have e0:entry 3 [toD t]=[.val (toD t),.un,.un]:=rfl
 unfold f22
 rw [← hB,e0,evSs,for_ofq (ds:=(pths t).map pthD) (st1:=st) (by simp [evI,evE,evEs,c13])]
 unfold fitB
 by_cases ha:(pths t).all (fun q=>decide (Fit q.2))=true
 ·rw [if_pos ha] at all
  obtain ⟨env',e1,_⟩:=all
  rw [e1,ha]
  simp [evSs,evS,evE]
 ·rw [if_neg ha] at all
  have ha':(pths t).all (fun q=>decide (Fit q.2))=false:=by simpa using ha
  rw [all,ha']
  simp
def Sm (t:Tr):Prop:=wf true t=true∧dp t≤12∧W t≤400000∧fitB t=true
theorem VB_le:∀ d,d≤5→V d≤39061∧B d≤77760
 | 0,_=>by decide
 | 1,_=>by decide
 | 2,_=>by decide
 | 3,_=>by decide
 | 4,_=>by decide
 | 5,_=>by decide
theorem small_W {X:Prog}(h:HSm X)(k d:Nat)(hd:d≤5)(hk:d+3≤k)(hk4:20≤k)(hk9:k≤900){s:Strm}{j:Int}(hs:Ok j s)(hj:j≤2^49) :
  ∃ t s',run X (k+1) 23 [.ob 0 [],.int d] (some s)=.ok (toD t) (some s')∧Sm t∧sz t≤Z d+2∧W t≤V d+15∧Ok (j+80000) s':=by
 obtain ⟨hV,hB⟩:=VB_le d hd
 obtain ⟨t,s1,e1,⟨p1,p2,p3,p4⟩,o1⟩:=(both h.toHGen d).1 (k-d-2) s j (fun _=>by omega) hs (by omega)
 rw [show k-d-2+d+2=k by omega] at e1
 have c22:run X k 22 [toD t] (some s1)=.ok (.bl (fitB t)) (some s1):=by
  have:=fits_ok h.toHFit t (k-4) (some s1) (wf_sane _ _ p1) (by omega) (by omega) (by omega)
  rwa [show k-4+4=k by omega] at this
 rw [run_fn h.f23 rfl]
 by_cases hf:fitB t=true
 ·refine ⟨t,s1,?_,⟨p1,by omega,by omega,hf⟩,by omega,by omega,o1.mono (by omega)⟩
  rw [hf] at c22
  simp [f23,evSs,evS,evE,evEs,entry,e1,c22]
 ·have hf':fitB t=false:=by simpa using hf
  rw [hf'] at c22
  obtain ⟨v,s2,e2,v0,v1,o2⟩:=drw h.toHGen (k-1) (m:=9) o1 (by omega) (by decide) (by decide)
  rw [show k-1+1=k by omega] at e2
  refine ⟨.two .add .x (.n v),s2,?_,⟨by simp [wf];omega,by simp [dp],by simp only [W];omega,?_⟩,by have:=Z_pos d;simp only [sz];omega,by have:=V_pos d;simp only [W];omega,o2.mono (by omega)⟩
  ·simp [f23,evSs,evS,evE,evEs,entry,e1,c22,e2,toD,K2.nm]
  ·simp [fitB,pths,pre,Fit,cnt,lrun,rc]
   omega
theorem input_ok {X:Prog}(h:HInp X)(k:Nat){s:Strm}{j:Int}(hs:Ok j s)(hj:j≤2^49) :
  ∃ v s',run X (k+2) 24 [.ob 0 []] (some s)=.ok (.int v) (some s')∧v.natAbs≤10^40∧Ok (j+6) s':=by
 obtain ⟨a,s1,e1,a0,a1,o1⟩:=drw h.toHGen k (m:=9) hs (by omega) (by decide) (by decide)
 obtain ⟨b,s2,e2,b0,b1,o2⟩:=drw h.toHGen k (m:=201) o1 (by omega) (by decide) (by decide)
 obtain ⟨c,s3,e3,c0,c1,o3⟩:=drwB h.toHGen k (m:=2*10^12) o2 (by omega) (by decide) (by decide)
 obtain ⟨d,s4,e4,d0,d1,o4⟩:=drwB h.toHGen k (m:=10^30) o3 (by omega) (by decide) (by decide)
 obtain ⟨e,s5,e5,f0,f1,o5⟩:=drw h.toHGen k (m:=4) o4 (by omega) (by decide) (by decide)
 obtain ⟨f,s6,e6,g0,g1,o6⟩:=drw h.toHGen k (m:=5) o5 (by omega) (by decide) (by decide)
 obtain ⟨w,x1,w1⟩:=ix_mem (l:=[10^40-1,1-10^40,10^18,d]) (P:=fun v=>v.natAbs≤10^40) (i:=e) (by simp;omega) f0 (by simp;omega)
 obtain ⟨v,x2,v1⟩:=ix_mem (l:=[a-4,b-100,c-10^12,w,a-4]) (P:=fun v=>v.natAbs≤10^40) (i:=f) (by simp;omega) g0 (by simp;omega)
 refine ⟨v,s6,?_,v1,o6.mono (by omega)⟩
 rw [run_fn h.f24 rfl]
 simp at x1 x2 e3 e4
 simp [f24,evSs,evS,evE,evEs,entry,show mulOk 2 1000000000000=true by decide,e1,e2,e3,e4,e5,e6,x1,x2]
end LT
end
section
namespace LT
open PL LB
structure HJg (X:Prog):Prop extends HJf X,HCnt X,HRun X,HRc X where
 f317:H317 X
 f318:H318 X
 f319:H319 X
 f320:H320 X
 f321:H321 X
 g14:G14 X
def pthP (p:List D)(q:List Int × Tr):D:=.tup [.tup (p++q.1.map D.int),toD q.2]
theorem pthP_pre (p:List D)(i:Nat)(l:List (List Int × Tr)):(pre i l).map (pthP p)=l.map (pthP (p++[.int i])):=by
 unfold pre
 rw [List.map_map]
 refine List.map_congr_left fun q _=>?_
 simp [pthP]
section
variable {X:Prog}(h:HJg X)
include h
theorem pathsof_ok:∀ (n:Nat) (t:Tr),dp t≤n→W t≤400000→∀ (k:Nat) (p:List D) (st:St),n≤k→p.length+dp t≤1000→run X (k+3) 318 [toD t,.tup p] st=.ok (.lst ((pths t).map (pthP p))) st:=by
 intro n
 induction n using Nat.strongRecOn with
 | _ n ih =>
  intro t ht hW k p st hk hp
  rw [run_fn h.f318 rfl]
  have c0:run X (k+2) 0 [toD t] st=.ok (.lst ((subs t).map partD)) st:=items_ok h.toHIt k t st
  obtain ⟨eB,hB⟩:∃ eB,eB=Ss.cons (.asg false 2 (.lst (.star (.loc 2) (.star (.call 318 (.cons (.loc 4) (.cons (.tup (.star (.loc 1) (.cons (.loc 3) .nil))) .nil))) .nil)))) .nil:=⟨_,rfl⟩
  obtain ⟨env',st2,e1,s3,s4,he2,hst⟩:=forL_inv (f:=forStep (evSs (X.cx (k+2)) eB) (.tp (.cons (.nm 3) (.cons (.nm 4) .nil)))) (P:=fun i env st'=>∃ s3 s4,env=[.val (toD t),.val (.tup p),.val (.lst ((heads t i).map (pthP p))),s3,s4]∧st'=st)
   (ds:=(subs t).map partD) (i:=0) (env:=[.val (toD t),.val (.tup p),.val (.lst ((heads t 0).map (pthP p))),.un,.un]) (st:=st) ⟨_,_,rfl,rfl⟩ (fun j d env st' hj hpp=>by
    obtain ⟨s3,s4,rfl,rfl⟩:=hpp
    rw [List.getElem?_map] at hj
    obtain ⟨q,hq,rfl⟩:=Option.map_eq_some_iff.mp hj
    have hmem:q∈subs t:=List.mem_of_getElem? hq
    have hd:=dp_sub hmem
    have hw:=W_sub hmem
    obtain ⟨k',rfl⟩:∃ k',k=k'+1:=⟨k-1,by omega⟩
    have hc:run X (k'+1+2) 318 [toD q.2,.tup (p++[.int q.1])] st'=.ok (.lst ((pths q.2).map (pthP (p++[.int q.1])))) st':=ih (n-1) (by omega) q.2 (by omega) (by omega) k' _ st' (by omega) (by simp;omega)
    have hlen:(heads t (0+j)).length+(pths q.2).length≤16777216:=by
     have h1:=heads_len t (0+j+1)
     rw [heads_more (by simpa using hq),List.length_append,pre_len] at h1
     have h3:=pths_len t
     have h4:=cnt_le t
     omega
    refine ⟨[.val (toD t),.val (.tup p),.val (.lst ((heads t (0+j+1)).map (pthP p))),.val (.int q.1),.val (toD q.2)],st',?_,_,_,rfl,rfl⟩
    rw [hB,heads_more (by simpa using hq),List.map_append,pthP_pre]
    rw [Nat.zero_add] at hlen
    simp [forStep,partD,evSs,evS,evE,evEs,hc,hlen,show p.length+1≤16777216 by omega])
  rw [he2,hst] at e1
  have e2:entry 5 [toD t,.tup p]=[.val (toD t),.val (.tup p),.un,.un,.un]:=rfl
  have h0:(heads t 0).map (pthP p)=[.tup [.tup p,toD t]]:=by simp [heads,pthP]
  rw [h0] at e1
  have hz:heads t (0+((subs t).map partD).length)=pths t:=by rw [Nat.zero_add,List.length_map,heads_all]
  rw [hz] at e1
  unfold f318
  rw [← hB,e2]
  simp [evSs,evS,evE,evEs,evI,c0,e1]
theorem excess_ok (t:Tr)(k:Nat)(st:St)(hs:sane t)(hW:W t≤400000)(hd:dp t≤k)(hf:Fit t):run X (k+5) 317 [toD t] st=.ok .non st:=by
 obtain ⟨g1,g2,g3,g4⟩:=hf
 rw [run_fn h.f317 rfl]
 have c2:=count_ok h.toHCnt t (k+1) st (by omega)
 have c3:=run_ok h.toHRun t (k+1) st hs (by omega)
 have c7:=reach_ok h.toHRc t k st hs hW hd
 simp only [rD,cp] at c7
 have k1:¬ 60<cnt t:=by omega
 have k2:¬ 10000<cap (lrun t):=by unfold cap;omega
 have k3:¬ 1000000000000000000<max (min CC (rc t).1) (min CC (rc t).2):=by have:=hCC;omega
 unfold f317
 simp [evSs,evS,evE,evEs,entry,c2,c3,c7,h.g0,h.g1,h.g14,ints0,ints1,maxI,k1,k2,k3]
theorem tree_ok (t:Tr)(b:Bool)(k:Nat)(st:St)(hw:wf b t=true)(hd:dp t≤40)(hW:W t≤400000)(hf:fitB t=true)(hk:60≤k):run X (k+6) 319 [toD t,.str (kd b)] st=.ok .non st:=by
 rw [run_fn h.f319 rfl]
 have c1:=bad_ok h.toHJf t b (k+1) [] st hw (by omega) (by omega) (by simp;omega)
 have c2:=pathsof_ok h (dp t) t (Nat.le_refl _) hW (k+2) [] st (by omega) (by simp;omega)
 obtain ⟨eB,hB⟩:∃ eB,eB=Ss.cons (.asg false 5 (.call 317 (.cons (.loc 4) .nil))) (.cons (.ite [] (.isnn (.loc 5)) (.cons (.ret (.tup (.cons (.loc 3) (.cons (.loc 5) .nil)))) .nil) .nil) .nil):=⟨_,rfl⟩
 obtain ⟨env',st2,e1,s2,s3,s4,s5,he2,hst⟩:=forL_inv (f:=forStep (evSs (X.cx (k+5)) eB) (.tp (.cons (.nm 3) (.cons (.nm 4) .nil)))) (P:=fun i env st'=>∃ s2 s3 s4 s5,env=[.val (toD t),.val (.str (kd b)),s2,s3,s4,s5]∧st'=st)
  (ds:=(pths t).map (pthP [])) (i:=0) (env:=[.val (toD t),.val (.str (kd b)),.val .non,.un,.un,.un]) (st:=st) ⟨_,_,_,_,rfl,rfl⟩ (fun j d env st' hj hpp=>by
   obtain ⟨s2,s3,s4,s5,rfl,rfl⟩:=hpp
   rw [List.getElem?_map] at hj
   obtain ⟨q,hq,rfl⟩:=Option.map_eq_some_iff.mp hj
   have hmem:q∈pths t:=List.mem_of_getElem? hq
   obtain ⟨g1,g2,g3⟩:=pths_of (P:=fun u=>sane u∧dp u≤dp t∧W u≤W t) (fun u p hu hp=>⟨sane_sub hu.1 hp,by have:=dp_sub hp;omega,by have:=W_sub hp;omega⟩) t ⟨wf_sane b t hw,by omega,by omega⟩ q hmem
   have c3:=excess_ok h q.2 k st' g1 (by omega) (by omega) (fit_all hf q hmem)
   refine ⟨[.val (toD t),.val (.str (kd b)),s2,.val (.tup ([]++q.1.map D.int)),.val (toD q.2),.val .non],st',?_,_,_,_,_,rfl,rfl⟩
   rw [hB]
   simp [forStep,pthP,evSs,evS,evE,evEs,c3,D.isN])
 rw [he2,hst] at e1
 unfold f319
 rw [← hB]
 simp [evSs,evS,evE,evEs,evI,entry,c1,c2,D.isN,e1]
theorem prog_ok (t:Tr)(k:Nat)(st:St)(hw:wf true t=true)(hd:dp t≤40)(hW:W t≤400000)(hf:fitB t=true)(hk:60≤k):run X (k+8) 321 [toD t] st=.ok (.bl true) st:=by
 have c1:=tree_ok h t true k st hw hd hW hf hk
 have c2:run X (k+7) 320 [toD t] st=.ok .non st:=by
  rw [run_fn h.f320 rfl]
  unfold f320
  simp [kd] at c1
  simp [evSs,evS,evE,evEs,entry,c1]
 rw [run_fn h.f321 rfl]
 unfold f321
 simp [evSs,evS,evE,evEs,entry,c2,D.isN]
end
end LT
end
section
namespace LT
open PL LB
structure HPa (X:Prog):Prop extends HIt X where
 f133:H133 X
 f323:H323 X
 f324:H324 X
 f325:H325 X
theorem pre_mem {i:Int}{l:List (List Int × Tr)}{r:List Int}{u:Tr}(h:(r,u)∈pre i l):∃ r',r=i::r'∧(r',u)∈l:=by
 unfold pre at h
 obtain ⟨q,h1,h2⟩:=List.mem_map.mp h
 cases h2
 exact ⟨_,rfl,h1⟩
theorem pths_cons {t u:Tr}{l:List Int}(h:(l,u)∈pths t):(l=[]∧u=t)∨∃ (p:Nat × Tr) (r:List Int),p∈subs t∧l=(p.1:Int)::r∧(r,u)∈pths p.2:=by
 rw [← heads_all t] at h
 unfold heads at h
 rw [List.take_length,List.mem_cons] at h
 rcases h with h|h
 ·cases h;exact .inl ⟨rfl,rfl⟩
 ·obtain ⟨z,h1,h2⟩:=List.mem_flatten.mp h
  obtain ⟨p,h3,rfl⟩:=List.mem_map.mp h1
  obtain ⟨r,rfl,h4⟩:=pre_mem h2
  exact .inr ⟨p,r,h3,rfl,h4⟩
def isB':Ss:=(.cons (.asg false 4 (.dpl (.call 0 (.cons (.loc 2) .nil))))
 (.cons (.ite [] (.or (.not (.call 133 (.cons (.loc 3) (.cons (.cst (.int 1)) (.cons (.cst (.int 3)) .nil))))) (.cmp .nin (.loc 3) (.loc 4)))
 (.cons (.ret (.cst (.bl false)))
 .nil)
 .nil)
 (.cons (.asg false 2 (.sub (.loc 4) (.loc 3)))
 .nil)))
def ofB:Ss:=(.cons (.asg false 2 (.sub (.loc 2) (.loc 3)))
 .nil)
section
variable {X:Prog}(h:HPa X)
include h
theorem is_body (k:Nat)(t:Tr)(p:Nat × Tr)(hp:p∈subs t)(st:St)(a b c:Slot):∃ d,evSs (X.cx (k+2)) isB' [a,b,.val (toD t),.val (.int p.1),c] st=.next [a,b,.val (toD p.2),.val (.int p.1),.val d] st:=by
 have c0:=items_ok h.toHIt k t st
 unfold isB'
 cases t<;>simp [subs] at hp
 case mul=>subst hp;simp [subs,partD] at c0;simp [evSs,evS,evE,evEs,c0,dplO,dctL,D.key,putKs,putVs,int_in h.f133,D.has,K0.isS,findK,subD]
 case dv=>subst hp;simp [subs,partD] at c0;simp [evSs,evS,evE,evEs,c0,dplO,dctL,D.key,putKs,putVs,int_in h.f133,D.has,K0.isS,findK,subD]
 case md=>subst hp;simp [subs,partD] at c0;simp [evSs,evS,evE,evEs,c0,dplO,dctL,D.key,putKs,putVs,int_in h.f133,D.has,K0.isS,findK,subD]
 case rep=>subst hp;simp [subs,partD] at c0;simp [evSs,evS,evE,evEs,c0,dplO,dctL,D.key,putKs,putVs,int_in h.f133,D.has,K0.isS,findK,subD]
 case nt=>subst hp;simp [subs,partD] at c0;simp [evSs,evS,evE,evEs,c0,dplO,dctL,D.key,putKs,putVs,int_in h.f133,D.has,K0.isS,findK,subD]
 case two =>
  simp [subs,partD] at c0
  rcases hp with hp|hp<;>subst hp<;>simp [evSs,evS,evE,evEs,c0,dplO,dctL,D.key,putKs,putVs,int_in h.f133,D.has,K0.isS,findK,subD]
 case cond =>
  simp [subs,partD] at c0
  rcases hp with hp|hp|hp<;>subst hp<;>simp [evSs,evS,evE,evEs,c0,dplO,dctL,D.key,putKs,putVs,int_in h.f133,D.has,K0.isS,findK,subD]
omit h in
theorem of_body (cx:Ctx)(t:Tr)(p:Nat × Tr)(hp:p∈subs t)(st:St)(a b:Slot):evSs cx ofB [a,b,.val (toD t),.val (.int p.1)] st=.next [a,b,.val (toD p.2),.val (.int p.1)] st:=by
 unfold ofB
 cases t<;>simp [subs] at hp
 case two q _ _=>rcases hp with hp|hp<;>subst hp<;>simp [evSs,evS,evE,evEs,toD]
 case cond=>rcases hp with hp|hp|hp<;>subst hp<;>simp [evSs,evS,evE,evEs,toD]
 all_goals (subst hp;simp [evSs,evS,evE,evEs,toD])
theorem is_loop (k:Nat)(st:St)(a b:Slot):∀ (l:List Int) (t u:Tr) (c d:Slot),(l,u)∈pths t→∃ c' d',forL (forStep (evSs (X.cx (k+2)) isB') (.nm 3)) (l.map D.int) [a,b,.val (toD t),c,d] st=.next [a,b,.val (toD u),c',d'] st
 | [],t,u,c,d,hm=>by
  rcases pths_cons hm with ⟨_,rfl⟩|⟨p,r,_,hl,_⟩
  ·exact ⟨c,d,rfl⟩
  ·cases hl
 | i::l,t,u,c,d,hm=>by
  rcases pths_cons hm with ⟨hl,_⟩|⟨p,r,hp,hl,hr⟩
  ·cases hl
  ·cases hl
   obtain ⟨d1,e1⟩:=is_body h k t p hp st a b d
   obtain ⟨c2,d2,e2⟩:=is_loop k st a b l p.2 u (.val (.int p.1)) (.val d1) hr
   refine ⟨c2,d2,?_⟩
   rw [List.map_cons]
   unfold forL
   have e3:forStep (evSs (X.cx (k+2)) isB') (.nm 3) (.int p.1) [a,b,.val (toD t),c,d] st=.next [a,b,.val (toD p.2),.val (.int p.1),.val d1] st:=by
    simpa [forStep] using e1
   rw [e3]
   exact e2
omit h in
theorem of_loop (cx:Ctx)(st:St)(a b:Slot):∀ (l:List Int) (t u:Tr) (c:Slot),(l,u)∈pths t→∃ c',forL (forStep (evSs cx ofB) (.nm 3)) (l.map D.int) [a,b,.val (toD t),c] st=.next [a,b,.val (toD u),c'] st
 | [],t,u,c,hm=>by
  rcases pths_cons hm with ⟨_,rfl⟩|⟨p,r,_,hl,_⟩
  ·exact ⟨c,rfl⟩
  ·cases hl
 | i::l,t,u,c,hm=>by
  rcases pths_cons hm with ⟨hl,_⟩|⟨p,r,hp,hl,hr⟩
  ·cases hl
  ·cases hl
   have e1:=of_body cx t p hp st a b
   obtain ⟨c2,e2⟩:=of_loop cx st a b l p.2 u (.val (.int p.1)) hr
   refine ⟨c2,?_⟩
   rw [List.map_cons]
   unfold forL
   have e3:forStep (evSs cx ofB) (.nm 3) (.int p.1) [a,b,.val (toD t),c] st=.next [a,b,.val (toD p.2),.val (.int p.1)] st:=by
    simpa [forStep] using e1
   rw [e3]
   exact e2
theorem isPath_ok (k:Nat)(t u:Tr)(l:List Int)(st:St)(hm:(l,u)∈pths t):run X (k+3) 323 [toD t,.tup (l.map D.int)] st=.ok (.bl true) st:=by
 obtain ⟨c,d,e⟩:=is_loop h k st (.val (toD t)) (.val (.tup (l.map D.int))) l t u .un .un hm
 rw [run_fn h.f323 rfl]
 unfold f323
 unfold isB' at e
 simp [evSs,evS,evE,evEs,evI,entry] at e ⊢
 simp [e]
theorem partOf_ok (k:Nat)(t u:Tr)(l:List Int)(st:St)(hm:(l,u)∈pths t):run X (k+1) 324 [toD t,.tup (l.map D.int)] st=.ok (toD u) st:=by
 obtain ⟨c,e⟩:=of_loop (X.cx k) st (.val (toD t)) (.val (.tup (l.map D.int))) l t u .un hm
 rw [run_fn h.f324 rfl]
 unfold f324
 unfold ofB at e
 simp [evSs,evS,evE,evEs,evI,entry] at e ⊢
 simp [e]
theorem partAt_ok (k:Nat)(t u:Tr)(l:List Int)(st:St)(hm:(l,u)∈pths t):run X (k+4) 325 [toD t,.tup (l.map D.int)] st=.ok (toD u) st:=by
 have e1:=isPath_ok h k t u l st hm
 have e2:=partOf_ok h (k+2) t u l st hm
 rw [run_fn h.f325 rfl]
 unfold f325
 simp [evSs,evS,evE,evEs,entry,e1,e2]
end
end LT
end
section
namespace LT
open PL LB
theorem wf_sub:∀ {t:Tr} {b:Bool},wf b t=true→∀ {p:Nat × Tr},p∈subs t→∃ b',wf b' p.2=true:=by
 intro t b hw p hp
 cases t<;>simp [subs] at hp
 case two q a c=>cases q<;>cases b<;>simp [wf] at hw<;>(rcases hp with hp|hp<;>subst hp;exact ⟨_,hw.1⟩;exact ⟨_,hw.2⟩)
 case cond t a c=>cases b<;>simp [wf] at hw;rcases hp with hp|hp|hp<;>subst hp;exact ⟨_,hw.1⟩;exact ⟨_,hw.2.1⟩;exact ⟨_,hw.2.2⟩
 case nt a=>cases b<;>simp [wf] at hw;subst hp;exact ⟨_,hw⟩
 all_goals (subst hp;cases b<;>simp [wf] at hw;exact ⟨_,hw.2⟩)
end LT
end
section
namespace LT
open PL LB
section
end
end LT
end
section
namespace LT
open PL LB
theorem rng_get {n:Int}{j:Nat}{d:D}(hd:(rngI 0 n)[j]?=some d):j<n.toNat∧d=.int j:=by
 have hj:j<n.toNat:=by
  have:=(List.getElem?_eq_some_iff.1 hd).1
  simpa [rngI] using this
 refine ⟨hj,?_⟩
 unfold rngI at hd
 rw [List.getElem?_map] at hd
 obtain ⟨m,hm,rfl⟩:=Option.map_eq_some_iff.1 hd
 have:=(List.getElem?_eq_some_iff.1 hm).2
 rw [List.getElem_range] at this
 rw [this,Int.zero_add]
theorem rng_len (n:Int):(rngI 0 n).length=n.toNat:=by simp [rngI]
theorem pow40 {x:Int}(h:x.natAbs≤10^40):x.natAbs<2^133:=Nat.lt_of_le_of_lt h (by decide)
end LT
end
section
namespace LT
open PL LB
theorem eqvT:∀ t:Tr,D.eqv (toD t) (toD t)=true
 | .x=>by simp [toD,D.eqv]
 | .n i=>by simp [toD,D.eqv]
 | .two k a b=>by simp [toD,D.eqv,D.eqvs,eqvT a,eqvT b]
 | .mul c a=>by simp [toD,D.eqv,D.eqvs,eqvT a]
 | .dv a c=>by simp [toD,D.eqv,D.eqvs,eqvT a]
 | .md a c=>by simp [toD,D.eqv,D.eqvs,eqvT a]
 | .rep c a=>by simp [toD,D.eqv,D.eqvs,eqvT a]
 | .nt a=>by simp [toD,D.eqv,D.eqvs,eqvT a]
 | .cond t a b=>by simp [toD,D.eqv,D.eqvs,eqvT t,eqvT a,eqvT b]
theorem eqD_self {t:Tr}(hd:dp t≤60):eqD (toD t) (toD t)=some true:=by
 have e:∀ d:D,d.shaped=true→D.eqv d d=true→(∀ s,d≠.str s)→eqD d d=some true:=fun d h1 h2 h3=>by
  cases d with
  | str s=>exact absurd rfl (h3 s)
  | _=>unfold eqD;simp [h1,h2]
 cases t with
 | x=>rfl
 | _=>exact e _ (shT hd) (eqvT _) fun s hs=>by simp [toD] at hs
theorem cnt_sub {t:Tr}{p:Nat × Tr}(hp:p∈subs t):cnt p.2≤cnt t:=by
 have pos:∀ u:Tr,1≤cnt u:=fun u=>by have:=pths_len u;have h2:0<(pths u).length:=List.length_pos_of_mem (pths_self u);omega
 cases t<;>simp [subs] at hp
 case two k a b=>have:=pos a;have:=pos b;rcases hp with hp|hp<;>subst hp<;>simp only [cnt]<;>omega
 case cond t a b=>have:=pos t;have:=pos a;have:=pos b;rcases hp with hp|hp|hp<;>subst hp<;>simp only [cnt]<;>omega
 all_goals (subst hp;simp only [cnt];omega)
theorem pths_sub {t:Tr}{p:Nat × Tr}(hp:p∈subs t){q:List Int × Tr}(hq:q∈pths p.2):((p.1:Int)::q.1,q.2)∈pths t:=by
 rw [← heads_all t]
 unfold heads
 rw [List.take_length]
 refine List.mem_cons_of_mem _ (List.mem_flatten.mpr ⟨pre p.1 (pths p.2),List.mem_map.mpr ⟨p,hp,rfl⟩,?_⟩)
 unfold pre
 exact List.mem_map.mpr ⟨_,hq,rfl⟩
theorem fit_sub {t:Tr}(h:fitB t=true){p:Nat × Tr}(hp:p∈subs t):fitB p.2=true:=by
 have h1:=fit_all h
 unfold fitB
 rw [List.all_eq_true]
 intro q hq
 have h2:Fit q.2:=h1 ((p.1:Int)::q.1,q.2) (pths_sub hp hq)
 simpa using h2
def Pt (t u:Tr):Prop:=(∃ b,wf b u=true)∧dp u≤12∧W u≤400000∧fitB u=true∧cnt u≤cnt t
theorem part_of {t:Tr}(h:Sm t):∀ q∈pths t,Pt t q.2:=by
 obtain ⟨h1,h2,h3,h4⟩:=h
 exact pths_of (P:=Pt t) (fun u p hu hp=>by
  obtain ⟨⟨b,g1⟩,g2,g3,g4,g5⟩:=hu
  have:=dp_sub hp
  have:=W_sub hp
  have:=cnt_sub hp
  exact ⟨wf_sub g1 hp,by omega,by omega,fit_sub g4 hp,by omega⟩) t ⟨⟨true,h1⟩,h2,h3,h4,Int.le_refl _⟩
end LT
end
section
namespace LT
open PL LB
def put:Tr→List Int→Tr→Tr
 | _,[],o=>o
 | .mul c a,_::r,o=>.mul c (put a r o)
 | .two k a b,i::r,o=>if i=1 then .two k (put a r o) b else .two k a (put b r o)
 | .dv a c,_::r,o=>.dv (put a r o) c
 | .md a c,_::r,o=>.md (put a r o) c
 | .rep c a,_::r,o=>.rep c (put a r o)
 | .nt a,_::r,o=>.nt (put a r o)
 | .cond t a b,i::r,o=>if i=1 then .cond (put t r o) a b else if i=2 then .cond t (put a r o) b else .cond t a (put b r o)
 | t,_::_,_=>t
theorem put_nil (t o:Tr):put t [] o=o:=by cases t<;>rfl
theorem put_ind {u o:Tr}{M:Tr→Tr→Prop}(h0:M u o)(hmul:∀ c a a',M a a'→M (.mul c a) (.mul c a'))(h1:∀ k a a' b,M a a'→M (.two k a b) (.two k a' b))(h2:∀ k a b b',M b b'→M (.two k a b) (.two k a b'))
  (hdv:∀ a a' c,M a a'→M (.dv a c) (.dv a' c)) (hmd:∀ a a' c,M a a'→M (.md a c) (.md a' c)) (hrep:∀ c a a',M a a'→M (.rep c a) (.rep c a')) (hnt:∀ a a',M a a'→M (.nt a) (.nt a'))
  (hc1:∀ t t' a b,M t t'→M (.cond t a b) (.cond t' a b)) (hc2:∀ t a a' b,M a a'→M (.cond t a b) (.cond t a' b)) (hc3:∀ t a b b',M b b'→M (.cond t a b) (.cond t a b')) :
  ∀ (l:List Int) (t:Tr),(l,u)∈pths t→M t (put t l o)
 | [],t,hm=>by
  rcases pths_cons hm with ⟨_,rfl⟩|⟨p,r,_,hl,_⟩
  ·rw [put_nil];exact h0
  ·cases hl
 | i::l,t,hm=>by
  rcases pths_cons hm with ⟨hl,_⟩|⟨p,r,hp,hl,hr⟩
  ·cases hl
  ·cases hl
   have ih:=put_ind h0 hmul h1 h2 hdv hmd hrep hnt hc1 hc2 hc3 l p.2 hr
   cases t<;>simp [subs] at hp
   case mul=>subst hp;exact hmul _ _ _ ih
   case dv=>subst hp;exact hdv _ _ _ ih
   case md=>subst hp;exact hmd _ _ _ ih
   case rep=>subst hp;exact hrep _ _ _ ih
   case nt=>subst hp;exact hnt _ _ ih
   case two =>
    rcases hp with hp|hp<;>subst hp
    ·exact h1 _ _ _ _ ih
    ·exact h2 _ _ _ _ ih
   case cond =>
    rcases hp with hp|hp|hp<;>subst hp
    ·exact hc1 _ _ _ _ ih
    ·exact hc2 _ _ _ _ ih
    ·exact hc3 _ _ _ _ ih
theorem put_wf {u o:Tr}(h:∀ b,wf b u=true→wf b o=true){l:List Int}{t:Tr}(hm:(l,u)∈pths t):∀ b,wf b t=true→wf b (put t l o)=true:=by
 refine put_ind (M:=fun a a'=>∀ b,wf b a=true→wf b a'=true) h ?_ ?_ ?_ ?_ ?_ ?_ ?_ ?_ ?_ ?_ l t hm
 ·intro c a a' ih b hb;cases b<;>simp [wf] at hb ⊢;exact ⟨hb.1,ih _ hb.2⟩
 ·intro k a a' c ih b hb;cases k<;>cases b<;>simp [wf] at hb ⊢ <;> exact ⟨ih _ hb.1,hb.2⟩
 ·intro k a c c' ih b hb;cases k<;>cases b<;>simp [wf] at hb ⊢ <;> exact ⟨hb.1,ih _ hb.2⟩
 ·intro a a' c ih b hb;cases b<;>simp [wf] at hb ⊢;exact ⟨hb.1,ih _ hb.2⟩
 ·intro a a' c ih b hb;cases b<;>simp [wf] at hb ⊢;exact ⟨hb.1,ih _ hb.2⟩
 ·intro c a a' ih b hb;cases b<;>simp [wf] at hb ⊢;exact ⟨hb.1,ih _ hb.2⟩
 ·intro a a' ih b hb;cases b<;>simp [wf] at hb ⊢;exact ih _ hb
 ·intro t t' a c ih b hb;cases b<;>simp [wf] at hb ⊢;exact ⟨ih _ hb.1,hb.2⟩
 ·intro t a a' c ih b hb;cases b<;>simp [wf] at hb ⊢;exact ⟨hb.1,ih _ hb.2.1,hb.2.2⟩
 ·intro t a c c' ih b hb;cases b<;>simp [wf] at hb ⊢;exact ⟨hb.1,hb.2.1,ih _ hb.2.2⟩
theorem put_sem {u o:Tr}(h:∀ x,sem o x=sem u x){l:List Int}{t:Tr}(hm:(l,u)∈pths t):∀ x,sem (put t l o) x=sem t x:=by
 refine put_ind (M:=fun a a'=>∀ x,sem a' x=sem a x) h ?_ ?_ ?_ ?_ ?_ ?_ ?_ ?_ ?_ ?_ l t hm
 ·intro c a a' ih x;simp only [sem,ih]
 ·intro k a a' c ih x;cases k<;>simp only [sem,ih]
 ·intro k a c c' ih x;cases k<;>simp only [sem,ih]
 ·intro a a' c ih x;simp only [sem,ih]
 ·intro a a' c ih x;simp only [sem,ih]
 ·intro c a a' ih x
  have e:sem a'=sem a:=funext ih
  simp only [sem,e]
 ·intro a a' ih x;simp only [sem,ih]
 ·intro t t' a c ih x;simp only [sem,ih]
 ·intro t a a' c ih x;simp only [sem,ih]
 ·intro t a c c' ih x;simp only [sem,ih]
theorem put_dp {u o:Tr}(h:dp o≤dp u+2){l:List Int}{t:Tr}(hm:(l,u)∈pths t):dp (put t l o)≤dp t+2:=by
 refine put_ind (M:=fun a a'=>dp a'≤dp a+2) h ?_ ?_ ?_ ?_ ?_ ?_ ?_ ?_ ?_ ?_ l t hm<;>intros<;>simp only [dp]<;>omega
theorem put_W {u o:Tr}{c:Nat}(hc:1≤c)(h:W o≤c*W u){l:List Int}{t:Tr}(hm:(l,u)∈pths t):W (put t l o)≤c*W t:=by
 have up:∀ n:Nat,n≤c*n:=fun n=>Nat.le_mul_of_pos_left n (by omega)
 refine put_ind (M:=fun a a'=>W a'≤c*W a) h ?_ ?_ ?_ ?_ ?_ ?_ ?_ ?_ ?_ ?_ l t hm
 ·intro i a a' ih;simp only [W,Nat.mul_add];have:=up i.natAbs;omega
 ·intro k a a' b ih;simp only [W,Nat.mul_add];have:=up (W b);omega
 ·intro k a b b' ih;simp only [W,Nat.mul_add];have:=up (W a);omega
 ·intro a a' i ih;simp only [W,Nat.mul_add];have:=up i.natAbs;omega
 ·intro a a' i ih;simp only [W,Nat.mul_add];have:=up i.natAbs;omega
 ·intro i a a' ih
  simp only [W]
  rw [Nat.mul_left_comm]
  refine Nat.mul_le_mul_left _ ?_
  rw [Nat.mul_add]
  omega
 ·intro a a' ih;simp only [W,Nat.mul_add];omega
 ·intro t t' a b ih;simp only [W,Nat.mul_add];have:=up (W a);have:=up (W b);omega
 ·intro t a a' b ih;simp only [W,Nat.mul_add];have:=up (W t);have:=up (W b);omega
 ·intro t a b b' ih;simp only [W,Nat.mul_add];have:=up (W t);have:=up (W a);omega
end LT
end
section
namespace LB
open PL
def f328:Ss:=(.cons (.ite [] (.cmp .eq (.loc 1) (.tup .nil))
 (.cons (.ret (.loc 2))
 .nil)
 .nil)
 (.cons (.asg false 3 (.sub (.loc 1) (.cst (.int 0))))
 (.cons (.ret (.tup (.star (.slc (.loc 0) .no (.so (.loc 3))) (.cons (.call 328 (.cons (.sub (.loc 0) (.loc 3)) (.cons (.slc (.loc 1) (.so (.cst (.int 1))) .no) (.cons (.loc 2) .nil)))) (.star (.slc (.loc 0) (.so (.bin .add (.loc 3) (.cst (.int 1)))) .no) .nil)))))
 .nil)))
abbrev H328 (X:Prog):Prop:=X.fns 328=some (.fn 3 4 f328)
def f329:Ss:=(.cons (.ite [] (.not (.call 323 (.cons (.loc 0) (.cons (.loc 1) .nil))))
 (.cons .never
 .nil)
 .nil)
 (.cons (.asg false 3 (.call 328 (.cons (.loc 0) (.cons (.loc 1) (.cons (.loc 2) .nil)))))
 (.cons (.ite [] (.not (.call 321 (.cons (.loc 3) .nil)))
 (.cons .never
 .nil)
 .nil)
 (.cons (.ret (.loc 3))
 .nil))))
abbrev H329 (X:Prog):Prop:=X.fns 329=some (.fn 3 4 f329)
def f330:Ss:=(.cons (.ite [] (.cmp .eq (.loc 1) (.tup .nil))
 (.cons (.ret (.loc 2))
 .nil)
 .nil)
 (.cons (.ret (.bin .add (.bin .add (.slc (.loc 0) .no (.so (.sub (.loc 1) (.cst (.int 0))))) (.tup (.cons (.call 330 (.cons (.sub (.loc 0) (.sub (.loc 1) (.cst (.int 0)))) (.cons (.slc (.loc 1) (.so (.cst (.int 1))) .no) (.cons (.loc 2) .nil)))) .nil))) (.slc (.loc 0) (.so (.bin .add (.sub (.loc 1) (.cst (.int 0))) (.cst (.int 1)))) .no)))
 .nil))
abbrev H330 (X:Prog):Prop:=X.fns 330=some (.fn 3 3 f330)
def f331:Ss:=(.cons (.ite [] (.and (.isi (.loc 1) .tuple) (.cmp .inn (.sub (.loc 1) (.cst (.int 0))) (.tup (.cons (.cst (.str [108,101,115,115])) (.cons (.cst (.str [115,97,109,101])) (.cons (.cst (.str [110,111,116])) (.cons (.cst (.str [97,110,100])) (.cons (.cst (.str [111,114])) .nil))))))))
 (.cons (.asg false 3 (.lst (.cons (.tup (.cons (.cst (.str [110,111,116])) (.cons (.tup (.cons (.cst (.str [110,111,116])) (.cons (.loc 1) .nil))) .nil))) (.cons (.tup (.cons (.cst (.str [97,110,100])) (.cons (.loc 1) (.cons (.loc 1) .nil)))) (.cons (.tup (.cons (.cst (.str [111,114])) (.cons (.loc 1) (.cons (.loc 1) .nil)))) (.cons (.tup (.cons (.cst (.str [97,110,100])) (.cons (.loc 1) (.cons (.tup (.cons (.cst (.str [115,97,109,101])) (.cons (.cst (.int 1)) (.cons (.cst (.int 1)) .nil)))) .nil)))) .nil))))))
 (.cons (.ret (.call 69 (.cons (.loc 0) (.cons (.bin .add (.loc 3) (.lst (.cons (.tup (.cons (.cst (.str [111,114])) (.cons (.loc 1) (.cons (.tup (.cons (.cst (.str [108,101,115,115])) (.cons (.cst (.int 1)) (.cons (.cst (.int 1)) .nil)))) .nil)))) .nil))) .nil))))
 .nil))
 .nil)
 (.cons (.par2 false false 4 5 (.bin .sub (.call 9 (.cons (.loc 0) (.cons (.cst (.int 19)) .nil))) (.cst (.int 9))) (.call 11 (.cons (.loc 0) (.cons (.cst (.int 1)) .nil))))
 (.cons (.asg false 2 (.lst (.cons (.tup (.cons (.cst (.str [97,100,100])) (.cons (.loc 1) (.cons (.cst (.int 0)) .nil)))) (.cons (.tup (.cons (.cst (.str [116,104,101,110])) (.cons (.cst (.str [120])) (.cons (.loc 1) .nil)))) (.cons (.tup (.cons (.cst (.str [116,104,101,110])) (.cons (.loc 1) (.cons (.cst (.str [120])) .nil)))) (.cons (.tup (.cons (.cst (.str [114,101,112,101,97,116])) (.cons (.cst (.int 1)) (.cons (.loc 1) .nil)))) (.cons (.tup (.cons (.cst (.str [105,102])) (.cons (.loc 5) (.cons (.loc 1) (.cons (.loc 1) .nil))))) .nil)))))))
 (.cons (.asg false 2 (.bin .add (.loc 2) (.lst (.cons (.tup (.cons (.cst (.str [115,117,98])) (.cons (.tup (.cons (.cst (.str [97,100,100])) (.cons (.loc 1) (.cons (.loc 4) .nil)))) (.cons (.loc 4) .nil)))) (.cons (.tup (.cons (.cst (.str [109,117,108])) (.cons (.neg (.cst (.int 1))) (.cons (.tup (.cons (.cst (.str [115,117,98])) (.cons (.cst (.int 0)) (.cons (.loc 1) .nil)))) .nil)))) (.cons (.tup (.cons (.cst (.str [109,105,110])) (.cons (.loc 1) (.cons (.loc 1) .nil)))) .nil))))))
 (.cons (.ret (.call 69 (.cons (.loc 0) (.cons (.bin .add (.loc 2) (.lst (.cons (.tup (.cons (.cst (.str [115,117,98])) (.cons (.cst (.int 0)) (.cons (.tup (.cons (.cst (.str [109,117,108])) (.cons (.neg (.cst (.int 1))) (.cons (.loc 1) .nil)))) .nil)))) (.cons (.tup (.cons (.cst (.str [100,105,118])) (.cons (.tup (.cons (.cst (.str [109,117,108])) (.cons (.cst (.int 3)) (.cons (.loc 1) .nil)))) (.cons (.cst (.int 3)) .nil)))) (.cons (.tup (.cons (.cst (.str [109,97,120])) (.cons (.loc 1) (.cons (.loc 1) .nil)))) .nil))))) .nil))))
 .nil)))))
abbrev H331 (X:Prog):Prop:=X.fns 331=some (.fn 2 6 f331)
def f332:Ss:=(.cons (.asg false 1 (.call 8 (.cons (.loc 0) .nil)))
 (.cons (.for_ (.nm 2) (.rng1 (.cst (.int 7)))
 (.cons (.asg false 3 (.call 23 (.cons (.loc 1) (.cons (.sub (.lst (.cons (.cst (.int 4)) (.cons (.cst (.int 2)) (.cons (.cst (.int 3)) .nil)))) (.bin .mod (.loc 2) (.cst (.int 3)))) .nil))))
 (.cons (.for_ (.tp (.cons (.nm 4) (.cons (.nm 5) .nil))) (.seq (.slc (.call 13 (.cons (.loc 3) .nil)) .no (.so (.cst (.int 12)))))
 (.cons (.asg false 6 (.call 331 (.cons (.loc 1) (.cons (.loc 5) .nil))))
 (.cons (.ite [] (.cmp .ne (.call 325 (.cons (.loc 3) (.cons (.loc 4) .nil))) (.loc 5))
 (.cons (.ret (.cst (.bl false)))
 .nil)
 .nil)
 (.cons (.ite [] (.call 22 (.cons (.call 330 (.cons (.loc 3) (.cons (.loc 4) (.cons (.loc 6) .nil)))) .nil))
 (.cons (.asg false 7 (.call 329 (.cons (.loc 3) (.cons (.loc 4) (.cons (.loc 6) .nil)))))
 (.cons (.for_ (.nm 8) (.rng1 (.cst (.int 3)))
 (.cons (.asg false 9 (.call 24 (.cons (.loc 1) .nil)))
 (.cons (.ite [] (.cmp .ne (.call 17 (.cons (.loc 7) (.cons (.loc 9) .nil))) (.call 17 (.cons (.loc 3) (.cons (.loc 9) .nil))))
 (.cons (.ret (.cst (.bl false)))
 .nil)
 .nil)
 .nil)))
 .nil))
 .nil)
 .nil))))
 .nil)))
 (.cons (.ret (.cst (.bl true)))
 .nil)))
abbrev H332 (X:Prog):Prop:=X.fns 332=some (.fn 1 10 f332)
end LB
end
section
namespace LT
open PL LB
structure HPut (X:Prog):Prop where
 f328:H328 X
 f330:H330 X
theorem eq_nilI (l:List Int)(hl:l.length≤1000):eqD (.tup (l.map D.int)) (.tup [])=some l.isEmpty:=by
 have e:eqD (.tup (l.map D.int)) (.tup [])=if (D.tup (l.map D.int)).shaped&&D.shaped (.tup []) then some (D.eqv (.tup (l.map D.int)) (.tup [])) else none:=rfl
 have h1:∀ l:List Int,D.plains (l.map D.int)=true∧D.depths (l.map D.int)=0:=fun l=>by
  induction l with
  | nil=>exact ⟨rfl,rfl⟩
  | cons a r ih=>simp [D.plains,D.plain,D.depths,D.depth,ih.1,ih.2]
 have h2:(D.tup (l.map D.int)).shaped=true:=by unfold D.shaped;simp [D.plain,D.depth,h1]
 rw [e,h2,show D.shaped (.tup [])=true from rfl]
 cases l<;>simp [D.eqv,D.eqvs]
theorem len_pths {l:List Int}{t u:Tr}(h:(l,u)∈pths t):l.length≤dp t:=pths_dp t (l,u) h
section
variable {X:Prog}(h:HPut X)
include h
theorem rep_nil (k:Nat)(d o:D)(st:St):run X (k+1) 328 [d,.tup [],o] st=.ok o st:=by
 have e:=eq_nilI [] (by decide)
 rw [run_fn h.f328 rfl]
 unfold f328
 simp at e
 simp [evSs,evS,evE,evEs,entry,e]
theorem put_nilR (k:Nat)(d o:D)(st:St):run X (k+1) 330 [d,.tup [],o] st=.ok o st:=by
 have e:=eq_nilI [] (by decide)
 rw [run_fn h.f330 rfl]
 unfold f330
 simp at e
 simp [evSs,evS,evE,evEs,entry,e]
theorem replaced_ok:∀ (l:List Int) (t u o:Tr) (k:Nat) (st:St),(l,u)∈pths t→l.length≤k→l.length≤100→run X (k+1) 328 [toD t,.tup (l.map D.int),toD o] st=.ok (toD (put t l o)) st
 | [],t,u,o,k,st,hm,hk,hl=>by rw [put_nil];exact rep_nil h k _ _ st
 | i::l,t,u,o,k,st,hm,hk,hl=>by
  rcases pths_cons hm with ⟨hz,_⟩|⟨p,r,hp,hz,hr⟩
  ·cases hz
  ·cases hz
   obtain ⟨k',rfl⟩:∃ k',k=k'+1:=⟨k-1,by simp at hk;omega⟩
   have ih:=replaced_ok l p.2 u o k' st hr (by simp at hk;omega) (by simp at hl;omega)
   have e:=eq_nilI ((p.1:Int)::l) (by simp at hl ⊢;omega)
   have tk:List.take l.length (l.map D.int)=l.map D.int:=List.take_of_length_le (by simp)
   rw [run_fn h.f328 rfl]
   unfold f328
   cases t<;>simp [subs] at hp
   case two q _ _ =>
    rcases hp with hp|hp<;>subst hp<;>simp at e ih<;>simp [evSs,evS,evE,evEs,evO,D.part,cutD,cut1,cut,endI,clampI,entry,toD,put,e,tk,ih]
   case cond=>rcases hp with hp|hp|hp<;>subst hp<;>simp at e ih<;>simp [evSs,evS,evE,evEs,evO,D.part,cutD,cut1,cut,endI,clampI,entry,toD,put,e,tk,ih]
   all_goals (subst hp;simp at e ih;simp [evSs,evS,evE,evEs,evO,D.part,cutD,cut1,cut,endI,clampI,entry,toD,put,e,tk,ih])
theorem lput_ok:∀ (l:List Int) (t u o:Tr) (k:Nat) (st:St),(l,u)∈pths t→l.length≤k→l.length≤100→run X (k+1) 330 [toD t,.tup (l.map D.int),toD o] st=.ok (toD (put t l o)) st
 | [],t,u,o,k,st,hm,hk,hl=>by rw [put_nil];exact put_nilR h k _ _ st
 | i::l,t,u,o,k,st,hm,hk,hl=>by
  rcases pths_cons hm with ⟨hz,_⟩|⟨p,r,hp,hz,hr⟩
  ·cases hz
  ·cases hz
   obtain ⟨k',rfl⟩:∃ k',k=k'+1:=⟨k-1,by simp at hk;omega⟩
   have ih:=lput_ok l p.2 u o k' st hr (by simp at hk;omega) (by simp at hl;omega)
   have e:=eq_nilI ((p.1:Int)::l) (by simp at hl ⊢;omega)
   have tk:List.take l.length (l.map D.int)=l.map D.int:=List.take_of_length_le (by simp)
   rw [run_fn h.f330 rfl]
   unfold f330
   cases t<;>simp [subs] at hp
   case two q _ _ =>
    rcases hp with hp|hp<;>subst hp<;>simp at e ih<;>simp [evSs,evS,evE,evEs,evO,D.part,cutD,cut1,cut,endI,clampI,entry,toD,put,e,tk,ih]
   case cond=>rcases hp with hp|hp|hp<;>subst hp<;>simp at e ih<;>simp [evSs,evS,evE,evEs,evO,D.part,cutD,cut1,cut,endI,clampI,entry,toD,put,e,tk,ih]
   all_goals (subst hp;simp at e ih;simp [evSs,evS,evE,evEs,evO,D.part,cutD,cut1,cut,endI,clampI,entry,toD,put,e,tk,ih])
end
structure HWp (X:Prog):Prop extends HPut X,HPa X,HJg X where
 f329:H329 X
theorem with_ok {X:Prog}(h:HWp X)(t u o:Tr)(l:List Int)(st:St)(hm:(l,u)∈pths t)(hw:wf true (put t l o)=true)(hd:dp (put t l o)≤40)(hW:W (put t l o)≤400000)(hf:fitB (put t l o)=true)(hl:l.length≤60) :
  run X 199 329 [toD t,.tup (l.map D.int),toD o] st=.ok (toD (put t l o)) st:=by
 have e1:=isPath_ok h.toHPa 195 t u l st hm
 have e2:=replaced_ok h.toHPut l t u o 197 st hm (by omega) (by omega)
 have e3:=prog_ok h.toHJg (put t l o) 190 st hw hd hW hf (by omega)
 rw [run_fn h.f329 rfl]
 unfold f329
 simp [evSs,evS,evE,evEs,entry,e1,e2,e3]
end LT
end
section
namespace LB
open PL
def f69:Ss:=(.cons (.ret (.sub (.loc 1) (.call 9 (.cons (.loc 0) (.cons (.bi .len (.cons (.loc 1) .nil)) .nil)))))
 .nil)
abbrev H69 (X:Prog):Prop:=X.fns 69=some (.fn 2 2 f69)
end LB
end
section
namespace LT
open PL LB
structure HLike (X:Prog):Prop extends HGen X where
 f69:H69 X
 f331:H331 X
theorem wf_ex {u:Tr}(h:wf true u=true):wf false u=false:=by
 cases u with
 | two k a b=>cases k<;>simp [wf] at h ⊢
 | _=>simp [wf] at h ⊢
def Lk (u o:Tr):Prop:=(∀ b,wf b u=true→wf b o=true)∧(∀ x,sem o x=sem u x)∧dp o≤dp u+2∧W o≤22*W u
def likeT (u:Tr):List Tr:=[.nt (.nt u),.two .and_ u u,.two .or_ u u,.two .and_ u (.two .same (.n 1) (.n 1)),.two .or_ u (.two .less (.n 1) (.n 1))]
def likeP (u tst:Tr)(n:Int):List Tr:=[.two .add u (.n 0),.two .then_ .x u,.two .then_ u .x,.rep 1 u,.cond tst u u,.two .sub (.two .add u (.n n)) (.n n),.mul (-1) (.two .sub (.n 0) u),.two .min u u,.two .sub (.n 0) (.mul (-1) u),.dv (.mul 3 u) 3,.two .max u u]
theorem lk_T {u:Tr}(hw:wf false u=true):∀ o∈likeT u,Lk u o:=by
 have nb:∀ {o:Tr},wf false o=true→∀ b,wf b u=true→wf b o=true:=fun {o} ho b hb=>by
  cases b with
  | false=>exact ho
  | true=>have:=wf_ex hb;rw [hw] at this;cases this
 have s:=sem_test u hw
 have wp:=W_pos u
 intro o ho
 simp only [likeT,List.mem_cons,List.not_mem_nil,or_false] at ho
 rcases ho with rfl|rfl|rfl|rfl|rfl
 ·exact ⟨nb (by simp [wf,hw]),fun x=>by rcases s x with e|e<;>simp [sem,e],by simp only [dp];omega,by simp only [W];omega⟩
 ·exact ⟨nb (by simp [wf,hw]),fun x=>by rcases s x with e|e<;>simp [sem,op2,e],by simp only [dp];omega,by simp only [W];omega⟩
 ·exact ⟨nb (by simp [wf,hw]),fun x=>by rcases s x with e|e<;>simp [sem,op2,e],by simp only [dp];omega,by simp only [W];omega⟩
 ·exact ⟨nb (by simp [wf,hw]),fun x=>by rcases s x with e|e<;>simp [sem,op2,e],by simp only [dp];omega,by simp only [W];omega⟩
 ·exact ⟨nb (by simp [wf,hw]),fun x=>by rcases s x with e|e<;>simp [sem,op2,e],by simp only [dp];omega,by simp only [W];omega⟩
theorem lk_P {u tst:Tr}{n:Int}(hw:wf true u=true)(ht:wf false tst=true)(hd:dp tst≤1)(hW:W tst≤25)(n0:-9≤n)(n1:n≤9):∀ o∈likeP u tst n,Lk u o:=by
 have nb:∀ {o:Tr},wf true o=true→∀ b,wf b u=true→wf b o=true:=fun {o} ho b hb=>by
  cases b with
  | true=>exact ho
  | false=>have:=wf_ex hw;rw [hb] at this;cases this
 have wp:=W_pos u
 intro o ho
 simp only [likeP,List.mem_cons,List.not_mem_nil,or_false] at ho
 rcases ho with rfl|rfl|rfl|rfl|rfl|rfl|rfl|rfl|rfl|rfl|rfl
 ·exact ⟨nb (by simp [wf,hw]),fun x=>by simp [sem,op2],by simp only [dp];omega,by simp only [W];omega⟩
 ·exact ⟨nb (by simp [wf,hw]),fun x=>by simp [sem],by simp only [dp];omega,by simp only [W];omega⟩
 ·exact ⟨nb (by simp [wf,hw]),fun x=>by simp [sem],by simp only [dp];omega,by simp only [W];omega⟩
 ·exact ⟨nb (by simp [wf,hw]),fun x=>by simp [sem,iter],by simp only [dp];omega,by simp only [W,show (1:Int).natAbs=1 from rfl];omega⟩
 ·exact ⟨nb (by simp [wf,hw,ht]),fun x=>by simp [sem],by simp only [dp];omega,by simp only [W];omega⟩
 ·exact ⟨nb (by simp [wf,hw];omega),fun x=>by simp [sem,op2];try omega,by simp only [dp];omega,by simp only [W];omega⟩
 ·exact ⟨nb (by simp [wf,hw]),fun x=>by simp [sem,op2],by simp only [dp];omega,by simp only [W];omega⟩
 ·exact ⟨nb (by simp [wf,hw]),fun x=>by simp [sem,op2],by simp only [dp];omega,by simp only [W];omega⟩
 ·exact ⟨nb (by simp [wf,hw]),fun x=>by simp [sem,op2],by simp only [dp];omega,by simp only [W];omega⟩
 ·refine ⟨nb (by simp [wf,hw]),fun x=>?_,by simp only [dp];omega,by simp only [W];omega⟩
  show (3*sem u x).fdiv 3=sem u x
  rw [Int.fdiv_eq_ediv_of_nonneg _ (by decide)]
  omega
 ·exact ⟨nb (by simp [wf,hw]),fun x=>by simp [sem,op2],by simp only [dp];omega,by simp only [W];omega⟩
section
variable {X:Prog}(h:HLike X)
include h
theorem pick_tr (k:Nat){s:Strm}{j:Int}(hs:Ok j s)(hj:j≤2^49){ts:List Tr}(n0:0<ts.length)(n1:ts.length<1000):∃ t s',run X (k+2) 69 [.ob 0 [],.lst (ts.map toD)] (some s)=.ok (toD t) (some s')∧t∈ts∧Ok (j+1) s':=by
 obtain ⟨v,s1,e1,v0,v1,o1⟩:=drw h.toHGen k (m:=(ts.length:Nat)) hs (by omega) (by omega) (by omega)
 have hv:v.toNat<ts.length:=by omega
 have e2:ix (ts.map toD) v=some (toD ts[v.toNat]):=by
  unfold ix
  rw [if_pos v0,List.getElem?_map,List.getElem?_eq_getElem hv]
  rfl
 refine ⟨ts[v.toNat],s1,?_,List.getElem_mem _,o1⟩
 rw [run_fn h.f69 rfl]
 unfold f69
 simp [evSs,evS,evE,evEs,entry,e1,e2]
theorem test1 (k:Nat){s:Strm}{j:Int}(hs:Ok j s)(hj:j≤2^49):∃ t s',run X (k+3) 11 [.ob 0 [],.int 1] (some s)=.ok (toD t) (some s')∧wf false t=true∧dp t≤1∧W t≤25∧Ok (j+21) s':=by
 obtain ⟨w,s1,e1,w0,w1,o1⟩:=drw h.toHGen (k+1) (m:=8) hs (by omega) (by decide) (by decide)
 have b0:B 0=10:=rfl
 obtain ⟨t1,s2,e2,⟨p1,p2,p3,p4⟩,o2⟩:=gp0 h.toHGen k s1 (j+1) (fun hh=>absurd hh (by decide)) o1 (by omega)
 obtain ⟨t2,s3,e3,⟨q1,q2,q3,q4⟩,o3⟩:=gp0 h.toHGen k s2 (j+1+B 0) (fun hh=>absurd hh (by decide)) o2 (by omega)
 have v0:V 0=11:=rfl
 have key:∀ q:K2,wf false (.two q t1 t2)=true→wf false (.two q t1 t2)=true∧dp (.two q t1 t2)≤1∧W (.two q t1 t2)≤25∧Ok (j+21) s3:=fun q hq=>⟨hq,by simp only [dp];omega,by simp only [W];omega,o3.mono (by omega)⟩
 simp at e2 e3
 rw [run_fn h.f11 rfl]
 have hw8:w=0∨w=1∨w=2∨w=3∨w=4∨w=5∨w=6∨w=7:=by omega
 rcases hw8 with rfl|rfl|rfl|rfl|rfl|rfl|rfl|rfl
 ·exact ⟨.two .less t1 t2,s3,by simp [f11,evSs,evS,evE,evEs,entry,e1,e2,e3,toD,K2.nm],key _ (by simp [wf,p1,q1])⟩
 ·exact ⟨.two .same t1 t2,s3,by simp [f11,evSs,evS,evE,evEs,entry,e1,e2,e3,toD,K2.nm],key _ (by simp [wf,p1,q1])⟩
 ·exact ⟨.two .less t1 t2,s3,by simp [f11,evSs,evS,evE,evEs,entry,e1,e2,e3,toD,K2.nm],key _ (by simp [wf,p1,q1])⟩
 ·exact ⟨.two .same t1 t2,s3,by simp [f11,evSs,evS,evE,evEs,entry,e1,e2,e3,toD,K2.nm],key _ (by simp [wf,p1,q1])⟩
 ·exact ⟨.two .less t1 t2,s3,by simp [f11,evSs,evS,evE,evEs,entry,e1,e2,e3,toD,K2.nm],key _ (by simp [wf,p1,q1])⟩
 ·exact ⟨.two .same t1 t2,s3,by simp [f11,evSs,evS,evE,evEs,entry,e1,e2,e3,toD,K2.nm],key _ (by simp [wf,p1,q1])⟩
 ·exact ⟨.two .less t1 t2,s3,by simp [f11,evSs,evS,evE,evEs,entry,e1,e2,e3,toD,K2.nm],key _ (by simp [wf,p1,q1])⟩
 ·exact ⟨.two .same t1 t2,s3,by simp [f11,evSs,evS,evE,evEs,entry,e1,e2,e3,toD,K2.nm],key _ (by simp [wf,p1,q1])⟩
def isTE:E:=.and (.isi (.loc 1) .tuple) (.cmp .inn (.sub (.loc 1) (.cst (.int 0))) (.tup (.cons (.cst (.str [108,101,115,115])) (.cons (.cst (.str [115,97,109,101])) (.cons (.cst (.str [110,111,116])) (.cons (.cst (.str [97,110,100])) (.cons (.cst (.str [111,114])) .nil)))))))
omit h in
theorem isT_ok (cx:Ctx)(u:Tr)(b:Bool)(hw:wf b u=true)(a c d e f:Slot)(st:St):evE cx isTE [a,.val (toD u),c,d,e,f] st=.ok (.bl (!b)) st:=by
 unfold isTE
 cases u with
 | two k _ _=>cases k<;>cases b<;>first|(simp [wf] at hw;done)|simp [evE,evEs,toD,K2.nm,flS,eqSS]
 | _=>cases b<;>first|(simp [wf] at hw;done)|simp [evE,evEs,toD,flS,eqSS]
theorem like_ok (u:Tr)(b:Bool)(hw:wf b u=true){s:Strm}{j:Int}(hs:Ok j s)(hj:j≤2^48):∃ o s',run X 199 331 [.ob 0 [],toD u] (some s)=.ok (toD o) (some s')∧Lk u o∧Ok (j+23) s':=by
 have e0:=isT_ok (X.cx 198) u b hw (.val (.ob 0 [])) .un .un .un .un (some s)
 rw [run_fn h.f331 rfl]
 cases b with
 | false =>
  obtain ⟨o,s1,e1,hm,o1⟩:=pick_tr h 196 hs (by omega) (ts:=likeT u) (by simp [likeT]) (by simp [likeT])
  refine ⟨o,s1,?_,lk_T hw o hm,o1.mono (by omega)⟩
  simp [likeT,toD,K2.nm] at e1
  unfold isTE at e0
  unfold f331
  rw [evSs,evS]
  rw [show entry 6 [.ob 0 [],toD u]=[.val (.ob 0 []),.val (toD u),.un,.un,.un,.un] from rfl,q_frz0,e0]
  simp [evSs,evS,evE,evEs,e1]
 | true =>
  obtain ⟨n,s1,e1,n0,n1,o1⟩:=drw h.toHGen 197 (m:=19) hs (by omega) (by decide) (by decide)
  obtain ⟨t,s2,e2,t1,t2,t3,o2⟩:=test1 h 195 o1 (by omega)
  obtain ⟨o,s3,e3,hm,o3⟩:=pick_tr h 196 o2 (by omega) (ts:=likeP u t (n-9)) (by simp [likeP]) (by simp [likeP])
  refine ⟨o,s3,?_,lk_P hw t1 t2 t3 (by omega) (by omega) o hm,o3.mono (by omega)⟩
  simp [likeP,toD,K2.nm] at e3
  unfold isTE at e0
  unfold f331
  rw [evSs,evS]
  rw [show entry 6 [.ob 0 [],toD u]=[.val (.ob 0 []),.val (toD u),.un,.un,.un,.un] from rfl,q_frz0,e0]
  simp [evSs,evS,evE,evEs,e1,e2,e3]
end
end LT
end
section
namespace LB
open PL
end LB
end
section
namespace LB
open PL
end LB
end
section
namespace LB
open PL
end LB
end
section
namespace LB
open PL
end LB
end
section
namespace LB
open PL
end LB
end
section
namespace LB
open PL
end LB
end
section
namespace LB
open PL
end LB
end
section
namespace LB
open PL
end LB
end
section
namespace LB
open PL
end LB
end
section
namespace LB
open PL
end LB
end
section
namespace LB
open PL
end LB
end
section
namespace LB
open PL
end LB
end
section
namespace LB
open PL
end LB
end
section
namespace LB
open PL
end LB
end
section
namespace LB
open PL
end LB
end
section
namespace LB
open PL
end LB
end
section
namespace LB
open PL
end LB
end
section
namespace LB
open PL
end LB
end
section
namespace LB
open PL
end LB
end
section
namespace LB
open PL
end LB
end
section
namespace LB
open PL
end LB
end
section
namespace LB
open PL
end LB
end
section
namespace LB
open PL
end LB
end
section
namespace LB
open PL
end LB
end
section
namespace LB
open PL
end LB
end
section
namespace LB
open PL
end LB
end
section
namespace Lk06
open PL LB
def fl:List (Nat × Fn):=[(17,.fn 2 7 f17),(18,.fn 3 4 f18),(19,.fn 2 6 f19),(133,.fn 3 3 f133),(313,.fn 1 1 f313),(314,.fn 2 6 f314),(315,.fn 2 4 f315),(316,.fn 3 8 f316),(0,.fn 1 3 f0),(1,.fn 2 3 f1),(2,.fn 1 3 f2),(3,.fn 1 4 f3),(4,.fn 1 1 f4),(5,.fn 2 2 f5),(6,.fn 2 4 f6),(7,.fn 1 9 f7),(317,.fn 1 1 f317),(318,.fn 2 5 f318),(319,.fn 2 6 f319),(320,.fn 1 1 f320),(321,.fn 1 1 f321),(323,.fn 2 5 f323),(324,.fn 2 4 f324),(325,.fn 2 2 f325),(328,.fn 3 4 f328),(329,.fn 3 4 f329),(8,.fn 1 3 f8),(9,.fn 2 6 f9),(69,.fn 2 2 f69),(10,.fn 2 5 f10),(11,.fn 2 3 f11),(12,.fn 1 3 f12),(13,.fn 1 6 f13),(14,.fn 1 4 f14),(15,.fn 1 10 f15),(22,.fn 1 3 f22),(23,.fn 2 3 f23),(24,.fn 1 3 f24),(330,.fn 3 3 f330),(331,.fn 2 6 f331),(332,.fn 1 10 f332)]
def gl:List (Nat × D):=[(13,(.int 1000000)),(14,(.int 60)),(0,(.int 10000)),(1,(.int 1000000000000000000)),(2,(.str [120])),(3,(.dct [.s [97,100,100],.s [115,117,98],.s [109,105,110],.s [109,97,120],.s [109,117,108],.s [100,105,118],.s [109,111,100],.s [105,102],.s [116,104,101,110],.s [114,101,112,101,97,116]] [(.tup [(.str [112,114,111,103,114,97,109]),(.str [112,114,111,103,114,97,109])]),(.tup [(.str [112,114,111,103,114,97,109]),(.str [112,114,111,103,114,97,109])]),(.tup [(.str [112,114,111,103,114,97,109]),(.str [112,114,111,103,114,97,109])]),(.tup [(.str [112,114,111,103,114,97,109]),(.str [112,114,111,103,114,97,109])]),(.tup [(.str [102,97,99,116,111,114]),(.str [112,114,111,103,114,97,109])]),(.tup [(.str [112,114,111,103,114,97,109]),(.str [100,105,118,105,115,111,114])]),(.tup [(.str [112,114,111,103,114,97,109]),(.str [100,105,118,105,115,111,114])]),(.tup [(.str [116,101,115,116]),(.str [112,114,111,103,114,97,109]),(.str [112,114,111,103,114,97,109])]),(.tup [(.str [112,114,111,103,114,97,109]),(.str [112,114,111,103,114,97,109])]),(.tup [(.str [116,105,109,101,115]),(.str [112,114,111,103,114,97,109])])])),(4,(.dct [.s [108,101,115,115],.s [115,97,109,101],.s [110,111,116],.s [97,110,100],.s [111,114]] [(.tup [(.str [112,114,111,103,114,97,109]),(.str [112,114,111,103,114,97,109])]),(.tup [(.str [112,114,111,103,114,97,109]),(.str [112,114,111,103,114,97,109])]),(.tup [(.str [116,101,115,116])]),(.tup [(.str [116,101,115,116]),(.str [116,101,115,116])]),(.tup [(.str [116,101,115,116]),(.str [116,101,115,116])])])),(5,(.dct [.s [102,97,99,116,111,114],.s [100,105,118,105,115,111,114],.s [116,105,109,101,115]] [(.tup [(.int (-100)),(.int 100)]),(.tup [(.int 2),(.int 12)]),(.tup [(.int 0),(.int 12)])]))]
theorem fs {X:Prog}(h:X.fns=fun f=>fl.lookup f){f:Nat}{F:Fn}(e:fl.lookup f=some F):X.fns f=some F:=by rw [h];exact e
theorem gsd {X:Prog}(h:X.gl=fun f=>gl.lookup f){f:Nat}{F:D}(e:gl.lookup f=some F):X.gl f=some F:=by rw [h];exact e
end Lk06
end
section
namespace Lk06
open PL LB LT
structure H (X:Prog):Prop extends HSm X,HInp X,HVal X,HWp X,HLike X where
 f8:H8 X
 f332:H332 X
abbrev xB:Ss:=(.cons (.asg false 9 (.call 24 (.cons (.loc 1) .nil)))
 (.cons (.ite [] (.cmp .ne (.call 17 (.cons (.loc 7) (.cons (.loc 9) .nil))) (.call 17 (.cons (.loc 3) (.cons (.loc 9) .nil))))
 (.cons (.ret (.cst (.bl false)))
 .nil)
 .nil)
 .nil))
def fX:S:=.for_ (.nm 8) (.rng1 (.cst (.int 3))) xB
abbrev pB (f:S):Ss:=(.cons (.asg false 6 (.call 331 (.cons (.loc 1) (.cons (.loc 5) .nil))))
 (.cons (.ite [] (.cmp .ne (.call 325 (.cons (.loc 3) (.cons (.loc 4) .nil))) (.loc 5))
 (.cons (.ret (.cst (.bl false)))
 .nil)
 .nil)
 (.cons (.ite [] (.call 22 (.cons (.call 330 (.cons (.loc 3) (.cons (.loc 4) (.cons (.loc 6) .nil)))) .nil))
 (.cons (.asg false 7 (.call 329 (.cons (.loc 3) (.cons (.loc 4) (.cons (.loc 6) .nil)))))
 (.cons f
 .nil))
 .nil)
 .nil)))
def fP:S:=.for_ (.tp (.cons (.nm 4) (.cons (.nm 5) .nil))) (.seq (.slc (.call 13 (.cons (.loc 3) .nil)) .no (.so (.cst (.int 12))))) (pB fX)
abbrev tBd (f:S):Ss:=(.cons (.asg false 3 (.call 23 (.cons (.loc 1) (.cons (.sub (.lst (.cons (.cst (.int 4)) (.cons (.cst (.int 2)) (.cons (.cst (.int 3)) .nil)))) (.bin .mod (.loc 2) (.cst (.int 3)))) .nil))))
 (.cons f
 .nil))
theorem f332_eq:f332=.cons (.asg false 1 (.call 8 (.cons (.loc 0) .nil))) (.cons (.for_ (.nm 2) (.rng1 (.cst (.int 7))) (tBd fP)) (.cons (.ret (.cst (.bl true))) .nil)):=rfl
theorem mem_cut {α:Type}{xs:List α}{lo hi:Option Int}{a:α}(h:a∈cut xs lo hi):a∈xs:=List.mem_of_mem_take (List.mem_of_mem_drop h)
theorem len_cut {α:Type}(xs:List α)(lo hi:Option Int):(cut xs lo hi).length≤xs.length:=by
 unfold cut
 rw [List.length_drop,List.length_take]
 omega
section
variable {X:Prog}(h:H X)
include h
theorem val_at {u:Tr}(hw:wf true u=true)(hd:dp u≤14)(hW:W u≤400000)(x:Int)(hx:x.natAbs≤10^40)(st:St):run X 199 17 [toD u,.int x] st=.ok (.int (sem u x)) st :=
 (val_both h.toHVal (dp u) u (Nat.le_refl _) 197 133 x st (by omega) (pow40 hx) (by omega)).1 hw
theorem x_ok {t u:Tr}(tw:wf true t=true)(td:dp t≤14)(tW:W t≤400000)(uw:wf true u=true)(ud:dp u≤14)(uW:W u≤400000)(he:∀ x,sem u x=sem t x)(a0 a2 a4 a5 a6 a8 a9:Slot){s:Strm}{j:Int}(hs:Ok j s)(hj:j≤2^48) :
  ∃ b8 b9 s',evS (X.cx 199) fX [a0,.val (.ob 0 []),a2,.val (toD t),a4,a5,a6,.val (toD u),a8,a9] (some s)=.next [a0,.val (.ob 0 []),a2,.val (toD t),a4,a5,a6,.val (toD u),b8,b9] (some s')∧Ok (j+18) s':=by
 unfold fX
 rw [for_ofq (ds:=rngI 0 3) (st1:=some s) (by simp [evI,evE,rngD,show okR 0=true by decide,show okR 3=true by decide])]
 obtain ⟨env',st',e,⟨b8,b9,s',he',hst,ho⟩⟩:=forL_inv (f:=forStep (evSs (X.cx 199) xB) (.nm 8)) (ds:=rngI 0 3) (i:=0)
  (P:=fun i env st'=>∃ (b8 b9:Slot) (s':Strm),env=[a0,.val (.ob 0 []),a2,.val (toD t),a4,a5,a6,.val (toD u),b8,b9]∧st'=some s'∧Ok (j+6*i) s') (env:=_) (st:=some s) ⟨a8,a9,s,rfl,rfl,hs.mono (by omega)⟩ (by
   rintro i d env st' hd ⟨b8,b9,s',rfl,rfl,ho⟩
   obtain ⟨hi,rfl⟩:=rng_get hd
   obtain ⟨x,s2,e2,x2,o2⟩:=input_ok h.toHInp 197 ho (by omega)
   have e3:=val_at h tw td tW x x2 (some s2)
   have e4:=val_at h uw ud uW x x2 (some s2)
   rw [he x] at e4
   refine ⟨[a0,.val (.ob 0 []),a2,.val (toD t),a4,a5,a6,.val (toD u),.val (.int i),.val (.int x)],some s2,?_,⟨_,_,s2,rfl,rfl,o2.mono (by omega)⟩⟩
   simp [forStep,evSs,evS,evE,evEs,e2,e3,e4])
 rw [e,he',hst]
 exact ⟨b8,b9,s',rfl,ho.mono (by rw [rng_len];simp)⟩
theorem p_ok {t:Tr}(g:Sm t)(tW:W t≤8000)(q:List Int × Tr)(hq:q∈pths t)(a0 a2 a4 a5 a6 a7 a8 a9:Slot){s:Strm}{j:Int}(hs:Ok j s)(hj:j≤2^47) :
  ∃ b4 b5 b6 b7 b8 b9 s',forStep (evSs (X.cx 199) (pB fX)) (.tp (.cons (.nm 4) (.cons (.nm 5) .nil))) (pthD q) [a0,.val (.ob 0 []),a2,.val (toD t),a4,a5,a6,a7,a8,a9] (some s) =
   .next [a0,.val (.ob 0 []),a2,.val (toD t),b4,b5,b6,b7,b8,b9] (some s')∧Ok (j+41) s':=by
 obtain ⟨l,u⟩:=q
 obtain ⟨⟨b,hw⟩,hd,hW,hf,hc⟩:=part_of g (l,u) hq
 simp only at hw hd hW hf hc
 have hl:=len_pths hq
 obtain ⟨gw,gd,gW,gf⟩:=g
 obtain ⟨o,s1,e1,⟨k1,k2,k3,k4⟩,o1⟩:=like_ok h.toHLike u b hw hs (by omega)
 have pw:=put_wf k1 hq true gw
 have ps:=put_sem k2 hq
 have pd:=put_dp k3 hq
 have pW:=put_W (c:=22) (by decide) k4 hq
 have e2:=partAt_ok h.toHPa 195 t u l (some s1) hq
 have e3:=eqD_self (t:=u) (by omega)
 have e4:=lput_ok h.toHPut l t u o 198 (some s1) hq (by omega) (by omega)
 have e5:=fits_ok h.toHFit (put t l o) 195 (some s1) (wf_sane true _ pw) (by omega) (by omega) (by omega)
 cases hfit:fitB (put t l o) with
 | false =>
  rw [hfit] at e5
  generalize fX=eF
  refine ⟨.val (.tup (l.map D.int)),.val (toD u),.val (toD o),a7,a8,a9,s1,?_,o1.mono (by omega)⟩
  simp [forStep,pthD,evSs,evS,evE,evEs,e1,e2,e3,e4,e5]
 | true =>
  rw [hfit] at e5
  have e6:=with_ok h.toHWp t u o l (some s1) hq pw (by omega) (by omega) hfit (by omega)
  obtain ⟨b8,b9,s2,e7,o2⟩:=x_ok h gw (by omega) gW pw (by omega) (by omega) ps a0 a2 (.val (.tup (l.map D.int))) (.val (toD u)) (.val (toD o)) a8 a9 o1 (by omega)
  generalize fX=eF at e7 ⊢
  refine ⟨.val (.tup (l.map D.int)),.val (toD u),.val (toD o),.val (toD (put t l o)),b8,b9,s2,?_,o2.mono (by omega)⟩
  simp [forStep,pthD,evSs,evS,evE,evEs,e1,e2,e3,e4,e5,e6,e7]
theorem t_ok (a0 a3 a4 a5 a6 a7 a8 a9:Slot)(i:Nat)(hi:i<7){s:Strm}{j:Int}(hs:Ok j s)(hj:j≤2^46) :
  ∃ (env':Env) (s':Strm),(∃ b3 b4 b5 b6 b7 b8 b9,env'=[a0,.val (.ob 0 []),.val (.int i),b3,b4,b5,b6,b7,b8,b9])∧evSs (X.cx 199) (tBd fP) [a0,.val (.ob 0 []),.val (.int i),a3,a4,a5,a6,a7,a8,a9] (some s)=.next env' (some s')∧Ok (j+90000) s':=by
 obtain ⟨d,hd,ed⟩:∃ d:Nat,d≤4∧ix [D.int 4,D.int 2,D.int 3] ((i:Int).fmod 3)=some (.int d):=by
  rw [Int.fmod_eq_emod_of_nonneg _ (by omega)]
  have:i%3=0∨i%3=1∨i%3=2:=by omega
  rcases this with z|z|z
  ·exact ⟨4,by omega,by rw [show (i:Int)%3=0 by omega];rfl⟩
  ·exact ⟨2,by omega,by rw [show (i:Int)%3=1 by omega];rfl⟩
  ·exact ⟨3,by omega,by rw [show (i:Int)%3=2 by omega];rfl⟩
 obtain ⟨t,s1,e1,g,_,hV,o1⟩:=small_W h.toHSm 198 d (by omega) (by omega) (by omega) (by omega) hs (by omega)
 have hW:W t≤8000:=by
  have:V d≤7811:=by
   have:d=0∨d=1∨d=2∨d=3∨d=4:=by omega
   rcases this with rfl|rfl|rfl|rfl|rfl<;>decide
  omega
 have Ft:=fit_of g.2.2.2
 have eP:∃ b4 b5 b6 b7 b8 b9 s',evS (X.cx 199) fP [a0,.val (.ob 0 []),.val (.int i),.val (toD t),a4,a5,a6,a7,a8,a9] (some s1)=.next [a0,.val (.ob 0 []),.val (.int i),.val (toD t),b4,b5,b6,b7,b8,b9] (some s')∧Ok (j+80000+41*60) s':=by
  have c13:=paths_ok h.toHPths t 196 (some s1) g.2.2.1 (by have:=g.2.1;omega) (by omega)
  unfold fP
  rw [for_ofq (ds:=cut ((pths t).map pthD) none (some 12)) (st1:=some s1) (by simp [evI,evE,evEs,evO,D.part,cutD,c13])]
  obtain ⟨env',st',e,⟨b4,b5,b6,b7,b8,b9,s',he,hst,ho⟩⟩:=forL_inv (f:=forStep (evSs (X.cx 199) (pB fX)) (.tp (.cons (.nm 4) (.cons (.nm 5) .nil)))) (ds:=cut ((pths t).map pthD) none (some 12)) (i:=0)
   (P:=fun k env st'=>∃ (b4 b5 b6 b7 b8 b9:Slot) (s':Strm),env=[a0,.val (.ob 0 []),.val (.int i),.val (toD t),b4,b5,b6,b7,b8,b9]∧st'=some s'∧Ok (j+80000+41*k) s') (env:=_) (st:=some s1) ⟨a4,a5,a6,a7,a8,a9,s1,rfl,rfl,o1.mono (by omega)⟩ (by
    rintro k d env st' hd' ⟨b4,b5,b6,b7,b8,b9,s',rfl,rfl,ho⟩
    have hk:k<60:=by
     have h1:=(List.getElem?_eq_some_iff.1 hd').1
     have h2:=len_cut ((pths t).map pthD) none (some 12)
     rw [List.length_map] at h2
     have h3:=pths_len t
     have h4:=Ft.1
     omega
    obtain ⟨q,hq,rfl⟩:=List.mem_map.mp (mem_cut (List.mem_of_getElem? hd'))
    obtain ⟨c4,c5,c6,c7,c8,c9,s2,ee,o2⟩:=p_ok h g hW q hq a0 (.val (.int i)) b4 b5 b6 b7 b8 b9 ho (by omega)
    exact ⟨_,some s2,ee,⟨c4,c5,c6,c7,c8,c9,s2,rfl,rfl,o2.mono (by omega)⟩⟩)
  refine ⟨b4,b5,b6,b7,b8,b9,s',by rw [e,he,hst],ho.mono ?_⟩
  have h2:=len_cut ((pths t).map pthD) none (some 12)
  rw [List.length_map] at h2
  have h3:=pths_len t
  have h4:=Ft.1
  omega
 obtain ⟨b4,b5,b6,b7,b8,b9,s2,eP,o2⟩:=eP
 refine ⟨_,s2,⟨.val (toD t),b4,b5,b6,b7,b8,b9,rfl⟩,?_,o2.mono (by omega)⟩
 generalize fP=eF at eP ⊢
 simp [evSs,evS,evE,evEs,ed,e1,eP]
theorem go0 (ns:List Int)(hl:ns.length≤63):∃ st',run X 200 332 [.ob 1 (ns.map D.int)] none=.ok (.bl true) st':=by
 obtain ⟨s0,e0,t0,b0⟩:=stream_ok (X:=X) (f:=8) h.f8 198 ns (by omega)
 have o0:Ok 0 s0:=⟨by omega,by omega,by omega⟩
 rw [run_fn h.f332 rfl,f332_eq]
 obtain ⟨sc,hsc⟩:∃ sc,sc=D.ob 1 (ns.map D.int):=⟨_,rfl⟩
 rw [← hsc] at e0 ⊢
 obtain ⟨eT,hT⟩:∃ eT,eT=tBd fP:=⟨_,rfl⟩
 have gF:∃ env' s',evS (X.cx 199) (.for_ (.nm 2) (.rng1 (.cst (.int 7))) eT) [.val sc,.val (.ob 0 []),.un,.un,.un,.un,.un,.un,.un,.un] (some s0)=.next env' (some s'):=by
  rw [for_ofq (ds:=rngI 0 7) (st1:=some s0) (by simp [evI,evE,rngD,show okR 0=true by decide,show okR 7=true by decide])]
  obtain ⟨env',st',e,⟨b2,b3,b4,b5,b6,b7,b8,b9,s',he,hst,ho⟩⟩:=forL_inv (f:=forStep (evSs (X.cx 199) eT) (.nm 2)) (ds:=rngI 0 7) (i:=0)
   (P:=fun i env st'=>∃ (b2 b3 b4 b5 b6 b7 b8 b9:Slot) (s':Strm),env=[.val sc,.val (.ob 0 []),b2,b3,b4,b5,b6,b7,b8,b9]∧st'=some s'∧Ok (i*90000) s') (env:=_) (st:=some s0) ⟨.un,.un,.un,.un,.un,.un,.un,.un,s0,rfl,rfl,o0.mono (by omega)⟩ (by
    rintro j d env st' hd ⟨b2,b3,b4,b5,b6,b7,b8,b9,s',rfl,rfl,ho⟩
    obtain ⟨hj,rfl⟩:=rng_get hd
    obtain ⟨env',s2,⟨c3,c4,c5,c6,c7,c8,c9,rfl⟩,e2,o2⟩:=t_ok h (.val sc) b3 b4 b5 b6 b7 b8 b9 j (by omega) ho (by omega)
    rw [← hT] at e2
    refine ⟨[.val sc,.val (.ob 0 []),.val (.int j),c3,c4,c5,c6,c7,c8,c9],some s2,?_,⟨.val (.int j),c3,c4,c5,c6,c7,c8,c9,s2,rfl,rfl,o2.mono (by omega)⟩⟩
    simp only [forStep,q_putN,Q.opt_some,List.set_cons_succ,List.set_cons_zero]
    exact e2)
  exact ⟨env',s',by rw [e,hst]⟩
 obtain ⟨env',s',gF⟩:=gF
 refine ⟨some s',?_⟩
 rw [← hT]
 generalize S.for_ (.nm 2) (.rng1 (.cst (.int 7))) eT=eF at gF ⊢
 simp [evSs,evS,evE,evEs,entry,e0,gF]
end
theorem go (X:Prog)(h:X.fns=fun f=>fl.lookup f)(h2:X.gl=fun g=>gl.lookup g)(h3:X.shown=shownD):∀ ns:List Int,ns.length≤63→∃ st',run X 200 332 [.ob 1 (ns.map D.int)] none=.ok (.bl true) st' :=
 go0 { f12:=fs h rfl,f13:=fs h rfl,f14:=fs h rfl,f15:=fs h rfl,f22:=fs h rfl,f9:=fs h rfl,f10:=fs h rfl,f11:=fs h rfl,f23:=fs h rfl,f24:=fs h rfl,f17:=fs h rfl,f18:=fs h rfl,f19:=fs h rfl,f328:=fs h rfl,f330:=fs h rfl,f0:=fs h rfl,f1:=fs h rfl,g3:=gsd h2 rfl,g4:=gsd h2 rfl,g5:=gsd h2 rfl,f133:=fs h rfl,f323:=fs h rfl,f324:=fs h rfl,f325:=fs h rfl,f313:=fs h rfl,f314:=fs h rfl,f315:=fs h rfl,f316:=fs h rfl,g2:=gsd h2 rfl,g13:=gsd h2 rfl,f2:=fs h rfl,f3:=fs h rfl,g0:=gsd h2 rfl,f4:=fs h rfl,f5:=fs h rfl,f6:=fs h rfl,f7:=fs h rfl,g1:=gsd h2 rfl,f317:=fs h rfl,f318:=fs h rfl,f319:=fs h rfl,f320:=fs h rfl,f321:=fs h rfl,g14:=gsd h2 rfl,f329:=fs h rfl,f69:=fs h rfl,f331:=fs h rfl,f8:=fs h rfl,f332:=fs h rfl }
end Lk06
end
section
set_option maxHeartbeats 0
namespace Lk06
open PL LB PySem PySem.Spec PyProof.Rows L2
def top (i : Nat) : Stmt := PySem.Challenge.pw_restpieces_k06_whole_parts_of_equal_valu.main.body.getD i (.Pass ⟨0, 0, 0, 0⟩)
def d17 : DefP := ⟨"value_of", ["program", "x"], ["program", "x", "p", "q", "k", "d", "t"], top 1⟩
def d18 : DefP := ⟨"repeated", ["times", "program", "x"], ["times", "program", "x", "turn"], top 2⟩
def d19 : DefP := ⟨"holds_at", ["test", "x"], ["test", "x", "p", "q", "t", "u"], top 3⟩
def d133 : DefP := ⟨"is_integer", ["value", "low", "high"], ["value", "low", "high"], top 20⟩
def d313 : DefP := ⟨"is_leaf", ["value"], ["value"], top 21⟩
def d314 : DefP := ⟨"kinds_of", ["value", "kind"], ["value", "kind", "kinds", "numbers", "own", "item"], top 22⟩
def d315 : DefP := ⟨"is_fixed", ["kind", "value"], ["kind", "value", "low", "high"], top 23⟩
def d316 : DefP := ⟨"bad_path", ["value", "kind", "path"], ["value", "kind", "path", "kinds", "index", "own", "item", "found"], top 24⟩
def d0 : DefP := ⟨"items_of", ["tree"], ["tree", "index", "item"], top 25⟩
def d1 : DefP := ⟨"is_part", ["tree", "index"], ["tree", "index", "kinds"], top 26⟩
def d2 : DefP := ⟨"count_nodes", ["program"], ["program", "index", "part"], top 27⟩
def d3 : DefP := ⟨"run_of", ["program"], ["program", "runs", "index", "part"], top 28⟩
def d4 : DefP := ⟨"capped", ["reach"], ["reach"], top 29⟩
def d5 : DefP := ⟨"behind", ["one", "other"], ["one", "other"], top 30⟩
def d6 : DefP := ⟨"repeated_reach", ["times", "reach"], ["times", "reach", "found", "turn"], top 31⟩
def d7 : DefP := ⟨"reach_of", ["program"], ["program", "reaches", "slopes", "offsets", "factor", "index", "part", "slope", "offset"], top 32⟩
def d317 : DefP := ⟨"excess_of", ["tree"], ["tree"], top 33⟩
def d318 : DefP := ⟨"paths_of", ["tree", "path"], ["tree", "path", "found", "index", "part"], top 34⟩
def d319 : DefP := ⟨"tree_error", ["value", "kind"], ["value", "kind", "path", "own", "part", "reason"], top 35⟩
def d320 : DefP := ⟨"program_error", ["value"], ["value"], top 36⟩
def d321 : DefP := ⟨"is_program", ["value"], ["value"], top 37⟩
def d323 : DefP := ⟨"is_path", ["program", "path"], ["program", "path", "part", "index", "parts"], top 38⟩
def d324 : DefP := ⟨"part_of", ["program", "path"], ["program", "path", "part", "index"], top 39⟩
def d325 : DefP := ⟨"part_at", ["program", "path"], ["program", "path"], top 40⟩
def d328 : DefP := ⟨"replaced", ["program", "path", "other"], ["program", "path", "other", "index"], top 41⟩
def d329 : DefP := ⟨"with_part", ["program", "path", "other"], ["program", "path", "other", "found"], top 42⟩
def d8 : DefP := ⟨"_law_stream", ["_law_script"], ["_law_script", "_law_cells", "_law_cell"], top 44⟩
def d9 : DefP := ⟨"_law_draw", ["_law_stream_here", "_law_many"], ["_law_stream_here", "_law_many", "_law_turn", "_law_cell", "_law_mixed", "_law_rest"], top 45⟩
def d69 : DefP := ⟨"_law_pick", ["_law_stream_here", "_law_items"], ["_law_stream_here", "_law_items"], top 46⟩
def d10 : DefP := ⟨"_law_program", ["_law_stream_here", "_law_deep"], ["_law_stream_here", "_law_deep", "_law_way", "_law_one", "_law_other"], top 47⟩
def d11 : DefP := ⟨"_law_test", ["_law_stream_here", "_law_deep"], ["_law_stream_here", "_law_deep", "_law_way"], top 48⟩
def d12 : DefP := ⟨"_law_parts", ["_law_tree"], ["_law_tree", "_law_spots", "_law_spot"], top 49⟩
def d13 : DefP := ⟨"_law_paths", ["_law_tree"], ["_law_tree", "_law_found", "_law_spot", "_law_part", "_law_path", "_law_own"], top 50⟩
def d14 : DefP := ⟨"_law_run", ["_law_tree"], ["_law_tree", "_law_runs", "_law_spot", "_law_part"], top 51⟩
def d15 : DefP := ⟨"_law_reach", ["_law_tree"], ["_law_tree", "_law_some", "_law_slopes", "_law_offsets", "_law_turn", "_law_slope", "_law_offset", "_law_spot", "_law_part", "_law_one"], top 52⟩
def d22 : DefP := ⟨"_law_fits", ["_law_tree"], ["_law_tree", "_law_path", "_law_part"], top 53⟩
def d23 : DefP := ⟨"_law_small", ["_law_stream_here", "_law_deep"], ["_law_stream_here", "_law_deep", "_law_program_here"], top 54⟩
def d24 : DefP := ⟨"_law_input", ["_law_stream_here"], ["_law_stream_here", "_law_some", "_law_great"], top 55⟩
def d330 : DefP := ⟨"_law_put", ["_law_tree", "_law_path", "_law_other"], ["_law_tree", "_law_path", "_law_other"], top 56⟩
def d331 : DefP := ⟨"_law_like", ["_law_stream_here", "_law_part"], ["_law_stream_here", "_law_part", "_law_some", "_law_other", "_law_number", "_law_test_here"], top 57⟩
def d332 : DefP := ⟨"law", ["_law_script"], ["_law_script", "_law_stream_here", "_law_turn", "_law_program_here", "_law_path", "_law_part", "_law_like_here", "_law_other", "_law_again", "_law_x"], top 58⟩
def defs:List (Nat × DefP):=[(17,d17),(18,d18),(19,d19),(133,d133),(313,d313),(314,d314),(315,d315),(316,d316),(0,d0),(1,d1),(2,d2),(3,d3),(4,d4),(5,d5),(6,d6),(7,d7),(317,d317),(318,d318),(319,d319),(320,d320),(321,d321),(323,d323),(324,d324),(325,d325),(328,d328),(329,d329),(8,d8),(9,d9),(69,d69),(10,d10),(11,d11),(12,d12),(13,d13),(14,d14),(15,d15),(22,d22),(23,d23),(24,d24),(330,d330),(331,d331),(332,d332)]
def gs : List (Nat × Str) := [(13, "MAX_NUMBER"), (14, "MAX_NODES"), (0, "MAX_RUN"), (1, "MAX_REACH"), (2, "INPUT"), (3, "KINDS"), (4, "TESTS"), (5, "BOUNDS")]
def xt:XT:=⟨[],[]⟩
theorem ok17:chkFn (fnameL defs) (gnameL gs) xt d17.N d17.ps f17 d17.sd=true:=by decide +kernel
theorem ok18:chkFn (fnameL defs) (gnameL gs) xt d18.N d18.ps f18 d18.sd=true:=by decide +kernel
theorem ok19:chkFn (fnameL defs) (gnameL gs) xt d19.N d19.ps f19 d19.sd=true:=by decide +kernel
theorem ok133:chkFn (fnameL defs) (gnameL gs) xt d133.N d133.ps f133 d133.sd=true:=by decide +kernel
theorem ok313:chkFn (fnameL defs) (gnameL gs) xt d313.N d313.ps f313 d313.sd=true:=by decide +kernel
theorem ok314:chkFn (fnameL defs) (gnameL gs) xt d314.N d314.ps f314 d314.sd=true:=by decide +kernel
theorem ok315:chkFn (fnameL defs) (gnameL gs) xt d315.N d315.ps f315 d315.sd=true:=by decide +kernel
theorem ok316:chkFn (fnameL defs) (gnameL gs) xt d316.N d316.ps f316 d316.sd=true:=by decide +kernel
theorem ok0:chkFn (fnameL defs) (gnameL gs) xt d0.N d0.ps f0 d0.sd=true:=by decide +kernel
theorem ok1:chkFn (fnameL defs) (gnameL gs) xt d1.N d1.ps f1 d1.sd=true:=by decide +kernel
theorem ok2:chkFn (fnameL defs) (gnameL gs) xt d2.N d2.ps f2 d2.sd=true:=by decide +kernel
theorem ok3:chkFn (fnameL defs) (gnameL gs) xt d3.N d3.ps f3 d3.sd=true:=by decide +kernel
theorem ok4:chkFn (fnameL defs) (gnameL gs) xt d4.N d4.ps f4 d4.sd=true:=by decide +kernel
theorem ok5:chkFn (fnameL defs) (gnameL gs) xt d5.N d5.ps f5 d5.sd=true:=by decide +kernel
theorem ok6:chkFn (fnameL defs) (gnameL gs) xt d6.N d6.ps f6 d6.sd=true:=by decide +kernel
theorem ok7:chkFn (fnameL defs) (gnameL gs) xt d7.N d7.ps f7 d7.sd=true:=by decide +kernel
theorem ok317:chkFn (fnameL defs) (gnameL gs) xt d317.N d317.ps f317 d317.sd=true:=by decide +kernel
theorem ok318:chkFn (fnameL defs) (gnameL gs) xt d318.N d318.ps f318 d318.sd=true:=by decide +kernel
theorem ok319:chkFn (fnameL defs) (gnameL gs) xt d319.N d319.ps f319 d319.sd=true:=by decide +kernel
theorem ok320:chkFn (fnameL defs) (gnameL gs) xt d320.N d320.ps f320 d320.sd=true:=by decide +kernel
theorem ok321:chkFn (fnameL defs) (gnameL gs) xt d321.N d321.ps f321 d321.sd=true:=by decide +kernel
theorem ok323:chkFn (fnameL defs) (gnameL gs) xt d323.N d323.ps f323 d323.sd=true:=by decide +kernel
theorem ok324:chkFn (fnameL defs) (gnameL gs) xt d324.N d324.ps f324 d324.sd=true:=by decide +kernel
theorem ok325:chkFn (fnameL defs) (gnameL gs) xt d325.N d325.ps f325 d325.sd=true:=by decide +kernel
theorem ok328:chkFn (fnameL defs) (gnameL gs) xt d328.N d328.ps f328 d328.sd=true:=by decide +kernel
theorem ok329:chkFn (fnameL defs) (gnameL gs) xt d329.N d329.ps f329 d329.sd=true:=by decide +kernel
theorem ok8:chkFn (fnameL defs) (gnameL gs) xt d8.N d8.ps f8 d8.sd=true:=by decide +kernel
theorem ok9:chkFn (fnameL defs) (gnameL gs) xt d9.N d9.ps f9 d9.sd=true:=by decide +kernel
theorem ok69:chkFn (fnameL defs) (gnameL gs) xt d69.N d69.ps f69 d69.sd=true:=by decide +kernel
theorem ok10:chkFn (fnameL defs) (gnameL gs) xt d10.N d10.ps f10 d10.sd=true:=by decide +kernel
theorem ok11:chkFn (fnameL defs) (gnameL gs) xt d11.N d11.ps f11 d11.sd=true:=by decide +kernel
theorem ok12:chkFn (fnameL defs) (gnameL gs) xt d12.N d12.ps f12 d12.sd=true:=by decide +kernel
theorem ok13:chkFn (fnameL defs) (gnameL gs) xt d13.N d13.ps f13 d13.sd=true:=by decide +kernel
theorem ok14:chkFn (fnameL defs) (gnameL gs) xt d14.N d14.ps f14 d14.sd=true:=by decide +kernel
theorem ok15:chkFn (fnameL defs) (gnameL gs) xt d15.N d15.ps f15 d15.sd=true:=by decide +kernel
theorem ok22:chkFn (fnameL defs) (gnameL gs) xt d22.N d22.ps f22 d22.sd=true:=by decide +kernel
theorem ok23:chkFn (fnameL defs) (gnameL gs) xt d23.N d23.ps f23 d23.sd=true:=by decide +kernel
theorem ok24:chkFn (fnameL defs) (gnameL gs) xt d24.N d24.ps f24 d24.sd=true:=by decide +kernel
theorem ok330:chkFn (fnameL defs) (gnameL gs) xt d330.N d330.ps f330 d330.sd=true:=by decide +kernel
theorem ok331:chkFn (fnameL defs) (gnameL gs) xt d331.N d331.ps f331 d331.sd=true:=by decide +kernel
theorem ok332:chkFn (fnameL defs) (gnameL gs) xt d332.N d332.ps f332 d332.sd=true:=by decide +kernel
theorem bi17:∀ (kV doc pm:Value) (an:Option Addr) (cdv ct:Value) (us:List Value),us.length=d17.ps.length→bindArgs (PySem.W.fnOf d17.nm d17.nm (defArgs d17.sd) (defBody d17.sd) (defScope d17.sd) .none kV doc pm an cdv ct) ⟨us,[]⟩=pure (d17.ps.zip us) :=
 fun _ _ _ _ _ _ us hl=>match us,hl with|[_,_],_=>rfl
theorem bi18:∀ (kV doc pm:Value) (an:Option Addr) (cdv ct:Value) (us:List Value),us.length=d18.ps.length→bindArgs (PySem.W.fnOf d18.nm d18.nm (defArgs d18.sd) (defBody d18.sd) (defScope d18.sd) .none kV doc pm an cdv ct) ⟨us,[]⟩=pure (d18.ps.zip us) :=
 fun _ _ _ _ _ _ us hl=>match us,hl with|[_,_,_],_=>rfl
theorem bi19:∀ (kV doc pm:Value) (an:Option Addr) (cdv ct:Value) (us:List Value),us.length=d19.ps.length→bindArgs (PySem.W.fnOf d19.nm d19.nm (defArgs d19.sd) (defBody d19.sd) (defScope d19.sd) .none kV doc pm an cdv ct) ⟨us,[]⟩=pure (d19.ps.zip us) :=
 fun _ _ _ _ _ _ us hl=>match us,hl with|[_,_],_=>rfl
theorem bi133:∀ (kV doc pm:Value) (an:Option Addr) (cdv ct:Value) (us:List Value),us.length=d133.ps.length→bindArgs (PySem.W.fnOf d133.nm d133.nm (defArgs d133.sd) (defBody d133.sd) (defScope d133.sd) .none kV doc pm an cdv ct) ⟨us,[]⟩=pure (d133.ps.zip us) :=
 fun _ _ _ _ _ _ us hl=>match us,hl with|[_,_,_],_=>rfl
theorem bi313:∀ (kV doc pm:Value) (an:Option Addr) (cdv ct:Value) (us:List Value),us.length=d313.ps.length→bindArgs (PySem.W.fnOf d313.nm d313.nm (defArgs d313.sd) (defBody d313.sd) (defScope d313.sd) .none kV doc pm an cdv ct) ⟨us,[]⟩=pure (d313.ps.zip us) :=
 fun _ _ _ _ _ _ us hl=>match us,hl with|[_],_=>rfl
theorem bi314:∀ (kV doc pm:Value) (an:Option Addr) (cdv ct:Value) (us:List Value),us.length=d314.ps.length→bindArgs (PySem.W.fnOf d314.nm d314.nm (defArgs d314.sd) (defBody d314.sd) (defScope d314.sd) .none kV doc pm an cdv ct) ⟨us,[]⟩=pure (d314.ps.zip us) :=
 fun _ _ _ _ _ _ us hl=>match us,hl with|[_,_],_=>rfl
theorem bi315:∀ (kV doc pm:Value) (an:Option Addr) (cdv ct:Value) (us:List Value),us.length=d315.ps.length→bindArgs (PySem.W.fnOf d315.nm d315.nm (defArgs d315.sd) (defBody d315.sd) (defScope d315.sd) .none kV doc pm an cdv ct) ⟨us,[]⟩=pure (d315.ps.zip us) :=
 fun _ _ _ _ _ _ us hl=>match us,hl with|[_,_],_=>rfl
theorem bi316:∀ (kV doc pm:Value) (an:Option Addr) (cdv ct:Value) (us:List Value),us.length=d316.ps.length→bindArgs (PySem.W.fnOf d316.nm d316.nm (defArgs d316.sd) (defBody d316.sd) (defScope d316.sd) .none kV doc pm an cdv ct) ⟨us,[]⟩=pure (d316.ps.zip us) :=
 fun _ _ _ _ _ _ us hl=>match us,hl with|[_,_,_],_=>rfl
theorem bi0:∀ (kV doc pm:Value) (an:Option Addr) (cdv ct:Value) (us:List Value),us.length=d0.ps.length→bindArgs (PySem.W.fnOf d0.nm d0.nm (defArgs d0.sd) (defBody d0.sd) (defScope d0.sd) .none kV doc pm an cdv ct) ⟨us,[]⟩=pure (d0.ps.zip us) :=
 fun _ _ _ _ _ _ us hl=>match us,hl with|[_],_=>rfl
theorem bi1:∀ (kV doc pm:Value) (an:Option Addr) (cdv ct:Value) (us:List Value),us.length=d1.ps.length→bindArgs (PySem.W.fnOf d1.nm d1.nm (defArgs d1.sd) (defBody d1.sd) (defScope d1.sd) .none kV doc pm an cdv ct) ⟨us,[]⟩=pure (d1.ps.zip us) :=
 fun _ _ _ _ _ _ us hl=>match us,hl with|[_,_],_=>rfl
theorem bi2:∀ (kV doc pm:Value) (an:Option Addr) (cdv ct:Value) (us:List Value),us.length=d2.ps.length→bindArgs (PySem.W.fnOf d2.nm d2.nm (defArgs d2.sd) (defBody d2.sd) (defScope d2.sd) .none kV doc pm an cdv ct) ⟨us,[]⟩=pure (d2.ps.zip us) :=
 fun _ _ _ _ _ _ us hl=>match us,hl with|[_],_=>rfl
theorem bi3:∀ (kV doc pm:Value) (an:Option Addr) (cdv ct:Value) (us:List Value),us.length=d3.ps.length→bindArgs (PySem.W.fnOf d3.nm d3.nm (defArgs d3.sd) (defBody d3.sd) (defScope d3.sd) .none kV doc pm an cdv ct) ⟨us,[]⟩=pure (d3.ps.zip us) :=
 fun _ _ _ _ _ _ us hl=>match us,hl with|[_],_=>rfl
theorem bi4:∀ (kV doc pm:Value) (an:Option Addr) (cdv ct:Value) (us:List Value),us.length=d4.ps.length→bindArgs (PySem.W.fnOf d4.nm d4.nm (defArgs d4.sd) (defBody d4.sd) (defScope d4.sd) .none kV doc pm an cdv ct) ⟨us,[]⟩=pure (d4.ps.zip us) :=
 fun _ _ _ _ _ _ us hl=>match us,hl with|[_],_=>rfl
theorem bi5:∀ (kV doc pm:Value) (an:Option Addr) (cdv ct:Value) (us:List Value),us.length=d5.ps.length→bindArgs (PySem.W.fnOf d5.nm d5.nm (defArgs d5.sd) (defBody d5.sd) (defScope d5.sd) .none kV doc pm an cdv ct) ⟨us,[]⟩=pure (d5.ps.zip us) :=
 fun _ _ _ _ _ _ us hl=>match us,hl with|[_,_],_=>rfl
theorem bi6:∀ (kV doc pm:Value) (an:Option Addr) (cdv ct:Value) (us:List Value),us.length=d6.ps.length→bindArgs (PySem.W.fnOf d6.nm d6.nm (defArgs d6.sd) (defBody d6.sd) (defScope d6.sd) .none kV doc pm an cdv ct) ⟨us,[]⟩=pure (d6.ps.zip us) :=
 fun _ _ _ _ _ _ us hl=>match us,hl with|[_,_],_=>rfl
theorem bi7:∀ (kV doc pm:Value) (an:Option Addr) (cdv ct:Value) (us:List Value),us.length=d7.ps.length→bindArgs (PySem.W.fnOf d7.nm d7.nm (defArgs d7.sd) (defBody d7.sd) (defScope d7.sd) .none kV doc pm an cdv ct) ⟨us,[]⟩=pure (d7.ps.zip us) :=
 fun _ _ _ _ _ _ us hl=>match us,hl with|[_],_=>rfl
theorem bi317:∀ (kV doc pm:Value) (an:Option Addr) (cdv ct:Value) (us:List Value),us.length=d317.ps.length→bindArgs (PySem.W.fnOf d317.nm d317.nm (defArgs d317.sd) (defBody d317.sd) (defScope d317.sd) .none kV doc pm an cdv ct) ⟨us,[]⟩=pure (d317.ps.zip us) :=
 fun _ _ _ _ _ _ us hl=>match us,hl with|[_],_=>rfl
theorem bi318:∀ (kV doc pm:Value) (an:Option Addr) (cdv ct:Value) (us:List Value),us.length=d318.ps.length→bindArgs (PySem.W.fnOf d318.nm d318.nm (defArgs d318.sd) (defBody d318.sd) (defScope d318.sd) .none kV doc pm an cdv ct) ⟨us,[]⟩=pure (d318.ps.zip us) :=
 fun _ _ _ _ _ _ us hl=>match us,hl with|[_,_],_=>rfl
theorem bi319:∀ (kV doc pm:Value) (an:Option Addr) (cdv ct:Value) (us:List Value),us.length=d319.ps.length→bindArgs (PySem.W.fnOf d319.nm d319.nm (defArgs d319.sd) (defBody d319.sd) (defScope d319.sd) .none kV doc pm an cdv ct) ⟨us,[]⟩=pure (d319.ps.zip us) :=
 fun _ _ _ _ _ _ us hl=>match us,hl with|[_,_],_=>rfl
theorem bi320:∀ (kV doc pm:Value) (an:Option Addr) (cdv ct:Value) (us:List Value),us.length=d320.ps.length→bindArgs (PySem.W.fnOf d320.nm d320.nm (defArgs d320.sd) (defBody d320.sd) (defScope d320.sd) .none kV doc pm an cdv ct) ⟨us,[]⟩=pure (d320.ps.zip us) :=
 fun _ _ _ _ _ _ us hl=>match us,hl with|[_],_=>rfl
theorem bi321:∀ (kV doc pm:Value) (an:Option Addr) (cdv ct:Value) (us:List Value),us.length=d321.ps.length→bindArgs (PySem.W.fnOf d321.nm d321.nm (defArgs d321.sd) (defBody d321.sd) (defScope d321.sd) .none kV doc pm an cdv ct) ⟨us,[]⟩=pure (d321.ps.zip us) :=
 fun _ _ _ _ _ _ us hl=>match us,hl with|[_],_=>rfl
theorem bi323:∀ (kV doc pm:Value) (an:Option Addr) (cdv ct:Value) (us:List Value),us.length=d323.ps.length→bindArgs (PySem.W.fnOf d323.nm d323.nm (defArgs d323.sd) (defBody d323.sd) (defScope d323.sd) .none kV doc pm an cdv ct) ⟨us,[]⟩=pure (d323.ps.zip us) :=
 fun _ _ _ _ _ _ us hl=>match us,hl with|[_,_],_=>rfl
theorem bi324:∀ (kV doc pm:Value) (an:Option Addr) (cdv ct:Value) (us:List Value),us.length=d324.ps.length→bindArgs (PySem.W.fnOf d324.nm d324.nm (defArgs d324.sd) (defBody d324.sd) (defScope d324.sd) .none kV doc pm an cdv ct) ⟨us,[]⟩=pure (d324.ps.zip us) :=
 fun _ _ _ _ _ _ us hl=>match us,hl with|[_,_],_=>rfl
theorem bi325:∀ (kV doc pm:Value) (an:Option Addr) (cdv ct:Value) (us:List Value),us.length=d325.ps.length→bindArgs (PySem.W.fnOf d325.nm d325.nm (defArgs d325.sd) (defBody d325.sd) (defScope d325.sd) .none kV doc pm an cdv ct) ⟨us,[]⟩=pure (d325.ps.zip us) :=
 fun _ _ _ _ _ _ us hl=>match us,hl with|[_,_],_=>rfl
theorem bi328:∀ (kV doc pm:Value) (an:Option Addr) (cdv ct:Value) (us:List Value),us.length=d328.ps.length→bindArgs (PySem.W.fnOf d328.nm d328.nm (defArgs d328.sd) (defBody d328.sd) (defScope d328.sd) .none kV doc pm an cdv ct) ⟨us,[]⟩=pure (d328.ps.zip us) :=
 fun _ _ _ _ _ _ us hl=>match us,hl with|[_,_,_],_=>rfl
theorem bi329:∀ (kV doc pm:Value) (an:Option Addr) (cdv ct:Value) (us:List Value),us.length=d329.ps.length→bindArgs (PySem.W.fnOf d329.nm d329.nm (defArgs d329.sd) (defBody d329.sd) (defScope d329.sd) .none kV doc pm an cdv ct) ⟨us,[]⟩=pure (d329.ps.zip us) :=
 fun _ _ _ _ _ _ us hl=>match us,hl with|[_,_,_],_=>rfl
theorem bi8:∀ (kV doc pm:Value) (an:Option Addr) (cdv ct:Value) (us:List Value),us.length=d8.ps.length→bindArgs (PySem.W.fnOf d8.nm d8.nm (defArgs d8.sd) (defBody d8.sd) (defScope d8.sd) .none kV doc pm an cdv ct) ⟨us,[]⟩=pure (d8.ps.zip us) :=
 fun _ _ _ _ _ _ us hl=>match us,hl with|[_],_=>rfl
theorem bi9:∀ (kV doc pm:Value) (an:Option Addr) (cdv ct:Value) (us:List Value),us.length=d9.ps.length→bindArgs (PySem.W.fnOf d9.nm d9.nm (defArgs d9.sd) (defBody d9.sd) (defScope d9.sd) .none kV doc pm an cdv ct) ⟨us,[]⟩=pure (d9.ps.zip us) :=
 fun _ _ _ _ _ _ us hl=>match us,hl with|[_,_],_=>rfl
theorem bi69:∀ (kV doc pm:Value) (an:Option Addr) (cdv ct:Value) (us:List Value),us.length=d69.ps.length→bindArgs (PySem.W.fnOf d69.nm d69.nm (defArgs d69.sd) (defBody d69.sd) (defScope d69.sd) .none kV doc pm an cdv ct) ⟨us,[]⟩=pure (d69.ps.zip us) :=
 fun _ _ _ _ _ _ us hl=>match us,hl with|[_,_],_=>rfl
theorem bi10:∀ (kV doc pm:Value) (an:Option Addr) (cdv ct:Value) (us:List Value),us.length=d10.ps.length→bindArgs (PySem.W.fnOf d10.nm d10.nm (defArgs d10.sd) (defBody d10.sd) (defScope d10.sd) .none kV doc pm an cdv ct) ⟨us,[]⟩=pure (d10.ps.zip us) :=
 fun _ _ _ _ _ _ us hl=>match us,hl with|[_,_],_=>rfl
theorem bi11:∀ (kV doc pm:Value) (an:Option Addr) (cdv ct:Value) (us:List Value),us.length=d11.ps.length→bindArgs (PySem.W.fnOf d11.nm d11.nm (defArgs d11.sd) (defBody d11.sd) (defScope d11.sd) .none kV doc pm an cdv ct) ⟨us,[]⟩=pure (d11.ps.zip us) :=
 fun _ _ _ _ _ _ us hl=>match us,hl with|[_,_],_=>rfl
theorem bi12:∀ (kV doc pm:Value) (an:Option Addr) (cdv ct:Value) (us:List Value),us.length=d12.ps.length→bindArgs (PySem.W.fnOf d12.nm d12.nm (defArgs d12.sd) (defBody d12.sd) (defScope d12.sd) .none kV doc pm an cdv ct) ⟨us,[]⟩=pure (d12.ps.zip us) :=
 fun _ _ _ _ _ _ us hl=>match us,hl with|[_],_=>rfl
theorem bi13:∀ (kV doc pm:Value) (an:Option Addr) (cdv ct:Value) (us:List Value),us.length=d13.ps.length→bindArgs (PySem.W.fnOf d13.nm d13.nm (defArgs d13.sd) (defBody d13.sd) (defScope d13.sd) .none kV doc pm an cdv ct) ⟨us,[]⟩=pure (d13.ps.zip us) :=
 fun _ _ _ _ _ _ us hl=>match us,hl with|[_],_=>rfl
theorem bi14:∀ (kV doc pm:Value) (an:Option Addr) (cdv ct:Value) (us:List Value),us.length=d14.ps.length→bindArgs (PySem.W.fnOf d14.nm d14.nm (defArgs d14.sd) (defBody d14.sd) (defScope d14.sd) .none kV doc pm an cdv ct) ⟨us,[]⟩=pure (d14.ps.zip us) :=
 fun _ _ _ _ _ _ us hl=>match us,hl with|[_],_=>rfl
theorem bi15:∀ (kV doc pm:Value) (an:Option Addr) (cdv ct:Value) (us:List Value),us.length=d15.ps.length→bindArgs (PySem.W.fnOf d15.nm d15.nm (defArgs d15.sd) (defBody d15.sd) (defScope d15.sd) .none kV doc pm an cdv ct) ⟨us,[]⟩=pure (d15.ps.zip us) :=
 fun _ _ _ _ _ _ us hl=>match us,hl with|[_],_=>rfl
theorem bi22:∀ (kV doc pm:Value) (an:Option Addr) (cdv ct:Value) (us:List Value),us.length=d22.ps.length→bindArgs (PySem.W.fnOf d22.nm d22.nm (defArgs d22.sd) (defBody d22.sd) (defScope d22.sd) .none kV doc pm an cdv ct) ⟨us,[]⟩=pure (d22.ps.zip us) :=
 fun _ _ _ _ _ _ us hl=>match us,hl with|[_],_=>rfl
theorem bi23:∀ (kV doc pm:Value) (an:Option Addr) (cdv ct:Value) (us:List Value),us.length=d23.ps.length→bindArgs (PySem.W.fnOf d23.nm d23.nm (defArgs d23.sd) (defBody d23.sd) (defScope d23.sd) .none kV doc pm an cdv ct) ⟨us,[]⟩=pure (d23.ps.zip us) :=
 fun _ _ _ _ _ _ us hl=>match us,hl with|[_,_],_=>rfl
theorem bi24:∀ (kV doc pm:Value) (an:Option Addr) (cdv ct:Value) (us:List Value),us.length=d24.ps.length→bindArgs (PySem.W.fnOf d24.nm d24.nm (defArgs d24.sd) (defBody d24.sd) (defScope d24.sd) .none kV doc pm an cdv ct) ⟨us,[]⟩=pure (d24.ps.zip us) :=
 fun _ _ _ _ _ _ us hl=>match us,hl with|[_],_=>rfl
theorem bi330:∀ (kV doc pm:Value) (an:Option Addr) (cdv ct:Value) (us:List Value),us.length=d330.ps.length→bindArgs (PySem.W.fnOf d330.nm d330.nm (defArgs d330.sd) (defBody d330.sd) (defScope d330.sd) .none kV doc pm an cdv ct) ⟨us,[]⟩=pure (d330.ps.zip us) :=
 fun _ _ _ _ _ _ us hl=>match us,hl with|[_,_,_],_=>rfl
theorem bi331:∀ (kV doc pm:Value) (an:Option Addr) (cdv ct:Value) (us:List Value),us.length=d331.ps.length→bindArgs (PySem.W.fnOf d331.nm d331.nm (defArgs d331.sd) (defBody d331.sd) (defScope d331.sd) .none kV doc pm an cdv ct) ⟨us,[]⟩=pure (d331.ps.zip us) :=
 fun _ _ _ _ _ _ us hl=>match us,hl with|[_,_],_=>rfl
theorem bi332:∀ (kV doc pm:Value) (an:Option Addr) (cdv ct:Value) (us:List Value),us.length=d332.ps.length→bindArgs (PySem.W.fnOf d332.nm d332.nm (defArgs d332.sd) (defBody d332.sd) (defScope d332.sd) .none kV doc pm an cdv ct) ⟨us,[]⟩=pure (d332.ps.zip us) :=
 fun _ _ _ _ _ _ us hl=>match us,hl with|[_],_=>rfl
theorem text_ok:TextOk (fnameL defs) (gnameL gs) xt defs fl:=⟨⟨rfl,rfl,rfl,ok17⟩,⟨rfl,rfl,rfl,ok18⟩,⟨rfl,rfl,rfl,ok19⟩,⟨rfl,rfl,rfl,ok133⟩,⟨rfl,rfl,rfl,ok313⟩,⟨rfl,rfl,rfl,ok314⟩,⟨rfl,rfl,rfl,ok315⟩,⟨rfl,rfl,rfl,ok316⟩,⟨rfl,rfl,rfl,ok0⟩,⟨rfl,rfl,rfl,ok1⟩,⟨rfl,rfl,rfl,ok2⟩,⟨rfl,rfl,rfl,ok3⟩,⟨rfl,rfl,rfl,ok4⟩,⟨rfl,rfl,rfl,ok5⟩,⟨rfl,rfl,rfl,ok6⟩,⟨rfl,rfl,rfl,ok7⟩,⟨rfl,rfl,rfl,ok317⟩,⟨rfl,rfl,rfl,ok318⟩,⟨rfl,rfl,rfl,ok319⟩,⟨rfl,rfl,rfl,ok320⟩,⟨rfl,rfl,rfl,ok321⟩,⟨rfl,rfl,rfl,ok323⟩,⟨rfl,rfl,rfl,ok324⟩,⟨rfl,rfl,rfl,ok325⟩,⟨rfl,rfl,rfl,ok328⟩,⟨rfl,rfl,rfl,ok329⟩,⟨rfl,rfl,rfl,ok8⟩,⟨rfl,rfl,rfl,ok9⟩,⟨rfl,rfl,rfl,ok69⟩,⟨rfl,rfl,rfl,ok10⟩,⟨rfl,rfl,rfl,ok11⟩,⟨rfl,rfl,rfl,ok12⟩,⟨rfl,rfl,rfl,ok13⟩,⟨rfl,rfl,rfl,ok14⟩,⟨rfl,rfl,rfl,ok15⟩,⟨rfl,rfl,rfl,ok22⟩,⟨rfl,rfl,rfl,ok23⟩,⟨rfl,rfl,rfl,ok24⟩,⟨rfl,rfl,rfl,ok330⟩,⟨rfl,rfl,rfl,ok331⟩,⟨rfl,rfl,rfl,ok332⟩,trivial⟩
end Lk06
end
open PySem PySem.W PyProof.Rows
set_option maxRecDepth 100000 in
set_option maxHeartbeats 0 in
theorem PySem.Challenge.cw_restpieces_k06_whole_parts_of_equal_valu_holds : PySem.Challenge.rw_restpieces_k06_whole_parts_of_equal_valu.Holds := by
 refine head ?_
 k_fill
 refine PL.law_endX (l := PySem.Challenge.rw_restpieces_k06_whole_parts_of_equal_valu) (m := 63) (k := 200) (f := 332) (x := "_law_script") (xt := Lk06.xt) (pr := PL.progL Lk06.fl Lk06.gl) (fname := PL.fnameL Lk06.defs) (gname := PL.gnameL Lk06.gs) (par := PL.parL Lk06.defs) rfl (by decide) rfl ⟨rfl, by decide, by decide⟩ (fun w h Y => PySem.W.kIn_of Y) rfl rfl ?M ?go
 case go=>exact Lk06.go _ rfl rfl rfl
 case M =>
  intro w mg NS base
  refine' PL.mod_of (ds:=Lk06.defs) (gs:=Lk06.gs) NS Lk06.text_ok ?A ?C ?Z ?E ?N
  case N =>
   trivial
  case E =>
   trivial
  case Z =>
   refine' ⟨?z0,?z1,?z2,?z3,?z4,?z5,?z6,?z7,?z8,?z9,?z10,?z11,?z12,?z13,?z14,?z15,?z16,?z17,?z18,?z19,?z20,trivial⟩
   (case z0=>k_is)
   (case z1=>k_is)
   (case z2=>k_is)
   (case z3=>k_is)
   (case z4=>k_is)
   (case z5=>k_is)
   (case z6=>k_is)
   (case z7=>k_is)
   (case z8=>k_is)
   (case z9=>k_is)
   (case z10=>k_is)
   (case z11=>k_is)
   (case z12=>k_is)
   (case z13=>k_is)
   (case z14=>k_is)
   (case z15=>k_is)
   (case z16=>k_is)
   (case z17=>k_is)
   (case z18=>k_is)
   (case z19=>k_is)
   (case z20=>k_is)
  case A =>
   refine' ⟨PL.def_at Lk06.d17 Lk06.bi17 ?a17 ?l17 ?c17 ?k17,?r17⟩
   (case a17=>k_is)
   (case l17=>k_is)
   (case c17=>k_is)
   (case k17=>k_is)
   refine' ⟨PL.def_at Lk06.d18 Lk06.bi18 ?a18 ?l18 ?c18 ?k18,?r18⟩
   (case a18=>k_is)
   (case l18=>k_is)
   (case c18=>k_is)
   (case k18=>k_is)
   refine' ⟨PL.def_at Lk06.d19 Lk06.bi19 ?a19 ?l19 ?c19 ?k19,?r19⟩
   (case a19=>k_is)
   (case l19=>k_is)
   (case c19=>k_is)
   (case k19=>k_is)
   refine' ⟨PL.def_at Lk06.d133 Lk06.bi133 ?a133 ?l133 ?c133 ?k133,?r133⟩
   (case a133=>k_is)
   (case l133=>k_is)
   (case c133=>k_is)
   (case k133=>k_is)
   refine' ⟨PL.def_at Lk06.d313 Lk06.bi313 ?a313 ?l313 ?c313 ?k313,?r313⟩
   (case a313=>k_is)
   (case l313=>k_is)
   (case c313=>k_is)
   (case k313=>k_is)
   refine' ⟨PL.def_at Lk06.d314 Lk06.bi314 ?a314 ?l314 ?c314 ?k314,?r314⟩
   (case a314=>k_is)
   (case l314=>k_is)
   (case c314=>k_is)
   (case k314=>k_is)
   refine' ⟨PL.def_at Lk06.d315 Lk06.bi315 ?a315 ?l315 ?c315 ?k315,?r315⟩
   (case a315=>k_is)
   (case l315=>k_is)
   (case c315=>k_is)
   (case k315=>k_is)
   refine' ⟨PL.def_at Lk06.d316 Lk06.bi316 ?a316 ?l316 ?c316 ?k316,?r316⟩
   (case a316=>k_is)
   (case l316=>k_is)
   (case c316=>k_is)
   (case k316=>k_is)
   refine' ⟨PL.def_at Lk06.d0 Lk06.bi0 ?a0 ?l0 ?c0 ?k0,?r0⟩
   (case a0=>k_is)
   (case l0=>k_is)
   (case c0=>k_is)
   (case k0=>k_is)
   refine' ⟨PL.def_at Lk06.d1 Lk06.bi1 ?a1 ?l1 ?c1 ?k1,?r1⟩
   (case a1=>k_is)
   (case l1=>k_is)
   (case c1=>k_is)
   (case k1=>k_is)
   refine' ⟨PL.def_at Lk06.d2 Lk06.bi2 ?a2 ?l2 ?c2 ?k2,?r2⟩
   (case a2=>k_is)
   (case l2=>k_is)
   (case c2=>k_is)
   (case k2=>k_is)
   refine' ⟨PL.def_at Lk06.d3 Lk06.bi3 ?a3 ?l3 ?c3 ?k3,?r3⟩
   (case a3=>k_is)
   (case l3=>k_is)
   (case c3=>k_is)
   (case k3=>k_is)
   refine' ⟨PL.def_at Lk06.d4 Lk06.bi4 ?a4 ?l4 ?c4 ?k4,?r4⟩
   (case a4=>k_is)
   (case l4=>k_is)
   (case c4=>k_is)
   (case k4=>k_is)
   refine' ⟨PL.def_at Lk06.d5 Lk06.bi5 ?a5 ?l5 ?c5 ?k5,?r5⟩
   (case a5=>k_is)
   (case l5=>k_is)
   (case c5=>k_is)
   (case k5=>k_is)
   refine' ⟨PL.def_at Lk06.d6 Lk06.bi6 ?a6 ?l6 ?c6 ?k6,?r6⟩
   (case a6=>k_is)
   (case l6=>k_is)
   (case c6=>k_is)
   (case k6=>k_is)
   refine' ⟨PL.def_at Lk06.d7 Lk06.bi7 ?a7 ?l7 ?c7 ?k7,?r7⟩
   (case a7=>k_is)
   (case l7=>k_is)
   (case c7=>k_is)
   (case k7=>k_is)
   refine' ⟨PL.def_at Lk06.d317 Lk06.bi317 ?a317 ?l317 ?c317 ?k317,?r317⟩
   (case a317=>k_is)
   (case l317=>k_is)
   (case c317=>k_is)
   (case k317=>k_is)
   refine' ⟨PL.def_at Lk06.d318 Lk06.bi318 ?a318 ?l318 ?c318 ?k318,?r318⟩
   (case a318=>k_is)
   (case l318=>k_is)
   (case c318=>k_is)
   (case k318=>k_is)
   refine' ⟨PL.def_at Lk06.d319 Lk06.bi319 ?a319 ?l319 ?c319 ?k319,?r319⟩
   (case a319=>k_is)
   (case l319=>k_is)
   (case c319=>k_is)
   (case k319=>k_is)
   refine' ⟨PL.def_at Lk06.d320 Lk06.bi320 ?a320 ?l320 ?c320 ?k320,?r320⟩
   (case a320=>k_is)
   (case l320=>k_is)
   (case c320=>k_is)
   (case k320=>k_is)
   refine' ⟨PL.def_at Lk06.d321 Lk06.bi321 ?a321 ?l321 ?c321 ?k321,?r321⟩
   (case a321=>k_is)
   (case l321=>k_is)
   (case c321=>k_is)
   (case k321=>k_is)
   refine' ⟨PL.def_at Lk06.d323 Lk06.bi323 ?a323 ?l323 ?c323 ?k323,?r323⟩
   (case a323=>k_is)
   (case l323=>k_is)
   (case c323=>k_is)
   (case k323=>k_is)
   refine' ⟨PL.def_at Lk06.d324 Lk06.bi324 ?a324 ?l324 ?c324 ?k324,?r324⟩
   (case a324=>k_is)
   (case l324=>k_is)
   (case c324=>k_is)
   (case k324=>k_is)
   refine' ⟨PL.def_at Lk06.d325 Lk06.bi325 ?a325 ?l325 ?c325 ?k325,?r325⟩
   (case a325=>k_is)
   (case l325=>k_is)
   (case c325=>k_is)
   (case k325=>k_is)
   refine' ⟨PL.def_at Lk06.d328 Lk06.bi328 ?a328 ?l328 ?c328 ?k328,?r328⟩
   (case a328=>k_is)
   (case l328=>k_is)
   (case c328=>k_is)
   (case k328=>k_is)
   refine' ⟨PL.def_at Lk06.d329 Lk06.bi329 ?a329 ?l329 ?c329 ?k329,?r329⟩
   (case a329=>k_is)
   (case l329=>k_is)
   (case c329=>k_is)
   (case k329=>k_is)
   refine' ⟨PL.def_at Lk06.d8 Lk06.bi8 ?a8 ?l8 ?c8 ?k8,?r8⟩
   (case a8=>k_is)
   (case l8=>k_is)
   (case c8=>k_is)
   (case k8=>k_is)
   refine' ⟨PL.def_at Lk06.d9 Lk06.bi9 ?a9 ?l9 ?c9 ?k9,?r9⟩
   (case a9=>k_is)
   (case l9=>k_is)
   (case c9=>k_is)
   (case k9=>k_is)
   refine' ⟨PL.def_at Lk06.d69 Lk06.bi69 ?a69 ?l69 ?c69 ?k69,?r69⟩
   (case a69=>k_is)
   (case l69=>k_is)
   (case c69=>k_is)
   (case k69=>k_is)
   refine' ⟨PL.def_at Lk06.d10 Lk06.bi10 ?a10 ?l10 ?c10 ?k10,?r10⟩
   (case a10=>k_is)
   (case l10=>k_is)
   (case c10=>k_is)
   (case k10=>k_is)
   refine' ⟨PL.def_at Lk06.d11 Lk06.bi11 ?a11 ?l11 ?c11 ?k11,?r11⟩
   (case a11=>k_is)
   (case l11=>k_is)
   (case c11=>k_is)
   (case k11=>k_is)
   refine' ⟨PL.def_at Lk06.d12 Lk06.bi12 ?a12 ?l12 ?c12 ?k12,?r12⟩
   (case a12=>k_is)
   (case l12=>k_is)
   (case c12=>k_is)
   (case k12=>k_is)
   refine' ⟨PL.def_at Lk06.d13 Lk06.bi13 ?a13 ?l13 ?c13 ?k13,?r13⟩
   (case a13=>k_is)
   (case l13=>k_is)
   (case c13=>k_is)
   (case k13=>k_is)
   refine' ⟨PL.def_at Lk06.d14 Lk06.bi14 ?a14 ?l14 ?c14 ?k14,?r14⟩
   (case a14=>k_is)
   (case l14=>k_is)
   (case c14=>k_is)
   (case k14=>k_is)
   refine' ⟨PL.def_at Lk06.d15 Lk06.bi15 ?a15 ?l15 ?c15 ?k15,?r15⟩
   (case a15=>k_is)
   (case l15=>k_is)
   (case c15=>k_is)
   (case k15=>k_is)
   refine' ⟨PL.def_at Lk06.d22 Lk06.bi22 ?a22 ?l22 ?c22 ?k22,?r22⟩
   (case a22=>k_is)
   (case l22=>k_is)
   (case c22=>k_is)
   (case k22=>k_is)
   refine' ⟨PL.def_at Lk06.d23 Lk06.bi23 ?a23 ?l23 ?c23 ?k23,?r23⟩
   (case a23=>k_is)
   (case l23=>k_is)
   (case c23=>k_is)
   (case k23=>k_is)
   refine' ⟨PL.def_at Lk06.d24 Lk06.bi24 ?a24 ?l24 ?c24 ?k24,?r24⟩
   (case a24=>k_is)
   (case l24=>k_is)
   (case c24=>k_is)
   (case k24=>k_is)
   refine' ⟨PL.def_at Lk06.d330 Lk06.bi330 ?a330 ?l330 ?c330 ?k330,?r330⟩
   (case a330=>k_is)
   (case l330=>k_is)
   (case c330=>k_is)
   (case k330=>k_is)
   refine' ⟨PL.def_at Lk06.d331 Lk06.bi331 ?a331 ?l331 ?c331 ?k331,?r331⟩
   (case a331=>k_is)
   (case l331=>k_is)
   (case c331=>k_is)
   (case k331=>k_is)
   refine' ⟨PL.def_at Lk06.d332 Lk06.bi332 ?a332 ?l332 ?c332 ?k332,?r332⟩
   (case a332=>k_is)
   (case l332=>k_is)
   (case c332=>k_is)
   (case k332=>k_is)
   trivial
  case C =>
   refine' ⟨⟨rfl,PL.con_int ?h1⟩,?y0⟩
   (case h1=>k_is)
   refine' ⟨⟨rfl,PL.con_int ?h2⟩,?y1⟩
   (case h2=>k_is)
   refine' ⟨⟨rfl,PL.con_int ?h3⟩,?y2⟩
   (case h3=>k_is)
   refine' ⟨⟨rfl,PL.con_int ?h4⟩,?y3⟩
   (case h4=>k_is)
   refine' ⟨⟨rfl,PL.con_str ?h5 ?s5⟩,?y4⟩
   (case h5=>k_is)
   (case s5=>rfl)
   refine' ⟨⟨rfl,PL.con_dct ?h6 ?l6 ?w6 ?e6 rfl⟩,?y5⟩
   (case h6=>k_is)
   (case l6=>k_is)
   (case w6=>decide)
   (case' e6=>refine' .cons rfl rfl rfl PL.rv_ref ?x6_0 (.cons rfl rfl rfl PL.rv_ref ?x6_1 (.cons rfl rfl rfl PL.rv_ref ?x6_2 (.cons rfl rfl rfl PL.rv_ref ?x6_3 (.cons rfl rfl rfl PL.rv_ref ?x6_4 (.cons rfl rfl rfl PL.rv_ref ?x6_5 (.cons rfl rfl rfl PL.rv_ref ?x6_6 (.cons rfl rfl rfl PL.rv_ref ?x6_7 (.cons rfl rfl rfl PL.rv_ref ?x6_8 (.cons rfl rfl rfl PL.rv_ref ?x6_9 (.nil)))))))))))
   (case' x6_0=>refine' PL.rep_tupW ?tl7 ?tz7 ?tv7 ?tr7)
   (case tl7=>k_is)
   (case tz7=>decide)
   (case tv7=>exact .cons PL.rv_str (.cons PL.rv_str (.nil)))
   (case' tr7=>refine' fun F B H=>.cons (.str _ _ rfl) (.cons (.str _ _ rfl) (.nil)))
   (case' x6_1=>refine' PL.rep_tupW ?tl9 ?tz9 ?tv9 ?tr9)
   (case tl9=>k_is)
   (case tz9=>decide)
   (case tv9=>exact .cons PL.rv_str (.cons PL.rv_str (.nil)))
   (case' tr9=>refine' fun F B H=>.cons (.str _ _ rfl) (.cons (.str _ _ rfl) (.nil)))
   (case' x6_2=>refine' PL.rep_tupW ?tl11 ?tz11 ?tv11 ?tr11)
   (case tl11=>k_is)
   (case tz11=>decide)
   (case tv11=>exact .cons PL.rv_str (.cons PL.rv_str (.nil)))
   (case' tr11=>refine' fun F B H=>.cons (.str _ _ rfl) (.cons (.str _ _ rfl) (.nil)))
   (case' x6_3=>refine' PL.rep_tupW ?tl13 ?tz13 ?tv13 ?tr13)
   (case tl13=>k_is)
   (case tz13=>decide)
   (case tv13=>exact .cons PL.rv_str (.cons PL.rv_str (.nil)))
   (case' tr13=>refine' fun F B H=>.cons (.str _ _ rfl) (.cons (.str _ _ rfl) (.nil)))
   (case' x6_4=>refine' PL.rep_tupW ?tl15 ?tz15 ?tv15 ?tr15)
   (case tl15=>k_is)
   (case tz15=>decide)
   (case tv15=>exact .cons PL.rv_str (.cons PL.rv_str (.nil)))
   (case' tr15=>refine' fun F B H=>.cons (.str _ _ rfl) (.cons (.str _ _ rfl) (.nil)))
   (case' x6_5=>refine' PL.rep_tupW ?tl17 ?tz17 ?tv17 ?tr17)
   (case tl17=>k_is)
   (case tz17=>decide)
   (case tv17=>exact .cons PL.rv_str (.cons PL.rv_str (.nil)))
   (case' tr17=>refine' fun F B H=>.cons (.str _ _ rfl) (.cons (.str _ _ rfl) (.nil)))
   (case' x6_6=>refine' PL.rep_tupW ?tl19 ?tz19 ?tv19 ?tr19)
   (case tl19=>k_is)
   (case tz19=>decide)
   (case tv19=>exact .cons PL.rv_str (.cons PL.rv_str (.nil)))
   (case' tr19=>refine' fun F B H=>.cons (.str _ _ rfl) (.cons (.str _ _ rfl) (.nil)))
   (case' x6_7=>refine' PL.rep_tupW ?tl21 ?tz21 ?tv21 ?tr21)
   (case tl21=>k_is)
   (case tz21=>decide)
   (case tv21=>exact .cons PL.rv_str (.cons PL.rv_str (.cons PL.rv_str (.nil))))
   (case' tr21=>refine' fun F B H=>.cons (.str _ _ rfl) (.cons (.str _ _ rfl) (.cons (.str _ _ rfl) (.nil))))
   (case' x6_8=>refine' PL.rep_tupW ?tl23 ?tz23 ?tv23 ?tr23)
   (case tl23=>k_is)
   (case tz23=>decide)
   (case tv23=>exact .cons PL.rv_str (.cons PL.rv_str (.nil)))
   (case' tr23=>refine' fun F B H=>.cons (.str _ _ rfl) (.cons (.str _ _ rfl) (.nil)))
   (case' x6_9=>refine' PL.rep_tupW ?tl25 ?tz25 ?tv25 ?tr25)
   (case tl25=>k_is)
   (case tz25=>decide)
   (case tv25=>exact .cons PL.rv_str (.cons PL.rv_str (.nil)))
   (case' tr25=>refine' fun F B H=>.cons (.str _ _ rfl) (.cons (.str _ _ rfl) (.nil)))
   refine' ⟨⟨rfl,PL.con_dct ?h27 ?l27 ?w27 ?e27 rfl⟩,?y6⟩
   (case h27=>k_is)
   (case l27=>k_is)
   (case w27=>decide)
   (case' e27=>refine' .cons rfl rfl rfl PL.rv_ref ?x27_0 (.cons rfl rfl rfl PL.rv_ref ?x27_1 (.cons rfl rfl rfl PL.rv_ref ?x27_2 (.cons rfl rfl rfl PL.rv_ref ?x27_3 (.cons rfl rfl rfl PL.rv_ref ?x27_4 (.nil))))))
   (case' x27_0=>refine' PL.rep_tupW ?tl28 ?tz28 ?tv28 ?tr28)
   (case tl28=>k_is)
   (case tz28=>decide)
   (case tv28=>exact .cons PL.rv_str (.cons PL.rv_str (.nil)))
   (case' tr28=>refine' fun F B H=>.cons (.str _ _ rfl) (.cons (.str _ _ rfl) (.nil)))
   (case' x27_1=>refine' PL.rep_tupW ?tl30 ?tz30 ?tv30 ?tr30)
   (case tl30=>k_is)
   (case tz30=>decide)
   (case tv30=>exact .cons PL.rv_str (.cons PL.rv_str (.nil)))
   (case' tr30=>refine' fun F B H=>.cons (.str _ _ rfl) (.cons (.str _ _ rfl) (.nil)))
   (case' x27_2=>refine' PL.rep_tupW ?tl32 ?tz32 ?tv32 ?tr32)
   (case tl32=>k_is)
   (case tz32=>decide)
   (case tv32=>exact .cons PL.rv_str (.nil))
   (case' tr32=>refine' fun F B H=>.cons (.str _ _ rfl) (.nil))
   (case' x27_3=>refine' PL.rep_tupW ?tl34 ?tz34 ?tv34 ?tr34)
   (case tl34=>k_is)
   (case tz34=>decide)
   (case tv34=>exact .cons PL.rv_str (.cons PL.rv_str (.nil)))
   (case' tr34=>refine' fun F B H=>.cons (.str _ _ rfl) (.cons (.str _ _ rfl) (.nil)))
   (case' x27_4=>refine' PL.rep_tupW ?tl36 ?tz36 ?tv36 ?tr36)
   (case tl36=>k_is)
   (case tz36=>decide)
   (case tv36=>exact .cons PL.rv_str (.cons PL.rv_str (.nil)))
   (case' tr36=>refine' fun F B H=>.cons (.str _ _ rfl) (.cons (.str _ _ rfl) (.nil)))
   refine' ⟨⟨rfl,PL.con_dct ?h38 ?l38 ?w38 ?e38 rfl⟩,?y7⟩
   (case h38=>k_is)
   (case l38=>k_is)
   (case w38=>decide)
   (case' e38=>refine' .cons rfl rfl rfl PL.rv_ref ?x38_0 (.cons rfl rfl rfl PL.rv_ref ?x38_1 (.cons rfl rfl rfl PL.rv_ref ?x38_2 (.nil))))
   (case' x38_0=>refine' PL.rep_tupW ?tl39 ?tz39 ?tv39 ?tr39)
   (case tl39=>k_is)
   (case tz39=>decide)
   (case tv39=>exact .cons PL.rv_int (.cons PL.rv_int (.nil)))
   (case' tr39=>refine' fun F B H=>.cons (.int _) (.cons (.int _) (.nil)))
   (case' x38_1=>refine' PL.rep_tupW ?tl41 ?tz41 ?tv41 ?tr41)
   (case tl41=>k_is)
   (case tz41=>decide)
   (case tv41=>exact .cons PL.rv_int (.cons PL.rv_int (.nil)))
   (case' tr41=>refine' fun F B H=>.cons (.int _) (.cons (.int _) (.nil)))
   (case' x38_2=>refine' PL.rep_tupW ?tl43 ?tz43 ?tv43 ?tr43)
   (case tl43=>k_is)
   (case tz43=>decide)
   (case tv43=>exact .cons PL.rv_int (.cons PL.rv_int (.nil)))
   (case' tr43=>refine' fun F B H=>.cons (.int _) (.cons (.int _) (.nil)))
   trivial
