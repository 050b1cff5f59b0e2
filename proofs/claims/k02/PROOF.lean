import PyProof.Rows.All
import Wide.All
import OpenK.AllK
import Wide.FinOn
import KE.DataFind
import PyProof.ReprReads
import HandS.Text
import KE.KeyNested
import HandS.ForMost
import HandS.ForExc
import HandS.IsInst
import HandS.ExcIs
import HandS.Style
import HandS.Wide
import HandS.Flow
import KE.DataMinMax
import KE.SortData
import HandS.TupAny
import PyProof.ReprRoads
import HandS.StrMore
import HandS.Zip
import HandS.ExcOwn
import HandS.TupSets
import HandS.SetTxt0
import HandS.Codes
import HandS.Ends
import PyProof.ReprLen
import PyProof.StrLawsRepr
import PySem.Challenge.RW_sourcelabels_k02_sources_and_libraries_j
set_option Elab.async false
/-! Z1: a compact Python subset over pure data, by values: syntax C, denotation denE, denS, callN. -/
namespace Z
open PySem
abbrev D := PyData
abbrev Slots := List (Option D)

/-- how an expression ends: a value, an exception of class number c, or nothing that is told here -/
inductive R (α : Type) where
  | ok (a : α) (ρ : Slots)
  | exn (c : Nat) (ρ : Slots)
  | bad
@[simp] def R.bind {α β : Type} : R α → (α → Slots → R β) → R β
  | .ok a ρ, f => f a ρ
  | .exn c ρ, _ => .exn c ρ
  | .bad, _ => .bad
/-- how a statement ends -/
inductive O where
  | nx (ρ : Slots)
  | ret (d : D) (ρ : Slots)
  | brk (ρ : Slots)
  | cnt (ρ : Slots)
  | exn (c : Nat) (ρ : Slots)
  | bad
/-- how a call ends: the value and the in/out lists' last values -/
inductive CRes where
  | ok (d : D) (outs : List D)
  | exn (c : Nat) (outs : List D)
  | bad

inductive Op where
  | add | sub | mul | fdiv | mod | pow
  deriving DecidableEq
inductive Cm where
  | eq | ne | lt | le | gt | ge | isIn | notIn | is | isNot
  deriving DecidableEq
/-- built-in functions and classes by name -/
inductive Bi where
  | len | max | min | abs | int | str | tuple | list | repr | all | any | sum | sorted | set | range | enumerate | zip | dict | rev
  deriving DecidableEq
/-- methods of built-in types -/
inductive Me where
  | split | join | count | index | get | upper | find | strip
  deriving DecidableEq
/-- what isinstance asks of data -/
inductive Ty where
  | int | bool | str | tuple | list | seq
  deriving DecidableEq

inductive C where
  | nil | cons (a b : C)
  | non | bl (b : Bool) | int (i : Int) | str (s : Str)
  | glob (x : Str)
  | var (i : Nat) | own (i : Nat)
  | op (o : Op) (a b : C)
  | neg (a : C)
  | cmp (o : Cm) (a b : C)
  | chain (o o' : Cm) (a b c : C)
  | tv (a : C) | not (a : C) | and (a b : C) | or (a b : C) | ite (c a b : C)
  | tup (l : C) | lst (l : C) | dic0 | star (a : C)
  | ix (a i : C) | sl (a lo hi : C)
  | call (f : Nat) (l : C) | callk (f : Nat) (pm : List Nat) (l k : C)
  | bi (b : Bi) (l : C)
  | me (m : Me) (a l : C)
  | isi (t : Ty) (a : C)
  | isE (i : Nat) (c : Nat)
  | lc (vs : List Nat) (p it cond e : C)
  | pop (i : Nat) (a : C)
  | sSet (i : Nat) (e : C) | sOwn (i : Nat) (e : C) | sPat (p e : C) | sPar (ps : List Nat) (l : C)
  | sPut (i : Nat) (a e : C) | sApp (i : Nat) (e : C) | sExt (i : Nat) (e : C)
  | sExp (e : C) | sIf (c a b : C) | sFor (p it b : C) | sWhile (c b : C)
  | sRet (e : C) | sRetZ (e : C) | sRetN | sBrk | sCnt | sPass | sRaise (c : Nat)
  | sTry (b : C) (c : Nat) (i : Nat) (h : C)
  deriving DecidableEq

/-! ### data -/
def truth : D → Bool
  | .none => false
  | .bool b => b
  | .int i => i != 0
  | .str x => x.length != 0
  | .list xs => !xs.isEmpty
  | .tuple xs => !xs.isEmpty
  | .dict kvs => !kvs.isEmpty
def truthD : D → Option Bool
  | .str x => if x.length ≤ sizeLine then some (x.length != 0) else none
  | d => some (truth d)
/-- an index of any sign -/
def ixOf (i : Int) (n : Nat) : Option Nat :=
  if 0 ≤ i then (if i < n then some i.toNat else none) else (if -(n : Int) ≤ i then some (i + n).toNat else none)
/-- a slice's end -/
def cutEnd (n d : Nat) : Option Int → Nat
  | none => d
  | some v => if v < 0 then (v + (n : Int)).toNat else min v.toNat n
def cut {α : Type} (xs : List α) (lo hi : Option Int) : List α :=
  (xs.drop (cutEnd xs.length 0 lo)).take (cutEnd xs.length xs.length hi - cutEnd xs.length 0 lo)
def strOfList (l : List Nat) : Str := ⟨l.toArray⟩
def bitsOf (i : Int) : Nat := if i = 0 then 0 else i.natAbs.log2 + 1
def small64 (i : Int) : Bool := decide (-(2 ^ 64) < i) && decide (i < 2 ^ 64)
def opD : Op → D → D → Option D
  | .add, .int i, .int j => some (.int (i + j))
  | .add, .str x, .str y => if x.length + y.length ≤ sizeLine then some (.str (x ++ y)) else none
  | .add, .tuple xs, .tuple ys => if xs.length + ys.length ≤ sizeLine then some (.tuple (xs ++ ys)) else none
  | .add, .list xs, .list ys => if xs.length + ys.length ≤ sizeLine then some (.list (xs ++ ys)) else none
  | .sub, .int i, .int j => some (.int (i - j))
  | .mul, .int i, .int j => if small64 i || small64 j then some (.int (i * j)) else none
  | .mul, .str x, .int j => if 2 ≤ j ∧ j ≤ 100000 ∧ 1 ≤ x.length ∧ x.length * j.toNat ≤ 100000 then some (.str (strOfList (List.replicate j.toNat x.cps.toList).flatten)) else none
  | .fdiv, .int i, .int j => if 0 < j ∧ j.natAbs < 2 ^ 2000 then some (.int (i / j)) else none
  | .mod, .int i, .int j => if 0 < j then some (.int (i % j)) else none
  | .pow, .int i, .int j => if 0 ≤ j ∧ j ≤ 1000 ∧ i.natAbs < 2 ^ 2000 then some (.int (i ^ j.toNat)) else none
  | _, _, _ => none
def okd (d : D) : Bool := d.plain && decide (d.depth ≤ 64)
def strLt (x y : Str) : Bool := decide (x.cps.toList < y.cps.toList)
def isIn : D → D → Option Bool
  | .str x, .str y => some (!(Builtin.Str.occurrences y x 0 y.length 1).isEmpty)
  | d, .list xs => if okd d && okd (.list xs) then some (xs.any fun y => PyData.eqv y d) else none
  | d, .tuple xs => if okd d && okd (.tuple xs) then some (xs.any fun y => PyData.eqv y d) else none
  | _, _ => none
def isNoneD : D → Bool
  | .none => true
  | _ => false
def isBoolD (b : Bool) : D → Bool
  | .bool c => c == b
  | _ => false
def isD : D → D → Option Bool
  | d, .none => some (isNoneD d)
  | d, .bool b => some (isBoolD b d)
  | _, _ => none
/-- a tuple of anything beside the empty one -/
def noneIn : D → D → Option Bool
  | .tuple xs, .tuple [] => some xs.isEmpty
  | .list xs, .list [] => some xs.isEmpty
  | _, _ => none
def eqD (a b : D) : Option Bool := if okd a && okd b then some (PyData.eqv a b) else noneIn a b
def cmpD : Cm → D → D → Option Bool
  | .eq, a, b => eqD a b
  | .ne, a, b => (eqD a b).map (!·)
  | .lt, .int i, .int j => some (decide (i < j))
  | .le, .int i, .int j => some (decide (i ≤ j))
  | .gt, .int i, .int j => some (decide (j < i))
  | .ge, .int i, .int j => some (decide (j ≤ i))
  | .lt, .str i, .str j => some (strLt i j)
  | .le, .str i, .str j => some (!strLt j i)
  | .gt, .str i, .str j => some (strLt j i)
  | .ge, .str i, .str j => some (!strLt i j)
  | .isIn, a, b => isIn a b
  | .notIn, a, b => (isIn a b).map (!·)
  | .is, a, b => isD a b
  | .isNot, a, b => (isD a b).map (!·)
  | _, _, _ => none
def ixD : D → D → Option D
  | .list xs, .int i => (ixOf i xs.length).bind fun k => xs[k]?
  | .tuple xs, .int i => (ixOf i xs.length).bind fun k => xs[k]?
  | .str x, .int i => if x.length ≤ sizeLine then (ixOf i x.cps.toList.length).bind fun k => (x.cps.toList[k]?).map fun c => .str ⟨#[c]⟩ else none
  | _, _ => none
def endD : D → Option (Option Int)
  | .none => some none
  | .int i => some (some i)
  | _ => none
def cutD (d : D) (a b : Option Int) : Option D :=
  match d with
  | .list xs => some (.list (cut xs a b))
  | .tuple xs => some (.tuple (cut xs a b))
  | .str x => if x.length ≤ sizeLine then some (.str (strOfList (cut x.cps.toList a b))) else none
  | _ => none
def slD (d lo hi : D) : Option D :=
  match endD lo, endD hi with
  | some a, some b => cutD d a b
  | _, _ => none
def isiD : Ty → D → Bool
  | .int, .int _ => true
  | .int, .bool _ => true
  | .bool, .bool _ => true
  | .str, .str _ => true
  | .tuple, .tuple _ => true
  | .list, .list _ => true
  | .seq, .tuple _ => true
  | .seq, .list _ => true
  | _, _ => false
/-- what a for walks -/
def items : D → Option (List D)
  | .list xs => some xs
  | .tuple xs => some xs
  | .str x => some (x.cps.toList.map fun c => .str ⟨#[c]⟩)
  | _ => none
def rangeD (lo hi : Int) : List D := (List.range (hi - lo).toNat).map fun (k : Nat) => .int (lo + (k : Int))
def boolsOf : List D → Option (List Bool)
  | [] => some []
  | .bool b :: r => (boolsOf r).map (b :: ·)
  | _ :: _ => none
def intsOf : List D → Option (List Int)
  | [] => some []
  | .int i :: r => (intsOf r).map (i :: ·)
  | _ :: _ => none
def strsOf : List D → Option (List Str)
  | [] => some []
  | .str x :: r => (strsOf r).map (x :: ·)
  | _ :: _ => none
def maxL : Int → List Int → Int
  | m, [] => m
  | m, x :: r => maxL (if x > m then x else m) r
def minL : Int → List Int → Int
  | m, [] => m
  | m, x :: r => minL (if x < m then x else m) r
def in62 (i : Int) : Bool := decide (-(2 ^ 62) ≤ i) && decide (i < 2 ^ 62)
def bLen : D → Option D
  | .list xs => some (.int xs.length)
  | .tuple xs => some (.int xs.length)
  | .str x => if x.length ≤ sizeLine then some (.int x.length) else none
  | _ => none
def bMax2 : D → D → Option D
  | .int i, .int j => some (.int (if j > i then j else i))
  | _, _ => none
def bMin2 : D → D → Option D
  | .int i, .int j => some (.int (if j < i then j else i))
  | _, _ => none
def bMax1 : D → Option D
  | .list xs => match intsOf xs with | some (m :: r) => some (.int (maxL m r)) | _ => none
  | _ => none
def bMin1 : D → Option D
  | .list xs => match intsOf xs with | some (m :: r) => some (.int (minL m r)) | _ => none
  | _ => none
def bAbs : D → Option D
  | .int i => some (.int (if i < 0 then -i else i))
  | _ => none
def bInt : D → Option D
  | .int i => some (.int i)
  | .bool b => some (.int (if b then 1 else 0))
  | _ => none
def bTup : D → Option D
  | .list xs => some (.tuple xs)
  | .tuple xs => some (.tuple xs)
  | _ => none
def bLst : D → Option D
  | .list xs => some (.list xs)
  | .tuple xs => some (.list xs)
  | _ => none
def bAll : D → Option D
  | .list xs => (boolsOf xs).map fun bs => .bool (bs.all id)
  | _ => none
def bAny : D → Option D
  | .list xs => (boolsOf xs).map fun bs => .bool (bs.any id)
  | _ => none
def bSum : D → Option D
  | .list xs => (intsOf xs).map fun ns => .int ns.sum
  | _ => none
def bRng1 : D → Option D
  | .int j => if in62 j then some (.list (rangeD 0 j)) else none
  | _ => none
def bRng2 : D → D → Option D
  | .int i, .int j => if in62 i && in62 j then some (.list (rangeD i j)) else none
  | _, _ => none
mutual
def hasLst : D → Bool
  | .list _ => true
  | .tuple xs => hasLsts xs
  | _ => false
def hasLsts : List D → Bool
  | [] => false
  | x :: xs => hasLst x || hasLsts xs
end
def bRepr (d : D) : Option D := if d.showable && decide (d.depth ≤ 60) && decide (d.shown.length ≤ sizeLine) then some (.str d.shown) else none
mutual
/-- a hashable value as a key -/
def nkey : D → Option NestedKey
  | .none => some .none
  | .bool b => some (.num (if b = true then 1 else 0))
  | .int i => some (.num i)
  | .str x => some (.text x)
  | .tuple xs => (nkeys xs).map .tup
  | _ => none
def nkeys : List D → Option (List NestedKey)
  | [] => some []
  | x :: xs => match nkey x, nkeys xs with
    | some k, some ks => some (k :: ks)
    | _, _ => none
end
def isTxt : D → Bool
  | .str _ => true
  | _ => false
def isTup : D → Bool
  | .tuple _ => true
  | _ => false
def nub : List NestedKey → List NestedKey
  | [] => []
  | k :: r => if k ∈ r then nub r else k :: nub r
/-- the keys that a set of these items is made of: texts alone, or tuples alone -/
def setKeys (xs : List D) : Option (List NestedKey) := if (xs.all isTxt || xs.all isTup) = true then (nkeys xs).bind fun ks => if ks.all (fun k => decide (k.depth ≤ 8)) = true then some ks else none else none
/-- x[::-1] -/
def bRev : D → Option D
  | .list xs => some (.list xs.reverse)
  | .tuple xs => some (.tuple xs.reverse)
  | _ => none
/-- how many items a set may have here: tuples, or texts -/
def limS (q : Bool) : Nat := if q = true then 64 else 4000
/-- len(set(x)) -/
def bNset : D → Option D
  | .tuple xs => (setKeys xs).bind fun ks => if ks.length < limS (!xs.all isTxt) then some (.int ((nub ks).length : Nat)) else none
  | _ => none
def one (f : D → Option D) : List D → Option D
  | [d] => f d
  | _ => none
def oneTwo (f : D → Option D) (g : D → D → Option D) : List D → Option D
  | [d] => f d
  | [d, e] => g d e
  | _ => none
def biD : Bi → List D → Option D
  | .len => one bLen
  | .max => oneTwo bMax1 bMax2
  | .min => oneTwo bMin1 bMin2
  | .abs => one bAbs
  | .int => one bInt
  | .tuple => one bTup
  | .list => one bLst
  | .all => one bAll
  | .any => one bAny
  | .sum => one bSum
  | .range => oneTwo bRng1 bRng2
  | .repr => one bRepr
  | .set => one bNset
  | .rev => one bRev
  | _ => fun _ => none
def firstIx (d : D) : Nat → List D → Option Nat
  | _, [] => none
  | k, y :: r => if PyData.eqv y d then some k else firstIx d (k + 1) r
def mCount : D → D → Option D
  | .list xs, d => if okd d && okd (.list xs) then some (.int (xs.countP fun y => PyData.eqv y d : Nat)) else none
  | _, _ => none
def mIndexL : D → D → Option D
  | .list xs, d => if okd d && okd (.list xs) then (firstIx d 0 xs).map fun k => .int (k : Nat) else none
  | _, _ => none
def mIndexS : D → D → Option D
  | .str x, .str y => match Builtin.Str.occurrences x y 0 x.length 1 with | k :: _ => some (.int (k : Nat)) | [] => none
  | _, _ => none
def mSplit : D → D → Option D
  | .str x, .str y => if (y.length == 0) = false ∧ x.length + 2 ≤ sizeLine then some (.list ((Txt.split x y).map .str)) else none
  | _, _ => none
def joinAll (x : Str) (o : Option (List Str)) : Option D := o.bind fun zs => if (zs.map (·.length)).sum + zs.length * x.length ≤ 16777216 then some (.str (Txt.join x zs)) else none
def mJoin : D → D → Option D
  | .str x, .list ys => joinAll x (strsOf ys)
  | .str x, .tuple ys => joinAll x (strsOf ys)
  | _, _ => none
def meD : Me → D → List D → Option D
  | .split, x => one (mSplit x)
  | .join, x => one (mJoin x)
  | .count, x => one (mCount x)
  | .index, .str x => one (mIndexS (.str x))
  | .index, x => one (mIndexL x)
  | _, _ => fun _ => none

/-- the type whose method it is -/
def meTy : Me → D → Bool
  | .count, .list _ => true
  | .index, .str _ => true
  | .split, .str _ => true
  | .join, .str _ => true
  | .upper, .str _ => true
  | .find, .str _ => true
  | .strip, .str _ => true
  | _, _ => false

/-! ### slots -/
def get (ρ : Slots) (i : Nat) : Option D := (ρ[i]?).bind id
def put (ρ : Slots) (i : Nat) (d : D) : Slots := ρ.set i (some d)
def wipeD (ρ : Slots) : List Nat → Slots
  | [] => ρ
  | v :: vs => (wipeD ρ vs).set v none
/-- the slots vs of ρ as they are in ρ0 -/
def backD (ρ0 ρ : Slots) : List Nat → Slots
  | [] => ρ
  | v :: vs => (backD ρ0 ρ vs).set v ((ρ0[v]?).bind id)
/-- a target takes a value -/
def bindP : C → D → Slots → Option Slots
  | .var i, d, ρ => some (put ρ i d)
  | .tup l, .tuple xs, ρ => bindPs l xs ρ
  | _, _, _ => none
where bindPs : C → List D → Slots → Option Slots
  | .nil, [], ρ => some ρ
  | .cons (.var i) r, d :: ds, ρ => bindPs r ds (put ρ i d)
  | .cons (.tup l) r, (.tuple xs) :: ds, ρ => (bindPs l xs ρ).bind fun ρ' => bindPs r ds ρ'
  | _, _, _ => none
def putAll : Slots → List Nat → List D → Slots
  | ρ, i :: is, d :: ds => putAll (put ρ i d) is ds
  | ρ, _, _ => ρ
/-- an owned slot, named -/
def isOwn : C → Option Nat
  | .own i => some i
  | _ => none
/-- the slots of a call's owned arguments -/
def ownsOf : C → List Nat
  | .cons c r => match isOwn c with | some i => i :: ownsOf r | none => ownsOf r
  | _ => []
/-- the owned arguments' values as they stand when the call begins -/
def fillD (ρ : Slots) : C → List D → Option (List D)
  | .cons c r, d :: ds => match isOwn c with
    | some i => (get ρ i).bind fun e => (fillD ρ r ds).map (e :: ·)
    | none => (fillD ρ r ds).map (d :: ·)
  | .nil, [] => some []
  | _, _ => none

def opt {α : Type} (x : Option α) (ρ : Slots) : R α := match x with | some a => .ok a ρ | none => .bad
def optO (x : Option Slots) : O := match x with | some ρ => .nx ρ | none => .bad
def R.o (x : R D) (f : D → Slots → O) : O := match x with | .ok d ρ => f d ρ | .exn c ρ => .exn c ρ | .bad => .bad
def R.t (x : R Bool) (f : Bool → Slots → O) : O := match x with | .ok d ρ => f d ρ | .exn c ρ => .exn c ρ | .bad => .bad
def O.then (x : O) (f : Slots → O) : O := match x with | .nx ρ => f ρ | y => y
/-- the very same data -/
def beqD : D → D → Bool
  | .none, .none => true
  | .bool a, .bool b => a == b
  | .int a, .int b => a == b
  | .str a, .str b => a == b
  | .list a, .list b => beqDs a b
  | .tuple a, .tuple b => beqDs a b
  | _, _ => false
where beqDs : List D → List D → Bool
  | [], [] => true
  | a :: r, b :: r' => beqD a b && beqDs r r'
  | _, _ => false
/-- an owned list that is walked stays what it was -/
def keepsL (i : Nat) (xs : List D) (ρ : Slots) : Bool := match get ρ i with
  | some (.list ys) => beqD.beqDs ys xs
  | _ => false
def keeps (it : C) (xs : List D) (ρ : Slots) : Bool := match isOwn it with
  | some i => keepsL i xs ρ
  | none => true
/-- a for's turns -/
def turns (chk : Slots → Bool) (f : D → Slots → O) : List D → Slots → O
  | [], ρ => if chk ρ then .nx ρ else .bad
  | d :: ds, ρ => if chk ρ then (match f d ρ with
    | .nx ρ' => turns chk f ds ρ'
    | .cnt ρ' => turns chk f ds ρ'
    | .brk ρ' => .nx ρ'
    | y => y) else .bad
def loop (c : Slots → R Bool) (f : Slots → O) : Nat → Slots → O
  | 0, _ => .bad
  | n + 1, ρ => (c ρ).t fun b ρ' => if b then (match f ρ' with
      | .nx ρ'' => loop c f n ρ''
      | .cnt ρ'' => loop c f n ρ''
      | .brk ρ'' => .nx ρ''
      | y => y) else .nx ρ'
/-- a comprehension's turns: each gives a value, or none where a test says no; nothing may be raised -/
def comps (chk : Slots → Bool) (f : D → Slots → R (Option D)) : List D → Slots → R (List D)
  | [], ρ => if chk ρ then .ok [] ρ else .bad
  | d :: ds, ρ => if chk ρ then (match f d ρ with
    | .ok none ρ' => comps chk f ds ρ'
    | .ok (some y) ρ' => match comps chk f ds ρ' with
      | .ok ys ρ'' => .ok (y :: ys) ρ''
      | _ => .bad
    | _ => .bad) else .bad

abbrev CT := Nat → List D → CRes
/-- the values of a module's names that hold data; how exception classes lie beneath one another; the class of the exception that a suite holds -/
structure Tab where
  gv : Str → Option D
  sub : Nat → Nat → Option Bool
  cur : Option Nat
def Tab.at (T : Tab) (c : Nat) : Tab := { T with cur := some c }

/-- an owned list is read when the operation takes place -/
def fixD (c : C) (d : D) (ρ : Slots) : D := match isOwn c with
  | some i => (get ρ i).getD d
  | none => d
def fixL : C → List D → Slots → List D
  | .cons a r, d :: ds, ρ => fixD a d ρ :: fixL r ds ρ
  | _, ds, _ => ds
def callR (ct : CT) (f : Nat) (l : C) (ds : List D) (ρ : Slots) : R D :=
  match fillD ρ l ds with
  | none => .bad
  | some vs => match ct f vs with
    | .ok d outs => if outs.length = (ownsOf l).length then .ok d (putAll ρ (ownsOf l) outs) else .bad
    | .exn c outs => if outs.length = (ownsOf l).length then .exn c (putAll ρ (ownsOf l) outs) else .bad
    | .bad => .bad
/-- the parameters' values from the written ones -/
def permD (pm : List Nat) (vs : List D) : List D := pm.map fun k => vs.getD k .none
def callP (ct : CT) (f : Nat) (vs : List D) (ρ : Slots) : R D :=
  match ct f vs with
  | .ok d _ => .ok d ρ
  | .exn c _ => .exn c ρ
  | .bad => .bad

mutual
def denE (T : Tab) (ct : CT) : C → Slots → R D
  | .non, ρ => .ok .none ρ
  | .bl b, ρ => .ok (.bool b) ρ
  | .int i, ρ => .ok (.int i) ρ
  | .str s, ρ => .ok (.str s) ρ
  | .glob x, ρ => opt (T.gv x) ρ
  | .var i, ρ => opt (get ρ i) ρ
  | .own i, ρ => opt (get ρ i) ρ
  | .op o a b, ρ => (denE T ct a ρ).bind fun x ρ1 => (denE T ct b ρ1).bind fun y ρ2 => opt (opD o (fixD a x ρ2) (fixD b y ρ2)) ρ2
  | .neg a, ρ => (denE T ct a ρ).bind fun x ρ1 => opt (match x with | .int i => some (.int (-i)) | _ => none) ρ1
  | .cmp o a b, ρ => (denE T ct a ρ).bind fun x ρ1 => (denE T ct b ρ1).bind fun y ρ2 => opt ((cmpD o (fixD a x ρ2) (fixD b y ρ2)).map .bool) ρ2
  | .chain o o' a b c, ρ => (denE T ct a ρ).bind fun x ρ1 => (denE T ct b ρ1).bind fun y ρ2 => (opt (cmpD o x y) ρ2).bind fun k ρ3 =>
      if k then (denE T ct c ρ3).bind fun z ρ4 => opt ((cmpD o' y z).map .bool) ρ4 else .ok (.bool false) ρ3
  | .not a, ρ => (denE T ct a ρ).bind fun x ρ1 => opt (match x with | .bool b => some (.bool (!b)) | _ => none) ρ1
  | .and a b, ρ => (denE T ct a ρ).bind fun x ρ1 => match x with | .bool true => denE T ct b ρ1 | .bool false => .ok (.bool false) ρ1 | _ => .bad
  | .or a b, ρ => (denE T ct a ρ).bind fun x ρ1 => match x with | .bool false => denE T ct b ρ1 | .bool true => .ok (.bool true) ρ1 | _ => .bad
  | .ite c a b, ρ => (denT T ct c ρ).bind fun k ρ1 => if k then denE T ct a ρ1 else denE T ct b ρ1
  | .tup l, ρ => (denL T ct l ρ).bind fun xs ρ1 => if xs.length ≤ sizeLine then .ok (.tuple xs) ρ1 else .bad
  | .lst l, ρ => (denL T ct l ρ).bind fun xs ρ1 => if xs.length ≤ sizeLine then .ok (.list xs) ρ1 else .bad
  | .dic0, ρ => .ok (.dict []) ρ
  | .ix a i, ρ => (denE T ct a ρ).bind fun x ρ1 => (denE T ct i ρ1).bind fun y ρ2 => opt (ixD (fixD a x ρ2) y) ρ2
  | .sl a lo hi, ρ => (denE T ct a ρ).bind fun x ρ1 => (denE T ct lo ρ1).bind fun y ρ2 => (denE T ct hi ρ2).bind fun z ρ3 => opt (slD (fixD a x ρ3) y z) ρ3
  | .call f l, ρ => (denL T ct l ρ).bind fun ds ρ1 => callR ct f l ds ρ1
  | .callk f pm l k, ρ => (denL T ct l ρ).bind fun ds ρ1 => (denL T ct k ρ1).bind fun es ρ2 => callP ct f (permD pm (ds ++ es)) ρ2
  | .bi b l, ρ => (denL T ct l ρ).bind fun ds ρ1 => opt (biD b (fixL l ds ρ1)) ρ1
  | .me m a l, ρ => (denE T ct a ρ).bind fun x ρ1 => if meTy m (fixD a x ρ1) then (denL T ct l ρ1).bind fun ds ρ2 => opt (meD m (fixD a x ρ2) (fixL l ds ρ2)) ρ2 else .bad
  | .isi t a, ρ => (denE T ct a ρ).bind fun x ρ1 => opt (some (.bool (isiD t (fixD a x ρ1)))) ρ1
  | .lc vs p it c e, ρ => (denE T ct it ρ).bind fun x ρ1 => match items x with
      | none => .bad
      | some xs => match comps (keeps it xs) (fun d ρ2 => match bindP p d ρ2 with
          | none => .bad
          | some ρ3 => match denT T ct c ρ3 with
            | .ok k ρ4 => if k then (match denE T ct e ρ4 with
                | .ok y ρ5 => .ok (some y) (wipeD ρ5 vs)
                | _ => .bad) else .ok none (wipeD ρ4 vs)
            | _ => .bad) xs (wipeD ρ1 vs) with
        | .ok ys ρ6 => if ys.length ≤ sizeLine then .ok (.list ys) (backD ρ1 ρ6 vs) else .bad
        | _ => .bad
  | .isE _ c, ρ => opt (T.cur.bind fun x => (T.sub x c).map .bool) ρ
  | .pop i a, ρ => if (get ρ i).isSome then (denE T ct a ρ).bind fun x ρ1 => match x, get ρ1 i with
      | .int k, some (.list xs) => match ixOf k xs.length with
        | some j => match xs[j]? with | some y => .ok y (put ρ1 i (.list (xs.eraseIdx j))) | none => .bad
        | none => .bad
      | _, _ => .bad else .bad
  | _, _ => .bad
def denT (T : Tab) (ct : CT) : C → Slots → R Bool
  | .not a, ρ => (denT T ct a ρ).bind fun k ρ1 => .ok (!k) ρ1
  | .and a b, ρ => (denT T ct a ρ).bind fun k ρ1 => if k then denT T ct b ρ1 else .ok false ρ1
  | .or a b, ρ => (denT T ct a ρ).bind fun k ρ1 => if k then .ok true ρ1 else denT T ct b ρ1
  | .tv a, ρ => (denE T ct a ρ).bind fun d ρ1 => opt (truthD (fixD a d ρ1)) ρ1
  | _, _ => .bad
def denL (T : Tab) (ct : CT) : C → Slots → R (List D)
  | .nil, ρ => .ok [] ρ
  | .cons (.star a) r, ρ => (denE T ct a ρ).bind fun x ρ1 => match items x with
      | some xs => (denL T ct r ρ1).bind fun ys ρ2 => .ok (xs ++ ys) ρ2
      | none => .bad
  | .cons a r, ρ => (denE T ct a ρ).bind fun x ρ1 => (denL T ct r ρ1).bind fun xs ρ2 => .ok (x :: xs) ρ2
  | _, _ => .bad
end

/-- behind a suite: the exception's slot is empty -/
def O.clr (i : Nat) : O → O
  | .nx ρ => .nx (ρ.set i none)
  | .ret d ρ => .ret d (ρ.set i none)
  | .brk ρ => .brk (ρ.set i none)
  | .cnt ρ => .cnt (ρ.set i none)
  | _ => .bad
/-- a while's bound on turns -/
def fuel : Nat := 1152921504606846976
def denS (ct : CT) : Tab → C → Slots → O
  | T, .nil, ρ => .nx ρ
  | T, .cons a r, ρ => (denS ct T a ρ).then fun ρ1 => denS ct T r ρ1
  | T, .sSet i e, ρ => (denE T ct e ρ).o fun d ρ1 => .nx (put ρ1 i d)
  | T, .sOwn i e, ρ => (denE T ct e ρ).o fun d ρ1 => match d with | .list _ => .nx (put ρ1 i d) | _ => .bad
  | T, .sPat p e, ρ => (denE T ct e ρ).o fun d ρ1 => optO (bindP p d ρ1)
  | T, .sPar ps l, ρ => match denL T ct l ρ with
      | .ok ds ρ1 => if ds.length = ps.length then .nx (putAll ρ1 ps ds) else .bad
      | .exn c ρ1 => .exn c ρ1
      | .bad => .bad
  | T, .sPut i a e, ρ => if (get ρ i).isSome then (denE T ct e ρ).o fun d ρ1 => (denE T ct a ρ1).o fun x ρ2 => match x, get ρ2 i with
      | .int k, some (.list xs) => match ixOf k xs.length with
        | some j => .nx (put ρ2 i (.list (xs.set j d)))
        | none => .bad
      | _, _ => .bad else .bad
  | T, .sApp i e, ρ => if (get ρ i).isSome then (denE T ct e ρ).o fun d ρ1 => match get ρ1 i with
      | some (.list xs) => if xs.length < sizeLine then .nx (put ρ1 i (.list (xs ++ [d]))) else .bad
      | _ => .bad else .bad
  | T, .sExt i e, ρ => if (get ρ i).isSome then (denE T ct e ρ).o fun d ρ1 => match get ρ1 i, d with
      | some (.list xs), .list ys => if xs.length + ys.length ≤ sizeLine then .nx (put ρ1 i (.list (xs ++ ys))) else .bad
      | _, _ => .bad else .bad
  | T, .sExp e, ρ => (denE T ct e ρ).o fun _ ρ1 => .nx ρ1
  | T, .sIf c a b, ρ => (denT T ct c ρ).t fun k ρ1 => if k then denS ct T a ρ1 else denS ct T b ρ1
  | T, .sFor p it b, ρ => (denE T ct it ρ).o fun x ρ1 => match items x with
      | none => .bad
      | some xs => turns (keeps it xs) (fun d ρ2 => match bindP p d ρ2 with | none => .bad | some ρ3 => denS ct T b ρ3) xs ρ1
  | T, .sWhile c b, ρ => loop (denT T ct c) (denS ct T b) fuel ρ
  | T, .sRet e, ρ => (denE T ct e ρ).o fun d ρ1 => .ret d ρ1
  | T, .sRetZ e, ρ => (denE T ct e ρ).o fun d ρ1 => match d with | .list _ => .ret d ρ1 | _ => .bad
  | T, .sRetN, ρ => .ret .none ρ
  | T, .sBrk, ρ => .brk ρ
  | T, .sCnt, ρ => .cnt ρ
  | T, .sPass, ρ => .nx ρ
  | T, .sRaise c, ρ => .exn c ρ
  | T, .sTry b c i h, ρ => match denS ct T b ρ with
      | .exn x ρ1 => match T.sub x c with
        | some true => if i < ρ1.length then (denS ct (T.at x) h (ρ1.set i none)).clr i else .bad
        | some false => .exn x ρ1
        | none => .bad
      | y => y
  | _, _, _ => .bad

/-- a def: how many slots, how many parameters, which of them are in/out, whether it hands back a new list, its body -/
structure Fn where
  n : Nat
  np : Nat
  io : List Nat
  fresh : Bool
  body : C
def startD (n : Nat) (ds : List D) : Slots := ds.map some ++ List.replicate (n - ds.length) none
def outsOf (io : List Nat) (ρ : Slots) : List D := io.map fun i => (get ρ i).getD .none
def runFn (T : Tab) (ct : CT) (F : Fn) (ds : List D) : CRes :=
  if ds.length = F.np then (match denS ct T F.body (startD F.n ds) with
    | .nx ρ => .ok .none (outsOf F.io ρ)
    | .ret d ρ => .ok d (outsOf F.io ρ)
    | .exn c ρ => .exn c (outsOf F.io ρ)
    | _ => .bad) else .bad
def callN (T : Tab) (fs : List Fn) : Nat → CT
  | 0, _, _ => .bad
  | k + 1, f, ds => match fs[f]? with
    | none => .bad
    | some F => runFn T (callN T fs k) F ds
end Z

set_option linter.all false
set_option maxRecDepth 100000
namespace Z
open PySem PySem.Spec L2
open PyProof.Rows hiding St

mutual
theorem beqD_eq : ∀ (a b : D), beqD a b = true → a = b
  | .none, .none, _ => rfl
  | .bool a, .bool b, h => by rw [eq_of_beq (show (a == b) = true from h)]
  | .int a, .int b, h => by rw [eq_of_beq (show (a == b) = true from h)]
  | .str a, .str b, h => by rw [eq_of_beq (show (a == b) = true from h)]
  | .list a, .list b, h => by rw [beqDs_eq a b h]
  | .tuple a, .tuple b, h => by rw [beqDs_eq a b h]
  | .dict _, b, h => by cases b <;> cases h
  | .none, .bool _, h | .none, .int _, h | .none, .str _, h | .none, .list _, h | .none, .tuple _, h | .none, .dict _, h => by cases h
  | .bool _, .none, h | .bool _, .int _, h | .bool _, .str _, h | .bool _, .list _, h | .bool _, .tuple _, h | .bool _, .dict _, h => by cases h
  | .int _, .none, h | .int _, .bool _, h | .int _, .str _, h | .int _, .list _, h | .int _, .tuple _, h | .int _, .dict _, h => by cases h
  | .str _, .none, h | .str _, .bool _, h | .str _, .int _, h | .str _, .list _, h | .str _, .tuple _, h | .str _, .dict _, h => by cases h
  | .list _, .none, h | .list _, .bool _, h | .list _, .int _, h | .list _, .str _, h | .list _, .tuple _, h | .list _, .dict _, h => by cases h
  | .tuple _, .none, h | .tuple _, .bool _, h | .tuple _, .int _, h | .tuple _, .str _, h | .tuple _, .list _, h | .tuple _, .dict _, h => by cases h
theorem beqDs_eq : ∀ (a b : List D), beqD.beqDs a b = true → a = b
  | [], [], _ => rfl
  | [], _ :: _, h => by cases h
  | _ :: _, [], h => by cases h
  | a :: r, b :: r', h => by
    have h : (beqD a b && beqD.beqDs r r') = true := h
    rw [Bool.and_eq_true] at h
    rw [beqD_eq a b h.1, beqDs_eq r r' h.2]
end
theorem keepsL_get {i : Nat} {xs : List D} {ρ : Slots} (h : keepsL i xs ρ = true) : get ρ i = some (.list xs) := by
  unfold keepsL at h
  split at h
  · rename_i ys e
    rw [e, beqDs_eq _ _ h]
  · cases h
/-! ### data in the abstract heap, told apart from the addresses in Av -/
mutual
inductive Rp (K : PySem.W.Frag) (Av : Addr → Prop) (H : Hp) : V → D → Prop
  | non : Rp K Av H .non .none
  | bl (b : Bool) : Rp K Av H (.bl b) (.bool b)
  | int (i : Int) : Rp K Av H (.int i) (.int i)
  | str (x : Str) : Rp K Av H (.str x) (.str x)
  | lst {a : Addr} {xs : List V} {ds : List D} : Rd H a (.lst xs) → ¬ Av a → RpAll K Av H xs ds → Rp K Av H (.ref a) (.list ds)
  | lsk {a : Addr} {xs : List V} {ds : List D} : (∀ H', SqL K H' a xs) → RpAll K Av H xs ds → Rp K Av H (.ref a) (.list ds)
  | tup {a : Addr} {xs : List V} {ds : List D} : SqT K H a xs → RpAll K Av H xs ds → Rp K Av H (.ref a) (.tuple ds)
  | dic {a : Addr} : H a = some (.dK []) → ¬ Av a → Rp K Av H (.ref a) (.dict [])
inductive RpAll (K : PySem.W.Frag) (Av : Addr → Prop) (H : Hp) : List V → List D → Prop
  | nil : RpAll K Av H [] []
  | cons {v : V} {vs : List V} {d : D} {ds : List D} : Rp K Av H v d → RpAll K Av H vs ds → RpAll K Av H (v :: vs) (d :: ds)
end
/-- what is tracked stays, but lists at Ow may have changed -/
def Stay (Ow : Addr → Prop) (H H' : Hp) : Prop :=
  ∀ b o, H b = some o → H' b = some o ∨ (Ow b ∧ (∃ xs, o = .lst xs) ∧ ∃ ys, H' b = some (.lst ys))
section
variable {K : PySem.W.Frag} {Av Av' Ow : Addr → Prop} {H H' H'' : Hp} {v : V} {vs : List V} {d : D} {ds : List D}
theorem Stay.refl : Stay Ow H H := fun _ _ e => .inl e
theorem Stay.of_same (s : Same H H') : Stay Ow H H' := fun b o e => .inl (s b o e)
theorem Stay.trans (s : Stay Ow H H') (t : Stay Ow H' H'') : Stay Ow H H'' := fun b o e => by
  rcases s b o e with h | ⟨h1, h2, ys, h3⟩
  · exact t b o h
  · rcases t b _ h3 with h | ⟨_, _, zs, h⟩
    · exact .inr ⟨h1, h2, ys, h⟩
    · exact .inr ⟨h1, h2, zs, h⟩
theorem Stay.mono (s : Stay Ow H H') {Ow' : Addr → Prop} (h : ∀ b, Ow b → Ow' b) : Stay Ow' H H' := fun b o e =>
  (s b o e).imp id fun ⟨x, y⟩ => ⟨h b x, y⟩
theorem Stay.some (s : Stay Ow H H') {b : Addr} (h : ∃ o, H b = some o) : ∃ o, H' b = some o := by
  obtain ⟨o, e⟩ := h
  rcases s b o e with h | ⟨_, _, ys, h⟩
  · exact ⟨_, h⟩
  · exact ⟨_, h⟩
theorem Stay.none (s : Stay Ow H H') {b : Addr} (h : H' b = none) : H b = none := by
  cases e : H b with
  | none => rfl
  | some o =>
    obtain ⟨o', e'⟩ := s.some ⟨o, e⟩
    rw [h] at e'; cases e'
theorem Rd.stay {a : Addr} {xs : List V} (s : Stay Ow H H') (n : ¬ Ow a) (r : Rd H a (.lst xs)) : Rd H' a (.lst xs) := by
  rcases r with r | ⟨o, r⟩
  · rcases s a _ r with h | ⟨h, _⟩
    · exact .inl h
    · exact absurd h n
  · rcases s a _ r with h | ⟨_, ⟨_, h⟩, _⟩
    · exact .inr ⟨o, h⟩
    · cases h
theorem SqT.stay {a : Addr} {xs : List V} (s : Stay Ow H H') (r : SqT K H a xs) : SqT K H' a xs := by
  rcases r with (r | ⟨o, r⟩) | r
  · rcases s a _ r with h | ⟨_, ⟨_, h⟩, _⟩
    · exact .inl (.inl h)
    · cases h
  · rcases s a _ r with h | ⟨_, ⟨_, h⟩, _⟩
    · exact .inl (.inr ⟨o, h⟩)
    · cases h
  · exact .inr r
mutual
theorem Rp.stay (s : Stay Ow H H') (hw : ∀ b, Ow b → Av b) : ∀ {v : V} {d : D}, Rp K Av H v d → Rp K Av H' v d
  | _, _, .non => .non
  | _, _, .bl b => .bl b
  | _, _, .int i => .int i
  | _, _, .str x => .str x
  | _, _, .lst r n q => .lst (Z.Rd.stay s (fun h => n (hw _ h)) r) n (RpAll.stay s hw q)
  | _, _, .lsk r q => .lsk r (RpAll.stay s hw q)
  | _, _, .tup r q => .tup (Z.SqT.stay s r) (RpAll.stay s hw q)
  | _, _, .dic r n => .dic (by rcases s _ _ r with h | ⟨_, ⟨_, h⟩, _⟩; exact h; cases h) n
theorem RpAll.stay (s : Stay Ow H H') (hw : ∀ b, Ow b → Av b) : ∀ {vs : List V} {ds : List D}, RpAll K Av H vs ds → RpAll K Av H' vs ds
  | _, _, .nil => .nil
  | _, _, .cons r q => .cons (Rp.stay s hw r) (RpAll.stay s hw q)
end
mutual
theorem Rp.mono (h : ∀ b, Av' b → Av b) : ∀ {v : V} {d : D}, Rp K Av H v d → Rp K Av' H v d
  | _, _, .non => .non
  | _, _, .bl b => .bl b
  | _, _, .int i => .int i
  | _, _, .str x => .str x
  | _, _, .lst r n q => .lst r (fun z => n (h _ z)) (RpAll.mono h q)
  | _, _, .lsk r q => .lsk r (RpAll.mono h q)
  | _, _, .tup r q => .tup r (RpAll.mono h q)
  | _, _, .dic r n => .dic r fun z => n (h _ z)
theorem RpAll.mono (h : ∀ b, Av' b → Av b) : ∀ {vs : List V} {ds : List D}, RpAll K Av H vs ds → RpAll K Av' H vs ds
  | _, _, .nil => .nil
  | _, _, .cons r q => .cons (Rp.mono h r) (RpAll.mono h q)
end
/-- what is not tracked is in no data -/
theorem Rd.some {a : Addr} {o : HO} (r : Rd H a o) : ∃ u, H a = some u := by
  rcases r with r | ⟨u, r⟩
  · exact ⟨_, r⟩
  · exact ⟨_, r⟩
mutual
theorem Rp.more (h : ∀ b, Av' b → Av b ∨ H b = none) : ∀ {v : V} {d : D}, Rp K Av H v d → Rp K Av' H v d
  | _, _, .non => .non
  | _, _, .bl b => .bl b
  | _, _, .int i => .int i
  | _, _, .str x => .str x
  | _, _, .lst r n q => .lst r (fun z => (h _ z).elim n fun e => by obtain ⟨u, e'⟩ := Rd.some r; rw [e] at e'; cases e') (RpAll.more h q)
  | _, _, .lsk r q => .lsk r (RpAll.more h q)
  | _, _, .tup r q => .tup r (RpAll.more h q)
  | _, _, .dic r n => .dic r fun z => (h _ z).elim n fun e => by rw [r] at e; cases e
theorem RpAll.more (h : ∀ b, Av' b → Av b ∨ H b = none) : ∀ {vs : List V} {ds : List D}, RpAll K Av H vs ds → RpAll K Av' H vs ds
  | _, _, .nil => .nil
  | _, _, .cons r q => .cons (Rp.more h r) (RpAll.more h q)
end
theorem RpAll.length : ∀ {vs : List V} {ds : List D}, RpAll K Av H vs ds → vs.length = ds.length
  | _, _, .nil => rfl
  | _, _, .cons _ q => congrArg (· + 1) (RpAll.length q)
theorem RpAll.append : ∀ {vs ws : List V} {ds es : List D}, RpAll K Av H vs ds → RpAll K Av H ws es → RpAll K Av H (vs ++ ws) (ds ++ es)
  | _, _, _, _, .nil, s => s
  | _, _, _, _, .cons r q, s => .cons r (RpAll.append q s)
theorem RpAll.get : ∀ {vs : List V} {ds : List D} {i : Nat} {d : D}, RpAll K Av H vs ds → ds[i]? = some d → ∃ v, vs[i]? = some v ∧ Rp K Av H v d
  | _, _, _, _, .nil, e => by simp at e
  | _, _, 0, _, .cons r _, e => by simp at e; subst e; exact ⟨_, rfl, r⟩
  | _, _, i + 1, _, .cons _ q, e => by
    obtain ⟨v, h1, h2⟩ := RpAll.get (i := i) q (by simpa using e)
    exact ⟨v, by simpa using h1, h2⟩
theorem RpAll.getV : ∀ {vs : List V} {ds : List D} {i : Nat} {v : V}, RpAll K Av H vs ds → vs[i]? = some v → ∃ d, ds[i]? = some d ∧ Rp K Av H v d
  | _, _, _, _, .nil, e => by simp at e
  | _, _, 0, _, .cons r _, e => by simp at e; subst e; exact ⟨_, rfl, r⟩
  | _, _, i + 1, _, .cons _ q, e => by
    obtain ⟨v, h1, h2⟩ := RpAll.getV (i := i) q (by simpa using e)
    exact ⟨v, by simpa using h1, h2⟩
theorem RpAll.take : ∀ {vs : List V} {ds : List D} (n : Nat), RpAll K Av H vs ds → RpAll K Av H (vs.take n) (ds.take n)
  | _, _, 0, _ => .nil
  | _, _, _ + 1, .nil => .nil
  | _, _, n + 1, .cons r q => .cons r (RpAll.take n q)
theorem RpAll.drop : ∀ {vs : List V} {ds : List D} (n : Nat), RpAll K Av H vs ds → RpAll K Av H (vs.drop n) (ds.drop n)
  | _, _, 0, r => r
  | _, _, _ + 1, .nil => .nil
  | _, _, n + 1, .cons _ q => RpAll.drop n q
theorem RpAll.set : ∀ {vs : List V} {ds : List D} {v : V} {d : D} (i : Nat), Rp K Av H v d → RpAll K Av H vs ds → RpAll K Av H (vs.set i v) (ds.set i d)
  | _, _, _, _, _, _, .nil => .nil
  | _, _, _, _, 0, r, .cons _ q => .cons r q
  | _, _, _, _, i + 1, r, .cons s q => .cons s (RpAll.set i r q)
theorem RpAll.erase : ∀ {vs : List V} {ds : List D} (i : Nat), RpAll K Av H vs ds → RpAll K Av H (vs.eraseIdx i) (ds.eraseIdx i)
  | _, _, _, .nil => .nil
  | _, _, 0, .cons _ q => q
  | _, _, i + 1, .cons s q => .cons s (RpAll.erase i q)
end

/-! ### what the data is at the machine's own heap -/
section
variable {X : Cx} {pins : List (Addr × Obj)} {σ : St} {H : Hp} {s : Shared} {Av : Addr → Prop}
mutual
theorem Rp.reads (I : Inv X pins σ H s) : ∀ {v : V} {d : D} {u : Value}, Rp X.K Av H v d → RelV v u → ∃ as, Reads s.heap u d as
  | _, _, _, .non, r => by cases r; exact ⟨_, .none⟩
  | _, _, _, .bl b, r => by cases r; exact ⟨_, .bool b⟩
  | _, _, _, .int i, r => by obtain ⟨t, rfl⟩ := r; exact ⟨_, .int i t⟩
  | _, _, _, .str x, r => by obtain ⟨t, rfl⟩ := r; exact ⟨_, .str x t⟩
  | _, _, _, .lst hs _ ha, r => by
    cases r
    obtain ⟨its, rv, ⟨o, n, ho, hc, _, hd⟩, _⟩ := I.list (.inl hs)
    obtain ⟨as, hr⟩ := RpAll.reads I ha rv
    exact ⟨_, .list ho hc hd hr⟩
  | _, _, _, .lsk hs ha, r => by
    cases r
    obtain ⟨its, rv, ⟨o, n, ho, hc, _, hd⟩, _⟩ := I.list (hs H)
    obtain ⟨as, hr⟩ := RpAll.reads I ha rv
    exact ⟨_, .list ho hc hd hr⟩
  | _, _, _, .tup hs ha, r => by
    cases r
    obtain ⟨its, rv, ⟨o, ho, hc, n, hd⟩, _⟩ := I.tuple hs
    obtain ⟨as, hr⟩ := RpAll.reads I ha rv
    exact ⟨_, .tuple ho hc hd hr⟩
  | _, _, _, .dic h _, r => by
    cases r
    obtain ⟨_, _, vs, r2, o, es, ep, ho, ⟨hc, _⟩, hd, _, q, _⟩ := I.hok _ _ h
    cases r2
    have e0 : es.toList = [] := by
      generalize es.toList = l at q
      cases q
      rfl
    exact ⟨_, .dict ho hc hd (by rw [e0]; exact .nil) (by rw [e0]; exact .nil)⟩
theorem RpAll.reads (I : Inv X pins σ H s) : ∀ {vs : List V} {ds : List D} {us : List Value}, RpAll X.K Av H vs ds → Vals vs us → ∃ as, ReadsAll s.heap us ds as
  | _, _, _, .nil, r => by cases r; exact ⟨_, .nil⟩
  | _, _, _, .cons h1 h2, r => by
    cases r with
    | cons r1 r2 =>
      obtain ⟨as, q1⟩ := Rp.reads I h1 r1
      obtain ⟨bs, q2⟩ := RpAll.reads I h2 r2
      exact ⟨_, .cons q1 q2⟩
end
mutual
/-- without lists the table of modules is not among what is read -/
theorem Rp.readsS (I : Inv X pins σ H s) : ∀ {v : V} {d : D} {u : Value}, Rp X.K Av H v d → RelV v u → hasLst d = false → ∃ as, Reads s.heap u d as ∧ sysModules ∉ as
  | _, _, _, .non, r, _ => by cases r; exact ⟨_, .none, by simp⟩
  | _, _, _, .bl b, r, _ => by cases r; exact ⟨_, .bool b, by simp⟩
  | _, _, _, .int i, r, _ => by obtain ⟨t, rfl⟩ := r; exact ⟨_, .int i t, by simp⟩
  | _, _, _, .str x, r, _ => by obtain ⟨t, rfl⟩ := r; exact ⟨_, .str x t, by simp⟩
  | _, _, _, .lst hs _ ha, r, h => by simp [hasLst] at h
  | _, _, _, .lsk hs ha, r, h => by simp [hasLst] at h
  | _, _, _, .tup hs ha, r, h => by
    cases r
    obtain ⟨its, rv, ⟨o, ho, hc, n, hd⟩, _⟩ := I.tuple hs
    obtain ⟨as, hr, hn⟩ := RpAll.readsS I ha rv (by simpa only [hasLst] using h)
    exact ⟨_, .tuple ho hc hd hr, hn⟩
  | _, _, _, .dic h _, r, _ => by
    cases r
    obtain ⟨_, ns, vs, r2, o, es, ep, ho, ⟨hc, _⟩, hd, _, q, _⟩ := I.hok _ _ h
    cases r2
    have e0 : es.toList = [] := by
      generalize es.toList = l at q
      cases q
      rfl
    refine ⟨_, .dict ho hc hd (by rw [e0]; exact .nil) (by rw [e0]; exact .nil), ?_⟩
    intro m
    simp only [List.append_nil, List.mem_cons, List.not_mem_nil, or_false] at m
    rw [m] at ns
    simp at ns
theorem RpAll.readsS (I : Inv X pins σ H s) : ∀ {vs : List V} {ds : List D} {us : List Value}, RpAll X.K Av H vs ds → Vals vs us → hasLsts ds = false → ∃ as, ReadsAll s.heap us ds as ∧ sysModules ∉ as
  | _, _, _, .nil, r, _ => by cases r; exact ⟨_, .nil, by simp⟩
  | _, _, _, .cons h1 h2, r, h => by
    simp only [hasLsts, Bool.or_eq_false_iff] at h
    cases r with
    | cons r1 r2 =>
      obtain ⟨as, q1, n1⟩ := Rp.readsS I h1 r1 h.1
      obtain ⟨bs, q2, n2⟩ := RpAll.readsS I h2 r2 h.2
      exact ⟨_, .cons q1 q2, by rw [List.mem_append]; rintro (z | z) <;> contradiction⟩
end
end
end Z

set_option linter.all false
set_option maxRecDepth 100000
namespace Z
open PySem PySem.Spec L2
open PyProof.Rows hiding St

/-- what a body's run is told by: the written part, the owned slots, the in/out slots with their lists, the addresses that the callers own, the heap at the entry, what must stay -/
structure Par where
  K : PySem.W.Frag
  own : List Nat
  io : List (Nat × Addr)
  A0 : Addr → Prop
  H0 : Hp
  pin : List (V × D)
  xs : List (Nat × Addr)
def ow (p : Par) (σ : St) : Addr → Prop := fun b => ∃ i, i ∈ p.own ∧ σ[i]? = some (some (.ref b))
def av (p : Par) (σ : St) : Addr → Prop := fun b => p.A0 b ∨ ow p σ b
structure SR (p : Par) (σ : St) (H : Hp) (ρ : Slots) : Prop where
  ln : σ.length = ρ.length
  va : ∀ i d, i ∉ p.own → get ρ i = some d → ∃ v, σ[i]? = some (some v) ∧ Rp p.K (av p σ) H v d
  oi : ∀ i v, i ∈ p.own → σ[i]? = some (some v) → ∃ d, get ρ i = some d
  ov : ∀ i d, i ∈ p.own → get ρ i = some d → ∃ a xs ds, d = .list ds ∧ σ[i]? = some (some (.ref a)) ∧ H a = some (.lst xs) ∧ RpAll p.K (av p σ) H xs ds ∧ (p.H0 a = none ∨ (i, a) ∈ p.io)
  dj : ∀ i j a, i ∈ p.own → j ∈ p.own → σ[i]? = some (some (.ref a)) → σ[j]? = some (some (.ref a)) → i = j
  st : Stay (fun b => ∃ i, (i, b) ∈ p.io) p.H0 H
  ios : ∀ q ∈ p.io, q.1 ∈ p.own ∧ σ[q.1]? = some (some (.ref q.2))
  a0 : ∀ b, p.A0 b → ∃ o, H b = some o
  pn : ∀ q ∈ p.pin, Rp p.K (av p σ) H q.1 q.2
  xh : ∀ q ∈ p.xs, σ[q.1]? = some (some (.ref q.2))
/-- one more address that all else keeps away from -/
abbrev Par.with (p : Par) (a : Addr) : Par := { p with A0 := fun b => p.A0 b ∨ b = a }
section
variable {p : Par} {σ : St} {H H' H1 : Hp} {ρ : Slots}
theorem ow_av : ∀ b, ow p σ b → av p σ b := fun _ h => .inr h
theorem SR.same (S : SR p σ H ρ) (e : Same H H') : SR p σ H' ρ where
  ln := S.ln
  va := fun i d hi hd => by
    obtain ⟨v, h1, h2⟩ := S.va i d hi hd
    exact ⟨v, h1, h2.stay (Stay.of_same e) ow_av⟩
  oi := S.oi
  ov := fun i d hi hd => by
    obtain ⟨a, xs, ds, h1, h2, h3, h4, h5⟩ := S.ov i d hi hd
    exact ⟨a, xs, ds, h1, h2, e _ _ h3, RpAll.stay (Stay.of_same e) ow_av h4, h5⟩
  dj := S.dj
  st := S.st.trans (Stay.of_same e)
  ios := S.ios
  a0 := fun b h => by
    obtain ⟨o, q⟩ := S.a0 b h
    exact ⟨o, e _ _ q⟩
  pn := fun q hq => (S.pn q hq).stay (Stay.of_same e) ow_av
  xh := S.xh
/-- what an own address holds -/
theorem SR.owd (S : SR p σ H ρ) {b : Addr} (h : ow p σ b) : ∃ xs, H b = some (.lst xs) := by
  obtain ⟨i, hi, e⟩ := h
  obtain ⟨d, hd⟩ := S.oi i _ hi e
  obtain ⟨a, xs, ds, _, h2, h3, _⟩ := S.ov i d hi hd
  rw [e] at h2; cases h2
  exact ⟨xs, h3⟩
theorem SR.avd (S : SR p σ H ρ) {b : Addr} (h : av p σ b) : ∃ o, H b = some o := by
  rcases h with h | h
  · exact S.a0 b h
  · obtain ⟨xs, e⟩ := S.owd h
    exact ⟨_, e⟩
theorem SR.fresh (S : SR p σ H ρ) {b : Addr} (h : H b = none) : ¬ av p σ b := fun z => by
  obtain ⟨o, e⟩ := S.avd z
  rw [h] at e; cases e

/-- what an expression hands back: the data; a new list where fr says so -/
def Got (p : Par) (σ : St) (H H' : Hp) (fr : Bool) (v : V) (d : D) : Prop :=
  Rp p.K (av p σ) H' v d ∧ (fr = true → ∀ ds, d = .list ds → ∃ a xs, v = .ref a ∧ H a = none ∧ H' a = some (.lst xs) ∧ RpAll p.K (fun b => av p σ b ∨ b = a) H' xs ds)
theorem Got.from (s : Stay (ow p σ) H H1) {fr : Bool} {v : V} {d : D} (g : Got p σ H1 H' fr v d) : Got p σ H H' fr v d :=
  ⟨g.1, fun h ds e => by
    obtain ⟨a, xs, h1, h2, h3⟩ := g.2 h ds e
    exact ⟨a, xs, h1, s.none h2, h3⟩⟩
theorem Got.no {v : V} {d : D} (h : Rp p.K (av p σ) H' v d) : Got p σ H H' false v d := ⟨h, fun z => Bool.noConfusion z⟩
end
/-- what is wished of an exception -/
abbrev Wh := Nat → St → Hp → Prop
/-- what a call's or an operation's argument is: an owned list as it is named, or data -/
def Arg (p : Par) (σ : St) (H : Hp) (c : C) (v : V) (d : D) : Prop := match isOwn c with
  | some i => i ∈ p.own ∧ σ[i]? = some (some v)
  | none => Rp p.K (av p σ) H v d
def ArgAll (p : Par) (σ : St) (H : Hp) : C → List V → List D → Prop
  | .cons c r, v :: vs, d :: ds => Arg p σ H c v d ∧ ArgAll p σ H r vs ds
  | .nil, [], [] => True
  | _, _, _ => False
/-- an operation's argument: data, or any list of data -/
def Ra (K : PySem.W.Frag) (Av : Addr → Prop) (H : Hp) (v : V) (d : D) : Prop :=
  Rp K Av H v d ∨ ∃ a xs ds, v = .ref a ∧ d = .list ds ∧ SqL K H a xs ∧ RpAll K Av H xs ds
abbrev GT := St → Hp → Hp → V → D → Prop
def tG (p : Par) (W : Wh) (G : GT) (f : Slots → R D) : TE := fun σ H Q => ∃ ρ, SR p σ H ρ ∧
  match f ρ with
  | .ok d ρ' => ∀ v H', SR p σ H' ρ' → Stay (ow p σ) H H' → G σ H H' v d → Q v H'
  | .exn c ρ' => ∀ H', SR p σ H' ρ' → Stay (ow p σ) H H' → W c σ H'
  | .bad => False
abbrev gX (p : Par) (fr : Bool) : GT := fun σ H H' v d => Got p σ H H' fr v d
abbrev gY (p : Par) (c : C) : GT := fun σ _ H' v d => Arg p σ H' c v d
abbrev tX (p : Par) (W : Wh) (fr : Bool) (f : Slots → R D) : TE := tG p W (gX p fr) f
abbrev tY (p : Par) (W : Wh) (c : C) (f : Slots → R D) : TE := tG p W (gY p c) f
/-- what may be told from an earlier heap -/
def Frm (p : Par) (G : GT) : Prop := ∀ σ H H1 H' v d, Stay (ow p σ) H H1 → G σ H1 H' v d → G σ H H' v d
theorem frmX {p : Par} {fr : Bool} : Frm p (gX p fr) := fun _ _ _ _ _ _ s g => g.from s
theorem frmY {p : Par} {c : C} : Frm p (gY p c) := fun _ _ _ _ _ _ _ g => g
abbrev GL := St → Hp → List V → List D → Prop
def tAG (p : Par) (W : Wh) (G : GL) (f : Slots → R (List D)) : TA := fun σ H Q => ∃ ρ, SR p σ H ρ ∧
  match f ρ with
  | .ok ds ρ' => ∀ vs H', SR p σ H' ρ' → Stay (ow p σ) H H' → G σ H' vs ds → Q vs H'
  | .exn c ρ' => ∀ H', SR p σ H' ρ' → Stay (ow p σ) H H' → W c σ H'
  | .bad => False
abbrev gL (p : Par) : GL := fun σ H vs ds => RpAll p.K (av p σ) H vs ds
abbrev gA (p : Par) (l : C) : GL := fun σ H vs ds => ArgAll p σ H l vs ds
def tB (p : Par) (W : Wh) (f : Slots → R Bool) : TT := fun σ H Q => ∃ ρ, SR p σ H ρ ∧
  match f ρ with
  | .ok d ρ' => ∀ H', SR p σ H' ρ' → Stay (ow p σ) H H' → Q d H'
  | .exn c ρ' => ∀ H', SR p σ H' ρ' → Stay (ow p σ) H H' → W c σ H'
  | .bad => False
/-- a new list that is in nothing else -/
def tZ (p : Par) (W : Wh) (f : Slots → R D) : TE := fun σ H Q => ∃ ρ, SR p σ H ρ ∧
  match f ρ with
  | .ok d ρ' => ∃ ds, d = .list ds ∧ ∀ a xs H', SR p σ H' ρ' → SR (p.with a) σ H' ρ' → Stay (ow p σ) H H' → H a = none → H' a = some (.lst xs) → RpAll p.K (fun b => av p σ b ∨ b = a) H' xs ds → Q (.ref a) H'
  | .exn c ρ' => ∀ H', SR p σ H' ρ' → Stay (ow p σ) H H' → W c σ H'
  | .bad => False
section
variable {p : Par} {W : Wh} {σ : St} {H : Hp} {Q : VK} {QB : Bool → Hp → Prop} {QL : List V → Hp → Prop}

variable {G G' : GT} {L L' : GL}
theorem tG.bind {f : Slots → R D} {k : D → Slots → R D} (hG : Frm p G') (m : tG p W G' (fun ρ => (f ρ).bind k) σ H Q) :
    tG p W G f σ H fun x H1 => ∃ d, Stay (ow p σ) H H1 ∧ G σ H H1 x d ∧ tG p W G' (k d) σ H1 Q := by
  obtain ⟨ρ, S, m⟩ := m
  refine ⟨ρ, S, ?_⟩
  cases hf : f ρ with
  | ok d ρ1 =>
    simp only [hf, R.bind] at m
    intro v H1 S1 s1 g1
    refine ⟨d, s1, g1, ρ1, S1, ?_⟩
    cases hk : k d ρ1 with
    | ok e ρ2 => simp only [hk] at m; exact fun v' H2 S2 s2 g2 => m v' H2 S2 (s1.trans s2) (hG _ _ _ _ _ _ s1 g2)
    | exn c ρ2 => simp only [hk] at m; exact fun H2 S2 s2 => m H2 S2 (s1.trans s2)
    | bad => simp only [hk] at m
  | exn c ρ1 => simp only [hf, R.bind] at m; exact m
  | bad => simp only [hf, R.bind] at m
theorem tB.bind {f : Slots → R D} {k : D → Slots → R Bool} (m : tB p W (fun ρ => (f ρ).bind k) σ H QB) :
    tG p W G f σ H fun x H1 => ∃ d, Stay (ow p σ) H H1 ∧ G σ H H1 x d ∧ tB p W (k d) σ H1 QB := by
  obtain ⟨ρ, S, m⟩ := m
  refine ⟨ρ, S, ?_⟩
  cases hf : f ρ with
  | ok d ρ1 =>
    simp only [hf, R.bind] at m
    intro v H1 S1 s1 g1
    refine ⟨d, s1, g1, ρ1, S1, ?_⟩
    cases hk : k d ρ1 with
    | ok e ρ2 => simp only [hk] at m; exact fun H2 S2 s2 => m H2 S2 (s1.trans s2)
    | exn c ρ2 => simp only [hk] at m; exact fun H2 S2 s2 => m H2 S2 (s1.trans s2)
    | bad => simp only [hk] at m
  | exn c ρ1 => simp only [hf, R.bind] at m; exact m
  | bad => simp only [hf, R.bind] at m
theorem tG.bindB {f : Slots → R Bool} {k : Bool → Slots → R D} (hG : Frm p G') (m : tG p W G' (fun ρ => (f ρ).bind k) σ H Q) :
    tB p W f σ H fun b H1 => Stay (ow p σ) H H1 ∧ tG p W G' (k b) σ H1 Q := by
  obtain ⟨ρ, S, m⟩ := m
  refine ⟨ρ, S, ?_⟩
  cases hf : f ρ with
  | ok d ρ1 =>
    simp only [hf, R.bind] at m
    intro H1 S1 s1
    refine ⟨s1, ρ1, S1, ?_⟩
    cases hk : k d ρ1 with
    | ok e ρ2 => simp only [hk] at m; exact fun v' H2 S2 s2 g2 => m v' H2 S2 (s1.trans s2) (hG _ _ _ _ _ _ s1 g2)
    | exn c ρ2 => simp only [hk] at m; exact fun H2 S2 s2 => m H2 S2 (s1.trans s2)
    | bad => simp only [hk] at m
  | exn c ρ1 => simp only [hf, R.bind] at m; exact m
  | bad => simp only [hf, R.bind] at m
theorem tB.bindB {f : Slots → R Bool} {k : Bool → Slots → R Bool} (m : tB p W (fun ρ => (f ρ).bind k) σ H QB) :
    tB p W f σ H fun b H1 => Stay (ow p σ) H H1 ∧ tB p W (k b) σ H1 QB := by
  obtain ⟨ρ, S, m⟩ := m
  refine ⟨ρ, S, ?_⟩
  cases hf : f ρ with
  | ok d ρ1 =>
    simp only [hf, R.bind] at m
    intro H1 S1 s1
    refine ⟨s1, ρ1, S1, ?_⟩
    cases hk : k d ρ1 with
    | ok e ρ2 => simp only [hk] at m; exact fun H2 S2 s2 => m H2 S2 (s1.trans s2)
    | exn c ρ2 => simp only [hk] at m; exact fun H2 S2 s2 => m H2 S2 (s1.trans s2)
    | bad => simp only [hk] at m
  | exn c ρ1 => simp only [hf, R.bind] at m; exact m
  | bad => simp only [hf, R.bind] at m
theorem tG.bindL {f : Slots → R (List D)} {k : List D → Slots → R D} (hG : Frm p G') (m : tG p W G' (fun ρ => (f ρ).bind k) σ H Q) :
    tAG p W L f σ H fun xs H1 => ∃ d, Stay (ow p σ) H H1 ∧ L σ H1 xs d ∧ tG p W G' (k d) σ H1 Q := by
  obtain ⟨ρ, S, m⟩ := m
  refine ⟨ρ, S, ?_⟩
  cases hf : f ρ with
  | ok d ρ1 =>
    simp only [hf, R.bind] at m
    intro v H1 S1 s1 g1
    refine ⟨d, s1, g1, ρ1, S1, ?_⟩
    cases hk : k d ρ1 with
    | ok e ρ2 => simp only [hk] at m; exact fun v' H2 S2 s2 g2 => m v' H2 S2 (s1.trans s2) (hG _ _ _ _ _ _ s1 g2)
    | exn c ρ2 => simp only [hk] at m; exact fun H2 S2 s2 => m H2 S2 (s1.trans s2)
    | bad => simp only [hk] at m
  | exn c ρ1 => simp only [hf, R.bind] at m; exact m
  | bad => simp only [hf, R.bind] at m
theorem tAG.bind {f : Slots → R D} {k : D → Slots → R (List D)} (m : tAG p W L (fun ρ => (f ρ).bind k) σ H QL) :
    tG p W G f σ H fun x H1 => ∃ d, Stay (ow p σ) H H1 ∧ G σ H H1 x d ∧ tAG p W L (k d) σ H1 QL := by
  obtain ⟨ρ, S, m⟩ := m
  refine ⟨ρ, S, ?_⟩
  cases hf : f ρ with
  | ok d ρ1 =>
    simp only [hf, R.bind] at m
    intro v H1 S1 s1 g1
    refine ⟨d, s1, g1, ρ1, S1, ?_⟩
    cases hk : k d ρ1 with
    | ok e ρ2 => simp only [hk] at m; exact fun v' H2 S2 s2 g2 => m v' H2 S2 (s1.trans s2) g2
    | exn c ρ2 => simp only [hk] at m; exact fun H2 S2 s2 => m H2 S2 (s1.trans s2)
    | bad => simp only [hk] at m
  | exn c ρ1 => simp only [hf, R.bind] at m; exact m
  | bad => simp only [hf, R.bind] at m
theorem tAG.bindL {f : Slots → R (List D)} {k : List D → Slots → R (List D)} (m : tAG p W L (fun ρ => (f ρ).bind k) σ H QL) :
    tAG p W L' f σ H fun xs H1 => ∃ d, Stay (ow p σ) H H1 ∧ L' σ H1 xs d ∧ tAG p W L (k d) σ H1 QL := by
  obtain ⟨ρ, S, m⟩ := m
  refine ⟨ρ, S, ?_⟩
  cases hf : f ρ with
  | ok d ρ1 =>
    simp only [hf, R.bind] at m
    intro v H1 S1 s1 g1
    refine ⟨d, s1, g1, ρ1, S1, ?_⟩
    cases hk : k d ρ1 with
    | ok e ρ2 => simp only [hk] at m; exact fun v' H2 S2 s2 g2 => m v' H2 S2 (s1.trans s2) g2
    | exn c ρ2 => simp only [hk] at m; exact fun H2 S2 s2 => m H2 S2 (s1.trans s2)
    | bad => simp only [hk] at m
  | exn c ρ1 => simp only [hf, R.bind] at m; exact m
  | bad => simp only [hf, R.bind] at m
theorem tG.mono {Q' : VK} {f : Slots → R D} (m : tG p W G f σ H Q) (h : ∀ v H', Q v H' → Q' v H') : tG p W G f σ H Q' := by
  obtain ⟨ρ, S, m⟩ := m
  refine ⟨ρ, S, ?_⟩
  cases hf : f ρ with
  | ok d ρ1 => simp only [hf] at m; exact fun v H' S' s g => h v H' (m v H' S' s g)
  | exn c ρ1 => simp only [hf] at m; exact m
  | bad => simp only [hf] at m
/-- more may be told of the value -/
theorem tG.weak {f : Slots → R D} (m : tG p W G f σ H Q) (h : ∀ H' v d, G' σ H H' v d → G σ H H' v d) : tG p W G' f σ H Q := by
  obtain ⟨ρ, S, m⟩ := m
  refine ⟨ρ, S, ?_⟩
  cases hf : f ρ with
  | ok d ρ1 => simp only [hf] at m; exact fun v H' S' s g => m v H' S' s (h H' v d g)
  | exn c ρ1 => simp only [hf] at m; exact m
  | bad => simp only [hf] at m
theorem tB.mono {Q' : Bool → Hp → Prop} {f : Slots → R Bool} (m : tB p W f σ H QB) (h : ∀ v H', QB v H' → Q' v H') : tB p W f σ H Q' := by
  obtain ⟨ρ, S, m⟩ := m
  refine ⟨ρ, S, ?_⟩
  cases hf : f ρ with
  | ok d ρ1 => simp only [hf] at m; exact fun H' S' s => h d H' (m H' S' s)
  | exn c ρ1 => simp only [hf] at m; exact m
  | bad => simp only [hf] at m
theorem tAG.mono {Q' : List V → Hp → Prop} {f : Slots → R (List D)} (m : tAG p W L f σ H QL) (h : ∀ v H', QL v H' → Q' v H') : tAG p W L f σ H Q' := by
  obtain ⟨ρ, S, m⟩ := m
  refine ⟨ρ, S, ?_⟩
  cases hf : f ρ with
  | ok d ρ1 => simp only [hf] at m; exact fun v H' S' s g => h v H' (m v H' S' s g)
  | exn c ρ1 => simp only [hf] at m; exact m
  | bad => simp only [hf] at m

/-- the end of an expression that only reads: the value, the heap may have grown -/
theorem tG.opt {o : Slots → Option D} (m : tG p W G (fun ρ => opt (o ρ) ρ) σ H Q) : ∃ ρ d, SR p σ H ρ ∧ o ρ = some d ∧ ∀ v H', Same H H' → G σ H H' v d → Q v H' := by
  obtain ⟨ρ, S, m⟩ := m
  cases e : o ρ with
  | none => simp only [e, Z.opt] at m
  | some d => simp only [e, Z.opt] at m; exact ⟨ρ, d, S, e, fun v H' s g => m v H' (S.same s) (Stay.of_same s) g⟩
theorem tG.ok {d : D} (m : tG p W G (fun ρ => .ok d ρ) σ H Q) : ∃ ρ, SR p σ H ρ ∧ ∀ v H', Same H H' → G σ H H' v d → Q v H' := by
  obtain ⟨ρ, S, m⟩ := m
  exact ⟨ρ, S, fun v H' s g => m v H' (S.same s) (Stay.of_same s) g⟩
theorem tB.opt {o : Slots → Option Bool} (m : tB p W (fun ρ => opt (o ρ) ρ) σ H QB) : ∃ ρ d, SR p σ H ρ ∧ o ρ = some d ∧ ∀ H', Same H H' → QB d H' := by
  obtain ⟨ρ, S, m⟩ := m
  cases e : o ρ with
  | none => simp only [e, Z.opt] at m
  | some d => simp only [e, Z.opt] at m; exact ⟨ρ, d, S, e, fun H' s => m H' (S.same s) (Stay.of_same s)⟩
theorem tB.ok {d : Bool} (m : tB p W (fun ρ => .ok d ρ) σ H QB) : ∃ ρ, SR p σ H ρ ∧ ∀ H', Same H H' → QB d H' := by
  obtain ⟨ρ, S, m⟩ := m
  exact ⟨ρ, S, fun H' s => m H' (S.same s) (Stay.of_same s)⟩
theorem tAG.ok {d : List D} (m : tAG p W L (fun ρ => .ok d ρ) σ H QL) : ∀ vs, L σ H vs d → QL vs H := by
  obtain ⟨ρ, S, m⟩ := m
  exact fun vs g => m vs H S Stay.refl g
end
/-- a new list of data that stood -/
theorem Got.new {p : Par} {σ : St} {H H' : Hp} {fr : Bool} {a : Addr} {xs : List V} {ds : List D} (hn : H a = none) (na : ¬ av p σ a) (s : Same H H') (ha : H' a = some (.lst xs)) (r : RpAll p.K (av p σ) H xs ds) :
    Got p σ H H' fr (.ref a) (.list ds) :=
  ⟨.lst (Rd.of ha) na (RpAll.stay (Stay.of_same s) ow_av r), fun _ es e => by
    cases e
    refine ⟨a, xs, rfl, hn, ha, RpAll.stay (Stay.of_same s) (fun b h => .inl (ow_av b h)) (RpAll.more (fun b h => ?_) r)⟩
    rcases h with h | h
    · exact .inl h
    · exact .inr (by rw [h]; exact hn)⟩
section
variable {p : Par} {σ : St} {H H' : Hp} {ρ : Slots} {c : C} {v : V} {d : D}
theorem Rp.ra {K : PySem.W.Frag} {Av : Addr → Prop} (h : Rp K Av H v d) : Ra K Av H v d := .inl h
/-- an argument at the operation -/
theorem Arg.ra (a : Arg p σ H c v d) (s : Stay (ow p σ) H H') (S : SR p σ H' ρ) : Ra p.K (av p σ) H' v (fixD c d ρ) := by
  unfold Arg at a
  unfold fixD
  cases h : isOwn c with
  | some i =>
    rw [h] at a
    obtain ⟨hi, e⟩ := a
    obtain ⟨d', hd⟩ := S.oi i v hi e
    obtain ⟨b, xs, ds, h1, h2, h3, h4, _⟩ := S.ov i d' hi hd
    rw [e] at h2; cases h2
    refine .inr ⟨b, xs, ds, rfl, ?_, .inl (Rd.of h3), h4⟩
    show (get ρ i).getD d = .list ds
    rw [hd, h1]; rfl
  | none =>
    rw [h] at a
    exact .inl (Rp.stay s ow_av a)
theorem Ra.same {K : PySem.W.Frag} {Av : Addr → Prop} (s : Same H H') (r : Ra K Av H v d) : Ra K Av H' v d := by
  rcases r with r | ⟨a, xs, ds, h1, h2, h3, h4⟩
  · exact .inl (Rp.stay (Ow := fun _ => False) (Stay.of_same s) (fun _ h => h.elim) r)
  · refine .inr ⟨a, xs, ds, h1, h2, Same.seq s h3, RpAll.stay (Ow := fun _ => False) (Stay.of_same s) (fun _ h => h.elim) h4⟩
end
/-- a reading that asks more -/
theorem pe_imp {X : Cx} {e : Expr} {t t' : TE} (h : PE X e t) (i : ∀ σ H Q, t' σ H Q → t σ H Q) : PE X e t' := ⟨fun pins s σ H Q I q => h.run pins s σ H Q I (i σ H Q q)⟩
theorem pt_imp {X : Cx} {e : Expr} {t t' : TT} (h : PT X e t) (i : ∀ σ H Q, t' σ H Q → t σ H Q) : PT X e t' := ⟨fun pins s σ H Q I q => h.run pins s σ H Q I (i σ H Q q)⟩
theorem pw_imp {X : Cx} {e : Expr} {t t' : TT} (h : PW X e t) (i : ∀ σ H Q, t' σ H Q → t σ H Q) : PW X e t' := ⟨fun wh pins s σ H Q I q => h.run wh pins s σ H Q I (i σ H Q q)⟩
theorem pa_imp {X : Cx} {e : List Expr} {t t' : TA} (h : PA X e t) (i : ∀ σ H Q, t' σ H Q → t σ H Q) : PA X e t' := ⟨fun po pins s σ H Q I q => h.run po pins s σ H Q I (i σ H Q q)⟩
theorem ps_imp {X : Cx} {e : Stmt} {t t' : TS} (h : PS X e t) (i : ∀ D σ H, t' D σ H → t D σ H) : PS X e t' := ⟨fun pins s σ H D I q => h.run pins s σ H D I (i D σ H q)⟩
theorem pss_imp {X : Cx} {e : List Stmt} {t t' : TS} (h : PSs X e t) (i : ∀ D σ H, t' D σ H → t D σ H) : PSs X e t' := ⟨fun pins s σ H D I q => h.run pins s σ H D I (i D σ H q)⟩
end Z

set_option linter.all false
set_option maxRecDepth 100000
set_option maxHeartbeats 1000000
namespace Z
open PySem PySem.Spec L2
open PyProof.Rows hiding St

/-! ### operations on data by the machine -/
def New (K : PySem.W.Frag) (Av : Addr → Prop) (H H' : Hp) (w : V) (z : D) : Prop :=
  Rp K Av H' w z ∧ ∀ ds, z = .list ds → ∃ a xs, w = .ref a ∧ H a = none ∧ H' a = some (.lst xs) ∧ RpAll K Av H xs ds
abbrev QN (K : PySem.W.Frag) (Av : Addr → Prop) (H : Hp) (z : D) : VK := fun w H' => Same H H' ∧ New K Av H H' w z
/-- free addresses are no one's -/
abbrev Fre (Av : Addr → Prop) (H : Hp) : Prop := ∀ b, H b = none → ¬ Av b
section
variable {K : PySem.W.Frag} {Av : Addr → Prop} {H : Hp} {v : V}
theorem Ra.non (r : Ra K Av H v .none) : v = .non := by
  rcases r with r | ⟨_, _, _, _, h, _⟩
  · cases r; rfl
  · cases h
theorem Ra.bl {b : Bool} (r : Ra K Av H v (.bool b)) : v = .bl b := by
  rcases r with r | ⟨_, _, _, _, h, _⟩
  · cases r; rfl
  · cases h
theorem Ra.int {i : Int} (r : Ra K Av H v (.int i)) : v = .int i := by
  rcases r with r | ⟨_, _, _, _, h, _⟩
  · cases r; rfl
  · cases h
theorem Ra.str {x : Str} (r : Ra K Av H v (.str x)) : v = .str x := by
  rcases r with r | ⟨_, _, _, _, h, _⟩
  · cases r; rfl
  · cases h
theorem Ra.lst {ds : List D} (r : Ra K Av H v (.list ds)) : ∃ a xs, v = .ref a ∧ SqL K H a xs ∧ RpAll K Av H xs ds := by
  rcases r with r | ⟨a, xs, _, rfl, h, h1, h2⟩
  · cases r with
    | lst h1 _ h2 => exact ⟨_, _, rfl, .inl h1, h2⟩
    | lsk h1 h2 => exact ⟨_, _, rfl, h1 H, h2⟩
  · cases h; exact ⟨a, xs, rfl, h1, h2⟩
theorem Ra.tup {ds : List D} (r : Ra K Av H v (.tuple ds)) : ∃ a xs, v = .ref a ∧ SqT K H a xs ∧ RpAll K Av H xs ds := by
  rcases r with r | ⟨_, _, _, _, h, _⟩
  · cases r with
    | tup h1 h2 => exact ⟨_, _, rfl, h1, h2⟩
  · cases h
theorem same_upd {p : Addr} {o : HO} (h : H p = none) : Same H (upd H p o) := fun b u e => by rw [upd_ne (ne_of_none e h)]; exact e
theorem Rp.same {H' : Hp} {d : D} (s : Same H H') (r : Rp K Av H v d) : Rp K Av H' v d := Rp.stay (Ow := fun _ => False) (Stay.of_same s) (fun _ h => h.elim) r
theorem RpAll.same {H' : Hp} {vs : List V} {ds : List D} (s : Same H H') (r : RpAll K Av H vs ds) : RpAll K Av H' vs ds := RpAll.stay (Ow := fun _ => False) (Stay.of_same s) (fun _ h => h.elim) r
theorem qn_lst {p : Addr} {xs : List V} {ds : List D} (hp : H p = none) (na : ¬ Av p) (r : RpAll K Av H xs ds) : QN K Av H (.list ds) (.ref p) (upd H p (.lst xs)) :=
  ⟨same_upd hp, .lst (.inl upd_same) na (r.same (same_upd hp)), fun es e => by cases e; exact ⟨p, xs, rfl, hp, upd_same, r⟩⟩
theorem qn_tup {p : Addr} {xs : List V} {ds : List D} (hp : H p = none) (r : RpAll K Av H xs ds) : QN K Av H (.tuple ds) (.ref p) (upd H p (.tup xs)) :=
  ⟨same_upd hp, .tup (.inl (.inl upd_same)) (r.same (same_upd hp)), fun es e => by cases e⟩
theorem qn_flat {z : D} (r : Rp K Av H v z) (h : ∀ ds, z ≠ .list ds) : QN K Av H z v H := ⟨fun _ _ e => e, r, fun ds e => absurd e (h ds)⟩
end

def OpOk (X : Cx) (f : Value → Value → Sem Value) (g : D → D → Option D) : Prop :=
  ∀ (pins : List (Addr × Obj)) (s : Shared) (σ : St) (H : Hp) (x y : V) (v u : Value) (d e z : D) (Av : Addr → Prop), Inv X pins σ H s → RelV x v → RelV y u → Fre Av H →
    Ra X.K Av H x d → Ra X.K Av H y e → g d e = some z → wpAny (model X.prog X.w) X.A (f v u) (EP X pins σ (QN X.K Av H z)) X.xe s
theorem EP.imp {X : Cx} {pins : List (Addr × Obj)} {σ : St} {Q Q' : VK} {u : Value} {s' : Shared} (h : EP X pins σ Q u s') (q : ∀ v H', Q v H' → Q' v H') : EP X pins σ Q' u s' := by
  obtain ⟨v, H', I, r, h⟩ := h
  exact ⟨v, H', I, r, q v H' h⟩
section
variable {X : Cx}
/-- list + list, whatever lists they are -/
theorem cat_lists {pins : List (Addr × Obj)} {s : Shared} {σ : St} {H : Hp} {Q : VK} {a b : Addr} {xs ys : List V} (I : Inv X pins σ H s) (ha : SqL X.K H a xs) (hb : SqL X.K H b ys) (hz : xs.length + ys.length ≤ sizeLine)
    (q : ∀ p, H p = none → Q (.ref p) (upd H p (.lst (xs ++ ys)))) : wpAny (model X.prog X.w) X.A (binaryOp .Add (.ref a) (.ref b)) (EP X pins σ Q) X.xe s := by
  obtain ⟨is1, r1, ⟨⟨c1, d1, t1, l1⟩, n1, g1, e1, _, f1⟩, _⟩ := I.list ha
  obtain ⟨is2, r2, ⟨⟨c2, d2, t2, l2⟩, n2, g2, e2, _, f2⟩, _⟩ := I.list hb
  simp only at e1 f1 e2 f2
  subst e1 f1 e2 f2
  have z : is1.toArray.size + is2.toArray.size ≤ sizeLine := by
    rw [List.size_toArray, List.size_toArray, ← r1.length, ← r2.length]; exact hz
  refine concat_meets ⟨_, g1, rfl⟩ ⟨_, g2, rfl⟩ noFill_list_add seq_list_add PySem.F.slot_list_add PySem.F.entry_list_add (PySem.F.args_list_add_2 _ _) (list_addW a b is1.toArray is2.toArray n1 n2 d1 d2 l1 l2 z) ⟨g1, g2, ?_⟩
  have ej : is1.toArray ++ is2.toArray = (is1 ++ is2).toArray := by simp
  rw [ej]
  exact ⟨.ref _, _, I.lnew (t' := s.toks) (r1.append r2) (by rw [List.length_append]; exact hz), rfl, q _ I.fresh⟩

theorem intBits_of {i : Int} {b : Nat} (h : i.natAbs < 2 ^ b) (hb : 0 < b) : Builtin.Int.intBits i ≤ b := by
  have x := PySem.Flt.log2_lt_of hb h
  unfold Builtin.Int.intBits
  split <;> omega
theorem ok_add : OpOk X (binaryOp .Add) (opD .add) := by
  intro pins s σ H x y v u d e z Av I rx ry fr hd he hz
  cases d with
  | int i =>
    cases e with
    | int j =>
      cases hd.int; cases he.int
      simp only [opD, Option.some.injEq] at hz; subst hz
      exact op_add pins s σ H _ _ v u _ I rx ry ⟨i, j, rfl, rfl, qn_flat (.int _) (by simp)⟩
    | _ => simp [opD] at hz
  | str i =>
    cases e with
    | str j =>
      cases hd.str; cases he.str
      simp only [opD] at hz
      split at hz
      · rename_i hl
        cases hz
        exact op_add_str pins s σ H _ _ v u _ I rx ry ⟨i, j, rfl, rfl, hl, qn_flat (.str _) (by simp)⟩
      · cases hz
    | _ => simp [opD] at hz
  | tuple xs =>
    cases e with
    | tuple ys =>
      obtain ⟨a, vs, rfl, sa, ra⟩ := hd.tup
      obtain ⟨b, ws, rfl, sb, rb⟩ := he.tup
      simp only [opD] at hz
      split at hz
      · rename_i hl
        cases hz
        refine op_catA pins s σ H _ _ v u _ I rx ry ⟨a, b, vs, ws, rfl, rfl, sa, sb, by rw [ra.length, rb.length]; exact hl, fun h => ?_, fun _ h => ?_, fun _ _ p hp => qn_tup hp (ra.append rb)⟩
        · subst h; cases ra
          exact qn_flat (.tup sb rb) (by simp)
        · subst h; cases rb
          rw [List.append_nil]
          exact qn_flat (.tup sa ra) (by simp)
      · cases hz
    | _ => simp [opD] at hz
  | list xs =>
    cases e with
    | list ys =>
      obtain ⟨a, vs, rfl, sa, ra⟩ := hd.lst
      obtain ⟨b, ws, rfl, sb, rb⟩ := he.lst
      simp only [opD] at hz
      split at hz
      · rename_i hl
        cases hz
        cases rx; cases ry
        exact cat_lists I sa sb (by rw [ra.length, rb.length]; exact hl) fun p hp => qn_lst hp (fr p hp) (ra.append rb)
      · cases hz
    | _ => simp [opD] at hz
  | _ => simp [opD] at hz
theorem ok_sub : OpOk X (binaryOp .Sub) (opD .sub) := by
  intro pins s σ H x y v u d e z Av I rx ry fr hd he hz
  cases d with
  | int i =>
    cases e with
    | int j =>
      cases hd.int; cases he.int
      simp only [opD, Option.some.injEq] at hz; subst hz
      exact op_sub pins s σ H _ _ v u _ I rx ry ⟨i, j, rfl, rfl, qn_flat (.int _) (by simp)⟩
    | _ => simp [opD] at hz
  | _ => simp [opD] at hz
theorem fold_rep {α : Type} (l : List α) : ∀ (n : Nat) (acc : Array α), ((List.replicate n l.toArray).foldl (· ++ ·) acc) = acc ++ (List.replicate n l).flatten.toArray
  | 0, acc => by simp
  | n + 1, acc => by
    rw [List.replicate_succ, List.foldl_cons, fold_rep l n, List.replicate_succ, List.flatten_cons]
    simp
theorem Vals.repl {xs : List V} {us : List Value} (r : Vals xs us) : ∀ n : Nat, Vals (List.replicate n xs).flatten (List.replicate n us).flatten
  | 0 => .nil
  | n + 1 => by
    rw [List.replicate_succ, List.replicate_succ, List.flatten_cons, List.flatten_cons]
    exact L2.Vals.append r (Vals.repl r n)
theorem RpAll.repl {K : PySem.W.Frag} {Av : Addr → Prop} {H : Hp} {xs : List V} {ds : List D} (r : RpAll K Av H xs ds) : ∀ n : Nat, RpAll K Av H (List.replicate n xs).flatten (List.replicate n ds).flatten
  | 0 => .nil
  | n + 1 => by
    rw [List.replicate_succ, List.replicate_succ, List.flatten_cons, List.flatten_cons]
    exact r.append (RpAll.repl r n)
theorem len_rep {α : Type} (l : List α) : ∀ n : Nat, (List.replicate n l).flatten.length = l.length * n
  | 0 => by simp
  | n + 1 => by rw [List.replicate_succ, List.flatten_cons, List.length_append, len_rep l n, Nat.mul_succ, Nat.add_comm]
theorem ok_mul : OpOk X (binaryOp .Mult) (opD .mul) := by
  intro pins s σ H x y v u d e z Av I rx ry fr hd he hz
  cases d with
  | int i =>
    cases e with
    | int j =>
      cases hd.int; cases he.int
      simp only [opD] at hz
      split at hz
      · rename_i hl
        cases hz
        refine op_mul pins s σ H _ _ v u _ I rx ry ⟨i, j, rfl, rfl, ?_, qn_flat (.int _) (by simp)⟩
        simpa [CMul, small64] using hl
      · cases hz
    | _ => simp [opD] at hz
  | str i =>
    cases e with
    | int j =>
      cases hd.str; cases he.int
      simp only [opD] at hz
      split at hz
      · rename_i hl
        cases hz
        obtain ⟨h0, h1⟩ := hl
        obtain ⟨t, rfl⟩ := rx
        obtain ⟨t', rfl⟩ := ry
        obtain ⟨h2, h3, h4⟩ := h1
        have n1 : ¬ j < 1 := by omega
        have n2 : (j == 1 || i.length == 0) = false := by
          have e1 : (j == 1) = false := beq_eq_false_iff_ne.mpr (by omega)
          have e2 : (i.length == 0) = false := beq_eq_false_iff_ne.mpr (by omega)
          rw [e1, e2]; rfl
        have hs : (100000 : Nat) ≤ sizeLine := by decide
        have key : (⟨(List.replicate j.toNat i.cps).foldl (· ++ ·) #[]⟩ : Str) = strOfList (List.replicate j.toNat i.cps.toList).flatten := by
          have := fold_rep i.cps.toList j.toNat #[]
          simp only [Array.toArray_toList, Array.empty_append] at this
          rw [this]; rfl
        refine PySem.P.mul_str ?_ (fun _ _ h => ?_) (fun _ _ => ?_) ?_
        · have e1 : ¬ j < -(2 ^ 63 : Int) := by omega
          have e2 : ¬ j ≥ 2 ^ 63 := by omega
          rw [decide_eq_false e1, decide_eq_false e2]; rfl
        · have k1 : (i.length : Int) * j ≤ 100000 := by
            have e : ((i.length * j.toNat : Nat) : Int) = (i.length : Int) * j := by rw [Int.natCast_mul, Int.toNat_of_nonneg (by omega)]
            omega
          have k2 : (i.length : Int) ≤ (2 ^ 63 - 1) / j := Int.le_ediv_of_mul_le (by omega) (by omega)
          omega
        · show decide (i.length * j.toNat > sizeLine) = false
          exact decide_eq_false (by omega)
        · rw [if_neg n1, n2, if_neg Bool.false_ne_true, key]
          refine ⟨?_, .str _, H, I.tok _, ⟨_, rfl⟩, qn_flat (.str _) (by simp)⟩
          show (strOfList _).cps.size ≤ sizeLine
          simp only [strOfList, List.size_toArray, len_rep]
          have : i.cps.toList.length = i.length := by simp [Str.length]
          rw [this]; omega
      · cases hz
    | _ => simp [opD] at hz
  | _ => simp [opD] at hz
theorem ok_fdiv : OpOk X (binaryOp .FloorDiv) (opD .fdiv) := by
  intro pins s σ H x y v u d e z Av I rx ry fr hd he hz
  cases d with
  | int i =>
    cases e with
    | int j =>
      cases hd.int; cases he.int
      simp only [opD] at hz
      split at hz
      · rename_i hl
        cases hz
        exact op_fdivW pins s σ H _ _ v u _ I rx ry ⟨i, j, rfl, rfl, wide_div hl.1 hl.2 (by decide) (by decide), qn_flat (.int _) (by simp)⟩
      · cases hz
    | _ => simp [opD] at hz
  | _ => simp [opD] at hz
theorem ok_mod : OpOk X (binaryOp .Mod) (opD .mod) := by
  intro pins s σ H x y v u d e z Av I rx ry fr hd he hz
  cases d with
  | int i =>
    cases e with
    | int j =>
      cases hd.int; cases he.int
      simp only [opD] at hz
      split at hz
      · rename_i hl
        cases hz
        exact op_mod pins s σ H _ _ v u _ I rx ry ⟨i, j, rfl, rfl, hl, qn_flat (.int _) (by simp)⟩
      · cases hz
    | _ => simp [opD] at hz
  | _ => simp [opD] at hz
theorem ok_pow : OpOk X (binaryOp .Pow) (opD .pow) := by
  intro pins s σ H x y v u d e z Av I rx ry fr hd he hz
  cases d with
  | int i =>
    cases e with
    | int j =>
      cases hd.int; cases he.int
      simp only [opD] at hz
      split at hz
      · rename_i hl
        cases hz
        obtain ⟨t, rfl⟩ := rx
        obtain ⟨t', rfl⟩ := ry
        have hb := intBits_of hl.2.2 (by decide)
        refine pow_int hl.1 ?_ ⟨.int _, H, I.tok _, ⟨_, rfl⟩, qn_flat (.int _) (by simp)⟩
        have h1 : (Builtin.Int.intBits i : Int) ≤ 2000 := by omega
        have h2 : (Builtin.Int.intBits i : Int) * j ≤ 2000 * 1000 := Int.mul_le_mul h1 hl.2.1 hl.1 (by decide)
        have h3 : (2000 * 1000 : Int) ≤ 2 ^ 27 := by decide
        omega
      · cases hz
    | _ => simp [opD] at hz
  | _ => simp [opD] at hz
end
end Z

set_option linter.all false
set_option maxRecDepth 100000
set_option maxHeartbeats 1000000
namespace Z
open PySem PySem.Spec L2
open PyProof.Rows hiding St

abbrev QR (K : PySem.W.Frag) (Av : Addr → Prop) (H : Hp) (z : D) : VK := fun w H' => Same H H' ∧ Rp K Av H' w z
def cmOp : Cm → CmpOp
  | .eq => .Eq | .ne => .NotEq | .lt => .Lt | .le => .LtE | .gt => .Gt | .ge => .GtE | .is => .Is | .isNot => .IsNot | .isIn => .In | .notIn => .NotIn
section
variable {X : Cx} {pins : List (Addr × Obj)} {s : Shared} {σ : St} {H : Hp} {x y : V} {v u : Value} {d e : D} {Av : Addr → Prop}
mutual
theorem Rp.flatAv (I : Inv X pins σ H s) {d : D} {x : V} {v : Value} (r : Ra X.K Av H x d) (rx : RelV x v) : ∃ as, Reads s.heap v d as := by
  rcases r with r | ⟨a, xs, ds, rfl, rfl, h1, h2⟩
  · exact r.reads I rx
  · rcases h1 with h1 | h1
    · exact Rp.reads (Av := fun b => False) I (.lst h1 (fun h => h) (RpAll.mono (fun _ h => h.elim) h2)) rx
    · exact Rp.reads (Av := fun b => False) I (.lsk (fun _ => .inr h1) (RpAll.mono (fun _ h => h.elim) h2)) rx
end
theorem qb (b : Bool) : QN X.K Av H (.bool b) (.bl b) H := qn_flat (.bl b) (by simp)
theorem is_bool_gen {M : Model} {A : Around} {E : Value → Shared → Prop} {s : Shared} {Q : Value → Shared → Prop} {v : Value} {b : Bool} (h : Q (.bool (v == .bool b)) s) (hb : ∀ n, v ≠ .builtin n) : wpAny M A (compareOp .Is v (.bool b)) Q E s := by
  cases v <;> first | exact wpAny_pure h | exact absurd rfl (hb _)
theorem isnot_bool_gen {M : Model} {A : Around} {E : Value → Shared → Prop} {s : Shared} {Q : Value → Shared → Prop} {v : Value} {b : Bool} (h : Q (.bool (!(v == .bool b))) s) (hb : ∀ n, v ≠ .builtin n) : wpAny M A (compareOp .IsNot v (.bool b)) Q E s := by
  cases v <;> first | exact wpAny_pure h | exact absurd rfl (hb _)
theorem rel_nob {x : V} {v : Value} (r : RelV x v) (n : String) : v ≠ .builtin n := by
  cases x <;> first | (obtain ⟨t, rfl⟩ := r; exact fun z => by cases z) | (cases r; exact fun z => by cases z)
/-- v is True, by the data -/
theorem is_data {b : Bool} (r : Ra X.K Av H x d) (rx : RelV x v) : (v == Value.bool b) = isBoolD b d := by
  rcases r with r | ⟨a, xs, ds, rfl, rfl, _⟩
  · cases r <;> first
      | (obtain ⟨t, rfl⟩ := rx; rfl)
      | (cases rx; first | rfl | (rename_i c; cases c <;> cases b <;> rfl))
  · cases rx; rfl
theorem isN_data (r : Ra X.K Av H x d) (rx : RelV x v) : (v == Value.none) = isNoneD d := by
  rcases r with r | ⟨a, xs, ds, rfl, rfl, _⟩
  · cases r <;> first
      | (obtain ⟨t, rfl⟩ := rx; rfl)
      | (cases rx; rfl)
  · cases rx; rfl
theorem canLay_ok {d : D} (h : okd d = true) : d.plain = true ∧ d.depth ≤ 64 := by simpa [okd] using h
theorem none_of {A : Around} (hu : A.units + 65 < cLine) {d e : D} {as bs : List Addr} {s : Shared} {u v : Value} {b : Bool} (r1 : Reads s.heap v d as) (r2 : Reads s.heap u e bs) (hb : noneIn d e = some b) : SeqAt.RcAt A s v u b ∧ SeqAt.RcNeAt A s v u (!b) := by
  cases d with
  | tuple xs =>
    cases e with
    | tuple ys =>
      cases ys with
      | cons _ _ => cases hb
      | nil =>
        have hb : some xs.isEmpty = some b := hb
        cases r1 with
        | @tuple l o vs n _ as1 h1 h2 h3 h4 =>
          cases r2 with
          | @tuple l' o' vs' n' _ bs1 k1 k2 k3 k4 =>
            have n1 : vs.size = xs.length := by simpa using SeqAt.ReadsAll.length _ _ _ h4
            have n2 : vs'.size = 0 := by simpa using SeqAt.ReadsAll.length _ _ _ k4
            have eb : ((List.range (min vs.size vs'.size)).all (fun _ => true) && vs.size == vs'.size) = b := by
              rw [n1, n2, Nat.min_zero]
              cases hb
              cases xs <;> rfl
            have hv : ∀ j (j1 : j < vs.size) (j2 : j < vs'.size), SeqAt.EqAt A.in1 s vs[j] vs'[j] ((fun _ => true) j) := fun j j1 j2 => by omega
            refine ⟨?_, ?_⟩
            · rw [← eb]
              exact SeqAt.RcAt.tuples ⟨_, h1, h2, _, h3⟩ ⟨_, k1, k2, _, k3⟩ (by omega) hv
            · rw [← eb]
              exact SeqAt.RcNeAt.tuples ⟨_, h1, h2, _, h3⟩ ⟨_, k1, k2, _, k3⟩ (by omega) hv
    | _ => cases hb
  | list xs =>
    cases e with
    | list ys =>
      cases ys with
      | cons _ _ => cases hb
      | nil =>
        have hb : some xs.isEmpty = some b := hb
        cases r1 with
        | @list l o vs n _ as1 h1 h2 h3 h4 =>
          cases r2 with
          | @list l' o' vs' n' _ bs1 k1 k2 k3 k4 =>
            have n1 : vs.size = xs.length := by simpa using SeqAt.ReadsAll.length _ _ _ h4
            have n2 : vs'.size = 0 := by simpa using SeqAt.ReadsAll.length _ _ _ k4
            cases xs with
            | nil =>
              cases hb
              have hs : vs.size = vs'.size := by rw [n1, n2]; rfl
              have e0 : ((List.range vs.size).all (fun _ => true)) = true := by rw [n1]; rfl
              have hv : ∀ j (j1 : j < vs.size) (j2 : j < vs'.size), SeqAt.EqAt A.in1 s vs[j] vs'[j] ((fun _ => true) j) := fun j j1 j2 => by omega
              have q1 := SeqAt.RcAt.lists ⟨_, h1, h2, _, h3⟩ ⟨_, k1, k2, _, k3⟩ hs (by omega) hv
              have q2 := SeqAt.RcNeAt.lists ⟨_, h1, h2, _, h3⟩ ⟨_, k1, k2, _, k3⟩ hs (by omega) hv
              rw [e0] at q1 q2
              exact ⟨q1, q2⟩
            | cons x xs =>
              cases hb
              have hs : (vs.size != vs'.size) = true := by rw [n1, n2]; rfl
              exact ⟨SeqAt.RcAt.lists_lengths ⟨_, h1, h2, _, h3⟩ ⟨_, k1, k2, _, k3⟩ hs (by omega), SeqAt.RcNeAt.lists_lengths ⟨_, h1, h2, _, h3⟩ ⟨_, k1, k2, _, k3⟩ hs (by omega)⟩
    | _ => cases hb
  | _ => cases hb
theorem rc_none (hu : X.A.units + 65 < cLine) {x y : V} {v u : Value} {d e : D} {b : Bool} {Q : Value → Shared → Prop} (I : Inv X pins σ H s) (rx : RelV x v) (ry : RelV y u) (hd : Ra X.K Av H x d) (he : Ra X.K Av H y e) (hb : noneIn d e = some b) (h : Q (.bool b) s) :
    wpAny (model X.prog X.w) X.A (compareOp .Eq v u) Q X.xe s := by
  obtain ⟨as, r1⟩ := Rp.flatAv I hd rx
  obtain ⟨bs, r2⟩ := Rp.flatAv I he ry
  exact (none_of hu r1 r2 hb).1 X.prog X.w X.xe Q h
theorem rcN_none (hu : X.A.units + 65 < cLine) {x y : V} {v u : Value} {d e : D} {b : Bool} {Q : Value → Shared → Prop} (I : Inv X pins σ H s) (rx : RelV x v) (ry : RelV y u) (hd : Ra X.K Av H x d) (he : Ra X.K Av H y e) (hb : noneIn d e = some b) (h : Q (.bool (!b)) s) :
    wpAny (model X.prog X.w) X.A (compareOp .NotEq v u) Q X.xe s := by
  obtain ⟨as, r1⟩ := Rp.flatAv I hd rx
  obtain ⟨bs, r2⟩ := Rp.flatAv I he ry
  exact (none_of hu r1 r2 hb).2 X.prog X.w X.xe Q h
theorem ok_cmp (hu : X.A.units + 65 < cLine) : ∀ c : Cm, OpOk X (compareOp (cmOp c)) (fun d e => (cmpD c d e).map .bool) := by
  intro c pins s σ H x y v u d e z Av I rx ry fr hd he hz
  have two : ∀ b : Bool, z = .bool b → EP X pins σ (QN X.K Av H z) (.bool b) s := fun b h => by
    subst h; exact ⟨.bl b, H, I, rfl, qb b⟩
  cases c with
  | eq =>
    simp only [cmpD, eqD] at hz
    split at hz
    · rename_i hk
      simp only [Bool.and_eq_true] at hk
      simp only [Option.map_some, Option.some.injEq] at hz
      obtain ⟨as, r1⟩ := Rp.flatAv I hd rx
      obtain ⟨bs, r2⟩ := Rp.flatAv I he ry
      have k1 := canLay_ok hk.1
      have k2 := canLay_ok hk.2
      have hm : min d.depth e.depth ≤ d.depth := Nat.min_le_left _ _
      exact SeqAt.eq_plain r1 r2 k1.1 k2.1 (by omega) (two _ hz.symm)
    · obtain ⟨b, hb, rfl⟩ : ∃ b, noneIn d e = some b ∧ z = .bool b := by
        cases q : noneIn d e with
        | none => rw [q] at hz; cases hz
        | some b => rw [q] at hz; exact ⟨b, rfl, by simpa using hz.symm⟩
      exact rc_none hu I rx ry hd he hb (two _ rfl)
  | ne =>
    simp only [cmpD, eqD] at hz
    split at hz
    · rename_i hk
      simp only [Bool.and_eq_true] at hk
      simp only [Option.map_some, Option.some.injEq] at hz
      obtain ⟨as, r1⟩ := Rp.flatAv I hd rx
      obtain ⟨bs, r2⟩ := Rp.flatAv I he ry
      have k1 := canLay_ok hk.1
      have k2 := canLay_ok hk.2
      have hm : min d.depth e.depth ≤ d.depth := Nat.min_le_left _ _
      exact SeqAt.ne_plain r1 r2 k1.1 k2.1 (by omega) (two _ hz.symm)
    · obtain ⟨b, hb, rfl⟩ : ∃ b, noneIn d e = some b ∧ z = .bool (!b) := by
        cases q : noneIn d e with
        | none => rw [q] at hz; cases hz
        | some b => rw [q] at hz; exact ⟨b, rfl, by simpa using hz.symm⟩
      exact rcN_none hu I rx ry hd he hb (two _ rfl)
  | lt =>
    cases d <;> cases e <;> simp only [cmpD, Option.map_none, Option.map_some, Option.some.injEq, reduceCtorEq] at hz
    · cases hd.int; cases he.int; subst hz
      exact op_lt pins s σ H _ _ v u _ I rx ry ⟨_, _, rfl, rfl, qb _⟩
    · cases hd.str; cases he.str; subst hz
      exact op_lt_str pins s σ H _ _ v u _ I rx ry ⟨_, _, rfl, rfl, qb _⟩
  | le =>
    cases d <;> cases e <;> simp only [cmpD, Option.map_none, Option.map_some, Option.some.injEq, reduceCtorEq] at hz
    · cases hd.int; cases he.int; subst hz
      exact op_le pins s σ H _ _ v u _ I rx ry ⟨_, _, rfl, rfl, qb _⟩
    · cases hd.str; cases he.str; subst hz
      exact op_le_str pins s σ H _ _ v u _ I rx ry ⟨_, _, rfl, rfl, qb _⟩
  | gt =>
    cases d <;> cases e <;> simp only [cmpD, Option.map_none, Option.map_some, Option.some.injEq, reduceCtorEq] at hz
    · cases hd.int; cases he.int; subst hz
      exact op_gt pins s σ H _ _ v u _ I rx ry ⟨_, _, rfl, rfl, qb _⟩
    · cases hd.str; cases he.str; subst hz
      exact op_gt_str pins s σ H _ _ v u _ I rx ry ⟨_, _, rfl, rfl, qb _⟩
  | ge =>
    cases d <;> cases e <;> simp only [cmpD, Option.map_none, Option.map_some, Option.some.injEq, reduceCtorEq] at hz
    · cases hd.int; cases he.int; subst hz
      exact op_ge pins s σ H _ _ v u _ I rx ry ⟨_, _, rfl, rfl, qb _⟩
    · cases hd.str; cases he.str; subst hz
      exact op_ge_str pins s σ H _ _ v u _ I rx ry ⟨_, _, rfl, rfl, qb _⟩
  | isIn =>
    simp only [cmpD] at hz
    cases e with
    | list xs =>
      have hz : (if (okd d && okd (.list xs)) = true then some (xs.any fun y => PyData.eqv y d) else none).map PyData.bool = some z := by cases d <;> exact hz
      split at hz
      · rename_i hk
        simp only [Bool.and_eq_true] at hk
        simp only [Option.map_some, Option.some.injEq] at hz
        obtain ⟨as, r1⟩ := Rp.flatAv I hd rx
        obtain ⟨bs, r2⟩ := Rp.flatAv I he ry
        have k1 := canLay_ok hk.1
        have k2 := (canLay_ok hk.2).1
        have hm : min (PyData.depthAll xs) d.depth ≤ d.depth := Nat.min_le_right _ _
        exact SeqAt.in_list_data r2 r1 (by simpa [PyData.plain] using k2) k1.1 (by omega) (two _ hz.symm)
      · simp at hz
    | tuple xs =>
      have hz : (if (okd d && okd (.tuple xs)) = true then some (xs.any fun y => PyData.eqv y d) else none).map PyData.bool = some z := by cases d <;> exact hz
      split at hz
      · rename_i hk
        simp only [Bool.and_eq_true] at hk
        simp only [Option.map_some, Option.some.injEq] at hz
        obtain ⟨as, r1⟩ := Rp.flatAv I hd rx
        obtain ⟨bs, r2⟩ := Rp.flatAv I he ry
        have k1 := canLay_ok hk.1
        have k2 := (canLay_ok hk.2).1
        have hm : min (PyData.depthAll xs) d.depth ≤ d.depth := Nat.min_le_right _ _
        exact SeqAt.in_tuple_data r2 r1 (by simpa [PyData.plain] using k2) k1.1 (by omega) (two _ hz.symm)
      · simp at hz
    | str y =>
      cases d <;> simp only [isIn, Option.map_none, Option.map_some, Option.some.injEq, reduceCtorEq] at hz
      cases hd.str; cases he.str; subst hz
      exact op_in_str pins s σ H _ _ v u _ I rx ry ⟨_, _, rfl, rfl, qb _⟩
    | _ => cases d <;> simp [isIn] at hz
  | notIn =>
    simp only [cmpD] at hz
    cases e with
    | list xs =>
      have hz : ((if (okd d && okd (.list xs)) = true then some (xs.any fun y => PyData.eqv y d) else none).map (!·)).map PyData.bool = some z := by cases d <;> exact hz
      split at hz
      · rename_i hk
        simp only [Bool.and_eq_true] at hk
        simp only [Option.map_some, Option.some.injEq] at hz
        obtain ⟨as, r1⟩ := Rp.flatAv I hd rx
        obtain ⟨bs, r2⟩ := Rp.flatAv I he ry
        have k1 := canLay_ok hk.1
        have k2 := (canLay_ok hk.2).1
        have hm : min (PyData.depthAll xs) d.depth ≤ d.depth := Nat.min_le_right _ _
        exact SeqAt.notIn_list_data r2 r1 (by simpa [PyData.plain] using k2) k1.1 (by omega) (two _ hz.symm)
      · simp at hz
    | tuple xs =>
      have hz : ((if (okd d && okd (.tuple xs)) = true then some (xs.any fun y => PyData.eqv y d) else none).map (!·)).map PyData.bool = some z := by cases d <;> exact hz
      split at hz
      · rename_i hk
        simp only [Bool.and_eq_true] at hk
        simp only [Option.map_some, Option.some.injEq] at hz
        obtain ⟨as, r1⟩ := Rp.flatAv I hd rx
        obtain ⟨bs, r2⟩ := Rp.flatAv I he ry
        have k1 := canLay_ok hk.1
        have k2 := (canLay_ok hk.2).1
        have hm : min (PyData.depthAll xs) d.depth ≤ d.depth := Nat.min_le_right _ _
        exact SeqAt.notIn_tuple_data r2 r1 (by simpa [PyData.plain] using k2) k1.1 (by omega) (two _ hz.symm)
      · simp at hz
    | str y =>
      cases d <;> simp only [isIn, Option.map_none, Option.map_some, Option.some.injEq, reduceCtorEq] at hz
      cases hd.str; cases he.str; subst hz
      exact op_notin_str pins s σ H _ _ v u _ I rx ry ⟨_, _, rfl, rfl, qb _⟩
    | _ => cases d <;> simp [isIn] at hz
  | is =>
    simp only [cmpD] at hz
    cases e with
    | none =>
      simp only [isD, Option.map_some, Option.some.injEq] at hz
      cases he.non
      cases ry
      exact is_none_gen (by rw [isN_data hd rx]; exact two _ hz.symm)
    | bool b =>
      simp only [isD, Option.map_some, Option.some.injEq] at hz
      cases he.bl
      cases ry
      exact is_bool_gen (by rw [is_data hd rx]; exact two _ hz.symm) (rel_nob rx)
    | _ => simp [isD] at hz
  | isNot =>
    simp only [cmpD] at hz
    cases e with
    | none =>
      simp only [isD, Option.map_some, Option.some.injEq] at hz
      cases he.non
      cases ry
      exact isnot_none_gen (by rw [isN_data hd rx]; exact two _ hz.symm)
    | bool b =>
      simp only [isD, Option.map_some, Option.some.injEq] at hz
      cases he.bl
      cases ry
      exact isnot_bool_gen (by rw [is_data hd rx]; exact two _ hz.symm) (rel_nob rx)
    | _ => simp [isD] at hz

/-! ### subscripts, slices -/
theorem atI_map {K : PySem.W.Frag} {xs : List V} {ds : List D} {i : Int} {z : D} (r : RpAll K Av H xs ds) (h : ((ixOf i ds.length).bind fun k => ds[k]?) = some z) : ∃ w, atI xs i = some w ∧ Rp K Av H w z := by
  have e : ixOf i ds.length = ixN xs.length i := by rw [r.length]; rfl
  rw [e] at h
  unfold atI
  cases q : ixN xs.length i with
  | none => rw [q] at h; cases h
  | some k =>
    rw [q] at h
    exact r.get h
def IxOk (X : Cx) : Prop := ∀ (value slice : Expr) (pins : List (Addr × Obj)) (s : Shared) (σ : St) (H : Hp) (x y : V) (v u : Value) (d e z : D) (Av : Addr → Prop), Inv X pins σ H s → RelV x v → RelV y u →
  Ra X.K Av H x d → Ra X.K Av H y e → ixD d e = some z → subscripted slice false v u = operate [v, u] (getItem v u) → wpAny (model X.prog X.w) X.A (subscriptTail value slice v u) (EP X pins σ (QR X.K Av H z)) X.xe s
theorem ok_ix : IxOk X := by
  intro value slice pins s σ H x y v u d e z Av I rx ry hd he hz hs
  cases d with
  | list xs =>
    cases e with
    | int i =>
      obtain ⟨a, vs, rfl, sa, ra⟩ := hd.lst
      cases he.int
      obtain ⟨w, h1, h2⟩ := atI_map ra hz
      exact ix_list value slice pins s σ H _ _ v u _ I rx ry ⟨a, vs, i, w, rfl, rfl, sa, h1, fun _ _ e => e, h2⟩ hs
    | _ => simp [ixD] at hz
  | tuple xs =>
    cases e with
    | int i =>
      obtain ⟨a, vs, rfl, sa, ra⟩ := hd.tup
      cases he.int
      obtain ⟨w, h1, h2⟩ := atI_map ra hz
      exact ix_tup value slice pins s σ H _ _ v u _ I rx ry ⟨a, vs, i, w, rfl, rfl, sa, h1, fun _ _ e => e, h2⟩ hs
    | _ => simp [ixD] at hz
  | str t =>
    cases e with
    | int i =>
      cases hd.str
      cases he.int
      simp only [ixD] at hz
      split at hz
      · rename_i hl
        cases q : ixOf i t.cps.toList.length with
        | none => rw [q] at hz; cases hz
        | some k =>
          rw [q] at hz
          have hz : (t.cps.toList[k]?).map (fun c => PyData.str ⟨#[c]⟩) = some z := hz
          cases w : t.cps.toList[k]? with
          | none => rw [w] at hz; cases hz
          | some c =>
            rw [w] at hz; cases hz
            have h1 : atI t.cps.toList i = some c := by
              unfold atI
              rw [show ixN t.cps.toList.length i = some k from q]
              exact w
            exact ix_str value slice pins s σ H _ _ v u _ I rx ry ⟨t, i, c, rfl, rfl, hl, h1, fun _ _ e => e, .str _⟩ hs
      · cases hz
    | _ => simp [ixD] at hz
  | _ => simp [ixD] at hz
theorem RpAll.cut {K : PySem.W.Frag} {xs : List V} {ds : List D} (r : RpAll K Av H xs ds) (lo hi : Option Int) : RpAll K Av H (cutV xs lo hi) (Z.cut ds lo hi) := by
  unfold cutV Z.cut
  have e : ∀ d o, HT.sIx xs.length d o = cutEnd ds.length d o := fun d o => by rw [r.length]; rfl
  rw [e, e, r.length]
  exact (r.drop _).take _
def SlOk (X : Cx) : Prop := ∀ (pins : List (Addr × Obj)) (s : Shared) (σ : St) (H : Hp) (x : V) (v vl vu : Value) (lo hi : Option Int) (sl : Addr) (d z : D) (Av : Addr → Prop), Inv X pins σ H s → RelV x v → Fre Av H → Ra X.K Av H x d →
  cutD d lo hi = some z → s.heap.IsSliceOf sl vl vu .none → IsPart vl lo → IsPart vu hi → ∃ T id, typeLookup (.type T) "__getitem__" = pure (some (.builtin id)) ∧ s.TypeIs v T ∧ wpAny (model X.prog X.w) X.A (getItem v (.ref sl)) (EP X pins σ (QN X.K Av H z)) X.xe s
theorem ok_sl : SlOk X := by
  intro pins s σ H x v vl vu lo hi sl d z Av I rx fr hd hz hs pl pu
  cases d with
  | list xs =>
    obtain ⟨a, vs, rfl, sa, ra⟩ := hd.lst
    simp only [cutD, Option.some.injEq] at hz; subst hz
    exact sl_list pins s σ H _ v vl vu lo hi sl _ I rx hs pl pu ⟨a, vs, rfl, sa, fun p hp => qn_lst hp (fr p hp) (ra.cut lo hi)⟩
  | tuple xs =>
    obtain ⟨a, vs, rfl, sa, ra⟩ := hd.tup
    simp only [cutD, Option.some.injEq] at hz; subst hz
    refine sl_tupA pins s σ H _ v vl vu lo hi sl _ I rx hs pl pu ⟨a, vs, rfl, sa, fun h => ?_, fun _ p hp => qn_tup hp (ra.cut lo hi)⟩
    have e1 : cutEnd xs.length 0 lo = 0 := by rw [← ra.length]; exact h.1
    have e2 : cutEnd xs.length xs.length hi = xs.length := by rw [← ra.length]; exact h.2
    have e3 : Z.cut xs lo hi = xs := by
      unfold Z.cut
      rw [e1, e2]; simp
    rw [e3]
    exact qn_flat (.tup sa ra) (by simp)
  | str t =>
    cases hd.str
    simp only [cutD] at hz
    split at hz
    · rename_i hl
      cases hz
      refine sl_str pins s σ H _ v vl vu lo hi sl _ I rx hs pl pu ⟨t, rfl, hl, ?_⟩
      have e : cutS t lo hi = strOfList (Z.cut t.cps.toList lo hi) := by
        unfold cutS Z.cut strOfList
        have el : t.cps.toList.length = t.length := by simp [Str.length]
        rw [el]; rfl
      rw [e]
      exact qn_flat (.str _) (by simp)
    · cases hz
  | _ => simp [cutD] at hz
end
end Z

set_option linter.all false
set_option maxRecDepth 100000
set_option maxHeartbeats 1000000
/-! Z5b: repr of data that may hold empty dicts and lists at once. -/
namespace Z
open PySem PySem.Spec L2
open PyProof.Rows hiding St
section
variable {P : Program} {w : World} {h : Heap} {a : Addr} {vs : Array Value} {xs : List D} {as : List Addr} {o : Obj} {n : Nat}
/-- the items' repr, one level down -/
def ItemsK (P : Program) (w : World) (h : Heap) (vs : List Value) (xs : List D) : Prop := ∃ bs, ReadAtMost h (PyData.depthAll xs) bs ∧ ReprAllK P w bs h (PyData.depthAll xs) vs (PyData.shownAll xs)
theorem list_K (h1 : h.get? a = some o) (h2 : o.cls = .type "list") (h3 : o.data = .seq vs n) (h4 : ReadsAll h vs.toList xs as) (hi : ItemsK P w h vs.toList xs) (hz : (PyData.list xs).shown.length ≤ sizeLine) :
    (∃ bs, ReadAtMost h (PyData.list xs).depth bs ∧ ReprK P w bs h (PyData.list xs).depth (.ref a) (PyData.list xs).shown) ∧ ∃ T i, ShowsBy P w h a (.list xs) T i := by
  obtain ⟨bs, hb, hk⟩ := hi
  have r : Reads h (.ref a) (.list xs) _ := .list h1 h2 h3 h4
  have hna : a ∉ bs := not_mem_of_deeper r (by simp only [PyData.depth]; omega) hb
  have hz' : (listText (PyData.shownAll xs)).length ≤ sizeLine := by simpa only [PyData.shown] using hz
  obtain ⟨l⟩ := vs
  cases l with
  | nil =>
    have h4' : ReadsAll h [] xs _ := h4
    cases h4'
    refine ⟨⟨a :: bs, ReadAtMost.cons r (by simp only [PyData.depth]; omega) hb, ?_⟩, "list", "list.__repr__", F.slot_list_repr.toG, F.slot_list_str, F.slot_list_format, fun s hk0 => ⟨o, hk0 _ _ h1, h2⟩, fun A E s Q hg hu hk0 hQ => ?_⟩
    · simp only [PyData.depth, PyData.shown, PyData.shownAll, listText_nil]
      exact ReprK.listEmpty h1 h2 h3
    · simp only [PyData.shown, PyData.shownAll, listText_nil] at hQ
      exact call_list_repr_empty ⟨o, hk0 _ _ h1, h2⟩ (hk0 _ _ h1) h3 (hQ s.heap _ _ fun _ _ e => e)
  | cons x l =>
    refine ⟨⟨a :: bs, ReadAtMost.cons r (by simp only [PyData.depth]; omega) hb, ?_⟩, "list", "list.__repr__", F.slot_list_repr.toG, F.slot_list_str, F.slot_list_format, fun s hk0 => ⟨o, hk0 _ _ h1, h2⟩, fun A E s Q hg hu hk0 hQ => ?_⟩
    · simp only [PyData.depth, PyData.shown]
      exact ReprK.list h1 h2 h3 hna (by simpa using hk.length_eq) (fun i y e => hk.item i y (by simpa using e))
    · simp only [PyData.depth] at hu
      simp only [PyData.shown] at hQ
      exact call_list_reprK h1 h2 h3 hna (by simpa using hk.length_eq) (fun i y e => hk.item i y (by simpa using e)) hg (fun b _ => Clear.nil b) hu hk0 hQ hz'
theorem tup_K (h1 : h.get? a = some o) (h2 : o.cls = .type "tuple") (h3 : o.data = .seq vs n) (h4 : ReadsAll h vs.toList xs as) (hi : ItemsK P w h vs.toList xs) (hz : (PyData.tuple xs).shown.length ≤ sizeLine) :
    (∃ bs, ReadAtMost h (PyData.tuple xs).depth bs ∧ ReprK P w bs h (PyData.tuple xs).depth (.ref a) (PyData.tuple xs).shown) ∧ ∃ T i, ShowsBy P w h a (.tuple xs) T i := by
  obtain ⟨bs, hb, hk⟩ := hi
  have r : Reads h (.ref a) (.tuple xs) _ := .tuple h1 h2 h3 h4
  have hna : a ∉ bs := not_mem_of_deeper r (by simp only [PyData.depth]; omega) hb
  have hz' : (tupleText (PyData.shownAll xs)).length ≤ sizeLine := by simpa only [PyData.shown] using hz
  refine ⟨⟨a :: bs, ReadAtMost.cons r (by simp only [PyData.depth]; omega) hb, ?_⟩, "tuple", "tuple.__repr__", F.slot_tuple_repr, F.slot_tuple_str, F.slot_tuple_format, fun s hk0 => ⟨o, hk0 _ _ h1, h2⟩, fun A E s Q hg hu hk0 hQ => ?_⟩
  · simp only [PyData.depth, PyData.shown]
    exact ReprK.tuple h1 h2 h3 hna hk
  · simp only [PyData.depth] at hu
    simp only [PyData.shown] at hQ
    exact call_tuple_reprK h1 h2 h3 hna hk hg (fun b _ => Clear.nil b) hu hk0 hQ hz'
theorem itemsK_cons {v : Value} {vs : List Value} {d : D} {ds : List D} (r : ∃ bs, ReadAtMost h d.depth bs ∧ ReprK P w bs h d.depth v d.shown) (rs : ItemsK P w h vs ds) : ItemsK P w h (v :: vs) (d :: ds) := by
  obtain ⟨b1, hb1, k1⟩ := r
  obtain ⟨b2, hb2, k2⟩ := rs
  refine ⟨b1 ++ b2, ?_, ?_⟩
  · intro b hm
    simp only [PyData.depthAll]
    rcases List.mem_append.mp hm with hm | hm
    · obtain ⟨d', as', r', hd'⟩ := hb1 b hm
      exact ⟨d', as', r', Nat.le_trans hd' (Nat.le_max_left _ _)⟩
    · obtain ⟨d', as', r', hd'⟩ := hb2 b hm
      exact ⟨d', as', r', Nat.le_trans hd' (Nat.le_max_right _ _)⟩
  · simp only [PyData.depthAll, PyData.shownAll]
    exact .cons ((k1.more fun b hb => List.mem_append_left _ hb).level_le (Nat.le_max_left _ _)) (k2.more_le (fun b hb => List.mem_append_right _ hb) (Nat.le_max_right _ _))
end
section
variable {X : Cx} {pins : List (Addr × Obj)} {s : Shared} {σ : St} {H : Hp} {Av : Addr → Prop}
mutual
theorem Rp.reprK (I : Inv X pins σ H s) : ∀ {v : V} {d : D} {u : Value}, Rp X.K Av H v d → RelV v u → d.showable = true → d.shown.length ≤ sizeLine → ∃ bs, ReadAtMost s.heap d.depth bs ∧ ReprK X.prog X.w bs s.heap d.depth u d.shown
  | _, _, _, .non, r, hs, hz => by cases r; exact ReprK.of_reads .none hs (fun h => by cases h) hz
  | _, _, _, .bl b, r, hs, hz => by cases r; exact ReprK.of_reads (.bool b) hs (fun h => by cases h) hz
  | _, _, _, .int i, r, hs, hz => by obtain ⟨t, rfl⟩ := r; exact ReprK.of_reads (.int i t) hs (fun h => by cases h) hz
  | _, _, _, .str x, r, hs, hz => by obtain ⟨t, rfl⟩ := r; exact ReprK.of_reads (.str x t) hs (fun h => by cases h) hz
  | _, _, _, .lst h1 na ha, r, hs, hz => by
    cases r
    obtain ⟨its, rv, ht, _⟩ := I.list (.inl h1)
    obtain ⟨o, ho, hc, n, hd⟩ := ht.isList
    obtain ⟨as, h4⟩ := RpAll.reads I ha rv
    exact (list_K (n := n) ho hc hd h4 (RpAll.itemsK I ha rv (by simpa [PyData.showable] using hs) fun t ht => Nat.le_trans (listText_mem_le ht) (by simpa only [PyData.shown] using hz)) hz).1
  | _, _, _, .lsk h1 ha, r, hs, hz => by
    cases r
    obtain ⟨its, rv, ht, _⟩ := I.list (h1 H)
    obtain ⟨o, ho, hc, n, hd⟩ := ht.isList
    obtain ⟨as, h4⟩ := RpAll.reads I ha rv
    exact (list_K (n := n) ho hc hd h4 (RpAll.itemsK I ha rv (by simpa [PyData.showable] using hs) fun t ht => Nat.le_trans (listText_mem_le ht) (by simpa only [PyData.shown] using hz)) hz).1
  | _, _, _, .tup h1 ha, r, hs, hz => by
    cases r
    obtain ⟨its, rv, ⟨o, ho, hc, n, hd⟩, _⟩ := I.tuple h1
    obtain ⟨as, h4⟩ := RpAll.reads I ha rv
    exact (tup_K (n := n) ho hc hd h4 (RpAll.itemsK I ha rv (by simpa [PyData.showable] using hs) fun t ht => Nat.le_trans (tupleText_mem_le ht) (by simpa only [PyData.shown] using hz)) hz).1
  | _, _, _, .dic h1 na, r, hs, hz => by
    obtain ⟨as, rd, hn⟩ := Rp.readsS I (.dic h1 na) r rfl
    exact ReprK.of_reads rd hs (fun _ => hn) hz
theorem RpAll.itemsK (I : Inv X pins σ H s) : ∀ {vs : List V} {ds : List D} {us : List Value}, RpAll X.K Av H vs ds → Vals vs us → PyData.showableAll ds = true → (∀ t ∈ PyData.shownAll ds, t.length ≤ sizeLine) → ItemsK X.prog X.w s.heap us ds
  | _, _, _, .nil, r, _, _ => by cases r; exact ⟨[], (fun _ h => nomatch h), by simp only [PyData.shownAll]; exact .nil⟩
  | _, _, _, .cons (d := d) (ds := ds) h1 h2, r, hs, hz => by
    cases r with
    | cons r1 r2 =>
      have hs' : d.showable = true ∧ PyData.showableAll ds = true := by simpa [PyData.showableAll] using hs
      exact itemsK_cons (Rp.reprK I h1 r1 hs'.1 (hz _ (by simp only [PyData.shownAll]; exact List.mem_cons_self ..))) (RpAll.itemsK I h2 r2 hs'.2 fun t ht => hz t (by simp only [PyData.shownAll]; exact List.mem_cons_of_mem _ ht))
end
/-- repr(x) of any data here -/
theorem repr_ra (I : Inv X pins σ H s) {v : V} {d : D} {a : Addr} (h : Ra X.K Av H v d) (r : RelV v (.ref a)) (hs : d.showable = true) (hz : d.shown.length ≤ sizeLine) (hd : d.depth ≤ 60) (hu : X.A.units + 65 < cLine) (hg : X.A.guards = some []) {Q : Value → Shared → Prop}
    (hQ : ∀ h' u tk, (∀ b o, s.heap.get? b = some o → h'.get? b = some o) → Q (.str d.shown u) { s with heap := h', toks := tk }) : wpAny (model X.prog X.w) X.A (call (.builtin "repr") [.ref a]) Q X.xe s := by
  have fin : (∃ T i, ShowsBy X.prog X.w s.heap a d T i) → wpAny (model X.prog X.w) X.A (call (.builtin "repr") [.ref a]) Q X.xe s := fun ⟨T, i, S⟩ =>
    call_repr_slot (by omega) (S.typeIs s fun _ _ e => e) S.slotRepr (S.call X.A.in1 X.xe s _ hg (by show X.A.units + 1 + d.depth < cLine; omega) (fun _ _ e => e) fun h' u tk hk => ⟨_, _, rfl, hQ h' u tk hk⟩)
  cases d with
  | list xs =>
    obtain ⟨b, ws, rfl, sa, ra⟩ := h.lst
    cases r
    obtain ⟨its, rv, ht, _⟩ := I.list sa
    obtain ⟨o, ho, hc, n, hdd⟩ := ht.isList
    obtain ⟨as, h4⟩ := RpAll.reads I ra rv
    exact fin (list_K (n := n) ho hc hdd h4 (RpAll.itemsK I ra rv (by simpa [PyData.showable] using hs) fun t ht => Nat.le_trans (listText_mem_le ht) (by simpa only [PyData.shown] using hz)) hz).2
  | tuple xs =>
    obtain ⟨b, ws, rfl, sa, ra⟩ := h.tup
    cases r
    obtain ⟨its, rv, ⟨o, ho, hc, n, hdd⟩, _⟩ := I.tuple sa
    obtain ⟨as, h4⟩ := RpAll.reads I ra rv
    exact fin (tup_K (n := n) ho hc hdd h4 (RpAll.itemsK I ra rv (by simpa [PyData.showable] using hs) fun t ht => Nat.le_trans (tupleText_mem_le ht) (by simpa only [PyData.shown] using hz)) hz).2
  | dict kvs =>
    rcases h with h | ⟨_, _, _, _, e, _⟩
    · obtain ⟨as, rd, hn⟩ := Rp.readsS I h r rfl
      exact fin (showsBy_of_reads rd hs (fun _ => hn) hz)
    · cases e
  | none => cases h.non; cases r
  | bool b => cases h.bl; cases r
  | int i => cases h.int; obtain ⟨_, z⟩ := r; cases z
  | str x => cases h.str; obtain ⟨_, z⟩ := r; cases z
end
end Z

set_option linter.all false
set_option maxRecDepth 100000
set_option maxHeartbeats 1000000
namespace Z
open PySem PySem.Spec L2
open PyProof.Rows hiding St

inductive RaAll (K : PySem.W.Frag) (Av : Addr → Prop) (H : Hp) : List V → List D → Prop
  | nil : RaAll K Av H [] []
  | cons {v : V} {vs : List V} {d : D} {ds : List D} : Ra K Av H v d → RaAll K Av H vs ds → RaAll K Av H (v :: vs) (d :: ds)
theorem RpAll.ra {K : PySem.W.Frag} {Av : Addr → Prop} {H : Hp} : ∀ {vs : List V} {ds : List D}, RpAll K Av H vs ds → RaAll K Av H vs ds
  | _, _, .nil => .nil
  | _, _, .cons r q => .cons (.inl r) (RpAll.ra q)
def BiOk (X : Cx) (f : Value) (g : List D → Option D) : Prop :=
  ∀ (pins : List (Addr × Obj)) (s : Shared) (σ : St) (H : Hp) (vs : List V) (us : List Value) (ds : List D) (z : D) (Av : Addr → Prop), Inv X pins σ H s → Vals vs us → Fre Av H → RaAll X.K Av H vs ds → g ds = some z →
    wpAny (model X.prog X.w) X.A (call f us) (EP X pins σ (QN X.K Av H z)) X.xe s
theorem RaAll.one {K : PySem.W.Frag} {Av : Addr → Prop} {H : Hp} {vs : List V} {d : D} (r : RaAll K Av H vs [d]) : ∃ v, vs = [v] ∧ Ra K Av H v d := by
  cases r with
  | cons h t => cases t; exact ⟨_, rfl, h⟩
theorem RaAll.two {K : PySem.W.Frag} {Av : Addr → Prop} {H : Hp} {vs : List V} {d e : D} (r : RaAll K Av H vs [d, e]) : ∃ v w, vs = [v, w] ∧ Ra K Av H v d ∧ Ra K Av H w e := by
  cases r with
  | cons h t =>
    obtain ⟨w, rfl, h2⟩ := t.one
    exact ⟨_, _, rfl, h, h2⟩
theorem one_some {f : D → Option D} {ds : List D} {z : D} (h : one f ds = some z) : ∃ d, ds = [d] ∧ f d = some z := by
  cases ds with
  | nil => cases h
  | cons d r => cases r with
    | nil => exact ⟨d, rfl, h⟩
    | cons _ _ => cases h
theorem oneTwo_some {f : D → Option D} {g : D → D → Option D} {ds : List D} {z : D} (h : oneTwo f g ds = some z) : (∃ d, ds = [d] ∧ f d = some z) ∨ ∃ d e, ds = [d, e] ∧ g d e = some z := by
  cases ds with
  | nil => cases h
  | cons d r => cases r with
    | nil => exact .inl ⟨d, rfl, h⟩
    | cons e r => cases r with
      | nil => exact .inr ⟨d, e, rfl, h⟩
      | cons _ _ => cases h
section
variable {X : Cx} {H : Hp} {Av : Addr → Prop}
/-- a built-in of one argument -/
theorem bi_one {f : Value} {g : D → Option D} (h : ∀ (pins : List (Addr × Obj)) (s : Shared) (σ : St) (H : Hp) (v : V) (us : List Value) (d z : D) (Av : Addr → Prop), Inv X pins σ H s → Vals [v] us → Fre Av H → Ra X.K Av H v d → g d = some z →
    wpAny (model X.prog X.w) X.A (call f us) (EP X pins σ (QN X.K Av H z)) X.xe s) : BiOk X f (one g) := by
  intro pins s σ H vs us ds z Av I r fr ra hz
  obtain ⟨d, rfl, hz⟩ := one_some hz
  obtain ⟨v, rfl, hv⟩ := ra.one
  exact h pins s σ H v us d z Av I r fr hv hz
theorem bi_oneTwo {f : Value} {g : D → Option D} {g2 : D → D → Option D} (h : ∀ (pins : List (Addr × Obj)) (s : Shared) (σ : St) (H : Hp) (v : V) (us : List Value) (d z : D) (Av : Addr → Prop), Inv X pins σ H s → Vals [v] us → Fre Av H → Ra X.K Av H v d → g d = some z →
    wpAny (model X.prog X.w) X.A (call f us) (EP X pins σ (QN X.K Av H z)) X.xe s)
    (h2 : ∀ (pins : List (Addr × Obj)) (s : Shared) (σ : St) (H : Hp) (v w : V) (us : List Value) (d e z : D) (Av : Addr → Prop), Inv X pins σ H s → Vals [v, w] us → Fre Av H → Ra X.K Av H v d → Ra X.K Av H w e → g2 d e = some z →
    wpAny (model X.prog X.w) X.A (call f us) (EP X pins σ (QN X.K Av H z)) X.xe s) : BiOk X f (oneTwo g g2) := by
  intro pins s σ H vs us ds z Av I r fr ra hz
  rcases oneTwo_some hz with ⟨d, rfl, hz⟩ | ⟨d, e, rfl, hz⟩
  · obtain ⟨v, rfl, hv⟩ := ra.one
    exact h pins s σ H v us d z Av I r fr hv hz
  · obtain ⟨v, w, rfl, hv, hw⟩ := ra.two
    exact h2 pins s σ H v w us d e z Av I r fr hv hw hz
theorem qi (i : Int) : QN X.K Av H (.int i) (.int i) H := qn_flat (.int i) (by simp)
theorem bi_len : BiOk X (.builtin "len") (biD .len) := bi_one fun pins s σ H v us d z Av I r fr h hz => by
  cases d with
  | list xs =>
    cases hz
    obtain ⟨a, ws, rfl, sa, q⟩ := h.lst
    exact call_len pins s σ H _ us _ I r ⟨_, xs.length, rfl, .inl ⟨ws, sa, q.length.symm⟩, qi _⟩
  | tuple xs =>
    cases hz
    obtain ⟨a, ws, rfl, sa, q⟩ := h.tup
    exact call_len pins s σ H _ us _ I r ⟨_, xs.length, rfl, .inr ⟨ws, sa, q.length.symm⟩, qi _⟩
  | str x =>
    simp only [bLen] at hz
    split at hz
    · rename_i hl
      cases hz
      cases h.str
      exact call_len pins s σ H _ us _ I r ⟨_, x.length, rfl, ⟨hl, rfl⟩, qi _⟩
    · cases hz
  | _ => cases hz
theorem bi_abs : BiOk X (.builtin "abs") (biD .abs) := bi_one fun pins s σ H v us d z Av I r fr h hz => by
  cases d with
  | int i => cases hz; cases h.int; exact call_abs pins s σ H _ us _ I r ⟨i, rfl, qi _⟩
  | _ => cases hz
theorem bi_int : BiOk X (.type "int") (biD .int) := bi_one fun pins s σ H v us d z Av I r fr h hz => by
  cases d with
  | int i => cases hz; cases h.int; exact call_int1 pins s σ H _ us _ I r (.inl ⟨i, rfl, qi _⟩)
  | bool b => cases hz; cases h.bl; exact call_int1 pins s σ H _ us _ I r (.inr ⟨b, rfl, qi _⟩)
  | _ => cases hz
theorem ints_of {K : PySem.W.Frag} : ∀ {ws : List V} {xs : List D} {ns : List Int}, RpAll K Av H ws xs → intsOf xs = some ns → ws = ns.map V.int
  | _, [], _, .nil, e => by cases e; rfl
  | _, .int i :: r, ns, .cons h q, e => by
    cases h
    simp only [intsOf] at e
    cases k : intsOf r with
    | none => rw [k] at e; cases e
    | some ms =>
      rw [k] at e; cases e
      rw [List.map_cons, ints_of q k]
theorem bools_of {K : PySem.W.Frag} : ∀ {ws : List V} {xs : List D} {ns : List Bool}, RpAll K Av H ws xs → boolsOf xs = some ns → ws = ns.map V.bl
  | _, [], _, .nil, e => by cases e; rfl
  | _, .bool i :: r, ns, .cons h q, e => by
    cases h
    simp only [boolsOf] at e
    cases k : boolsOf r with
    | none => rw [k] at e; cases e
    | some ms =>
      rw [k] at e; cases e
      rw [List.map_cons, bools_of q k]
theorem strs_of {K : PySem.W.Frag} : ∀ {ws : List V} {xs : List D} {ns : List Str}, RpAll K Av H ws xs → strsOf xs = some ns → ws = ns.map V.str
  | _, [], _, .nil, e => by cases e; rfl
  | _, .str i :: r, ns, .cons h q, e => by
    cases h
    simp only [strsOf] at e
    cases k : strsOf r with
    | none => rw [k] at e; cases e
    | some ms =>
      rw [k] at e; cases e
      rw [List.map_cons, strs_of q k]
theorem maxL_ge : ∀ (l : List Int) (m : Int), m ≤ maxL m l ∧ ∀ y ∈ l, y ≤ maxL m l
  | [], m => ⟨Int.le_refl _, fun y h => by cases h⟩
  | x :: r, m => by
    obtain ⟨h1, h2⟩ := maxL_ge r (if x > m then x else m)
    refine ⟨?_, fun y hy => ?_⟩
    · show m ≤ maxL (if x > m then x else m) r
      split at h1 <;> split <;> omega
    · show y ≤ maxL (if x > m then x else m) r
      rcases List.mem_cons.mp hy with rfl | hy
      · split at h1 <;> split <;> omega
      · exact h2 y hy
theorem maxL_mem : ∀ (l : List Int) (m : Int), maxL m l = m ∨ maxL m l ∈ l
  | [], m => .inl rfl
  | x :: r, m => by
    show maxL (if x > m then x else m) r = m ∨ maxL (if x > m then x else m) r ∈ x :: r
    rcases maxL_mem r (if x > m then x else m) with h | h
    · rw [h]; split
      · exact .inr (List.mem_cons_self)
      · exact .inl rfl
    · exact .inr (List.mem_cons_of_mem _ h)
theorem minL_le : ∀ (l : List Int) (m : Int), minL m l ≤ m ∧ ∀ y ∈ l, minL m l ≤ y
  | [], m => ⟨Int.le_refl _, fun y h => by cases h⟩
  | x :: r, m => by
    obtain ⟨h1, h2⟩ := minL_le r (if x < m then x else m)
    refine ⟨?_, fun y hy => ?_⟩
    · show minL (if x < m then x else m) r ≤ m
      split at h1 <;> split <;> omega
    · show minL (if x < m then x else m) r ≤ y
      rcases List.mem_cons.mp hy with rfl | hy
      · split at h1 <;> split <;> omega
      · exact h2 y hy
theorem minL_mem : ∀ (l : List Int) (m : Int), minL m l = m ∨ minL m l ∈ l
  | [], m => .inl rfl
  | x :: r, m => by
    show minL (if x < m then x else m) r = m ∨ minL (if x < m then x else m) r ∈ x :: r
    rcases minL_mem r (if x < m then x else m) with h | h
    · rw [h]; split
      · exact .inr (List.mem_cons_self)
      · exact .inl rfl
    · exact .inr (List.mem_cons_of_mem _ h)
theorem bi_max (hc : X.calm = true) : BiOk X (.builtin "max") (biD .max) := bi_oneTwo
  (fun pins s σ H v us d z Av I r fr h hz => by
    cases d with
    | list xs =>
      obtain ⟨a, ws, rfl, sa, q⟩ := h.lst
      simp only [bMax1] at hz
      split at hz
      · rename_i m l e
        simp only [Option.some.injEq] at hz; subst hz
        have ew := ints_of q e
        subst ew
        refine cr_max hc pins s σ H _ us _ I r ⟨a, m :: l, rfl, sa, Nat.succ_pos _, fun k hk hle => ?_⟩
        have e2 : k = maxL m l := by
          have h1 : maxL m l ∈ m :: l := by
            rcases maxL_mem l m with h | h
            · rw [h]; exact List.mem_cons_self
            · exact List.mem_cons_of_mem _ h
          have h2 := hle _ h1
          have h3 : k ≤ maxL m l := by
            rcases List.mem_cons.mp hk with rfl | hk
            · exact (maxL_ge l k).1
            · exact (maxL_ge l m).2 k hk
          omega
        rw [e2]; exact qi _
      · cases hz
    | _ => cases hz)
  (fun pins s σ H v w us d e z Av I r fr h h' hz => by
    cases d with
    | int i => cases e with
      | int j => cases hz; cases h.int; cases h'.int; exact call_max2 hc pins s σ H _ us _ I r ⟨i, j, rfl, qi _⟩
      | _ => cases hz
    | _ => cases hz)
theorem bi_min (hc : X.calm = true) : BiOk X (.builtin "min") (biD .min) := bi_oneTwo
  (fun pins s σ H v us d z Av I r fr h hz => by
    cases d with
    | list xs =>
      obtain ⟨a, ws, rfl, sa, q⟩ := h.lst
      simp only [bMin1] at hz
      split at hz
      · rename_i m l e
        simp only [Option.some.injEq] at hz; subst hz
        have ew := ints_of q e
        subst ew
        refine cr_min hc pins s σ H _ us _ I r ⟨a, m :: l, rfl, sa, Nat.succ_pos _, fun k hk hle => ?_⟩
        have e2 : k = minL m l := by
          have h1 : minL m l ∈ m :: l := by
            rcases minL_mem l m with h | h
            · rw [h]; exact List.mem_cons_self
            · exact List.mem_cons_of_mem _ h
          have h2 := hle _ h1
          have h3 : minL m l ≤ k := by
            rcases List.mem_cons.mp hk with rfl | hk
            · exact (minL_le l k).1
            · exact (minL_le l m).2 k hk
          omega
        rw [e2]; exact qi _
      · cases hz
    | _ => cases hz)
  (fun pins s σ H v w us d e z Av I r fr h h' hz => by
    cases d with
    | int i => cases e with
      | int j => cases hz; cases h.int; cases h'.int; exact call_min2 hc pins s σ H _ us _ I r ⟨i, j, rfl, qi _⟩
      | _ => cases hz
    | _ => cases hz)
theorem bi_sum (hc : X.calm = true) : BiOk X (.builtin "sum") (biD .sum) := bi_one fun pins s σ H v us d z Av I r fr h hz => by
  cases d with
  | list xs =>
    obtain ⟨a, ws, rfl, sa, q⟩ := h.lst
    simp only [bSum] at hz
    cases e : intsOf xs with
    | none => rw [e] at hz; cases hz
    | some ns =>
      rw [e] at hz; cases hz
      have ew := ints_of q e
      subst ew
      exact cr_sum hc pins s σ H _ us _ I r ⟨a, ns, rfl, sa, qi _⟩
  | _ => cases hz
theorem bi_all (hc : X.calm = true) : BiOk X (.builtin "all") (biD .all) := bi_one fun pins s σ H v us d z Av I r fr h hz => by
  cases d with
  | list xs =>
    obtain ⟨a, ws, rfl, sa, q⟩ := h.lst
    simp only [bAll] at hz
    cases e : boolsOf xs with
    | none => rw [e] at hz; cases hz
    | some ns =>
      rw [e] at hz; cases hz
      have ew := bools_of q e
      subst ew
      exact cr_all hc pins s σ H _ us _ I r ⟨a, ns, rfl, sa, qb _⟩
  | _ => cases hz
theorem bi_any (hc : X.calm = true) : BiOk X (.builtin "any") (biD .any) := bi_one fun pins s σ H v us d z Av I r fr h hz => by
  cases d with
  | list xs =>
    obtain ⟨a, ws, rfl, sa, q⟩ := h.lst
    simp only [bAny] at hz
    cases e : boolsOf xs with
    | none => rw [e] at hz; cases hz
    | some ns =>
      rw [e] at hz; cases hz
      have ew := bools_of q e
      subst ew
      exact cr_any hc pins s σ H _ us _ I r ⟨a, ns, rfl, sa, qb _⟩
  | _ => cases hz
theorem bi_tuple : BiOk X (.type "tuple") (biD .tuple) := bi_one fun pins s σ H v us d z Av I r fr h hz => by
  cases d with
  | list xs =>
    obtain ⟨a, ws, rfl, sa, q⟩ := h.lst
    cases hz
    exact call_tuple_of pins s σ H _ us _ I r ⟨a, ws, rfl, .inl ⟨sa, fun p hp => qn_tup hp q⟩⟩
  | tuple xs =>
    obtain ⟨a, ws, rfl, sa, q⟩ := h.tup
    cases hz
    exact call_tuple_of pins s σ H _ us _ I r ⟨a, ws, rfl, .inr ⟨sa, qn_flat (.tup sa q) (by simp)⟩⟩
  | _ => cases hz
theorem bi_list : BiOk X (.type "list") (biD .list) := bi_one fun pins s σ H v us d z Av I r fr h hz => by
  cases d with
  | list xs =>
    obtain ⟨a, ws, rfl, sa, q⟩ := h.lst
    cases hz
    exact call_list_of pins s σ H _ us _ I r ⟨a, ws, rfl, .inl sa, fun p hp => qn_lst hp (fr p hp) q⟩
  | tuple xs =>
    obtain ⟨a, ws, rfl, sa, q⟩ := h.tup
    cases hz
    exact call_list_of pins s σ H _ us _ I r ⟨a, ws, rfl, .inr sa, fun p hp => qn_lst hp (fr p hp) q⟩
  | _ => cases hz

theorem showable_ok {d : D} {z : D} (h : bRepr d = some z) : d.showable = true ∧ d.depth ≤ 60 ∧ d.shown.length ≤ sizeLine ∧ z = .str d.shown := by
  unfold bRepr at h
  split at h
  · rename_i q
    simp only [Bool.and_eq_true, decide_eq_true_eq] at q
    obtain ⟨⟨h1, h2⟩, h3⟩ := q
    exact ⟨h1, h2, h3, (Option.some.inj h).symm⟩
  · cases h
theorem bi_repr (hu : X.A.units + 65 < cLine) (hg : X.A.guards = some []) : BiOk X (.builtin "repr") (biD .repr) := bi_one fun pins s σ H v us d z Av I r fr h hz => by
  obtain ⟨u, rfl, ru⟩ := vals1 r
  obtain ⟨k1, k2, k3, rfl⟩ := showable_ok hz
  have fin : ∀ {a : Addr}, u = .ref a → wpAny (model X.prog X.w) X.A (call (.builtin "repr") [u]) (EP X pins σ (QN X.K Av H (.str d.shown))) X.xe s := fun {a} e => by
    subst e
    exact repr_ra I h ru k1 k3 k2 hu hg fun h' u' tk hk => ⟨.str d.shown, H, I.kept fun b o e => hk b o e, ⟨_, rfl⟩, qn_flat (.str _) (by simp)⟩
  cases d with
  | none => cases h.non; cases ru; exact PySem.P.repr_of_none ⟨.str _, H, I.tok _, ⟨_, rfl⟩, qn_flat (.str _) (by simp)⟩
  | bool b => cases h.bl; cases ru; exact PySem.P.repr_of_bool ⟨.str _, H, I.tok _, ⟨_, rfl⟩, qn_flat (.str _) (by simp)⟩
  | int i => cases h.int; obtain ⟨t, rfl⟩ := ru; exact PySem.P.repr_of_int (of_decide_eq_true (show decide (i.natAbs.log2 < 1920) = true from k1)) ⟨.str _, H, I.tok _, ⟨_, rfl⟩, qn_flat (.str _) (by simp)⟩
  | str x => cases h.str; obtain ⟨t, rfl⟩ := ru; exact PySem.P.repr_of_str ⟨.str _, H, I.tok _, ⟨_, rfl⟩, qn_flat (.str _) (by simp)⟩ k3
  | list xs =>
    have h' := h
    obtain ⟨a, ws, rfl, _⟩ := h'.lst
    cases ru
    exact fin rfl
  | tuple xs =>
    have h' := h
    obtain ⟨a, ws, rfl, _⟩ := h'.tup
    cases ru
    exact fin rfl
  | dict kvs =>
    have h' := h
    rcases h' with h' | ⟨_, _, _, _, e, _⟩
    · cases h'
      cases ru
      exact fin rfl
    · cases e

/-! ### methods -/
def MeOk (X : Cx) (id : String) (g : D → List D → Option D) : Prop :=
  ∀ (pins : List (Addr × Obj)) (s : Shared) (σ : St) (H : Hp) (x : V) (v : Value) (vs : List V) (us : List Value) (d : D) (ds : List D) (z : D) (Av : Addr → Prop), Inv X pins σ H s → RelV x v → Vals vs us → Fre Av H →
    Ra X.K Av H x d → RaAll X.K Av H vs ds → g d ds = some z → wpAny (model X.prog X.w) X.A (call (.builtin id) (v :: us)) (EP X pins σ (QN X.K Av H z)) X.xe s
theorem me_one {id : String} {g : D → D → Option D} (h : ∀ (pins : List (Addr × Obj)) (s : Shared) (σ : St) (H : Hp) (x : V) (v : Value) (w : V) (u : Value) (d e z : D) (Av : Addr → Prop), Inv X pins σ H s → RelV x v → RelV w u → Fre Av H →
    Ra X.K Av H x d → Ra X.K Av H w e → g d e = some z → wpAny (model X.prog X.w) X.A (call (.builtin id) [v, u]) (EP X pins σ (QN X.K Av H z)) X.xe s) : MeOk X id (fun d ds => one (g d) ds) := by
  intro pins s σ H x v vs us d ds z Av I rx r fr hd ra hz
  obtain ⟨e, rfl, hz⟩ := one_some hz
  obtain ⟨w, rfl, hw⟩ := ra.one
  obtain ⟨u, rfl, ru⟩ := vals1 r
  exact h pins s σ H x v w u d e z Av I rx ru fr hd hw hz
def onStr (g : D → List D → Option D) : D → List D → Option D
  | .str x, ds => g (.str x) ds
  | _, _ => none
def onLst (g : D → List D → Option D) : D → List D → Option D
  | .list x, ds => g (.list x) ds
  | _, _ => none
theorem me_index_str : MeOk X "str.index" (onStr (meD .index)) := by
  intro pins s σ H x v vs us d ds z Av I rx r fr hd ra hz
  cases d with
  | str a =>
    obtain ⟨e, rfl, hz⟩ := one_some (show one (mIndexS (.str a)) ds = some z from hz)
    obtain ⟨w, rfl, hw⟩ := ra.one
    obtain ⟨u, rfl, ru⟩ := vals1 r
    cases e with
    | str b =>
      cases hd.str
      cases hw.str
      obtain ⟨t, rfl⟩ := rx
      obtain ⟨t', rfl⟩ := ru
      change (match Builtin.Str.occurrences a b 0 a.length 1 with | k :: _ => some (PyData.int (k : Nat)) | [] => none) = some z at hz
      split at hz
      · rename_i k rest q
        simp only [Option.some.injEq] at hz; subst hz
        exact PySem.SC.index q ⟨.int (k : Nat), H, I.tok _, ⟨_, rfl⟩, qi _⟩
      · cases hz
    | _ => cases hz
  | _ => cases hz
theorem vals_strs : ∀ zs : List Str, RpAll X.K Av H (zs.map V.str) (zs.map PyData.str)
  | [] => .nil
  | z :: zs => .cons (.str z) (vals_strs zs)
theorem me_split : MeOk X "str.split" (onStr (meD .split)) := by
  intro pins s σ H x v vs us d ds z Av I rx r fr hd ra hz
  cases d with
  | str a =>
    obtain ⟨e, rfl, hz⟩ := one_some (show one (mSplit (.str a)) ds = some z from hz)
    obtain ⟨w, rfl, hw⟩ := ra.one
    cases e with
    | str b =>
      cases hd.str
      cases hw.str
      have hz : (if (b.length == 0) = false ∧ a.length + 2 ≤ sizeLine then some (PyData.list ((Txt.split a b).map .str)) else none) = some z := hz
      split at hz
      · rename_i q
        cases hz
        refine mt_split pins s σ H _ _ v us _ I rx r ⟨a, b, rfl, rfl, q.1, q.2, fun p hp => ?_⟩
        exact qn_lst hp (fr p hp) (vals_strs _)
      · cases hz
    | _ => cases hz
  | _ => cases hz
theorem join_some {x : Str} {o : Option (List Str)} {z : D} (h : joinAll x o = some z) : ∃ zs, o = some zs ∧ (zs.map (·.length)).sum + zs.length * x.length ≤ 16777216 ∧ z = .str (Txt.join x zs) := by
  unfold joinAll at h
  cases o with
  | none => cases h
  | some zs =>
    have h : (if (zs.map (·.length)).sum + zs.length * x.length ≤ 16777216 then some (PyData.str (Txt.join x zs)) else none) = some z := h
    split at h
    · rename_i q; exact ⟨zs, rfl, q, (Option.some.inj h).symm⟩
    · cases h
theorem me_join : MeOk X "str.join" (onStr (meD .join)) := by
  intro pins s σ H x v vs us d ds z Av I rx r fr hd ra hz
  cases d with
  | str a =>
    obtain ⟨e, rfl, hz⟩ := one_some (show one (mJoin (.str a)) ds = some z from hz)
    obtain ⟨w, rfl, hw⟩ := ra.one
    cases hd.str
    cases e with
    | list ys =>
      obtain ⟨zs, e1, e2, rfl⟩ := join_some (show joinAll a (strsOf ys) = some z from hz)
      obtain ⟨p, ws, rfl, sa, q⟩ := hw.lst
      have e3 := strs_of q e1
      subst e3
      exact mt_join pins s σ H _ _ v us _ I rx r ⟨a, p, zs, rfl, rfl, .inl sa, e2, qn_flat (.str _) (by simp)⟩
    | tuple ys =>
      obtain ⟨zs, e1, e2, rfl⟩ := join_some (show joinAll a (strsOf ys) = some z from hz)
      obtain ⟨p, ws, rfl, sa, q⟩ := hw.tup
      have e3 := strs_of q e1
      subst e3
      exact mt_join pins s σ H _ _ v us _ I rx r ⟨a, p, zs, rfl, rfl, .inr sa, e2, qn_flat (.str _) (by simp)⟩
    | _ => cases hz
  | _ => cases hz
theorem me_count_list (hu : X.A.units + 65 < cLine) : MeOk X "list.count" (onLst (meD .count)) := by
  intro pins s σ H x v vs us d ds z Av I rx r fr hd ra hz
  cases d with
  | list xs =>
    obtain ⟨e, rfl, hz⟩ := one_some (show one (mCount (.list xs)) ds = some z from hz)
    obtain ⟨w, rfl, hw⟩ := ra.one
    obtain ⟨u, rfl, ru⟩ := vals1 r
    change (if (okd e && okd (.list xs)) = true then some (PyData.int (xs.countP fun y => PyData.eqv y e : Nat)) else none) = some z at hz
    split at hz
    · rename_i hk
      simp only [Option.some.injEq] at hz; subst hz
      simp only [Bool.and_eq_true] at hk
      obtain ⟨as, r1⟩ := Rp.flatAv I hw ru
      obtain ⟨bs, r2⟩ := Rp.flatAv I hd rx
      obtain ⟨a, ws, rfl, sa, q⟩ := hd.lst
      cases rx
      have k1 := canLay_ok hk.1
      have k2 := (canLay_ok hk.2).1
      have hm : min (PyData.depthAll xs) e.depth ≤ e.depth := Nat.min_le_right _ _
      cases r2 with
      | list h1 h2 h3 h4 =>
        exact PySem.SeqAt.count_list_data ⟨_, h1, h2, _, h3⟩ h4 r1 (by simpa [PyData.plain] using k2) k1.1 (by omega) ⟨.int _, H, I.tok _, ⟨_, rfl⟩, qi _⟩
    · cases hz
  | _ => cases hz
end
end Z

set_option linter.all false
set_option maxRecDepth 100000
set_option maxHeartbeats 1000000
namespace Z
open PySem PySem.Spec L2
open PyProof.Rows hiding St
section
variable {X : Cx} {p : Par} {W : Wh} {pos : Pos} {e a b c : Expr} {f g h : Slots → R D} {ca cb cc : C}

theorem New.got {σ : St} {H H' : Hp} {fr : Bool} {v : V} {z : D} (s : Same H H') (n : New p.K (av p σ) H H' v z) : Got p σ H H' fr v z := by
  refine ⟨n.1, fun _ ds e => ?_⟩
  obtain ⟨a, xs, h1, h2, h3, h4⟩ := n.2 ds e
  refine ⟨a, xs, h1, h2, h3, RpAll.stay (Stay.of_same s) (fun b h => .inl (ow_av b h)) (RpAll.more (fun b h => ?_) h4)⟩
  rcases h with h | h
  · exact .inl h
  · exact .inr (by rw [h]; exact h2)
/-- a value that is data is an argument -/
theorem arg_of {σ : St} {H : Hp} {v : V} {d : D} (hn : isOwn ca = none) (r : Rp p.K (av p σ) H v d) : Arg p σ H ca v d := by
  unfold Arg; rw [hn]; exact r
theorem x_arg {fr : Bool} (hn : isOwn ca = none) (ha : PE X a (tX p W fr f)) : PE X a (tY p W ca f) :=
  pe_imp ha fun σ H Q m => m.weak fun H' v d g => arg_of hn g.1
theorem x_const {d : D} {v : V} {fr : Bool} (hr : ∀ Av H, Rp p.K Av H v d) (hl : ∀ ds, d ≠ .list ds) (he : PE X e (tC v)) : PE X e (tX p W fr fun ρ => .ok d ρ) := pe_imp he fun σ H Q m => by
  obtain ⟨ρ, S, m⟩ := m.ok
  exact m _ _ (fun _ _ h => h) ⟨hr _ _, fun _ ds h => absurd h (hl ds)⟩
theorem x_var {i : Nat} (hi : p.own.contains i = false) (he : PE X e (tVar i)) : PE X e (tX p W false fun ρ => opt (get ρ i) ρ) := pe_imp he fun σ H Q m => by
  obtain ⟨ρ, d, S, hd, m⟩ := tG.opt m
  obtain ⟨v, h1, h2⟩ := S.va i d (by intro h; rw [List.contains_iff_mem.mpr h] at hi; cases hi) hd
  exact ⟨v, h1, m v H (fun _ _ h => h) (Got.no h2)⟩
theorem x_own {i : Nat} (hi : i ∈ p.own) (he : PE X e (tVar i)) : PE X e (tY p W (.own i) fun ρ => opt (get ρ i) ρ) := pe_imp he fun σ H Q m => by
  obtain ⟨ρ, d, S, hd, m⟩ := tG.opt m
  obtain ⟨a, xs, ds, _, h2, _⟩ := S.ov i d hi hd
  exact ⟨_, h2, m _ H (fun _ _ h => h) ⟨hi, h2⟩⟩
theorem x_op {o : Operator} {o' : Op} {fr : Bool} (hk : X.K = p.K) (ho : OpOk X (binaryOp o) (opD o')) (ha : PE X a (tY p W ca f)) (hb : PE X b (tY p W cb g)) :
    PE X (.BinOp a o b pos) (tX p W fr fun ρ => (f ρ).bind fun x ρ1 => (g ρ1).bind fun y ρ2 => opt (opD o' (fixD ca x ρ2) (fixD cb y ρ2)) ρ2) := by
  refine ⟨fun pins s σ H Q I m => ?_⟩
  refine wpAny_BinOp (thn (ha.run pins s σ H _ I (m.bind (G := gY p ca) frmX)) fun v s1 ⟨x, H1, I1, r1, d, st1, g1, m1⟩ => thn (hb.run pins s1 σ H1 _ I1 (m1.bind (G := gY p cb) frmX)) fun u s2 ⟨y, H2, I2, r2, e, st2, g2, m2⟩ => ?_)
  obtain ⟨ρ, z, S, hz, m3⟩ := m2.opt
  refine thn (ho pins s2 σ H2 x y v u _ _ z (av p σ) I2 r1 r2 (fun b h => S.fresh h) (hk ▸ g1.ra st2 S) (hk ▸ g2.ra Stay.refl S) hz) fun r s3 h => EP.imp h fun w H' ⟨q1, q2⟩ => m3 w H' q1 (New.got q1 (hk ▸ q2))
theorem x_cmp {o : CmpOp} {o' : Cm} {fr : Bool} (hk : X.K = p.K) (ho : OpOk X (compareOp o) (fun d e => (cmpD o' d e).map .bool)) (ha : PE X a (tY p W ca f)) (hb : PE X b (tY p W cb g)) (hm : behindInMarks o b = false) :
    PE X (.Compare a [o] [b] pos) (tX p W fr fun ρ => (f ρ).bind fun x ρ1 => (g ρ1).bind fun y ρ2 => opt ((cmpD o' (fixD ca x ρ2) (fixD cb y ρ2)).map .bool) ρ2) := by
  refine ⟨fun pins s σ H Q I m => ?_⟩
  refine wpAny_Compare1 (thn (ha.run pins s σ H _ I (m.bind (G := gY p ca) frmX)) fun v s1 ⟨x, H1, I1, r1, d, st1, g1, m1⟩ => thn (hb.run pins s1 σ H1 _ I1 (m1.bind (G := gY p cb) frmX)) fun u s2 ⟨y, H2, I2, r2, e, st2, g2, m2⟩ => ?_) hm
  obtain ⟨ρ, z, S, hz, m3⟩ := m2.opt
  refine thn (ho pins s2 σ H2 x y v u _ _ z (av p σ) I2 r1 r2 (fun b h => S.fresh h) (hk ▸ g1.ra st2 S) (hk ▸ g2.ra Stay.refl S) hz) fun r s3 h => EP.imp h fun w H' ⟨q1, q2⟩ => m3 w H' q1 (New.got q1 (hk ▸ q2))
/-- the same as a test -/
theorem t_cmp {o : CmpOp} {o' : Cm} (hk : X.K = p.K) (ho : OpOk X (compareOp o) (fun d e => (cmpD o' d e).map .bool)) (ha : PE X a (tY p W ca f)) (hb : PE X b (tY p W cb g)) (hm : behindInMarks o b = false) :
    PT X (.Compare a [o] [b] pos) (tB p W fun ρ => ((f ρ).bind fun x ρ1 => (g ρ1).bind fun y ρ2 => opt ((cmpD o' (fixD ca x ρ2) (fixD cb y ρ2)).map .bool) ρ2).bind fun d ρ3 => opt (truthD d) ρ3) := by
  refine ⟨fun pins s σ H Q I m => ?_⟩
  have m := tB.bind (G := gX p false) m
  refine wpAny_isTrue_Compare1 (thn (ha.run pins s σ H _ I (m.bind (G := gY p ca) frmX)) fun v s1 ⟨x, H1, I1, r1, d, st1, g1, m1⟩ => thn (hb.run pins s1 σ H1 _ I1 (m1.bind (G := gY p cb) frmX)) fun u s2 ⟨y, H2, I2, r2, e, st2, g2, m2⟩ => ?_) hm
  obtain ⟨ρ, z, S, hz, m3⟩ := m2.opt
  refine thn (ho pins s2 σ H2 x y v u _ _ z (av p σ) I2 r1 r2 (fun b h => S.fresh h) (hk ▸ g1.ra st2 S) (hk ▸ g2.ra Stay.refl S) hz) fun r s3 ⟨w, H', I3, r3, q1, q2⟩ => ?_
  cases k : cmpD o' (fixD ca d ρ) (fixD cb e ρ) with
  | none => rw [k] at hz; cases hz
  | some bb =>
    rw [k] at hz
    have hz : PyData.bool bb = z := by simpa using hz
    subst hz
    have q3 := q2.1
    obtain ⟨z', st, gg, m4⟩ := m3 w H' q1 (New.got q1 (hk ▸ q2))
    cases q3
    cases r3
    cases gg.1
    obtain ⟨ρ', bb, S', e5, m5⟩ := m4.opt
    cases e5
    exact wpAny_truthy_bool ⟨H', I3, m5 H' fun _ _ h => h⟩
theorem x_neg {fr : Bool} (ha : PE X a (tX p W false f)) :
    PE X (.UnaryOp .USub a pos) (tX p W fr fun ρ => (f ρ).bind fun x ρ1 => opt (match x with | .int i => some (.int (-i)) | _ => none) ρ1) := pe_imp (pe_un un_neg ha) fun σ H Q m => by
  refine (m.bind (G := gX p false) frmX).mono fun v H1 ⟨d, st, g1, m1⟩ => ?_
  obtain ⟨ρ, z, S, hz, m2⟩ := m1.opt
  cases d <;> first | cases hz | skip
  cases g1.1
  exact ⟨_, rfl, m2 _ H1 (fun _ _ h => h) ⟨.int _, fun _ ds h => by cases h⟩⟩
theorem x_not {fr : Bool} (ha : PE X a (tX p W false f)) :
    PE X (.UnaryOp .Not a pos) (tX p W fr fun ρ => (f ρ).bind fun x ρ1 => opt (match x with | .bool b => some (.bool (!b)) | _ => none) ρ1) := pe_imp (pe_not ha) fun σ H Q m => by
  refine (m.bind (G := gX p false) frmX).mono fun v H1 ⟨d, st, g1, m1⟩ => ?_
  obtain ⟨ρ, z, S, hz, m2⟩ := m1.opt
  cases d <;> first | cases hz | skip
  cases g1.1
  exact ⟨_, rfl, m2 _ H1 (fun _ _ h => h) ⟨.bl _, fun _ ds h => by cases h⟩⟩
theorem tG.bad {G : GT} {σ : St} {H : Hp} {Q : VK} (m : tG p W G (fun _ => .bad) σ H Q) : False := by
  obtain ⟨_, _, m⟩ := m
  exact m
theorem x_and {rest : List Expr} {fr : Bool} (ha : PE X a (tX p W false f)) (hb : PE X (.BoolOp .And (b :: rest) pos) (tX p W fr g)) :
    PE X (.BoolOp .And (a :: b :: rest) pos) (tX p W fr fun ρ => (f ρ).bind fun x ρ1 => match x with | .bool true => g ρ1 | .bool false => .ok (.bool false) ρ1 | _ => .bad) := pe_imp (pe_and ha hb) fun σ H Q m => by
  refine (m.bind (G := gX p false) frmX).mono fun v H1 ⟨d, st, g1, m1⟩ => ?_
  cases d <;> first | exact (tG.bad m1).elim | skip
  rename_i k
  cases g1.1
  refine ⟨k, rfl, ?_⟩
  cases k with
  | true => rw [if_pos rfl]; exact m1
  | false =>
    rw [if_neg Bool.false_ne_true]
    obtain ⟨ρ, S, m2⟩ := m1.ok
    exact m2 _ H1 (fun _ _ h => h) ⟨.bl _, fun _ ds h => by cases h⟩
theorem x_or {rest : List Expr} {fr : Bool} (ha : PE X a (tX p W false f)) (hb : PE X (.BoolOp .Or (b :: rest) pos) (tX p W fr g)) :
    PE X (.BoolOp .Or (a :: b :: rest) pos) (tX p W fr fun ρ => (f ρ).bind fun x ρ1 => match x with | .bool false => g ρ1 | .bool true => .ok (.bool true) ρ1 | _ => .bad) := pe_imp (pe_or ha hb) fun σ H Q m => by
  refine (m.bind (G := gX p false) frmX).mono fun v H1 ⟨d, st, g1, m1⟩ => ?_
  cases d <;> first | exact (tG.bad m1).elim | skip
  rename_i k
  cases g1.1
  refine ⟨k, rfl, ?_⟩
  cases k with
  | false => rw [if_neg Bool.false_ne_true]; exact m1
  | true =>
    rw [if_pos rfl]
    obtain ⟨ρ, S, m2⟩ := m1.ok
    exact m2 _ H1 (fun _ _ h => h) ⟨.bl _, fun _ ds h => by cases h⟩
theorem x_ite {t : Slots → R Bool} {fr : Bool} (hc : PT X c (tB p W t)) (ha : PE X a (tX p W fr f)) (hb : PE X b (tX p W fr g)) :
    PE X (.IfExp c a b pos) (tX p W fr fun ρ => (t ρ).bind fun k ρ1 => if k then f ρ1 else g ρ1) := pe_imp (pe_ifExp hc ha hb) fun σ H Q m => by
  refine (m.bindB frmX).mono fun k H1 ⟨st, m1⟩ => ?_
  cases k with
  | true => rw [if_pos rfl]; simpa using m1
  | false => rw [if_neg Bool.false_ne_true]; simpa using m1
/-! tests -/
theorem t_and {rest : List Expr} {t u : Slots → R Bool} (ha : PT X a (tB p W t)) (hb : PW X (.BoolOp .And (b :: rest) pos) (tB p W u)) :
    PW X (.BoolOp .And (a :: b :: rest) pos) (tB p W fun ρ => (t ρ).bind fun k ρ1 => if k then u ρ1 else .ok false ρ1) := pw_imp (pw_and ha hb) fun σ H Q m => by
  refine m.bindB.mono fun k H1 ⟨st, m1⟩ => ?_
  cases k with
  | true => rw [if_pos rfl]; simpa using m1
  | false =>
    rw [if_neg Bool.false_ne_true]
    obtain ⟨ρ, S, m2⟩ := tB.ok (d := false) (by simpa using m1)
    exact m2 H1 fun _ _ h => h
theorem t_or {rest : List Expr} {t u : Slots → R Bool} (ha : PT X a (tB p W t)) (hb : PW X (.BoolOp .Or (b :: rest) pos) (tB p W u)) :
    PW X (.BoolOp .Or (a :: b :: rest) pos) (tB p W fun ρ => (t ρ).bind fun k ρ1 => if k then .ok true ρ1 else u ρ1) := pw_imp (pw_or ha hb) fun σ H Q m => by
  refine m.bindB.mono fun k H1 ⟨st, m1⟩ => ?_
  cases k with
  | false => rw [if_neg Bool.false_ne_true]; simpa using m1
  | true =>
    rw [if_pos rfl]
    obtain ⟨ρ, S, m2⟩ := tB.ok (d := true) (by simpa using m1)
    exact m2 H1 fun _ _ h => h
theorem t_not {t : Slots → R Bool} (ha : PT X a (tB p W t)) : PT X (.UnaryOp .Not a pos) (tB p W fun ρ => (t ρ).bind fun k ρ1 => .ok (!k) ρ1) := pt_imp (pt_not ha) fun σ H Q m => by
  refine m.bindB.mono fun k H1 ⟨st, m1⟩ => ?_
  obtain ⟨ρ, S, m2⟩ := m1.ok
  exact m2 H1 fun _ _ h => h
/-- any data by its truth -/
theorem truV_of {K : PySem.W.Frag} {Av : Addr → Prop} {H : Hp} {v : V} {d : D} {k : Bool} (r : Ra K Av H v d) (hk : truthD d = some k) : TruV K v H k := by
  cases d with
  | none => cases hk; cases r.non; exact rfl
  | bool b => cases hk; cases r.bl; exact rfl
  | int i => cases hk; cases r.int; exact rfl
  | str x =>
    cases r.str
    change (if x.length ≤ sizeLine then some (x.length != 0) else none) = some k at hk
    split at hk
    · rename_i hl
      cases hk
      refine ⟨hl, ?_⟩
      show (x.length != 0) = ((x.length : Int) != 0)
      cases h : x.length <;> rfl
    · cases hk
  | list xs =>
    cases hk
    obtain ⟨a, ws, rfl, h1, h2⟩ := r.lst
    refine .inl ⟨ws, h1, ?_⟩
    cases h2 <;> rfl
  | tuple xs =>
    cases hk
    obtain ⟨a, ws, rfl, h1, h2⟩ := r.tup
    refine .inr (.inl ⟨ws, h1, ?_⟩)
    cases h2 <;> rfl
  | dict kvs =>
    cases hk
    rcases r with r | ⟨_, _, _, _, h, _⟩
    · cases r with
      | dic h _ => exact .inr (.inr ⟨[], h, rfl⟩)
    · cases h
theorem t_truth (hk : X.K = p.K) (ha : PE X a (tY p W ca f)) (he : ∀ whole, isTrue a X.env whole = (do let v ← whole; standAt a.pos; holding [v] (truthy v))) :
    PT X a (tB p W fun ρ => (f ρ).bind fun d ρ1 => opt (truthD (fixD ca d ρ1)) ρ1) := pt_imp (pt_truth ha he) fun σ H Q m => by
  refine (m.bind (G := gY p ca)).mono fun v H1 ⟨d, st, g1, m1⟩ => ?_
  obtain ⟨ρ, k, S, ek, m2⟩ := m1.opt
  exact ⟨k, truV_of (hk ▸ g1.ra Stay.refl S) ek, m2 H1 fun _ _ h => h⟩
theorem x_ix {fr : Bool} (hk : X.K = p.K) (ha : PE X a (tY p W ca f)) (hb : PE X b (tX p W false g)) (hs : PlainIx b) (hfr : fr = false) :
    PE X (.Subscript a b pos) (tX p W fr fun ρ => (f ρ).bind fun x ρ1 => (g ρ1).bind fun y ρ2 => opt (ixD (fixD ca x ρ2) y) ρ2) := by
  subst hfr
  refine ⟨fun pins s σ H Q I m => ?_⟩
  refine Subscript_ (thn (ha.run pins s σ H _ I (m.bind (G := gY p ca) frmX)) fun v s1 ⟨x, H1, I1, r1, d, st1, g1, m1⟩ => thn (hb.run pins s1 σ H1 _ I1 (m1.bind (G := gX p false) frmX)) fun u s2 ⟨y, H2, I2, r2, e, st2, g2, m2⟩ => ?_)
  obtain ⟨ρ, z, S, hz, m3⟩ := m2.opt
  refine thn (ok_ix a b pins s2 σ H2 x y v u _ _ z (av p σ) I2 r1 r2 (hk ▸ g1.ra st2 S) (hk ▸ (.inl g2.1)) hz (hs _ _)) fun r s3 h => EP.imp h fun w H' ⟨q1, q2⟩ => m3 w H' q1 (Got.no (hk ▸ q2))
theorem isPart_of {K : PySem.W.Frag} {Av : Addr → Prop} {H : Hp} {v : V} {u : Value} {d : D} {o : Option Int} (r : Rp K Av H v d) (ru : RelV v u) (h : endD d = some o) : IsPart u o := by
  cases d <;> first | cases h | skip
  · cases r; cases ru; exact .none
  · cases r; obtain ⟨t, rfl⟩ := ru; exact .int _ _
theorem x_sl {lo hi : Option Expr} {p2 : Pos} {fr : Bool} (hk : X.K = p.K) (ha : PE X a (tY p W ca f))
    (hl : ∀ (pins : List (Addr × Obj)) (s : Shared) (σ : St) (H : Hp) (Q : VK), Inv X pins σ H s → tX p W false g σ H Q → wpAny (model X.prog X.w) X.A (evalPart lo X.env) (EP X pins σ Q) X.xe s)
    (hh : ∀ (pins : List (Addr × Obj)) (s : Shared) (σ : St) (H : Hp) (Q : VK), Inv X pins σ H s → tX p W false h σ H Q → wpAny (model X.prog X.w) X.A (evalPart hi X.env) (EP X pins σ Q) X.xe s) :
    PE X (.Subscript a (.Slice lo hi none p2) pos) (tX p W fr fun ρ => (f ρ).bind fun x ρ1 => (g ρ1).bind fun y ρ2 => (h ρ2).bind fun z ρ3 => opt (slD (fixD ca x ρ3) y z) ρ3) := by
  refine ⟨fun pins s σ H Q I m => ?_⟩
  refine Subscript_ (thn (ha.run pins s σ H _ I (m.bind (G := gY p ca) frmX)) fun v s1 ⟨x, H1, I1, r1, d, st1, g1, m1⟩ => ?_)
  refine wpAny_Slice (thn (hl pins s1 σ H1 _ I1 (m1.bind (G := gX p false) frmX)) fun vl s2 ⟨y, H2, I2, r2, e, st2, g2, m2⟩ => thn (hh pins s2 σ H2 _ I2 (m2.bind (G := gX p false) frmX)) fun vu s3 ⟨w, H3, I3, r3, k, st3, g3, m3⟩ => ?_)
  rw [evalPart_none]
  obtain ⟨ρ, z, S, hz, m4⟩ := m3.opt
  unfold slD at hz
  cases e1 : endD e with
  | none => rw [e1] at hz; cases hz
  | some lo' =>
    cases e2 : endD k with
    | none => rw [e1, e2] at hz; cases hz
    | some hi' =>
      rw [e1, e2] at hz
      have pl := isPart_of g2.1 r2 e1
      have pu := isPart_of g3.1 r3 e2
      refine wpAny_pure ?_
      have J : Inv X pins σ H3 { s3 with heap := s3.heap.push { cls := .type "slice", data := .fields #[vl, vu, .none] } } := I3.kept (t' := s3.toks) fun _ _ q => Heap.get?_push_of_some _ q
      obtain ⟨T, id, hT, ht, hg⟩ := ok_sl pins { s3 with heap := s3.heap.push { cls := .type "slice", data := .fields #[vl, vu, .none] } } σ H3 x v vl vu lo' hi' s3.heap.objs.size _ z (av p σ) J r1 (fun b h => S.fresh h)
        (hk ▸ g1.ra (st2.trans st3) S) hz (Heap.IsSliceOf.new ..) pl pu
      have hg' := thn hg fun r s4 (q : EP X pins σ _ r s4) => EP.imp (Q' := Q) q fun w H' ⟨q1, q2⟩ => m4 w H' q1 (New.got q1 (hk ▸ q2))
      exact tail_any (value := a) (slice := .Slice lo hi none p2) (ops := [.ref s3.heap.objs.size, v]) ht hT hg' (by with_unfolding_all rfl)
theorem part_none : ∀ (pins : List (Addr × Obj)) (s : Shared) (σ : St) (H : Hp) (Q : VK), Inv X pins σ H s → tX p W false (fun ρ => .ok .none ρ) σ H Q → wpAny (model X.prog X.w) X.A (evalPart none X.env) (EP X pins σ Q) X.xe s :=
  fun pins s σ H Q I m => by
    rw [evalPart_none]
    obtain ⟨ρ, S, m⟩ := m.ok
    exact wpAny_pure ⟨.non, H, I, rfl, m _ _ (fun _ _ h => h) (Got.no .non)⟩
theorem part_some (ha : PE X a (tX p W false f)) : ∀ (pins : List (Addr × Obj)) (s : Shared) (σ : St) (H : Hp) (Q : VK), Inv X pins σ H s → tX p W false f σ H Q → wpAny (model X.prog X.w) X.A (evalPart (some a) X.env) (EP X pins σ Q) X.xe s :=
  fun pins s σ H Q I m => by
    rw [evalPart_some]
    exact ha.run pins s σ H Q I m

/-! ### argument lists -/
theorem tAG.okL {L : GL} {σ : St} {H : Hp} {Q : List V → Hp → Prop} {d : List D} (m : tAG p W L (fun ρ => .ok d ρ) σ H Q) : ∃ ρ, SR p σ H ρ ∧ ∀ vs, L σ H vs d → Q vs H := by
  obtain ⟨ρ, S, m⟩ := m
  exact ⟨ρ, S, fun vs g => m vs H S Stay.refl g⟩
theorem a_nil : PA X [] (tAG p W (gA p .nil) fun ρ => .ok [] ρ) := pa_imp pa_nil fun σ H Q m => m.ok _ trivial
theorem Arg.stay {σ : St} {H H' : Hp} {v : V} {d : D} (s : Stay (ow p σ) H H') (h : Arg p σ H ca v d) : Arg p σ H' ca v d := by
  unfold Arg at h ⊢
  cases q : isOwn ca with
  | some i => rw [q] at h; exact h
  | none => rw [q] at h; exact Rp.stay s ow_av h
theorem a_cons {es : List Expr} {cr : C} {t : Slots → R (List D)} (ha : PE X a (tY p W ca f)) (hr : PA X es (tAG p W (gA p cr) t)) (hs : starEach (a :: es) X.env = (false, eval a X.env) :: starEach es X.env) :
    PA X (a :: es) (tAG p W (gA p (.cons ca cr)) fun ρ => (f ρ).bind fun x ρ1 => (t ρ1).bind fun xs ρ2 => .ok (x :: xs) ρ2) := pa_imp (pa_cons ha hr hs) fun σ H Q m => by
  refine (tAG.bind (G := gY p ca) m).mono fun v H1 ⟨d, st, g1, m1⟩ => ?_
  refine (tAG.bindL (L' := gA p cr) m1).mono fun vs H2 ⟨ds, st2, g2, m2⟩ => ?_
  exact m2.ok _ ⟨g1.stay st2, g2⟩
theorem argAll_rp : ∀ {l : C} {σ : St} {H : Hp} {vs : List V} {ds : List D}, ownsOf l = [] → ArgAll p σ H l vs ds → RpAll p.K (av p σ) H vs ds
  | .nil, _, _, [], [], _, _ => .nil
  | .cons c r, _, _, v :: vs, d :: ds, ho, h => by
    obtain ⟨h1, h2⟩ := h
    unfold ownsOf at ho
    unfold Arg at h1
    cases q : isOwn c with
    | some i => rw [q] at ho; cases ho
    | none =>
      rw [q] at ho h1
      exact .cons h1 (argAll_rp (l := r) ho h2)
theorem argAll_ra : ∀ {l : C} {σ : St} {H : Hp} {vs : List V} {ds : List D} {ρ : Slots}, SR p σ H ρ → ArgAll p σ H l vs ds → RaAll p.K (av p σ) H vs (fixL l ds ρ)
  | .nil, _, _, [], [], _, _, _ => .nil
  | .cons c r, _, _, v :: vs, d :: ds, _, S, h => .cons (h.1.ra Stay.refl S) (argAll_ra S h.2)
theorem x_tup {es : List Expr} {k : Nat} {cl : C} {t : Slots → R (List D)} {fr : Bool} (ho : ownsOf cl = []) (ha : PA X es (tAG p W (gA p cl) t)) :
    PE X (.Tuple es k pos) (tX p W fr fun ρ => (t ρ).bind fun xs ρ1 => if xs.length ≤ sizeLine then .ok (.tuple xs) ρ1 else .bad) := pe_imp (pe_tup ha) fun σ H Q m => by
  refine (m.bindL frmX).mono fun vs H1 ⟨ds, st, g, m1⟩ => ?_
  have r := argAll_rp ho g
  by_cases hl : ds.length ≤ sizeLine
  · simp only [if_pos hl] at m1
    obtain ⟨ρ, S, m2⟩ := m1.ok
    refine ⟨by rw [r.length]; exact hl, fun q hq => ?_⟩
    obtain ⟨q1, q2⟩ := qn_tup (K := p.K) hq r
    exact m2 _ _ q1 (New.got q1 q2)
  · simp only [if_neg hl] at m1
    exact (tG.bad m1).elim
theorem x_lst {es : List Expr} {cl : C} {t : Slots → R (List D)} {fr : Bool} (ho : ownsOf cl = []) (ha : PA X es (tAG p W (gA p cl) t)) :
    PE X (.List es pos) (tX p W fr fun ρ => (t ρ).bind fun xs ρ1 => if xs.length ≤ sizeLine then .ok (.list xs) ρ1 else .bad) := pe_imp (pe_lst ha) fun σ H Q m => by
  refine (m.bindL frmX).mono fun vs H1 ⟨ds, st, g, m1⟩ => ?_
  have r := argAll_rp ho g
  by_cases hl : ds.length ≤ sizeLine
  · simp only [if_pos hl] at m1
    obtain ⟨ρ, S, m2⟩ := m1.ok
    refine ⟨by rw [r.length]; exact hl, fun q hq => ?_⟩
    obtain ⟨q1, q2⟩ := qn_lst (K := p.K) hq (S.fresh hq) r
    exact m2 _ _ q1 (New.got q1 q2)
  · simp only [if_neg hl] at m1
    exact (tG.bad m1).elim
theorem x_dic {fr : Bool} : PE X (.Dict [] [] pos) (tX p W fr fun ρ => .ok (.dict []) ρ) := pe_imp pe_dnewK fun σ H Q m => by
  obtain ⟨ρ, S, m⟩ := m.ok
  intro d hd
  exact m _ _ (same_upd hd) ⟨.dic upd_same (S.fresh hd), fun _ ds h => by cases h⟩
/-! ### built-ins -/
theorem x_bi {es : List Expr} {x : Str} {cl : C} {t : Slots → R (List D)} {fr : Bool} {fv : Value} {gd : List D → Option D} {pp : Pos} (hk : X.K = p.K) (hb : BiOk X fv gd) (hf : (∃ i, fv = .builtin i) ∨ ∃ i, fv = .type i) (hg : Gl X x) (hm : X.mg x = none) (hv : bootBuiltins x = some fv)
    (ha : PA X (a :: es) (tAG p W (gA p cl) t)) (hn : x ≠ "__name__") (hdb : (x == ("__debug__" : Str)) = false) (he : starEach (a :: es) X.env = (false, eval a X.env) :: starEach es X.env) (hpl : (backTo pos (starEach es X.env)).any (·.1) = false) :
    PE X (.Call (.Name x pp) (a :: es) [] pos) (tX p W fr fun ρ => (t ρ).bind fun ds ρ1 => opt (gd (fixL cl ds ρ1)) ρ1) := by
  have key : ∀ pins s σ H Q, Inv X pins σ H s → ∀ vs us ds, Vals vs us → gA p cl σ H vs ds → tX p W fr (fun ρ1 => opt (gd (fixL cl ds ρ1)) ρ1) σ H Q → wpAny (model X.prog X.w) X.A (call fv us) (EP X pins σ Q) X.xe s :=
    fun pins s σ H Q I vs us ds r g m => by
      obtain ⟨ρ, z, S, hz, m2⟩ := m.opt
      exact thn (hb pins s σ H vs us _ z (av p σ) I r (fun b h => S.fresh h) (hk ▸ argAll_ra S g) hz) fun r s3 h => EP.imp h fun w H' ⟨q1, q2⟩ => m2 w H' q1 (New.got q1 (hk ▸ q2))
  rcases hf with ⟨i, rfl⟩ | ⟨i, rfl⟩
  · refine pe_imp (pe_callB (r := fun vs H Q => ∃ σ ds, gA p cl σ H vs ds ∧ tX p W fr (fun ρ1 => opt (gd (fixL cl ds ρ1)) ρ1) σ H Q) (fun pins s σ' H vs us Q I r ⟨σ, ds, g, m⟩ => ?_) hg hm hv ha hn hdb he hpl) fun σ H Q m => ?_
    · obtain ⟨ρ, z, S, hz, m2⟩ := m.opt
      exact thn (hb pins s σ' H vs us _ z (av p σ) I r (fun b h => S.fresh h) (hk ▸ argAll_ra S g) hz) fun r s3 h => EP.imp h fun w H' ⟨q1, q2⟩ => m2 w H' q1 (New.got q1 (hk ▸ q2))
    · exact (m.bindL (L := gA p cl) frmX).mono fun vs H1 ⟨ds, st, g, m1⟩ => ⟨σ, ds, g, m1⟩
  · refine pe_imp (pe_callTy (r := fun vs H Q => ∃ σ ds, gA p cl σ H vs ds ∧ tX p W fr (fun ρ1 => opt (gd (fixL cl ds ρ1)) ρ1) σ H Q) (fun pins s σ' H vs us Q I r ⟨σ, ds, g, m⟩ => ?_) hg hm hv ha hn hdb he hpl) fun σ H Q m => ?_
    · obtain ⟨ρ, z, S, hz, m2⟩ := m.opt
      exact thn (hb pins s σ' H vs us _ z (av p σ) I r (fun b h => S.fresh h) (hk ▸ argAll_ra S g) hz) fun r s3 h => EP.imp h fun w H' ⟨q1, q2⟩ => m2 w H' q1 (New.got q1 (hk ▸ q2))
    · exact (m.bindL (L := gA p cl) frmX).mono fun vs H1 ⟨ds, st, g, m1⟩ => ⟨σ, ds, g, m1⟩
end
end Z

set_option linter.all false
set_option maxRecDepth 100000
set_option maxHeartbeats 1000000
namespace Z
open PySem PySem.Spec L2
open PyProof.Rows hiding St

/-- a def's promise where no repr is under way -/
structure FnG (P : Program) (w : World) (K : PySem.W.Frag) (mg : Str → Option Value) (base : Heap) (k : Nat) (f : Addr) (fd : FuncData) (ps : List Str) (sp : Sp) : Prop where
  len : ∀ vs H Q E, sp vs H Q E → vs.length = ps.length
  run : ∀ (A : Around) (outer : List Env) (s : Shared) (H : Hp) (args : Args) (us : List Value) (vs : List V) (Q : VK) (E : XK), Room k A → A.guards = some [] → Env0 P w K mg base A outer s H → BindsTo s fd args (ps.zip us) → Vals vs us →
    sp vs H Q E → codeAny (model P w) A (.call (.ref f) args) (CR (L2.CX P w) outer P w H s Q E) s
theorem guards_deeper {A : Around} {env : Env} : (A.deeper env).guards = A.guards := rfl
section
variable {P : Program} {w : World} {K : PySem.W.Frag} {mg : Str → Option Value} {base : Heap}
/-- a def of the text by its body's reading -/
theorem FnG.of {k : Nat} {f : Addr} {x qual : Str} {st : Stmt} {fd : FuncData} {N ps : List Str} {sp : Sp} (F : Fun K x qual st f fd) (S : FnScope N ps (defScope st)) (len : ∀ vs H Q E, sp vs H Q E → vs.length = ps.length)
    (body : ∀ (cdv : Value) (A : Around) (outer : List Env) (s : Shared) (H : Hp) (vs : List V) (Q : VK) (E : XK), Room k (A.deeper (envOfC qual (defScope st) s.heap.objs.size f cdv)) → A.guards = some [] → sp vs H Q E →
      ∃ t, PSs (cxOf (L2.CX P w) P w K mg base N qual (defScope st) f cdv A outer s H E) (defBody st) t ∧ t { nx := fun _ H' => Q .non H', rt := Q } (start N vs) H) : FnG P w K mg base (k + 1) f fd ps sp := by
  obtain ⟨oc, od, kV, doc, pm, an, cdv, ct, osl, rfl, lk, hcd⟩ := F.ex
  refine ⟨len, fun A outer s H args us vs Q E hr hg e0 hb r hsp => ?_⟩
  have KX : K.In s.heap := e0.mod.kin.keeps fun b o e => (e0.bs b o e).1
  have lim := e0.mod.nolimit.keeps fun b o e => (e0.bs b o e).1
  have kinds : ∀ y ∈ ps.zip us, (defScope st).names.lookup y.1 = some .local ∨ ((defScope st).names.lookup y.1 = some .cell ∧ ((cellsFrom (s.heap.objs.size + 1) (defScope st).names []).lookup y.1).isSome = true) := by
    rintro ⟨n, v⟩ hy
    exact (S.par n (List.of_mem_zip hy).1).imp id fun q => ⟨q, PySem.W.cellsFrom_some _ _ _ (.inl q)⟩
  refine codeAny_call_function hr.depth (KX _ _ lk) rfl S.co S.gen rfl (PySem.W.codeRec_of KX hcd) (hb _ _ _ _ ?_)
  refine wpAny_newFunctionEnv_cells S.kind kinds fun env he s1 q => ?_
  subst he
  refine ⟨lim.keeps q.toInCall.keep, codeAny_func ?_⟩
  obtain ⟨t, ht, hq⟩ := body cdv A outer s H vs Q E (hr.deeper _) hg hsp
  have J := inv_start (CX := L2.CX P w) (E := E) (mg := mg) (base := base) (cd := cdv) (f := f) (qual := qual) S hr.hd e0 (len _ _ _ _ hsp) r q
  refine wpAny_mono (ht.run [] s1 (start N vs) H _ J hq) (fun fl s' hs => ?_) fun e s' hs => hs
  cases fl with
  | ret u => obtain ⟨v, σ', H', J', rv, q'⟩ := hs; exact ⟨v, H', J'.os, J'.bare, J'.base, J'.hok, rv, q'⟩
  | next => obtain ⟨σ', H', J', q'⟩ := hs; exact ⟨.non, H', J'.os, J'.bare, J'.base, J'.hok, rfl, q'⟩
  | brk => obtain ⟨_, _, _, q'⟩ := hs; exact q'.elim
  | cont => obtain ⟨_, _, _, q'⟩ := hs; exact q'.elim
end
section
variable {X : Cx} {k : Nat} {f : Addr} {fd : FuncData} {ps ks : List Str} {sp : Sp} {W' : WX}
/-- the callee runs; what it raises is wished at the caller's slots -/
theorem FnG.call (F : FnG X.prog X.w X.K X.mg X.base k f fd ps sp) (hr : Room k X.A) (hg : X.A.guards = some []) (tk : Takes X W') {pins : List (Addr × Obj)} {σ : St} {H : Hp} {s : Shared} {Q : VK} {args : Args} {us : List Value} {vs : List V}
    (I : Inv X pins σ H s) (hb : BindsTo s fd args (ps.zip us)) (r : Vals vs us) (h : sp vs H Q (WE W' σ)) : wpAny (model X.prog X.w) X.A (call (.ref f) args.pos args.kw) (EP X pins σ Q) X.xe s := by
  refine wpAny_call (codeAny_mono (F.run X.A X.stack s H args us vs Q (WE W' σ) hr hg I.env0 hb r h) fun z s' hq => ?_)
  cases z with
  | error e => exact passAt tk σ pins H s e s' I hq
  | ok fl => cases fl <;> first | exact I.after hq | exact False.elim hq
/-- f(e, ..), all positional; ds the defaults' values -/
theorem pe_callG (F : FnG X.prog X.w X.K X.mg X.base k f fd ps sp) (hr : Room k X.A) (hgd : X.A.guards = some []) (tk : Takes X W') {x : Str} {p pos : Pos} {e : Expr} {es : List Expr} {t : TA} {ds : List Value} {dvs : List V} (hg : Gl X x) (hm : X.mg x = some (.ref f))
    (hk : PySem.W.keepIn X.K (.ref f) = true) (hb : Binds X.K fd ps ds) (hd : Vals dvs ds) (ha : PA X (e :: es) t) (hdb : (x == ("__debug__" : Str)) = false) (he : starEach (e :: es) X.env = (false, eval e X.env) :: starEach es X.env)
    (hpl : (backTo pos (starEach es X.env)).any (·.1) = false) : PE X (.Call (.Name x p) (e :: es) [] pos) (fun σ H Q => t σ H fun vs H1 => sp (vs ++ dvs) H1 Q (WE W' σ)) := by
  refine ⟨fun pins s σ H Q I h => ?_⟩
  refine wpAny_Call_Name_kw (ld_glob I hg hm ?_ hdb)
  refine PySem.W.callWith_K (h₀ := X.base) I.ok.mod.kin hk (thn (ha.run pos pins s σ H _ I h) fun us s1 ⟨vs, H1, I1, r, q⟩ => ⟨I1.kIn, ?_⟩) he hpl
  have r2 : Vals (vs ++ dvs) (us ++ ds) := L2.Vals.append r hd
  have hl : (us ++ ds).length = ps.length := r2.length.symm.trans (F.len _ _ _ _ q)
  exact F.call (args := ⟨us, []⟩) hr hgd tk I1 (hb s1 us I1.kIn hl) r2 q
theorem pe_callG0 (F : FnG X.prog X.w X.K X.mg X.base k f fd ps sp) (hr : Room k X.A) (hgd : X.A.guards = some []) (tk : Takes X W') {x : Str} {p pos : Pos} {ds : List Value} {dvs : List V} (hg : Gl X x) (hm : X.mg x = some (.ref f))
    (hk : PySem.W.keepIn X.K (.ref f) = true) (hb : Binds X.K fd ps ds) (hd : Vals dvs ds) (hdb : (x == ("__debug__" : Str)) = false) : PE X (.Call (.Name x p) [] [] pos) (fun σ H Q => sp dvs H Q (WE W' σ)) := by
  refine ⟨fun pins s σ H Q I h => ?_⟩
  refine wpAny_Call_Name_kw (ld_glob I hg hm ?_ hdb)
  have hl : (([] : List Value) ++ ds).length = ps.length := hd.length.symm.trans (F.len _ _ _ _ h)
  exact PySem.W.callWith_K0 I.kIn hk (F.call (args := ⟨[], []⟩) hr hgd tk I (hb s [] I.kIn hl) hd h)
/-- f(.., k = e, ..) -/
theorem pe_callGK (F : FnG X.prog X.w X.K X.mg X.base k f fd ps sp) (hr : Room k X.A) (hgd : X.A.guards = some []) (tk : Takes X W') {x : Str} {p pos : Pos} {e : Expr} {es : List Expr} {kws : List Keyword} {t tk' : TA} {g : List Value → List Value → List Value} {gV : List V → List V → List V}
    (hg : Gl X x) (hm : X.mg x = some (.ref f)) (hk : PySem.W.keepIn X.K (.ref f) = true) (hb : KBinds X.K fd ps ks g gV) (ha : PA X (e :: es) t) (hkw : PK X kws tk')
    (hall : (backToKw pos (keywordEach kws X.env)).all (·.1.isSome) = true) (hks : (backToKw pos (keywordEach kws X.env)).filterMap (·.1) = ks) (hdb : (x == ("__debug__" : Str)) = false)
    (he : starEach (e :: es) X.env = (false, eval e X.env) :: starEach es X.env) (hpl : ((backTo pos (starEach (e :: es) X.env)).any (·.1) || (backToKw pos (keywordEach kws X.env)).any (·.1.isNone)) = false) :
    PE X (.Call (.Name x p) (e :: es) kws pos) (fun σ H Q => t σ H fun vs H1 => tk' σ H1 fun zs H2 => sp (gV vs zs) H2 Q (WE W' σ)) := by
  refine ⟨fun pins s σ H Q I h => ?_⟩
  refine wpAny_Call_Name_kw (ld_glob I hg hm ?_ hdb)
  refine PySem.W.callWith_KW (h₀ := X.base) I.ok.mod.kin hk hall (thn (ha.run pos pins s σ H _ I h) fun us s1 ⟨vs, H1, I1, r, q⟩ => ?_) hpl he
  refine thn (hkw.run pos pins s1 σ H1 _ I1 q) fun ws s2 ⟨zs, H2, I2, rz, q2⟩ => ⟨I2.kIn, ?_⟩
  rw [hks]
  have r2 := hb.rel r rz
  have hl : (g us ws).length = ps.length := r2.length.symm.trans (F.len _ _ _ _ q2)
  exact F.call (args := ⟨us, ks.zip ws⟩) hr hgd tk I2 (hb.to s2 us ws I2.kIn hl) r2 q2
/-- f(k = e, ..) -/
theorem pe_callGK0 (F : FnG X.prog X.w X.K X.mg X.base k f fd ps sp) (hr : Room k X.A) (hgd : X.A.guards = some []) (tk : Takes X W') {x : Str} {p pos : Pos} {kws : List Keyword} {tk' : TA} {g : List Value → List Value → List Value} {gV : List V → List V → List V}
    (hg : Gl X x) (hm : X.mg x = some (.ref f)) (hk : PySem.W.keepIn X.K (.ref f) = true) (hb : KBinds X.K fd ps ks g gV) (hkw : PK X kws tk')
    (hall : (backToKw pos (keywordEach kws X.env)).all (·.1.isSome) = true) (hks : (backToKw pos (keywordEach kws X.env)).filterMap (·.1) = ks) (hdb : (x == ("__debug__" : Str)) = false)
    (hpl : ((backTo pos (starEach [] X.env)).any (·.1) || (backToKw pos (keywordEach kws X.env)).any (·.1.isNone)) = false) :
    PE X (.Call (.Name x p) [] kws pos) (fun σ H Q => tk' σ H fun zs H2 => sp (gV [] zs) H2 Q (WE W' σ)) := by
  refine ⟨fun pins s σ H Q I h => ?_⟩
  refine wpAny_Call_Name_kw (ld_glob I hg hm ?_ hdb)
  refine PySem.W.callWith_KW0 (h₀ := X.base) I.ok.mod.kin hk hall (thn (hkw.run pos pins s σ H _ I h) fun ws s2 ⟨zs, H2, I2, rz, q2⟩ => ⟨I2.kIn, ?_⟩) hpl
  rw [hks]
  have r2 := hb.rel .nil rz
  have hl : (g [] ws).length = ps.length := r2.length.symm.trans (F.len _ _ _ _ q2)
  exact F.call (args := ⟨[], ks.zip ws⟩) hr hgd tk I2 (hb.to s2 [] ws I2.kIn hl) r2 q2
end
end Z

set_option linter.all false
set_option maxRecDepth 100000
set_option maxHeartbeats 1000000
namespace Z
open PySem PySem.Spec L2
open PyProof.Rows hiding St

/-! ### slots -/
theorem get_put_same {ρ : Slots} {i : Nat} {d : D} (h : i < ρ.length) : get (put ρ i d) i = some d := by
  unfold get put
  rw [List.getElem?_set_self h]; rfl
theorem get_put_ne {ρ : Slots} {i j : Nat} {d : D} (h : j ≠ i) : get (put ρ j d) i = get ρ i := by
  unfold get put
  rw [List.getElem?_set_ne h]
theorem get_lt {ρ : Slots} {i : Nat} {d : D} (h : get ρ i = some d) : i < ρ.length := by
  unfold get at h
  cases e : ρ[i]? with
  | none => rw [e] at h; cases h
  | some x => exact (List.getElem?_eq_some_iff.mp e).1
theorem length_put {ρ : Slots} {i : Nat} {d : D} : (put ρ i d).length = ρ.length := by unfold put; rw [List.length_set]
theorem length_putAll : ∀ (ks : List Nat) (ds : List D) (ρ : Slots), (putAll ρ ks ds).length = ρ.length
  | [], _, _ => rfl
  | _ :: _, [], _ => rfl
  | k :: ks, d :: ds, ρ => by
    show (putAll (put ρ k d) ks ds).length = _
    rw [length_putAll ks ds, length_put]
theorem get_putAll_out : ∀ (ks : List Nat) (ds : List D) (ρ : Slots) (i : Nat), i ∉ ks → get (putAll ρ ks ds) i = get ρ i
  | [], _, _, _, _ => rfl
  | _ :: _, [], _, _, _ => rfl
  | k :: ks, d :: ds, ρ, i, h => by
    show get (putAll (put ρ k d) ks ds) i = _
    rw [get_putAll_out ks ds _ i (fun z => h (List.mem_cons_of_mem _ z)), get_put_ne (fun z => h (by rw [z]; exact List.mem_cons_self))]
theorem get_putAll_in : ∀ (ks : List Nat) (ds : List D) (ρ : Slots) (n k : Nat) (d : D), ks.Nodup → ks[n]? = some k → ds[n]? = some d → k < ρ.length → get (putAll ρ ks ds) k = some d
  | [], _, _, _, _, _, _, h, _, _ => by simp at h
  | _ :: _, [], _, _, _, _, _, _, h, _ => by simp at h
  | k :: ks, d :: ds, ρ, 0, _, _, nd, h1, h2, hl => by
    simp at h1 h2; subst h1 h2
    show get (putAll (put ρ k d) ks ds) k = _
    rw [get_putAll_out ks ds _ k (List.nodup_cons.mp nd).1, get_put_same hl]
  | k :: ks, d :: ds, ρ, n + 1, _, _, nd, h1, h2, hl => by
    show get (putAll (put ρ k d) ks ds) _ = _
    exact get_putAll_in ks ds _ n _ _ (List.nodup_cons.mp nd).2 (by simpa using h1) (by simpa using h2) (by rw [length_put]; exact hl)
/-- own lists have changed -/
theorem SR.outs {p : Par} {σ : St} {H H' : Hp} {ρ : Slots} {ks : List Nat} {outs : List D} (S : SR p σ H ρ) (nd : ks.Nodup) (hk : ∀ k ∈ ks, k ∈ p.own ∧ ∃ a : Addr, σ[k]? = some (some (V.ref a)))
    (st : Stay (fun b => ∃ k, k ∈ ks ∧ σ[k]? = some (some (.ref b))) H H')
    (ho : ∀ (n k : Nat), ks[n]? = some k → ∀ a : Addr, σ[k]? = some (some (V.ref a)) → ∃ (xs : List V) (es : List D), outs[n]? = some (PyData.list es) ∧ H' a = some (.lst xs) ∧ RpAll p.K (av p σ) H' xs es) : SR p σ H' (putAll ρ ks outs) := by
  have st' : Stay (ow p σ) H H' := st.mono fun b ⟨k, h1, h2⟩ => ⟨k, (hk k h1).1, h2⟩
  have lt : ∀ k ∈ ks, k < ρ.length := fun k h => by
    obtain ⟨h1, a, h2⟩ := hk k h
    obtain ⟨d, hd⟩ := S.oi k _ h1 h2
    exact get_lt hd
  have at' : ∀ (n k : Nat), ks[n]? = some k → ∃ (a : Addr) (xs : List V) (es : List D), σ[k]? = some (some (V.ref a)) ∧ outs[n]? = some (PyData.list es) ∧ get (putAll ρ ks outs) k = some (PyData.list es) ∧ H' a = some (.lst xs) ∧ RpAll p.K (av p σ) H' xs es := fun n k h => by
    have hm := List.mem_of_getElem? h
    obtain ⟨h1, a, h2⟩ := hk k hm
    obtain ⟨xs, es, h3, h4, h5⟩ := ho n k h a h2
    exact ⟨a, xs, es, h2, h3, get_putAll_in ks outs ρ n k _ nd h h3 (lt k hm), h4, h5⟩
  refine ⟨by rw [length_putAll]; exact S.ln, fun i d hi hd => ?_, fun i v hi hv => ?_, fun i d hi hd => ?_, S.dj, fun b o hb => ?_, S.ios, fun b hb => st.some (S.a0 b hb), fun q hq => (S.pn q hq).stay st' ow_av, S.xh⟩
  · have hn : i ∉ ks := fun z => hi (hk i z).1
    rw [get_putAll_out ks outs ρ i hn] at hd
    obtain ⟨v, h1, h2⟩ := S.va i d hi hd
    exact ⟨v, h1, h2.stay st' ow_av⟩
  · by_cases hn : i ∈ ks
    · obtain ⟨n, h⟩ := List.getElem?_of_mem hn
      obtain ⟨_, _, _, _, _, h3, _⟩ := at' n i h
      exact ⟨_, h3⟩
    · rw [get_putAll_out ks outs ρ i hn]
      exact S.oi i v hi hv
  · by_cases hn : i ∈ ks
    · obtain ⟨n, h⟩ := List.getElem?_of_mem hn
      obtain ⟨a, xs, es, h2, h3, h4, h5, h6⟩ := at' n i h
      rw [h4] at hd
      cases hd
      obtain ⟨d', hd'⟩ := S.oi i _ hi h2
      obtain ⟨a', _, _, _, e1, _, _, e2⟩ := S.ov i d' hi hd'
      rw [h2] at e1; cases e1
      exact ⟨a, xs, es, rfl, h2, h5, h6, e2⟩
    · rw [get_putAll_out ks outs ρ i hn] at hd
      obtain ⟨a, xs, ds, h1, h2, h3, h4, h5⟩ := S.ov i d hi hd
      have ha : H' a = some (.lst xs) := by
        rcases st a _ h3 with e | ⟨⟨k, hk1, hk2⟩, _⟩
        · exact e
        · exact absurd (S.dj i k a hi (hk k hk1).1 h2 hk2 ▸ hk1) hn
      exact ⟨a, xs, ds, h1, h2, ha, RpAll.stay st' ow_av h4, h5⟩
  · -- what stood at the entry: in/out lists alone
    have own : ∀ k, k ∈ ks → σ[k]? = some (some (V.ref b)) → (k, b) ∈ p.io := fun k h1 h2 => by
      obtain ⟨d', hd'⟩ := S.oi k _ (hk k h1).1 h2
      obtain ⟨a', _, _, _, e1, _, _, e2⟩ := S.ov k d' (hk k h1).1 hd'
      rw [h2] at e1; cases e1
      rcases e2 with e2 | e2
      · rw [hb] at e2; cases e2
      · exact e2
    rcases S.st b o hb with e | ⟨h1, h2, ys, e⟩
    · rcases st b o e with e' | ⟨⟨k, hk1, hk2⟩, h2, h3⟩
      · exact .inl e'
      · exact .inr ⟨⟨k, own k hk1 hk2⟩, h2, h3⟩
    · rcases st b _ e with e' | ⟨_, _, h3⟩
      · exact .inr ⟨h1, h2, ys, e'⟩
      · exact .inr ⟨h1, h2, h3⟩
/-! ### a def's promise by data -/
structure PIn (K : PySem.W.Frag) (A0 : Addr → Prop) (H : Hp) (io : List Nat) (vs : List V) (ds : List D) : Prop where
  len : vs.length = ds.length
  arg : ∀ i v d, vs[i]? = some v → ds[i]? = some d → i ∉ io → Rp K A0 H v d
  ino : ∀ i v d, vs[i]? = some v → ds[i]? = some d → i ∈ io → ∃ (a : Addr) (xs : List V) (es : List D), v = V.ref a ∧ d = PyData.list es ∧ H a = some (.lst xs) ∧ RpAll K A0 H xs es ∧ A0 a
  apart : ∀ (i j : Nat) (a : Addr), i ∈ io → j ∈ io → vs[i]? = some (.ref a) → vs[j]? = some (.ref a) → i = j
  a0 : ∀ b, A0 b → ∃ o, H b = some o
  lt : ∀ i ∈ io, i < vs.length
structure POut (K : PySem.W.Frag) (A0 : Addr → Prop) (H H' : Hp) (io : List Nat) (vs : List V) (outs : List D) : Prop where
  st : Stay (fun b => ∃ i, i ∈ io ∧ vs[i]? = some (.ref b)) H H'
  out : ∀ (n i : Nat), io[n]? = some i → ∀ a : Addr, vs[i]? = some (V.ref a) → ∃ (xs : List V) (es : List D), outs[n]? = some (PyData.list es) ∧ H' a = some (.lst xs) ∧ RpAll K A0 H' xs es
/-- what a def hands back; where fr says so a new list, that is in nothing else -/
def RetOk (K : PySem.W.Frag) (A0 : Addr → Prop) (H H' : Hp) (io : List Nat) (vs : List V) (outs : List D) (fr : Bool) (v : V) (d : D) : Prop :=
  Rp K A0 H' v d ∧ (fr = true → ∀ ds, d = .list ds → ∃ (a : Addr) (xs : List V), v = .ref a ∧ H a = none ∧ H' a = some (.lst xs) ∧ RpAll K (fun b => A0 b ∨ b = a) H' xs ds ∧
    ∀ (n i : Nat), io[n]? = some i → ∀ b : Addr, vs[i]? = some (V.ref b) → ∃ (xs : List V) (es : List D), outs[n]? = some (PyData.list es) ∧ H' b = some (.lst xs) ∧ RpAll K (fun b => A0 b ∨ b = a) H' xs es)
def spF (K : PySem.W.Frag) (F : Fn) (ct : CT) (f : Nat) (ex : Nat → Addr) : Sp := fun vs H Q E => ∃ ds A0, PIn K A0 H F.io vs ds ∧
  match ct f ds with
  | .ok d outs => ∀ v H', POut K A0 H H' F.io vs outs → RetOk K A0 H H' F.io vs outs F.fresh v d → Q v H'
  | .exn c outs => ∀ H', POut K A0 H H' F.io vs outs → E (.ref (ex c)) none H'
  | .bad => False
/-- what is wished of an exception, in the layer's words -/
def wx (ex : Nat → Addr) (W : Wh) : WX := fun cls d σ H => ∃ c, cls = .ref (ex c) ∧ d = none ∧ W c σ H

/-! ### the owned arguments of a call -/
def ioPairs : Nat → C → List (Nat × Nat)
  | j, .cons c r => match isOwn c with | some i => (j, i) :: ioPairs (j + 1) r | none => ioPairs (j + 1) r
  | _, _ => []
theorem owns_pairs : ∀ (l : C) (j : Nat), ownsOf l = (ioPairs j l).map (·.2)
  | .cons c r, j => by
    unfold ownsOf ioPairs
    cases isOwn c with
    | some i => rw [List.map_cons, owns_pairs r (j + 1)]
    | none => exact owns_pairs r (j + 1)
  | .nil, _ => rfl
  | .non, _ | .bl _, _ | .int _, _ | .str _, _ | .glob _, _ | .var _, _ | .own _, _ | .op .., _ | .neg _, _ | .cmp .., _ | .chain .., _ | .tv _, _ | .not _, _ | .and .., _ | .or .., _ | .ite .., _ | .tup _, _ | .lst _, _ | .dic0, _ | .star _, _ | .ix .., _ | .sl .., _ | .call .., _ | .callk .., _ | .bi .., _
  | .me .., _ | .isi .., _ | .isE .., _ | .lc .., _ | .pop .., _ | .sSet .., _ | .sOwn .., _ | .sPat .., _ | .sPar .., _ | .sPut .., _ | .sApp .., _ | .sExt .., _ | .sExp _, _ | .sIf .., _ | .sFor .., _ | .sWhile .., _ | .sRet _, _ | .sRetZ _, _ | .sRetN, _ | .sBrk, _ | .sCnt, _ | .sPass, _ | .sRaise _, _ | .sTry .., _ => rfl
theorem pairs_ge : ∀ (l : C) (j : Nat) (q : Nat × Nat), q ∈ ioPairs j l → j ≤ q.1
  | .cons c r, j, q, h => by
    unfold ioPairs at h
    cases e : isOwn c with
    | some i =>
      rw [e] at h
      rcases List.mem_cons.mp h with rfl | h
      · exact Nat.le_refl _
      · exact Nat.le_of_succ_le (pairs_ge r (j + 1) q h)
    | none => rw [e] at h; exact Nat.le_of_succ_le (pairs_ge r (j + 1) q h)
  | .nil, _, _, h => by cases h
  | .non, _, _, h | .bl _, _, _, h | .int _, _, _, h | .str _, _, _, h | .glob _, _, _, h | .var _, _, _, h | .own _, _, _, h | .op .., _, _, h | .neg _, _, _, h | .cmp .., _, _, h | .chain .., _, _, h | .tv _, _, _, h | .not _, _, _, h | .and .., _, _, h | .or .., _, _, h | .ite .., _, _, h | .tup _, _, _, h | .lst _, _, _, h | .dic0, _, _, h | .star _, _, _, h | .ix .., _, _, h | .sl .., _, _, h | .call .., _, _, h | .callk .., _, _, h | .bi .., _, _, h
  | .me .., _, _, h | .isi .., _, _, h | .isE .., _, _, h | .lc .., _, _, h | .pop .., _, _, h | .sSet .., _, _, h | .sOwn .., _, _, h | .sPat .., _, _, h | .sPar .., _, _, h | .sPut .., _, _, h | .sApp .., _, _, h | .sExt .., _, _, h | .sExp _, _, _, h | .sIf .., _, _, h | .sFor .., _, _, h | .sWhile .., _, _, h | .sRet _, _, _, h | .sRetZ _, _, _, h | .sRetN, _, _, h | .sBrk, _, _, h | .sCnt, _, _, h | .sPass, _, _, h | .sRaise _, _, _, h | .sTry .., _, _, h => by cases h
section
variable {p : Par} {σ : St} {H : Hp} {ρ : Slots}
theorem fill_ok (S : SR p σ H ρ) : ∀ {l : C} {vs : List V} {ds es : List D} (j : Nat), ArgAll p σ H l vs ds → fillD ρ l ds = some es →
    vs.length = es.length ∧ (∀ i v d, vs[i]? = some v → es[i]? = some d → (∀ k, (i + j, k) ∉ ioPairs j l) → Rp p.K (av p σ) H v d) ∧
    (∀ q ∈ ioPairs j l, q.2 ∈ p.own ∧ ∃ v d, vs[q.1 - j]? = some v ∧ es[q.1 - j]? = some d ∧ σ[q.2]? = some (some v) ∧ get ρ q.2 = some d)
  | .nil, [], [], es, _, _, h => by cases h; exact ⟨rfl, fun i v d e => by simp at e, fun q hq => by cases hq⟩
  | .cons c r, v :: vs, d :: ds, es, j, ⟨h1, h2⟩, h => by
    unfold fillD at h
    unfold Arg at h1
    cases e : isOwn c with
    | some i =>
      rw [e] at h1
      simp only [e] at h
      cases g : get ρ i with
      | none => rw [g] at h; cases h
      | some x =>
        rw [g] at h
        cases k : fillD ρ r ds with
        | none => rw [k] at h; cases h
        | some es' =>
          rw [k] at h
          cases h
          obtain ⟨a1, a2, a3⟩ := fill_ok S (j + 1) h2 k
          refine ⟨by simp [a1], fun n w y e1 e2 hn => ?_, fun q hq => ?_⟩
          · cases n with
            | zero => exact absurd (by unfold ioPairs; rw [e, Nat.zero_add]; exact List.mem_cons_self) (hn i)
            | succ n =>
              refine a2 n w y (by simpa using e1) (by simpa using e2) fun k' hk' => hn k' ?_
              unfold ioPairs; rw [e]
              exact List.mem_cons_of_mem _ (by rw [show n + 1 + j = n + (j + 1) by omega]; exact hk')
          · unfold ioPairs at hq; rw [e] at hq
            rcases List.mem_cons.mp hq with rfl | hq
            · exact ⟨h1.1, v, x, by simp, by simp, h1.2, g⟩
            · obtain ⟨b1, w, y, b2, b3, b4, b5⟩ := a3 q hq
              have hge := pairs_ge r (j + 1) q hq
              have e3 : q.1 - j = (q.1 - (j + 1)) + 1 := by omega
              exact ⟨b1, w, y, by rw [e3]; simpa using b2, by rw [e3]; simpa using b3, b4, b5⟩
    | none =>
      rw [e] at h1
      simp only [e] at h
      cases k : fillD ρ r ds with
      | none => rw [k] at h; cases h
      | some es' =>
        rw [k] at h
        cases h
        obtain ⟨a1, a2, a3⟩ := fill_ok S (j + 1) h2 k
        refine ⟨by simp [a1], fun n w y e1 e2 hn => ?_, fun q hq => ?_⟩
        · cases n with
          | zero => simp at e1 e2; subst e1 e2; exact h1
          | succ n =>
            refine a2 n w y (by simpa using e1) (by simpa using e2) fun k' hk' => hn k' ?_
            unfold ioPairs; rw [e]
            rw [show n + 1 + j = n + (j + 1) by omega]; exact hk'
        · unfold ioPairs at hq; rw [e] at hq
          obtain ⟨b1, w, y, b2, b3, b4, b5⟩ := a3 q hq
          have hge := pairs_ge r (j + 1) q hq
          have e3 : q.1 - j = (q.1 - (j + 1)) + 1 := by omega
          exact ⟨b1, w, y, by rw [e3]; simpa using b2, by rw [e3]; simpa using b3, b4, b5⟩
end
end Z

set_option linter.all false
set_option maxRecDepth 100000
set_option maxHeartbeats 1000000
namespace Z
open PySem PySem.Spec L2
open PyProof.Rows hiding St

section
variable {X : Cx} {p : Par} {W : Wh} {pos : Pos} {e a b c : Expr} {f g h : Slots → R D} {ca cb cc cl : C} {ct : CT} {ex : Nat → Addr} {F : Fn} {fi k : Nat} {fa : Addr} {fd : FuncData} {ps ks : List Str}
theorem pairs_get {l : C} {n i : Nat} {io : List Nat} (hio : (ioPairs 0 l).map (·.1) = io) (h : io[n]? = some i) : ∃ k, (ioPairs 0 l)[n]? = some (i, k) := by
  rw [← hio, List.getElem?_map] at h
  cases q : (ioPairs 0 l)[n]? with
  | none => rw [q] at h; cases h
  | some w => rw [q] at h; cases h; exact ⟨w.2, rfl⟩
theorem pairs_getS {l : C} {n k : Nat} (h : (ownsOf l)[n]? = some k) : ∃ i, (ioPairs 0 l)[n]? = some (i, k) := by
  rw [owns_pairs l 0, List.getElem?_map] at h
  cases q : (ioPairs 0 l)[n]? with
  | none => rw [q] at h; cases h
  | some w => rw [q] at h; cases h; exact ⟨w.1, rfl⟩
/-- a call of a def, all positional: what it asks -/
theorem call_core (hk : X.K = p.K) (hio : (ioPairs 0 cl).map (·.1) = F.io) (hnd : (ownsOf cl).Nodup) {σ : St} {H : Hp} {Q : VK} {vs : List V} {ds : List D} (g : ArgAll p σ H cl vs ds)
    (m : ∃ ρ, SR p σ H ρ ∧ match callR ct fi cl ds ρ with
      | .ok d ρ' => ∀ v H' vs outs, SR p σ H' ρ' → Stay (ow p σ) H H' → RetOk p.K (av p σ) H H' F.io vs outs F.fresh v d →
          (∀ a, (∀ (n i : Nat), F.io[n]? = some i → ∀ b : Addr, vs[i]? = some (V.ref b) → ∃ (xs : List V) (es : List D), outs[n]? = some (PyData.list es) ∧ H' b = some (.lst xs) ∧ RpAll p.K (fun b => av p σ b ∨ b = a) H' xs es) → H a = none → (∃ o, H' a = some o) → SR (p.with a) σ H' ρ') → Q v H'
      | .exn c ρ' => ∀ H', SR p σ H' ρ' → Stay (ow p σ) H H' → W c σ H'
      | .bad => False) : spF X.K F ct fi ex vs H Q (WE (wx ex W) σ) := by
  obtain ⟨K, own, io, A0, H0, pin, xcs⟩ := p
  simp only at hk
  subst hk
  obtain ⟨ρ, S, m⟩ := m
  cases hf : fillD ρ cl ds with
  | none => simp only [callR, hf] at m
  | some es =>
    obtain ⟨l1, l2, l3⟩ := fill_ok S 0 g hf
    have inPairs : ∀ i, i ∈ F.io → ∃ k, (i, k) ∈ ioPairs 0 cl := fun i hi => by
      rw [← hio] at hi
      obtain ⟨q, hq, rfl⟩ := List.mem_map.mp hi
      exact ⟨q.2, hq⟩
    have own_ref : ∀ q ∈ ioPairs 0 cl, q.2 ∈ own ∧ ∃ (a : Addr) (xs : List V) (ys : List D), vs[q.1]? = some (V.ref a) ∧ es[q.1]? = some (PyData.list ys) ∧ σ[q.2]? = some (some (V.ref a)) ∧ H a = some (.lst xs) ∧ RpAll X.K (av ⟨X.K, own, io, A0, H0, pin, xcs⟩ σ) H xs ys := fun q hq => by
      obtain ⟨h1, v, d, h2, h3, h4, h5⟩ := l3 q hq
      obtain ⟨a, xs, ys, e1, e2, e3, e4, _⟩ := S.ov q.2 d h1 h5
      rw [h4] at e2; cases e2
      subst e1
      exact ⟨h1, a, xs, ys, by simpa using h2, by simpa using h3, h4, e3, e4⟩
    have hks : ∀ k ∈ ownsOf cl, k ∈ own ∧ ∃ a : Addr, σ[k]? = some (some (V.ref a)) := fun k hk => by
      rw [owns_pairs cl 0] at hk
      obtain ⟨q, hq, rfl⟩ := List.mem_map.mp hk
      obtain ⟨h1, a, _, _, _, _, h4, _⟩ := own_ref q hq
      exact ⟨h1, a, h4⟩
    have pin' : PIn X.K (av ⟨X.K, own, io, A0, H0, pin, xcs⟩ σ) H F.io vs es := {
      len := l1
      arg := fun i v d e1 e2 hi => l2 i v d e1 e2 fun k hk' => hi (by rw [← hio]; exact List.mem_map.mpr ⟨_, hk', rfl⟩)
      ino := fun i v d e1 e2 hi => by
        obtain ⟨k, hk⟩ := inPairs i hi
        obtain ⟨h1, a, xs, ys, h2, h3, h4, h5, h6⟩ := own_ref _ hk
        simp only at h2 h3 h4 h1
        rw [e1] at h2; rw [e2] at h3
        cases h2; cases h3
        exact ⟨a, xs, ys, rfl, rfl, h5, h6, .inr ⟨k, h1, h4⟩⟩
      apart := fun i j a hi hj e1 e2 => by
        obtain ⟨k, hk⟩ := inPairs i hi
        obtain ⟨k', hk'⟩ := inPairs j hj
        obtain ⟨h1, b, _, _, h2, _, h4, _⟩ := own_ref _ hk
        obtain ⟨h1', b', _, _, h2', _, h4', _⟩ := own_ref _ hk'
        simp only at h2 h2' h4 h4' h1 h1'
        rw [e1] at h2; cases h2
        rw [e2] at h2'; cases h2'
        have ek := S.dj k k' a h1 h1' h4 h4'
        subst ek
        obtain ⟨n, hn⟩ := List.getElem?_of_mem hk
        obtain ⟨n', hn'⟩ := List.getElem?_of_mem hk'
        have en : n = n' := by
          have q1 : (ownsOf cl)[n]? = some k := by rw [owns_pairs cl 0, List.getElem?_map, hn]; rfl
          have q2 : (ownsOf cl)[n']? = some k := by rw [owns_pairs cl 0, List.getElem?_map, hn']; rfl
          exact (List.getElem?_inj (List.getElem?_eq_some_iff.mp q1).1 hnd).mp (q1.trans q2.symm)
        subst en
        rw [hn] at hn'
        cases hn'; rfl
      a0 := fun b hb => S.avd hb
      lt := fun i hi => by
        obtain ⟨k, hk⟩ := inPairs i hi
        obtain ⟨_, a, _, _, h2, _⟩ := own_ref _ hk
        exact (List.getElem?_eq_some_iff.mp h2).1 }
    -- behind the call
    have back : ∀ (H' : Hp) (outs : List D), outs.length = (ownsOf cl).length → POut X.K (av ⟨X.K, own, io, A0, H0, pin, xcs⟩ σ) H H' F.io vs outs →
        SR ⟨X.K, own, io, A0, H0, pin, xcs⟩ σ H' (putAll ρ (ownsOf cl) outs) ∧ Stay (ow ⟨X.K, own, io, A0, H0, pin, xcs⟩ σ) H H' := fun H' outs hl po => by
      have st1 : Stay (fun b => ∃ k, k ∈ ownsOf cl ∧ σ[k]? = some (some (V.ref b))) H H' := po.st.mono fun b ⟨i, hi, e1⟩ => by
        obtain ⟨k, hk⟩ := inPairs i hi
        obtain ⟨_, a, _, _, h2, _, h4, _⟩ := own_ref _ hk
        simp only at h2 h4
        rw [e1] at h2; cases h2
        exact ⟨k, by rw [owns_pairs cl 0]; exact List.mem_map.mpr ⟨_, hk, rfl⟩, h4⟩
      refine ⟨S.outs hnd hks st1 fun n k hn a ha => ?_, st1.mono fun b ⟨k, h1, h2⟩ => ⟨k, (hks k h1).1, h2⟩⟩
      obtain ⟨i, hi⟩ := pairs_getS hn
      obtain ⟨_, b, _, _, h2, _, h4, _⟩ := own_ref _ (List.mem_of_getElem? hi)
      simp only at h2 h4
      rw [ha] at h4; cases h4
      exact po.out n i (by rw [← hio, List.getElem?_map, hi]; rfl) a h2
    refine ⟨es, av ⟨X.K, own, io, A0, H0, pin, xcs⟩ σ, pin', ?_⟩
    simp only [callR, hf] at m
    cases hc : ct fi es with
    | bad => simp only [hc] at m
    | ok d outs =>
      simp only [hc] at m
      by_cases hl : outs.length = (ownsOf cl).length
      · simp only [if_pos hl] at m
        intro v H' po ro
        obtain ⟨S', st'⟩ := back H' outs hl po
        refine m v H' vs outs S' st' ro fun a ha hn ho => ?_
        have more : ∀ b, av (Par.with ⟨X.K, own, io, A0, H0, pin, xcs⟩ a) σ b → av ⟨X.K, own, io, A0, H0, pin, xcs⟩ σ b ∨ H b = none := fun b h => by
          rcases h with (h | h) | h
          · exact .inl (.inl h)
          · exact .inr (by rw [h]; exact hn)
          · exact .inl (.inr h)
        have le : ∀ b, av (Par.with ⟨X.K, own, io, A0, H0, pin, xcs⟩ a) σ b → av ⟨X.K, own, io, A0, H0, pin, xcs⟩ σ b ∨ b = a := fun b h => by
          rcases h with (h | h) | h
          · exact .inl (.inl h)
          · exact .inr h
          · exact .inl (.inr h)
        refine ⟨S'.ln, fun i d hi hd => ?_, S'.oi, fun i d hi hd => ?_, S'.dj, S'.st, S'.ios, fun b hb => hb.elim (fun h => S'.a0 b h) (fun h => by rw [h]; exact ho), fun q hq => (Rp.more more (S.pn q hq)).stay st' (fun b h => .inr h), S.xh⟩
        · have hnk : i ∉ ownsOf cl := fun z => hi (hks i z).1
          rw [get_putAll_out _ _ _ i hnk] at hd
          obtain ⟨w, h1, h2⟩ := S.va i d hi hd
          exact ⟨w, h1, (Rp.more more h2).stay st' (fun b h => .inr h)⟩
        · obtain ⟨b, xs, ys, h1, h2, h3, h4, h5⟩ := S'.ov i d hi hd
          refine ⟨b, xs, ys, h1, h2, h3, ?_, h5⟩
          by_cases hin : i ∈ ownsOf cl
          · obtain ⟨n, hn'⟩ := List.getElem?_of_mem hin
            obtain ⟨k, hk'⟩ := pairs_getS hn'
            obtain ⟨_, b', _, _, e2, _, e4, _⟩ := own_ref _ (List.mem_of_getElem? hk')
            simp only at e2 e4
            rw [h2] at e4; cases e4
            obtain ⟨zs, es', q1, q2, q3⟩ := ha n k (by rw [← hio, List.getElem?_map, hk']; rfl) b e2
            have hlt : i < ρ.length := by
              obtain ⟨d0, hd0⟩ := S.oi i _ (hks i hin).1 h2
              exact get_lt hd0
            rw [get_putAll_in _ _ _ n i _ hnd hn' q1 hlt] at hd
            cases hd
            cases h1
            rw [h3] at q2; cases q2
            exact RpAll.mono le q3
          · rw [get_putAll_out _ _ _ i hin] at hd
            obtain ⟨b', xs', ys', g1, g2, g3, g4, _⟩ := S.ov i d hi hd
            rw [h2] at g2; cases g2
            cases h1; cases g1
            have hb : H' b = some (.lst xs') := by
              rcases po.st b _ g3 with z | ⟨⟨k, hk1, hk2⟩, _⟩
              · exact z
              · obtain ⟨k', hk'⟩ := inPairs k hk1
                obtain ⟨o1, _, _, _, e2, _, e4, _⟩ := own_ref _ hk'
                simp only at e2 e4 o1
                rw [hk2] at e2; cases e2
                have := S.dj i k' b hi o1 h2 e4
                subst this
                exact absurd (by rw [owns_pairs cl 0]; exact List.mem_map.mpr ⟨_, hk', rfl⟩) hin
            rw [h3] at hb; cases hb
            exact RpAll.stay st' (fun b h => .inr h) (RpAll.more more g4)
      · simp only [if_neg hl] at m
    | exn c outs =>
      simp only [hc] at m
      by_cases hl : outs.length = (ownsOf cl).length
      · simp only [if_pos hl] at m
        intro H' po
        obtain ⟨S', st'⟩ := back H' outs hl po
        exact ⟨c, rfl, rfl, m H' S' st'⟩
      · simp only [if_neg hl] at m
theorem call_red (hk : X.K = p.K) (hio : (ioPairs 0 cl).map (·.1) = F.io) (hnd : (ownsOf cl).Nodup) {σ : St} {H : Hp} {Q : VK} {vs : List V} {ds : List D} (g : ArgAll p σ H cl vs ds)
    (m : tX p W F.fresh (fun ρ => callR ct fi cl ds ρ) σ H Q) : spF X.K F ct fi ex vs H Q (WE (wx ex W) σ) := by
  refine call_core hk hio hnd g ?_
  obtain ⟨ρ, S, m⟩ := m
  refine ⟨ρ, S, ?_⟩
  cases hc : callR ct fi cl ds ρ with
  | bad => simp only [hc] at m
  | exn c ρ' => simp only [hc] at m; exact m
  | ok d ρ' =>
    simp only [hc] at m
    exact fun v H' vs outs S' st ro _ => m v H' S' st ⟨ro.1, fun hf ds e => by
      obtain ⟨a, xs, h1, h2, h3, h4, _⟩ := ro.2 hf ds e
      exact ⟨a, xs, h1, h2, h3, h4⟩⟩
theorem call_redZ (hk : X.K = p.K) (hfr : F.fresh = true) (hio : (ioPairs 0 cl).map (·.1) = F.io) (hnd : (ownsOf cl).Nodup) {σ : St} {H : Hp} {Q : VK} {vs : List V} {ds : List D} (g : ArgAll p σ H cl vs ds)
    (m : tZ p W (fun ρ => callR ct fi cl ds ρ) σ H Q) : spF X.K F ct fi ex vs H Q (WE (wx ex W) σ) := by
  refine call_core hk hio hnd g ?_
  obtain ⟨ρ, S, m⟩ := m
  refine ⟨ρ, S, ?_⟩
  cases hc : callR ct fi cl ds ρ with
  | bad => simp only [hc] at m
  | exn c ρ' => simp only [hc] at m; exact m
  | ok d ρ' =>
    simp only [hc] at m
    obtain ⟨ds, rfl, m⟩ := m
    intro v H' vs outs S' st ro sr
    obtain ⟨a, xs, rfl, h2, h3, h4, h5⟩ := ro.2 hfr ds rfl
    exact m a xs H' S' (sr a h5 h2 ⟨_, h3⟩) st h2 h3 h4
/-- the arguments reordered -/
def permV (pm : List Nat) (vs : List V) : List V := pm.map fun k => vs.getD k .non
theorem perm_get {K : PySem.W.Frag} {Av : Addr → Prop} {H : Hp} {vs : List V} {ds : List D} (r : RpAll K Av H vs ds) (pm : List Nat) : ∀ (i : Nat) (v : V) (d : D), (permV pm vs)[i]? = some v → (permD pm ds)[i]? = some d → Rp K Av H v d := fun i v d e1 e2 => by
  unfold permV at e1
  unfold permD at e2
  rw [List.getElem?_map] at e1 e2
  cases q : pm[i]? with
  | none => rw [q] at e1; cases e1
  | some k =>
    rw [q] at e1 e2
    cases e1; cases e2
    show Rp K Av H (vs.getD k V.non) (ds.getD k PyData.none)
    rw [List.getD_eq_getElem?_getD, List.getD_eq_getElem?_getD]
    cases w : ds[k]? with
    | none =>
      have : vs[k]? = none := by rw [List.getElem?_eq_none_iff] at w ⊢; rw [r.length]; exact w
      rw [this]; exact .non
    | some d =>
      obtain ⟨v, h1, h2⟩ := r.get w
      rw [h1]; exact h2
theorem callk_red (hk : X.K = p.K) (hio : F.io = []) {σ : St} {H : Hp} {Q : VK} {vs : List V} {ds : List D} {pm : List Nat} (g : RpAll p.K (av p σ) H vs ds)
    (m : tX p W F.fresh (fun ρ => callP ct fi (permD pm ds) ρ) σ H Q) : spF X.K F ct fi ex (permV pm vs) H Q (WE (wx ex W) σ) := by
  obtain ⟨K, own, io, A0, H0, pin, xcs⟩ := p
  simp only at hk
  subst hk
  obtain ⟨ρ, S, m⟩ := m
  have no : ∀ i, i ∉ F.io := fun i hi => by rw [hio] at hi; cases hi
  refine ⟨permD pm ds, av ⟨X.K, own, io, A0, H0, pin, xcs⟩ σ, ⟨by unfold permV permD; rw [List.length_map, List.length_map], fun i v d e1 e2 _ => perm_get g pm i v d e1 e2, fun i v d _ _ hi => absurd hi (no i), fun i j a hi => absurd hi (no i), fun b hb => S.avd hb, fun i hi => absurd hi (no i)⟩, ?_⟩
  have same : ∀ {H' : Hp} {outs : List D}, POut X.K (av ⟨X.K, own, io, A0, H0, pin, xcs⟩ σ) H H' F.io (permV pm vs) outs → Same H H' := fun po b o e => by
    rcases po.st b o e with h | ⟨⟨i, hi, _⟩, _⟩
    · exact h
    · rw [hio] at hi; cases hi
  unfold callP at m
  cases hc : ct fi (permD pm ds) with
  | bad => simp only [hc] at m
  | ok d outs =>
    simp only [hc] at m
    exact fun v H' po ro => m v H' (S.same (same po)) (Stay.of_same (same po)) ⟨ro.1, fun hf ds e => by
      obtain ⟨a, xs, h1, h2, h3, h4, _⟩ := ro.2 hf ds e
      exact ⟨a, xs, h1, h2, h3, h4⟩⟩
  | exn c outs =>
    simp only [hc] at m
    exact fun H' po => ⟨c, rfl, rfl, m H' (S.same (same po)) (Stay.of_same (same po))⟩
theorem x_call {es : List Expr} {x : Str} {pp : Pos} {t : Slots → R (List D)} (G : FnG X.prog X.w X.K X.mg X.base k fa fd ps (spF X.K F ct fi ex)) (hr : Room k X.A) (hgd : X.A.guards = some []) (tk : Takes X (wx ex W)) (hk : X.K = p.K)
    (hio : (ioPairs 0 cl).map (·.1) = F.io) (hnd : (ownsOf cl).Nodup) (hg : Gl X x) (hm : X.mg x = some (.ref fa)) (hkp : PySem.W.keepIn X.K (.ref fa) = true) (hb : Binds X.K fd ps []) (ha : PA X (a :: es) (tAG p W (gA p cl) t)) (hdb : (x == ("__debug__" : Str)) = false)
    (he : starEach (a :: es) X.env = (false, eval a X.env) :: starEach es X.env) (hpl : (backTo pos (starEach es X.env)).any (·.1) = false) :
    PE X (.Call (.Name x pp) (a :: es) [] pos) (tX p W F.fresh fun ρ => (t ρ).bind fun ds ρ1 => callR ct fi cl ds ρ1) :=
  pe_imp (pe_callG G hr hgd tk hg hm hkp hb .nil ha hdb he hpl) fun σ H Q m => (m.bindL (L := gA p cl) frmX).mono fun vs H1 ⟨ds, st, g, m1⟩ => by
    rw [List.append_nil]
    exact call_red hk hio hnd g m1
theorem x_call0 {x : Str} {pp : Pos} (G : FnG X.prog X.w X.K X.mg X.base k fa fd ps (spF X.K F ct fi ex)) (hr : Room k X.A) (hgd : X.A.guards = some []) (tk : Takes X (wx ex W)) (hk : X.K = p.K)
    (hio : F.io = []) (hg : Gl X x) (hm : X.mg x = some (.ref fa)) (hkp : PySem.W.keepIn X.K (.ref fa) = true) (hb : Binds X.K fd ps []) (hdb : (x == ("__debug__" : Str)) = false) :
    PE X (.Call (.Name x pp) [] [] pos) (tX p W F.fresh fun ρ => (R.ok [] ρ).bind fun ds ρ1 => callR ct fi .nil ds ρ1) :=
  pe_imp (pe_callG0 G hr hgd tk hg hm hkp hb .nil hdb) fun σ H Q m => call_red (cl := .nil) (ds := []) hk (by rw [hio]; rfl) (by exact List.nodup_nil) trivial m
/-! isinstance of data -/
def tyOf : D → String
  | .none => "NoneType" | .bool _ => "bool" | .int _ => "int" | .str _ => "str" | .list _ => "list" | .tuple _ => "tuple" | .dict _ => "dict"
theorem tyX_of {K : PySem.W.Frag} {Av : Addr → Prop} {H : Hp} {v : V} {d : D} (r : Ra K Av H v d) : TyX K H v (.type (tyOf d)) := by
  cases d with
  | none => cases r.non; exact .base .non
  | bool b => cases r.bl; exact .base (.bl _)
  | int i => cases r.int; exact .base (.int _)
  | str x => cases r.str; exact .base (.str _)
  | list xs =>
    obtain ⟨a, ws, rfl, h, _⟩ := r.lst
    rcases h with (h | ⟨o, h⟩) | ⟨o, _, _, h, hc, _⟩
    · exact .base (.lst h)
    · exact .base (.frz h)
    · exact .kList h hc
  | tuple xs =>
    obtain ⟨a, ws, rfl, h, _⟩ := r.tup
    rcases h with (h | ⟨o, h⟩) | ⟨o, _, _, h, hc, _⟩
    · exact .base (.tup h)
    · exact .fTuple h
    · exact .kTuple h hc
  | dict kvs =>
    rcases r with r | ⟨_, _, _, _, h, _⟩
    · cases r with
      | dic h _ => exact .base (.dK h)
    · cases h
def tyNm : Ty → String
  | .int => "int" | .bool => "bool" | .str => "str" | .tuple => "tuple" | .list => "list" | .seq => "list"
theorem kit_data (t : Ty) (ht : t ≠ .seq) (d : D) : kitB (tyOf d) (tyNm t) = some (isiD t d) := by
  cases t <;> first | exact absurd rfl ht | (cases d <;> simp only [tyOf, tyNm, isiD] <;> decide +kernel)
theorem x_isi {t : Ty} {x y : Str} {p1 p2 : Pos} {fr : Bool} (ht : t ≠ .seq) (hk : X.K = p.K) (ha : PE X a (tY p W ca f)) (hg : Gl X x) (hx : x = "isinstance") (hm : X.mg x = none) (hgy : Gl X y) (hy : y = Str.ofString (tyNm t)) (hmy : X.mg y = none)
    (he : starEach [a, .Name y p2] X.env = (false, eval a X.env) :: starEach [.Name y p2] X.env) :
    PE X (.Call (.Name x p1) [a, .Name y p2] [] pos) (tX p W fr fun ρ => (f ρ).bind fun d ρ1 => opt (some (.bool (isiD t (fixD ca d ρ1)))) ρ1) := by
  subst hx hy
  have bv : bootBuiltins (Str.ofString (tyNm t)) = some (.type (tyNm t)) := by cases t <;> first | exact absurd rfl ht | decide +kernel
  have hyn : Str.ofString (tyNm t) ≠ "__name__" := by cases t <;> first | exact absurd rfl ht | decide +kernel
  have hyd : (Str.ofString (tyNm t) == ("__debug__" : Str)) = false := by cases t <;> first | exact absurd rfl ht | decide +kernel
  have hpy : PE X (.Name (Str.ofString (tyNm t)) p2) (tC (.ty (tyNm t))) := pe_bltn (v := .ty (tyNm t)) hgy hmy bv rfl hyn hyd
  refine pe_imp (pe_callB call_isi hg hm (by decide +kernel) (pa_cons ha (pa_cons hpy pa_nil) he) (he := he)) fun σ H Q m => ?_
  refine (m.bind (G := gY p ca) frmX).mono fun v H1 ⟨d, st, g1, m1⟩ => ?_
  obtain ⟨ρ, z, S, hz, m2⟩ := m1.opt
  cases hz
  exact ⟨v, .ty (tyNm t), _, _, _, rfl, .ty _, tyX_of (hk ▸ g1.ra Stay.refl S), kit_ty (kit_data t ht _), m2 _ H1 (fun _ _ h => h) ⟨.bl _, fun _ ds h => by cases h⟩⟩
end
end Z

set_option linter.all false
set_option maxRecDepth 100000
set_option maxHeartbeats 1000000
namespace Z
open PySem PySem.Spec L2
open PyProof.Rows hiding St

/-! ### slots written -/
section
variable {p : Par} {σ σ' : St} {H H' H1 : Hp} {ρ ρ1 : Slots}
theorem ow_set {i : Nat} {v : V} (hi : i ∉ p.own) : ow p (σ.set i (some v)) = ow p σ := by
  funext b
  refine propext ⟨fun ⟨j, h1, h2⟩ => ⟨j, h1, ?_⟩, fun ⟨j, h1, h2⟩ => ⟨j, h1, ?_⟩⟩
  · rwa [List.getElem?_set_ne (fun z => hi (by rw [z]; exact h1))] at h2
  · rwa [List.getElem?_set_ne (fun z => hi (by rw [z]; exact h1))]
theorem av_set {i : Nat} {v : V} (hi : i ∉ p.own) : av p (σ.set i (some v)) = av p σ := by
  funext b; unfold av; rw [ow_set hi]
/-- a slot that is no one's own takes data -/
theorem SR.put (S : SR p σ H ρ) {i : Nat} {v : V} {d : D} (hi : i ∉ p.own) (hxs : ∀ q ∈ p.xs, q.1 ≠ i) (hl : i < σ.length) (r : Rp p.K (av p σ) H v d) : SR p (σ.set i (some v)) H (Z.put ρ i d) := by
  have hl' : i < ρ.length := by rw [← S.ln]; exact hl
  have ne : ∀ j, j ∈ p.own → i ≠ j := fun j hj z => hi (by rw [z]; exact hj)
  refine ⟨by rw [List.length_set, length_put]; exact S.ln, fun j e hj hd => ?_, fun j w hj hw => ?_, fun j e hj hd => ?_, fun j k a h1 h2 h3 h4 => ?_, S.st, fun q hq => ?_, S.a0, fun q hq => ?_, fun q hq => by rw [List.getElem?_set_ne (Ne.symm (hxs q hq))]; exact S.xh q hq⟩
  · rw [av_set hi]
    by_cases h : i = j
    · subst h
      rw [get_put_same hl'] at hd
      cases hd
      exact ⟨v, List.getElem?_set_self hl, r⟩
    · rw [get_put_ne h] at hd
      obtain ⟨w, h1, h2⟩ := S.va j e hj hd
      exact ⟨w, by rw [List.getElem?_set_ne h]; exact h1, h2⟩
  · rw [get_put_ne (ne j hj)]
    rw [List.getElem?_set_ne (ne j hj)] at hw
    exact S.oi j w hj hw
  · rw [get_put_ne (ne j hj)] at hd
    obtain ⟨a, xs, ds, h1, h2, h3, h4, h5⟩ := S.ov j e hj hd
    exact ⟨a, xs, ds, h1, by rw [List.getElem?_set_ne (ne j hj)]; exact h2, h3, by rw [av_set hi]; exact h4, h5⟩
  · rw [List.getElem?_set_ne (ne j h1)] at h3
    rw [List.getElem?_set_ne (ne k h2)] at h4
    exact S.dj j k a h1 h2 h3 h4
  · obtain ⟨h1, h2⟩ := S.ios q hq
    exact ⟨h1, by rw [List.getElem?_set_ne (ne _ h1)]; exact h2⟩
  · rw [av_set hi]; exact S.pn q hq
theorem wipe_get (σ : St) : ∀ (vs : List Nat) (i : Nat), (wipe σ vs)[i]? = if i ∈ vs then (if i < σ.length then some none else none) else σ[i]?
  | [], i => by simp [wipe]
  | v :: vs, i => by
    unfold wipe
    by_cases h : v = i
    · subst h
      by_cases hl : v < σ.length
      · rw [List.getElem?_set_self (by rw [wipe_length]; exact hl), if_pos List.mem_cons_self, if_pos hl]
      · rw [List.getElem?_eq_none (by rw [List.length_set, wipe_length]; omega), if_pos List.mem_cons_self, if_neg hl]
    · rw [List.getElem?_set_ne h, wipe_get σ vs i]
      have e : (i ∈ v :: vs) ↔ i ∈ vs := by simp [Ne.symm h]
      by_cases hi : i ∈ vs
      · rw [if_pos hi, if_pos (e.mpr hi)]
      · rw [if_neg hi, if_neg (fun z => hi (e.mp z))]
theorem wipeD_length (ρ : Slots) : ∀ vs : List Nat, (wipeD ρ vs).length = ρ.length
  | [] => rfl
  | v :: vs => by unfold wipeD; rw [List.length_set, wipeD_length ρ vs]
theorem wipeD_get (ρ : Slots) : ∀ (vs : List Nat) (i : Nat), get (wipeD ρ vs) i = if i ∈ vs then none else get ρ i
  | [], i => by simp [wipeD]
  | v :: vs, i => by
    unfold wipeD
    by_cases h : v = i
    · subst h
      rw [if_pos List.mem_cons_self]
      unfold get
      by_cases hl : v < (wipeD ρ vs).length
      · rw [List.getElem?_set_self hl]; rfl
      · rw [List.getElem?_eq_none (by rw [List.length_set]; omega)]; rfl
    · have ih := wipeD_get ρ vs i
      unfold get at ih ⊢
      rw [List.getElem?_set_ne h, ih]
      have e : (i ∈ v :: vs) ↔ i ∈ vs := by simp [Ne.symm h]
      by_cases hi : i ∈ vs
      · rw [if_pos hi, if_pos (e.mpr hi)]
      · rw [if_neg hi, if_neg (fun z => hi (e.mp z))]
theorem backD_length (ρ1 ρ : Slots) : ∀ vs : List Nat, (backD ρ1 ρ vs).length = ρ.length
  | [] => rfl
  | v :: vs => by unfold backD; rw [List.length_set, backD_length ρ1 ρ vs]
theorem backD_get (ρ1 ρ : Slots) (hl : ρ1.length = ρ.length) : ∀ (vs : List Nat) (i : Nat), get (backD ρ1 ρ vs) i = if i ∈ vs then get ρ1 i else get ρ i
  | [], i => by simp [backD]
  | v :: vs, i => by
    unfold backD
    by_cases h : v = i
    · subst h
      rw [if_pos List.mem_cons_self]
      unfold get
      by_cases hv : v < (backD ρ1 ρ vs).length
      · rw [List.getElem?_set_self hv]; rfl
      · rw [List.getElem?_eq_none (by rw [List.length_set]; omega)]
        rw [backD_length] at hv
        rw [List.getElem?_eq_none (by omega)]
    · have ih := backD_get ρ1 ρ hl vs i
      unfold get at ih ⊢
      rw [List.getElem?_set_ne h, ih]
      have e : (i ∈ v :: vs) ↔ i ∈ vs := by simp [Ne.symm h]
      by_cases hi : i ∈ vs
      · rw [if_pos hi, if_pos (e.mpr hi)]
      · rw [if_neg hi, if_neg (fun z => hi (e.mp z))]
/-- two rows of slots alike but at vs -/
def But (vs : List Nat) (σ σ' : St) : Prop := σ'.length = σ.length ∧ ∀ i, i ∉ vs → σ'[i]? = σ[i]?
theorem But.refl {vs : List Nat} : But vs σ σ := ⟨rfl, fun _ _ => rfl⟩
theorem But.trans {vs : List Nat} {σ2 : St} (a : But vs σ σ') (b : But vs σ' σ2) : But vs σ σ2 := ⟨b.1.trans a.1, fun i h => (b.2 i h).trans (a.2 i h)⟩
theorem But.mono {vs ws : List Nat} (a : But vs σ σ') (h : ∀ v ∈ vs, v ∈ ws) : But ws σ σ' := ⟨a.1, fun i hi => a.2 i fun z => hi (h i z)⟩
theorem But.set {i : Nat} {v : Option V} {vs : List Nat} (h : i ∈ vs) : But vs σ (σ.set i v) := ⟨List.length_set, fun j hj => List.getElem?_set_ne fun z => hj (by rw [← z]; exact h)⟩
theorem But.wipe {vs : List Nat} (b : But vs σ σ') : L2.wipe σ' vs = L2.wipe σ vs := by
  refine List.ext_getElem? fun i => ?_
  rw [wipe_get, wipe_get, b.1]
  by_cases h : i ∈ vs
  · rw [if_pos h, if_pos h]
  · rw [if_neg h, if_neg h, b.2 i h]
theorem ow_but {vs : List Nat} (hv : ∀ v ∈ vs, v ∉ p.own) (b : But vs σ σ') : ow p σ' = ow p σ := by
  funext a
  refine propext ⟨fun ⟨j, h1, h2⟩ => ⟨j, h1, ?_⟩, fun ⟨j, h1, h2⟩ => ⟨j, h1, ?_⟩⟩
  · rwa [b.2 j fun z => hv j z h1] at h2
  · rwa [b.2 j fun z => hv j z h1]
theorem but_wipe {vs : List Nat} : But vs σ (L2.wipe σ vs) := ⟨wipe_length σ vs, fun i h => by rw [wipe_get, if_neg h]⟩
theorem SR.wipe {vs : List Nat} (hv : ∀ v ∈ vs, v ∉ p.own) (hxs : ∀ q ∈ p.xs, q.1 ∉ vs) (S : SR p σ H ρ) : SR p (L2.wipe σ vs) H (wipeD ρ vs) := by
  have eo := ow_but (p := p) hv (but_wipe (σ := σ))
  have ea : av p (L2.wipe σ vs) = av p σ := by funext b; unfold av; rw [eo]
  have no : ∀ i, i ∈ p.own → i ∉ vs := fun i hi z => hv i z hi
  refine ⟨by rw [wipe_length, wipeD_length]; exact S.ln, fun i d hi hd => ?_, fun i v hi hv' => ?_, fun i d hi hd => ?_, fun i j a h1 h2 h3 h4 => ?_, S.st, fun q hq => ?_, S.a0, fun q hq => by rw [ea]; exact S.pn q hq, fun q hq => by rw [wipe_get, if_neg (hxs q hq)]; exact S.xh q hq⟩
  · rw [wipeD_get] at hd
    by_cases h : i ∈ vs
    · rw [if_pos h] at hd; cases hd
    · rw [if_neg h] at hd
      rw [wipe_get, if_neg h, ea]
      exact S.va i d hi hd
  · rw [wipe_get, if_neg (no i hi)] at hv'
    rw [wipeD_get, if_neg (no i hi)]
    exact S.oi i v hi hv'
  · rw [wipeD_get, if_neg (no i hi)] at hd
    rw [wipe_get, if_neg (no i hi), ea]
    exact S.ov i d hi hd
  · rw [wipe_get, if_neg (no i h1)] at h3
    rw [wipe_get, if_neg (no j h2)] at h4
    exact S.dj i j a h1 h2 h3 h4
  · obtain ⟨h1, h2⟩ := S.ios q hq
    exact ⟨h1, by rw [wipe_get, if_neg (no _ h1)]; exact h2⟩
/-- behind a comprehension: its own names' slots as they were -/
theorem SR.back {vs : List Nat} {Ow : Addr → Prop} (hv : ∀ v ∈ vs, v ∉ p.own) (S1 : SR p σ H1 ρ1) (s : Stay Ow H1 H) (hw : ∀ b, Ow b → av p σ b) (S : SR p (L2.wipe σ vs) H ρ) : SR p σ H (backD ρ1 ρ vs) := by
  have eo := ow_but (p := p) hv (but_wipe (σ := σ))
  have ea : av p (L2.wipe σ vs) = av p σ := by funext b; unfold av; rw [eo]
  have no : ∀ i, i ∈ p.own → i ∉ vs := fun i hi z => hv i z hi
  have el : ρ1.length = ρ.length := by rw [← S1.ln, ← S.ln, wipe_length]
  have at' : ∀ i, i ∉ vs → (L2.wipe σ vs)[i]? = σ[i]? := fun i h => by rw [wipe_get, if_neg h]
  refine ⟨by rw [backD_length, ← S.ln, wipe_length], fun i d hi hd => ?_, fun i v hi hv' => ?_, fun i d hi hd => ?_, S1.dj, S.st, S1.ios, S.a0, (fun q hq => by rw [← ea]; exact S.pn q hq), S1.xh⟩
  · rw [backD_get ρ1 ρ el] at hd
    by_cases h : i ∈ vs
    · rw [if_pos h] at hd
      obtain ⟨v, h1, h2⟩ := S1.va i d hi hd
      exact ⟨v, h1, h2.stay s hw⟩
    · rw [if_neg h] at hd
      have := S.va i d hi hd
      rwa [ea, at' i h] at this
  · rw [backD_get ρ1 ρ el, if_neg (no i hi)]
    exact S.oi i v hi (by rw [at' i (no i hi)]; exact hv')
  · rw [backD_get ρ1 ρ el, if_neg (no i hi)] at hd
    have := S.ov i d hi hd
    rwa [ea, at' i (no i hi)] at this
end
/-! ### targets -/
def slotsP : C → List Nat
  | .var i => [i]
  | .tup l => slotsPs l
  | _ => []
where slotsPs : C → List Nat
  | .cons (.var i) r => i :: slotsPs r
  | .cons (.tup l) r => slotsPs l ++ slotsPs r
  | _ => []
def tPat (p : Par) (pat : C) : TG := fun v σ H Q => ∃ d ρ, SR p σ H ρ ∧ Rp p.K (av p σ) H v d ∧
  match bindP pat d ρ with
  | some ρ' => ∀ σ', SR p σ' H ρ' → But (slotsP pat) σ σ' → Q σ' H
  | none => False
def tPats (p : Par) (l : C) : TGs := fun vs σ H Q => ∃ ds ρ, SR p σ H ρ ∧ RpAll p.K (av p σ) H vs ds ∧
  match bindP.bindPs l ds ρ with
  | some ρ' => ∀ σ', SR p σ' H ρ' → But (slotsP.slotsPs l) σ σ' → Q σ' H
  | none => False
section
variable {X : Cx} {p : Par} {pos : Pos}
theorem pg_imp {tg : Expr} {t t' : TG} (h : PG X tg t) (i : ∀ v σ H Q, t' v σ H Q → t v σ H Q) : PG X tg t' := ⟨fun pins s σ H v u Q I r m => h.run pins s σ H v u Q I r (i v σ H Q m)⟩
theorem pgs_imp {tg : List Expr} {t t' : TGs} (h : PGs X tg t) (i : ∀ v σ H Q, t' v σ H Q → t v σ H Q) : PGs X tg t' := ⟨fun pins s σ H v u Q I r m => h.run pins s σ H v u Q I r (i v σ H Q m)⟩
theorem g_var {x : Str} {i : Nat} (hN : X.N.Nodup) (hi : X.N[i]? = some x) (hx : Loc X.env.scope x) (hf : X.fn x = true ∨ X.env.scope.names.lookup x = some .local) (ho : i ∉ p.own) (hxs : ∀ q ∈ p.xs, q.1 ≠ i) : PG X (.Name x pos) (tPat p (.var i)) := by
  refine ⟨fun pins s σ H v u Q I r ⟨d, ρ, S, rp, m⟩ => ?_⟩
  have hl : i < σ.length := by rw [I.len]; exact (List.getElem?_eq_some_iff.mp hi).1
  exact (pg_name hN hi hx hf).run pins s σ H v u Q I r (m _ (S.put ho hxs hl rp) (But.set List.mem_cons_self))
end
end Z

set_option linter.all false
set_option maxRecDepth 100000
set_option maxHeartbeats 1000000
namespace Z
open PySem PySem.Spec L2
open PyProof.Rows hiding St

/-- the iterator J yields the data ds, as long as ps stands and the owned slots os hold their lists -/
def Wk (K : PySem.W.Frag) (J : It) (ps : List (V × D)) (os : List (Nat × Addr)) (chk : Slots → Bool) (ds : List D) : Prop := ∀ (r : Par) (σ : St) (H : Hp) (ρ : Slots), r.K = K → (∀ q ∈ ps, q ∈ r.pin) → (∀ q ∈ os, q ∈ r.io) → SR r σ H ρ → chk ρ = true → ∀ i,
  (i < ds.length → J.go i H) ∧ (ds.length ≤ i → J.stop i H) ∧ ∀ x H', i < ds.length → J.yld i H x H' → Same H H' ∧ (∀ b, H b = none → ∀ o, H' b = some o → ∃ xs, o = .tup xs) ∧ ∃ e, ds[i]? = some e ∧ Rp K (av r σ) H' x e
/-- a body that walks: ps stands, the slots os keep their lists -/
abbrev Par.walk (p : Par) (ps : List (V × D)) (os : List (Nat × Addr)) : Par := { p with pin := ps ++ p.pin, io := os ++ p.io }
def tIres (p : Par) (W : Wh) (ol : List Nat) (chk : List D → Slots → Bool) (σ : St) (H : Hp) (Q : It → Hp → Prop) : R (List D) → Prop
  | .ok ds ρ' => ∀ (J : It) (H' : Hp) (ps : List (V × D)) (os : List (Nat × Addr)), SR p σ H' ρ' → Stay (ow p σ) H H' → (∀ q ∈ ps, Rp p.K (av p σ) H' q.1 q.2) → (∀ q ∈ os, q.1 ∈ ol ∧ q.1 ∈ p.own ∧ σ[q.1]? = some (some (.ref q.2)) ∧ (p.H0 q.2 = none ∨ q ∈ p.io)) → Wk p.K J ps os (chk ds) ds → Q J H'
  | .exn c ρ' => ∀ H', SR p σ H' ρ' → Stay (ow p σ) H H' → W c σ H'
  | .bad => False
def tI (p : Par) (W : Wh) (ol : List Nat) (chk : List D → Slots → Bool) (f : Slots → R (List D)) : TI := fun σ H Q => ∃ ρ, SR p σ H ρ ∧ tIres p W ol chk σ H Q (f ρ)
abbrev noChk : List D → Slots → Bool := fun _ _ => true
theorem SR.walk {p : Par} {σ : St} {H : Hp} {ρ : Slots} {ps : List (V × D)} {os : List (Nat × Addr)} (S : SR p σ H ρ) (hp : ∀ q ∈ ps, Rp p.K (av p σ) H q.1 q.2) (ho : ∀ q ∈ os, q.1 ∈ p.own ∧ σ[q.1]? = some (some (.ref q.2))) : SR (p.walk ps os) σ H ρ :=
  ⟨S.ln, S.va, S.oi, fun i d hi hd => by
    obtain ⟨a, xs, ds, h1, h2, h3, h4, h5⟩ := S.ov i d hi hd
    exact ⟨a, xs, ds, h1, h2, h3, h4, h5.imp id fun z => List.mem_append_right _ z⟩, S.dj, S.st.mono fun b ⟨i, h⟩ => ⟨i, List.mem_append_right _ h⟩, fun q hq => by
    rcases List.mem_append.mp hq with h | h
    · exact ho q h
    · exact S.ios q h, S.a0, fun q hq => by
    rcases List.mem_append.mp hq with h | h
    · exact hp q h
    · exact S.pn q h, S.xh⟩
theorem SR.unwalk {p : Par} {σ : St} {H : Hp} {ρ : Slots} {ps : List (V × D)} {os : List (Nat × Addr)} (S : SR (p.walk ps os) σ H ρ) (ho : ∀ q ∈ os, p.H0 q.2 = none ∨ q ∈ p.io) : SR p σ H ρ :=
  ⟨S.ln, S.va, S.oi, fun i d hi hd => by
    obtain ⟨a, xs, ds, h1, h2, h3, h4, h5⟩ := S.ov i d hi hd
    refine ⟨a, xs, ds, h1, h2, h3, h4, ?_⟩
    rcases h5 with h | h
    · exact .inl h
    · rcases List.mem_append.mp h with h | h
      · exact ho _ h
      · exact .inr h, S.dj, fun b o e => by
    rcases S.st b o e with h | ⟨⟨i, h⟩, h2⟩
    · exact .inl h
    · rcases List.mem_append.mp h with h | h
      · rcases ho _ h with z | z
        · rw [show p.H0 b = none from z] at e; cases e
        · exact .inr ⟨⟨i, z⟩, h2⟩
      · exact .inr ⟨⟨i, h⟩, h2⟩, fun q hq => S.ios q (List.mem_append_right _ hq), S.a0, fun q hq => S.pn q (List.mem_append_right _ hq), S.xh⟩
theorem fixL_length : ∀ (c : C) (ds : List D) (ρ : Slots), (fixL c ds ρ).length = ds.length
  | .cons a r, d :: ds, ρ => by show (fixL r ds ρ).length + 1 = ds.length + 1; rw [fixL_length r ds ρ]
  | .cons _ _, [], _ => rfl
  | .nil, _, _ => rfl
  | .non, _, _ | .bl _, _, _ | .int _, _, _ | .str _, _, _ | .glob _, _, _ | .var _, _, _ | .own _, _, _ | .op .., _, _ | .neg _, _, _ | .cmp .., _, _ | .chain .., _, _ | .tv _, _, _ | .not _, _, _ | .and .., _, _ | .or .., _, _ | .ite .., _, _ | .tup _, _, _ | .lst _, _, _ | .dic0, _, _ | .star _, _, _ | .ix .., _, _ | .sl .., _, _ | .call .., _, _ | .callk .., _, _ | .bi .., _, _
  | .me .., _, _ | .isi .., _, _ | .isE .., _, _ | .lc .., _, _ | .pop .., _, _ | .sSet .., _, _ | .sOwn .., _, _ | .sPat .., _, _ | .sPar .., _, _ | .sPut .., _, _ | .sApp .., _, _ | .sExt .., _, _ | .sExp _, _, _ | .sIf .., _, _ | .sFor .., _, _ | .sWhile .., _, _ | .sRet _, _, _ | .sRetZ _, _, _ | .sRetN, _, _ | .sBrk, _, _ | .sCnt, _, _ | .sPass, _, _ | .sRaise _, _, _ | .sTry .., _, _ => rfl
theorem wk_list {K : PySem.W.Frag} {a : Addr} {ds : List D} : Wk K (Itl K a) [(.ref a, .list ds)] [] (fun _ => true) ds := by
  intro r σ H ρ hK hq _ S _ i
  subst hK
  have r : Ra r.K (av r σ) H (.ref a) (.list ds) := .inl (S.pn _ (hq _ List.mem_cons_self))
  obtain ⟨a', xs, e, h1, h2⟩ := r.lst
  cases e
  refine ⟨fun hi => ?_, fun hi => ⟨xs, h1, by rw [h2.length]; exact hi⟩, fun x H' hi hy => ?_⟩
  · have hl : i < xs.length := by rw [h2.length]; exact hi
    exact ⟨xs, xs[i], h1, List.getElem?_eq_getElem hl⟩
  · obtain ⟨rfl, hy⟩ := hy
    obtain ⟨e, h3, h4⟩ := h2.getV (hy xs h1)
    exact ⟨fun _ _ h => h, fun b h o h' => (by rw [h] at h'; cases h'), e, h3, h4⟩
theorem wk_tup {K : PySem.W.Frag} {a : Addr} {ds : List D} : Wk K (Itt K a) [(.ref a, .tuple ds)] [] (fun _ => true) ds := by
  intro r σ H ρ hK hq _ S _ i
  subst hK
  have r : Ra r.K (av r σ) H (.ref a) (.tuple ds) := .inl (S.pn _ (hq _ List.mem_cons_self))
  obtain ⟨a', xs, e, h1, h2⟩ := r.tup
  cases e
  refine ⟨fun hi => ?_, fun hi => ⟨xs, h1, by rw [h2.length]; exact hi⟩, fun x H' hi hy => ?_⟩
  · have hl : i < xs.length := by rw [h2.length]; exact hi
    exact ⟨xs, xs[i], h1, List.getElem?_eq_getElem hl⟩
  · obtain ⟨rfl, hy⟩ := hy
    obtain ⟨e, h3, h4⟩ := h2.getV (hy xs h1)
    exact ⟨fun _ _ h => h, fun b h o h' => (by rw [h] at h'; cases h'), e, h3, h4⟩
theorem wk_str {K : PySem.W.Frag} {z : Str} : Wk K (Its z) [] [] (fun _ => true) (z.cps.toList.map fun c => .str ⟨#[c]⟩) := by
  intro r σ H ρ hK hq _ S _ i
  subst hK
  have el : (z.cps.toList.map fun c => (PyData.str ⟨#[c]⟩)).length = z.cps.size := by simp
  refine ⟨fun hi => by rw [el] at hi; exact hi, fun hi => by rw [el] at hi; exact hi, fun x H' hi hy => ?_⟩
  obtain ⟨rfl, c, hc, rfl⟩ := hy
  refine ⟨fun _ _ h => h, fun b h o h' => (by rw [h] at h'; cases h'), .str ⟨#[c]⟩, ?_, .str _⟩
  rw [List.getElem?_map, Array.getElem?_toList, hc]; rfl
theorem wk_rng {K : PySem.W.Frag} {lo : Int} {n : Nat} {hi : Int} (h : (hi - lo).toNat = n) : Wk K (Itr lo n) [] [] (fun _ => true) (rangeD lo hi) := by
  intro r σ H ρ hK hq _ S _ i
  subst hK
  have el : (rangeD lo hi).length = n := by unfold rangeD; rw [List.length_map, List.length_range]; exact h
  refine ⟨fun hi => by rw [el] at hi; exact hi, fun hi => by rw [el] at hi; exact hi, fun x H' hi hy => ?_⟩
  obtain ⟨rfl, rfl⟩ := hy
  refine ⟨fun _ _ h => h, fun b h o h' => (by rw [h] at h'; cases h'), .int (lo + i), ?_, .int _⟩
  unfold rangeD
  rw [List.getElem?_map, List.getElem?_range (by rw [← el] at *; unfold rangeD at hi; rw [List.length_map, List.length_range] at hi; exact hi)]
  rfl
theorem wk_own {K : PySem.W.Frag} {i : Nat} {a : Addr} {ds : List D} : Wk K (Itl K a) [] [(i, a)] (keepsL i ds) ds := by
  intro r σ H ρ hK _ ho S hc j
  subst hK
  have hg := keepsL_get hc
  obtain ⟨hi, hs⟩ := S.ios _ (ho _ List.mem_cons_self)
  obtain ⟨b, xs, es, e1, e2, e3, e4, _⟩ := S.ov i _ hi hg
  cases e1
  have e2 : σ[i]? = some (some (V.ref b)) := e2
  have hs : σ[i]? = some (some (V.ref a)) := hs
  rw [hs] at e2; cases e2
  have h1 : SqL r.K H a xs := .inl (Rd.of e3)
  refine ⟨fun hi => ?_, fun hi => ⟨xs, h1, by rw [e4.length]; exact hi⟩, fun x H' hi hy => ?_⟩
  · have hl : j < xs.length := by rw [e4.length]; exact hi
    exact ⟨xs, xs[j], h1, List.getElem?_eq_getElem hl⟩
  · obtain ⟨rfl, hy⟩ := hy
    obtain ⟨e, h3, h4⟩ := e4.getV (hy xs h1)
    exact ⟨fun _ _ h => h, fun b h o h' => (by rw [h] at h'; cases h'), e, h3, h4⟩
section
variable {X : Cx} {p : Par} {W : Wh} {pos : Pos} {tg it : Expr} {f : Slots → R D}
theorem i_data (hk : X.K = p.K) (ha : PE X it (tX p W false f)) : PI X tg it (tI p W [] noChk fun ρ => (f ρ).bind fun d ρ1 => opt (items d) ρ1) := by
  refine ⟨fun pins s σ H Q I m => ?_⟩
  obtain ⟨ρ, S, m⟩ := m
  cases hf : f ρ with
  | bad => simp only [hf] at m; exact False.elim m
  | exn c ρ1 =>
    simp only [hf] at m
    exact (pi_list ha).run pins s σ H Q I ⟨ρ, S, by simp only [hf]; exact m⟩
  | ok d ρ1 =>
    simp only [hf] at m
    cases d with
    | list ds =>
      have m : tIres p W [] noChk σ H Q (.ok ds ρ1) := m
      refine (pi_list ha).run pins s σ H Q I ⟨ρ, S, ?_⟩
      simp only [hf]
      intro v H' S' st g
      obtain ⟨a, xs, rfl, h1, h2⟩ := (Rp.ra g.1).lst
      exact ⟨a, rfl, ⟨xs, hk ▸ h1⟩, m _ H' [(.ref a, .list ds)] [] S' st (fun q hq => by cases hq with | head => exact g.1 | tail _ h => cases h) (fun q hq => by cases hq) (hk ▸ wk_list)⟩
    | tuple ds =>
      have m : tIres p W [] noChk σ H Q (.ok ds ρ1) := m
      refine (pi_tup ha).run pins s σ H Q I ⟨ρ, S, ?_⟩
      simp only [hf]
      intro v H' S' st g
      obtain ⟨a, xs, rfl, h1, h2⟩ := (Rp.ra g.1).tup
      exact ⟨a, rfl, ⟨xs, hk ▸ h1⟩, m _ H' [(.ref a, .tuple ds)] [] S' st (fun q hq => by cases hq with | head => exact g.1 | tail _ h => cases h) (fun q hq => by cases hq) (hk ▸ wk_tup)⟩
    | str x =>
      have m : tIres p W [] noChk σ H Q (.ok (x.cps.toList.map fun c => .str ⟨#[c]⟩) ρ1) := m
      refine (pi_str ha).run pins s σ H Q I ⟨ρ, S, ?_⟩
      simp only [hf]
      intro v H' S' st g
      cases g.1
      exact ⟨x, rfl, m _ H' [] [] S' st (fun q hq => by cases hq) (fun q hq => by cases hq) wk_str⟩
    | _ => exact False.elim m
theorem i_own {i : Nat} (hk : X.K = p.K) (hio : i ∈ p.own) (he : PE X it (tVar i)) : PI X tg it (tI p W [i] (keepsL i) fun ρ => (opt (get ρ i) ρ).bind fun d ρ1 => opt (items d) ρ1) := by
  refine ⟨fun pins s σ H Q I m => ?_⟩
  obtain ⟨ρ, S, m⟩ := m
  have m : tIres p W [i] (keepsL i) σ H Q ((opt (get ρ i) ρ).bind fun d ρ1 => opt (items d) ρ1) := m
  cases hg : get ρ i with
  | none => rw [hg] at m; exact False.elim m
  | some d =>
    obtain ⟨a, xs, ds, rfl, h2, h3, h4, h5⟩ := S.ov i d hio hg
    rw [hg] at m
    have m : tIres p W [i] (keepsL i) σ H Q (.ok ds ρ) := m
    refine (pi_list he).run pins s σ H Q I ⟨_, h2, a, rfl, ⟨xs, .inl (Rd.of h3)⟩, m _ H [] [(i, a)] S Stay.refl (fun q hq => by cases hq) (fun q hq => ?_) (hk ▸ wk_own)⟩
    cases hq with
    | head => exact ⟨List.mem_cons_self, hio, h2, h5⟩
    | tail _ h => cases h
theorem in62_iff {i : Int} : in62 i = true ↔ -(2 ^ 62) ≤ i ∧ i < 2 ^ 62 := by simp [in62]
theorem i_range1 {a : Expr} {q : Pos} {x : Str} {cl : C} {t : Slots → R (List D)} (hx : x = "range") (hg : Gl X x) (hm : X.mg x = none) (ha : PA X [a] (tAG p W (gA p cl) t)) (hs : starEach [a] X.env = [(false, eval a X.env)]) (hl : ∀ ρ ds ρ', t ρ = .ok ds ρ' → ds.length = 1) :
    PI X tg (.Call (.Name x q) [a] [] pos) (tI p W [] noChk fun ρ => ((t ρ).bind fun ds ρ1 => opt (biD .range (fixL cl ds ρ1)) ρ1).bind fun d ρ1 => opt (items d) ρ1) := by
  subst hx
  refine ⟨fun pins s σ H Q I m => (pi_range1 hg hm ha hs).run pins s σ H Q I ?_⟩
  obtain ⟨ρ, S, m⟩ := m
  refine ⟨ρ, S, ?_⟩
  cases hf : t ρ with
  | bad => simp only [hf] at m; exact False.elim m
  | exn c ρ1 => simp only [hf] at m; exact m
  | ok ds ρ1 =>
    simp only [hf] at m
    have m : tIres p W [] noChk σ H Q ((opt (biD .range (fixL cl ds ρ1)) ρ1).bind fun d ρ1 => opt (items d) ρ1) := m
    intro vs H' S' st g
    have r := argAll_ra S' g
    cases hz : biD .range (fixL cl ds ρ1) with
    | none => rw [hz] at m; exact False.elim m
    | some z =>
      rw [hz] at m
      rcases oneTwo_some (show oneTwo bRng1 bRng2 (fixL cl ds ρ1) = some z from hz) with ⟨d, e, hz⟩ | ⟨d, d2, e, hz⟩
      · rw [e] at r
        obtain ⟨v, rfl, hv⟩ := r.one
        cases d <;> first | cases hz | skip
        rename_i j
        cases hv.int
        change (if in62 j = true then some (PyData.list (rangeD 0 j)) else none) = some z at hz
        split at hz
        · rename_i hj
          cases hz
          have m : tIres p W [] noChk σ H Q (.ok (rangeD 0 j) ρ1) := m
          obtain ⟨h1, h2⟩ := in62_iff.mp hj
          exact ⟨j, rfl, h1, h2, m _ H' [] [] S' st (fun q hq => by cases hq) (fun q hq => by cases hq) (wk_rng (by rw [Int.sub_zero]))⟩
        · cases hz
      · -- one argument alone was written
        have l1 := hl _ _ _ hf
        have l2 : ds.length = 2 := by
          have : (fixL cl ds ρ1).length = ds.length := fixL_length cl ds ρ1
          rw [← this, e]; rfl
        omega
theorem i_range2 {a b : Expr} {q : Pos} {x : Str} {cl : C} {t : Slots → R (List D)} (hx : x = "range") (hg : Gl X x) (hm : X.mg x = none) (ha : PA X [a, b] (tAG p W (gA p cl) t)) (hs : starEach [a, b] X.env = [(false, eval a X.env), (false, eval b X.env)]) (hs2 : starEach [b] X.env = [(false, eval b X.env)])
    (hl : ∀ ρ ds ρ', t ρ = .ok ds ρ' → ds.length = 2) :
    PI X tg (.Call (.Name x q) [a, b] [] pos) (tI p W [] noChk fun ρ => ((t ρ).bind fun ds ρ1 => opt (biD .range (fixL cl ds ρ1)) ρ1).bind fun d ρ1 => opt (items d) ρ1) := by
  subst hx
  refine ⟨fun pins s σ H Q I m => (pi_range2 hg hm ha hs hs2).run pins s σ H Q I ?_⟩
  obtain ⟨ρ, S, m⟩ := m
  refine ⟨ρ, S, ?_⟩
  cases hf : t ρ with
  | bad => simp only [hf] at m; exact False.elim m
  | exn c ρ1 => simp only [hf] at m; exact m
  | ok ds ρ1 =>
    simp only [hf] at m
    have m : tIres p W [] noChk σ H Q ((opt (biD .range (fixL cl ds ρ1)) ρ1).bind fun d ρ1 => opt (items d) ρ1) := m
    intro vs H' S' st g
    have r := argAll_ra S' g
    cases hz : biD .range (fixL cl ds ρ1) with
    | none => rw [hz] at m; exact False.elim m
    | some z =>
      rw [hz] at m
      rcases oneTwo_some (show oneTwo bRng1 bRng2 (fixL cl ds ρ1) = some z from hz) with ⟨d, e, hz⟩ | ⟨d, d2, e, hz⟩
      · have l1 := hl _ _ _ hf
        have l2 : ds.length = 1 := by
          have : (fixL cl ds ρ1).length = ds.length := fixL_length cl ds ρ1
          rw [← this, e]; rfl
        omega
      · rw [e] at r
        obtain ⟨v, w, rfl, hv, hw⟩ := r.two
        cases d <;> first | cases hz | skip
        cases d2 <;> first | cases hz | skip
        rename_i i j
        cases hv.int; cases hw.int
        change (if (in62 i && in62 j) = true then some (PyData.list (rangeD i j)) else none) = some z at hz
        split at hz
        · rename_i hj
          cases hz
          simp only [Bool.and_eq_true] at hj
          have m : tIres p W [] noChk σ H Q (.ok (rangeD i j) ρ1) := m
          obtain ⟨h1, h2⟩ := in62_iff.mp hj.1
          obtain ⟨h3, h4⟩ := in62_iff.mp hj.2
          exact ⟨i, j, rfl, ⟨h1, h2, h3, h4⟩, m _ H' [] [] S' st (fun q hq => by cases hq) (fun q hq => by cases hq) (wk_rng rfl)⟩
        · cases hz
end
end Z

set_option linter.all false
set_option maxRecDepth 100000
set_option maxHeartbeats 1000000
namespace Z
open PySem PySem.Spec L2
open PyProof.Rows hiding St

section
variable {p : Par} {σ : St} {H : Hp} {ρ : Slots}
/-- one more address, of a new list, is kept away from all else -/
theorem SR.guard (S : SR p σ H ρ) {Lc : Addr} (hD : H Lc = none) : SR (p.with Lc) σ (upd H Lc (.lst [])) ρ := by
  have sm : Same H (upd H Lc (.lst [])) := same_upd hD
  have more : ∀ b, av (p.with Lc) σ b → av p σ b ∨ H b = none := fun b h => by
    rcases h with (h | h) | h
    · exact .inl (.inl h)
    · exact .inr (by rw [h]; exact hD)
    · exact .inl (.inr h)
  refine ⟨S.ln, fun i d hi hd => ?_, S.oi, fun i d hi hd => ?_, S.dj, S.st.trans (Stay.of_same sm), S.ios, fun b hb => ?_, fun q hq => (Rp.more more (S.pn q hq)).same sm, S.xh⟩
  · obtain ⟨v, h1, h2⟩ := S.va i d hi hd
    exact ⟨v, h1, (Rp.more more h2).same sm⟩
  · obtain ⟨a, xs, ds, h1, h2, h3, h4, h5⟩ := S.ov i d hi hd
    exact ⟨a, xs, ds, h1, h2, sm _ _ h3, (RpAll.more more h4).same sm, h5⟩
  · rcases hb with h | h
    · obtain ⟨o, e⟩ := S.a0 b h
      exact ⟨o, sm _ _ e⟩
    · exact ⟨_, by rw [h]; exact upd_same⟩
/-- what is kept away may change -/
theorem SR.at (S : SR p σ H ρ) {Lc : Addr} {xs ys : List V} (hD : H Lc = some (.lst xs)) (ha : p.A0 Lc) (h0 : p.H0 Lc = none) (no : ¬ ow p σ Lc) : SR p σ (upd H Lc (.lst ys)) ρ := by
  have st : Stay (fun b => b = Lc) H (upd H Lc (.lst ys)) := fun b o e => by
    by_cases h : b = Lc
    · subst h
      rw [hD] at e; cases e
      exact .inr ⟨rfl, ⟨_, rfl⟩, _, upd_same⟩
    · exact .inl (by rw [upd_ne h]; exact e)
  have sub : ∀ b, b = Lc → av p σ b := fun b h => by rw [h]; exact .inl ha
  have ne : ∀ b, b ≠ Lc → upd H Lc (.lst ys) b = H b := fun b h => upd_ne h
  refine ⟨S.ln, fun i d hi hd => ?_, S.oi, fun i d hi hd => ?_, S.dj, fun b o e => ?_, S.ios, fun b hb => st.some (S.a0 b hb), fun q hq => (S.pn q hq).stay st sub, S.xh⟩
  · obtain ⟨v, h1, h2⟩ := S.va i d hi hd
    exact ⟨v, h1, h2.stay st sub⟩
  · obtain ⟨a, zs, ds, h1, h2, h3, h4, h5⟩ := S.ov i d hi hd
    exact ⟨a, zs, ds, h1, h2, by rw [ne a fun z => no ⟨i, hi, by rw [← z]; exact h2⟩]; exact h3, RpAll.stay st sub h4, h5⟩
  · have hb : b ≠ Lc := fun z => by rw [z, h0] at e; cases e
    rw [ne b hb]
    exact S.st b o e
theorem SR.unguard {Lc : Addr} (S : SR (p.with Lc) σ H ρ) : SR p σ H ρ := by
  have less : ∀ b, av p σ b → av (p.with Lc) σ b := fun b h => by
    rcases h with h | h
    · exact .inl (.inl h)
    · exact .inr h
  refine ⟨S.ln, fun i d hi hd => ?_, S.oi, fun i d hi hd => ?_, S.dj, S.st, S.ios, fun b hb => S.a0 b (.inl hb), fun q hq => (S.pn q hq).mono less, S.xh⟩
  · obtain ⟨v, h1, h2⟩ := S.va i d hi hd
    exact ⟨v, h1, h2.mono less⟩
  · obtain ⟨a, zs, ds, h1, h2, h3, h4, h5⟩ := S.ov i d hi hd
    exact ⟨a, zs, ds, h1, h2, h3, RpAll.mono less h4, h5⟩
end
/-- no exception -/
abbrev W0 : Wh := fun _ _ _ => False
/-- another run's words that are told by the same -/
structure Sim (p q : Par) : Prop where
  K : q.K = p.K
  own : q.own = p.own
  xs : q.xs = p.xs
def gE (p : Par) (pat : C) : TG := fun v σ H Q => ∃ q : Par, Sim p q ∧ tPat q pat v σ H Q
def bE (p : Par) (f : Slots → R Bool) : TT := fun σ H Q => ∃ q : Par, Sim p q ∧ tB q W0 f σ H Q
def xE (p : Par) (f : Slots → R D) : TE := fun σ H Q => ∃ q : Par, Sim p q ∧ tX q W0 false f σ H Q
theorem pg_ex {X : Cx} {p : Par} {tg : Expr} {pat : C} (h : ∀ q : Par, Sim p q → PG X tg (tPat q pat)) : PG X tg (gE p pat) := ⟨fun pins s σ H v u Q I r ⟨q, h1, m⟩ => (h q h1).run pins s σ H v u Q I r m⟩
theorem pts_ex {X : Cx} {p : Par} {ifs : List Expr} {f : Slots → R Bool} (h : ∀ q : Par, Sim p q → PTs X ifs (tB q W0 f)) : PTs X ifs (bE p f) := ⟨fun pins s σ H Q I ⟨q, h1, m⟩ => (h q h1).run pins s σ H Q I m⟩
theorem pe_ex {X : Cx} {p : Par} {e : Expr} {f : Slots → R D} (h : ∀ q : Par, Sim p q → PE X e (tX q W0 false f)) : PE X e (xE p f) := ⟨fun pins s σ H Q I ⟨q, h1, m⟩ => (h q h1).run pins s σ H Q I m⟩
/-- a comprehension's turn -/
def turnD (vs : List Nat) (pat : C) (tc : Slots → R Bool) (te : Slots → R D) : D → Slots → R (Option D) := fun d ρ2 => match bindP pat d ρ2 with
  | none => .bad
  | some ρ3 => match tc ρ3 with
    | .ok k ρ4 => if k then (match te ρ4 with
        | .ok y ρ5 => .ok (some y) (wipeD ρ5 vs)
        | _ => .bad) else .ok none (wipeD ρ4 vs)
    | _ => .bad
theorem comps_chk {chk : Slots → Bool} {f : D → Slots → R (Option D)} {ds ys : List D} {ρ ρ6 : Slots} (c : comps chk f ds ρ = .ok ys ρ6) : chk ρ = true := by
  cases h : chk ρ with
  | true => rfl
  | false => cases ds <;> (unfold comps at c; rw [h, if_neg Bool.false_ne_true] at c; cases c)
theorem comps_end {chk : Slots → Bool} {f : D → Slots → R (Option D)} {ys : List D} {ρ ρ6 : Slots} (c : comps chk f [] ρ = .ok ys ρ6) : ys = [] ∧ ρ6 = ρ := by
  have h := comps_chk c
  unfold comps at c; rw [if_pos h] at c; cases c; exact ⟨rfl, rfl⟩
theorem comps_none {chk : Slots → Bool} {f : D → Slots → R (Option D)} {d : D} {ds ys : List D} {ρ ρ' ρ6 : Slots} (h : f d ρ = .ok none ρ') (c : comps chk f (d :: ds) ρ = .ok ys ρ6) : comps chk f ds ρ' = .ok ys ρ6 := by
  have k := comps_chk c
  unfold comps at c; rw [if_pos k, h] at c; exact c
theorem comps_some {chk : Slots → Bool} {f : D → Slots → R (Option D)} {d y : D} {ds ys : List D} {ρ ρ' ρ6 : Slots} (h : f d ρ = .ok (some y) ρ') (c : comps chk f (d :: ds) ρ = .ok ys ρ6) : ∃ r, ys = y :: r ∧ comps chk f ds ρ' = .ok r ρ6 := by
  have k := comps_chk c
  unfold comps at c; rw [if_pos k, h] at c
  simp only at c
  cases k : comps chk f ds ρ' with
  | ok r ρ2 => rw [k] at c; cases c; exact ⟨r, rfl, rfl⟩
  | exn _ _ => rw [k] at c; cases c
  | bad => rw [k] at c; cases c
theorem comps_turn {chk : Slots → Bool} {f : D → Slots → R (Option D)} {d : D} {ds ys : List D} {ρ ρ6 : Slots} (c : comps chk f (d :: ds) ρ = .ok ys ρ6) : ∃ o ρ', f d ρ = .ok o ρ' := by
  have k := comps_chk c
  unfold comps at c; rw [if_pos k] at c
  cases k : f d ρ with
  | ok o ρ' => exact ⟨o, ρ', rfl⟩
  | exn _ _ => rw [k] at c; cases c
  | bad => rw [k] at c; cases c
section
variable {X : Cx} {p : Par} {W : Wh} {pos : Pos} {elt tg iter : Expr} {ifs : List Expr} {scope : Scope} {own : List (Str × Nat)} {fi : Slots → R (List D)} {tc : Slots → R Bool} {te : Slots → R D} {pat : C} {fr : Bool}
/-- the reading of a comprehension -/
theorem lc_red {ol : List Nat} {chk : List D → Slots → Bool} (hv : ∀ v ∈ own.map (·.2), v ∉ p.own) (hxs : ∀ q ∈ p.xs, q.1 ∉ own.map (·.2)) (hs : ∀ v ∈ slotsP pat, v ∈ own.map (·.2)) {σ : St} {H : Hp} {Q : VK}
    (m : tZ p W (fun ρ => (fi ρ).bind fun xs ρ1 => match comps (chk xs) (turnD (own.map (·.2)) pat tc te) xs (wipeD ρ1 (own.map (·.2))) with
      | .ok ys ρ6 => if ys.length ≤ sizeLine then .ok (.list ys) (backD ρ1 ρ6 (own.map (·.2))) else .bad
      | _ => .bad) σ H Q) : tLc (tI p W ol chk fi) (gE p pat) (bE p tc) (xE p te) (own.map (·.2)) σ H Q := by
  generalize hvs : own.map (·.2) = vs at *
  obtain ⟨ρ, S, m⟩ := m
  refine ⟨ρ, S, ?_⟩
  cases hf : fi ρ with
  | bad => simp only [hf, R.bind] at m
  | exn c ρ1 => simp only [hf, R.bind] at m; exact m
  | ok xs ρ1 =>
    simp only [hf, R.bind] at m
    intro J H1 ps os S1 st1 hps hos wk Lc hD
    cases hc : comps (chk xs) (turnD vs pat tc te) xs (wipeD ρ1 vs) with
    | bad => simp only [hc] at m
    | exn c ρ6 => simp only [hc] at m
    | ok ys ρ6 =>
      simp only [hc] at m
      by_cases hl : ys.length ≤ sizeLine
      · rw [if_pos hl] at m
        obtain ⟨ds', ed, m⟩ := m
        cases ed
        have eo : ow p (L2.wipe σ vs) = ow p σ := ow_but hv but_wipe
        have nD : ¬ ow p σ Lc := fun h => by obtain ⟨zs, e⟩ := S1.owd h; rw [hD] at e; cases e
        have h0D : p.H0 Lc = none := by
          cases e : p.H0 Lc with
          | none => rfl
          | some o =>
            obtain ⟨o', e'⟩ := S1.st.some ⟨o, e⟩
            rw [hD] at e'; cases e'
        let p' : Par := (p.walk ps os).with Lc
        have eo' : ow p' (L2.wipe σ vs) = ow p σ := eo
        have S0 : SR p' (L2.wipe σ vs) (upd H1 Lc (.lst [])) (wipeD ρ1 vs) := ((S1.walk hps fun q hq => ⟨(hos q hq).2.1, (hos q hq).2.2.1⟩).guard hD).wipe hv hxs
        refine ⟨fun i n H2 => n = xs.length - i ∧ i ≤ xs.length ∧ ∃ ρ2 acc done rest, SR p' (L2.wipe σ vs) H2 ρ2 ∧ H2 Lc = some (.lst acc) ∧ RpAll p.K (av p' (L2.wipe σ vs)) H2 acc done ∧ done ++ rest = ys ∧
          comps (chk xs) (turnD vs pat tc te) (xs.drop i) ρ2 = .ok rest ρ6 ∧ Stay (ow p σ) H1 H2, ⟨xs.length, by simp, Nat.zero_le _, wipeD ρ1 vs, [], [], ys, S0, upd_same, .nil, rfl, hc, Stay.of_same (same_upd hD)⟩, ?_⟩
        rintro i n H2 ⟨rfl, hi, ρ2, acc, done, rest, S2, hacc, racc, hys, hcs, st2⟩
        have wki := wk p' (L2.wipe σ vs) H2 ρ2 rfl (fun q hq => List.mem_append_left _ hq) (fun q hq => List.mem_append_left _ hq) S2 (comps_chk hcs) i
        by_cases hlt : i < xs.length
        · refine .inr ⟨wki.1 hlt, fun H3 => i + 1 ≤ xs.length ∧ ∃ ρ3 acc done rest, SR p' (L2.wipe σ vs) H3 ρ3 ∧ H3 Lc = some (.lst acc) ∧ RpAll p.K (av p' (L2.wipe σ vs)) H3 acc done ∧ done ++ rest = ys ∧
            comps (chk xs) (turnD vs pat tc te) (xs.drop (i + 1)) ρ3 = .ok rest ρ6 ∧ Stay (ow p σ) H1 H3, fun H3 h => ⟨xs.length - (i + 1), by omega, rfl, h⟩, fun x H3 hy => ?_⟩
          obtain ⟨sm3, _, e, he, re⟩ := wki.2.2 x H3 hlt hy
          have hdrop : xs.drop i = e :: xs.drop (i + 1) := by
            obtain ⟨h1, h2⟩ := List.getElem?_eq_some_iff.mp he
            rw [List.drop_eq_getElem_cons h1, h2]
          rw [hdrop] at hcs
          obtain ⟨o, ρt, ht⟩ := comps_turn hcs
          have ht' := ht
          unfold turnD at ht
          cases hb : bindP pat e ρ2 with
          | none => rw [hb] at ht; cases ht
          | some ρ3 =>
            rw [hb] at ht
            simp only at ht
            refine ⟨p', ⟨rfl, rfl, rfl⟩, e, ρ2, S2.same sm3, re, ?_⟩
            rw [hb]
            intro σ3 S3 but3
            have butv : But vs (L2.wipe σ vs) σ3 := but3.mono hs
            have ew : L2.wipe σ3 vs = L2.wipe σ vs := (butv.wipe).trans ((but_wipe (σ := σ) (vs := vs)).wipe)
            have eo3 : ow p' σ3 = ow p σ := (ow_but (p := p') hv butv).trans eo
            refine ⟨ew, p', ⟨rfl, rfl, rfl⟩, ρ3, S3, ?_⟩
            cases htc : tc ρ3 with
            | bad => rw [htc] at ht; cases ht
            | exn c ρ4 => rw [htc] at ht; cases ht
            | ok k ρ4 =>
              rw [htc] at ht
              simp only at ht
              intro H4 S4 st4
              have st4' : Stay (ow p σ) H2 H4 := (Stay.of_same sm3).trans (eo3 ▸ st4)
              have hacc4 : H4 Lc = some (.lst acc) := by
                rcases st4' Lc _ hacc with z | ⟨z, _⟩
                · exact z
                · exact absurd z nD
              have ea4 : av p' σ3 = av p' (L2.wipe σ vs) := by funext b; unfold av; rw [eo3, eo']
              have racc4 : RpAll p.K (av p' (L2.wipe σ vs)) H4 acc done := RpAll.stay st4' (fun b h => .inr (by rw [eo']; exact h)) racc
              cases k with
              | false =>
                rw [if_neg Bool.false_ne_true] at ht ⊢
                cases ht
                refine ⟨hlt, _, acc, done, rest, ?_, hacc4, racc4, hys, comps_none ht' hcs, st2.trans st4'⟩
                have := SR.wipe (p := p') (vs := vs) hv hxs S4
                rwa [ew] at this
              | true =>
                rw [if_pos rfl] at ht ⊢
                refine ⟨p', ⟨rfl, rfl, rfl⟩, ρ4, S4, ?_⟩
                cases hte : te ρ4 with
                | bad => rw [hte] at ht; cases ht
                | exn c ρ5 => rw [hte] at ht; cases ht
                | ok y ρ5 =>
                  rw [hte] at ht
                  cases ht
                  obtain ⟨r, hr, hcs'⟩ := comps_some ht' hcs
                  subst hr
                  intro w H5 S5 st5 g5
                  have st5' : Stay (ow p σ) H2 H5 := st4'.trans (eo3 ▸ st5)
                  have hacc5 : H5 Lc = some (.lst acc) := by
                    rcases st5' Lc _ hacc with z | ⟨z, _⟩
                    · exact z
                    · exact absurd z nD
                  have racc5 : RpAll p.K (av p' (L2.wipe σ vs)) H5 acc done := RpAll.stay st5' (fun b h => .inr (by rw [eo']; exact h)) racc
                  have S6 : SR p' (L2.wipe σ vs) H5 (wipeD ρ5 vs) := by
                    have := SR.wipe (p := p') (vs := vs) hv hxs S5
                    rwa [ew] at this
                  have hlen : acc.length < sizeLine := by
                    have e1 := racc5.length
                    have e2 : (done ++ y :: r).length = ys.length := by rw [hys]
                    rw [List.length_append, List.length_cons] at e2
                    omega
                  have stD : Stay (fun b => b = Lc) H5 (upd H5 Lc (.lst (acc ++ [w]))) := fun b o e => by
                    by_cases h : b = Lc
                    · subst h; rw [hacc5] at e; cases e; exact .inr ⟨rfl, ⟨_, rfl⟩, _, upd_same⟩
                    · exact .inl (by rw [upd_ne h]; exact e)
                  refine ⟨acc, hacc5, hlen, hlt, wipeD ρ5 vs, acc ++ [w], done ++ [y], r, S6.at hacc5 (.inr rfl) h0D (by rw [eo']; exact nD), upd_same, RpAll.stay stD (fun b h => .inl (.inr h)) (racc5.append (.cons (ea4 ▸ g5.1) .nil)), by rw [List.append_assoc]; exact hys, hcs', fun b o e => ?_⟩
                  have hne : b ≠ Lc := fun z => by rw [z, hD] at e; cases e
                  rcases (st2.trans st5') b o e with z | ⟨z1, z2, zs, z3⟩
                  · exact .inl (by rw [upd_ne hne]; exact z)
                  · exact .inr ⟨z1, z2, zs, by rw [upd_ne hne]; exact z3⟩
        · have ei : i = xs.length := by omega
          subst ei
          refine .inl ⟨wki.2.1 (Nat.le_refl _), ?_⟩
          rw [List.drop_length] at hcs
          obtain ⟨rfl, rfl⟩ := comps_end hcs
          rw [List.append_nil] at hys
          subst hys
          have Sb : SR p σ H2 (backD ρ1 ρ6 vs) := SR.back hv S1 st2 ow_av (S2.unguard.unwalk fun q hq => (hos q hq).2.2.2)
          have lessA : ∀ b, av p σ b ∨ b = Lc → av p' (L2.wipe σ vs) b := fun b h => by
            rcases h with (h | h) | h
            · exact .inl (.inl h)
            · exact .inr (by rw [eo']; exact h)
            · exact .inl (.inr h)
          have stL : Stay (fun b => ow p σ b ∨ b = Lc) (upd H1 Lc (.lst [])) H2 := fun b o e => by
            by_cases h : b = Lc
            · subst h
              rw [upd_same] at e; cases e
              exact .inr ⟨.inr rfl, ⟨_, rfl⟩, _, hacc⟩
            · rw [upd_ne h] at e
              rcases st2 b o e with z | ⟨z1, z2⟩
              · exact .inl z
              · exact .inr ⟨.inl z1, z2⟩
          have Sw : SR (p.with Lc) (L2.wipe σ vs) H2 ρ6 := SR.unwalk (p := p.with Lc) (ps := ps) (os := os) ⟨S2.ln, S2.va, S2.oi, S2.ov, S2.dj, S2.st, S2.ios, S2.a0, S2.pn, S2.xh⟩ fun q hq => (hos q hq).2.2.2
          have Sa : SR (p.with Lc) σ H2 (backD ρ1 ρ6 vs) := SR.back (p := p.with Lc) hv (S1.guard hD) stL (fun b h => h.elim (fun h => .inr h) fun h => .inl (.inr h)) Sw
          exact m Lc acc H2 Sb Sa (st1.trans st2) (st1.none hD) hacc (RpAll.mono lessA racc)
      · rw [if_neg hl] at m
        exact False.elim m
end
end Z

set_option linter.all false
set_option maxRecDepth 100000
set_option maxHeartbeats 1000000
namespace Z
open PySem PySem.Spec L2
open PyProof.Rows hiding St

/-! ### statements -/
/-- what a return hands back -/
def RetS (p : Par) (ρ : Slots) (fr : Bool) (H' : Hp) (v : V) (d : D) : Prop :=
  Rp p.K p.A0 H' v d ∧ (fr = true → ∀ ds, d = .list ds → ∃ (a : Addr) (xs : List V), v = .ref a ∧ p.H0 a = none ∧ H' a = some (.lst xs) ∧ RpAll p.K (fun b => p.A0 b ∨ b = a) H' xs ds ∧
    ∀ q ∈ p.io, ∀ d', get ρ q.1 = some d' → ∃ (xs : List V) (es : List D), d' = PyData.list es ∧ H' q.2 = some (.lst xs) ∧ RpAll p.K (fun b => p.A0 b ∨ b = a) H' xs es)
def tSres (p : Par) (W : Wh) (fr : Bool) (E : Ends) : O → Prop
  | .nx ρ' => ∀ σ' H', SR p σ' H' ρ' → E.nx σ' H'
  | .brk ρ' => ∀ σ' H', SR p σ' H' ρ' → E.bk σ' H'
  | .cnt ρ' => ∀ σ' H', SR p σ' H' ρ' → E.ct σ' H'
  | .ret d ρ' => ∀ σ' v H', SR p σ' H' ρ' → RetS p ρ' fr H' v d → E.rt v H'
  | .exn c ρ' => ∀ σ' H', SR p σ' H' ρ' → W c σ' H'
  | .bad => False
def tS (p : Par) (W : Wh) (fr : Bool) (f : Slots → O) : TS := fun E σ H => ∃ ρ, SR p σ H ρ ∧ tSres p W fr E (f ρ)
section
variable {p : Par} {W : Wh} {fr : Bool} {E E' : Ends} {σ : St} {H : Hp} {Q : VK} {G : GT} {L : GL}
/-- an expression ahead of a statement's end -/
theorem tS.bind {f : Slots → R D} {k : D → Slots → O} (m : tS p W fr (fun ρ => (f ρ).o k) E σ H) :
    tG p W G f σ H fun x H1 => ∃ d, Stay (ow p σ) H H1 ∧ G σ H H1 x d ∧ tS p W fr (k d) E σ H1 := by
  obtain ⟨ρ, S, m⟩ := m
  refine ⟨ρ, S, ?_⟩
  cases hf : f ρ with
  | ok d ρ1 => simp only [hf] at m; exact fun v H1 S1 s1 g1 => ⟨d, s1, g1, ρ1, S1, m⟩
  | exn c ρ1 => simp only [hf] at m; exact fun H1 S1 _ => m σ H1 S1
  | bad => simp only [hf] at m; exact m
theorem tS.bindT {f : Slots → R Bool} {k : Bool → Slots → O} (m : tS p W fr (fun ρ => (f ρ).t k) E σ H) :
    tB p W f σ H fun x H1 => Stay (ow p σ) H H1 ∧ tS p W fr (k x) E σ H1 := by
  obtain ⟨ρ, S, m⟩ := m
  refine ⟨ρ, S, ?_⟩
  cases hf : f ρ with
  | ok d ρ1 => simp only [hf] at m; exact fun H1 S1 s1 => ⟨s1, ρ1, S1, m⟩
  | exn c ρ1 => simp only [hf] at m; exact fun H1 S1 _ => m σ H1 S1
  | bad => simp only [hf] at m; exact m
theorem tS.bindZ {f : Slots → R D} {k : D → Slots → O} (m : tS p W fr (fun ρ => (f ρ).o fun d ρ1 => match d with | .list _ => k d ρ1 | _ => .bad) E σ H) :
    tZ p W f σ H fun x H1 => ∃ a ds xs ρ1, x = .ref a ∧ Stay (ow p σ) H H1 ∧ SR p σ H1 ρ1 ∧ SR (p.with a) σ H1 ρ1 ∧ H a = none ∧ H1 a = some (.lst xs) ∧ RpAll p.K (fun b => av p σ b ∨ b = a) H1 xs ds ∧ tSres p W fr E (k (.list ds) ρ1) := by
  obtain ⟨ρ, S, m⟩ := m
  refine ⟨ρ, S, ?_⟩
  cases hf : f ρ with
  | ok d ρ1 =>
    simp only [hf] at m
    cases d with
    | list ds => exact ⟨ds, rfl, fun a xs H1 S1 S1' st h1 h2 h3 => ⟨a, ds, xs, ρ1, rfl, st, S1, S1', h1, h2, h3, m⟩⟩
    | _ => exact False.elim m
  | exn c ρ1 => simp only [hf] at m; exact fun H1 S1 _ => m σ H1 S1
  | bad => simp only [hf] at m; exact m
theorem tZ.mono {Q' : VK} {f : Slots → R D} (m : tZ p W f σ H Q) (h : ∀ v H', Q v H' → Q' v H') : tZ p W f σ H Q' := by
  obtain ⟨ρ, S, m⟩ := m
  refine ⟨ρ, S, ?_⟩
  cases hf : f ρ with
  | ok d ρ1 =>
    simp only [hf] at m
    obtain ⟨ds, e, m⟩ := m
    exact ⟨ds, e, fun a xs H1 S1 S1' st h1 h2 h3 => h _ _ (m a xs H1 S1 S1' st h1 h2 h3)⟩
  | exn c ρ1 => simp only [hf] at m; exact m
  | bad => simp only [hf] at m
theorem tSres.mono {o : O} (m : tSres p W fr E o) (h1 : ∀ σ H, E.nx σ H → E'.nx σ H) (h2 : ∀ v H, E.rt v H → E'.rt v H) (h3 : ∀ σ H, E.bk σ H → E'.bk σ H) (h4 : ∀ σ H, E.ct σ H → E'.ct σ H) : tSres p W fr E' o := by
  cases o with
  | nx ρ => exact fun σ' H' S => h1 _ _ (m σ' H' S)
  | brk ρ => exact fun σ' H' S => h3 _ _ (m σ' H' S)
  | cnt ρ => exact fun σ' H' S => h4 _ _ (m σ' H' S)
  | ret d ρ => exact fun σ' v H' S r => h2 _ _ (m σ' v H' S r)
  | exn c ρ => exact m
  | bad => exact m
end
section
variable {X : Cx} {p : Par} {W : Wh} {fr : Bool} {pos : Pos} {e a b c : Expr} {f g h : Slots → R D} {ca cb cc cl : C} {s st : Stmt} {body rest : List Stmt} {k k' : Slots → O}
theorem s_nil : PSs X [] (tS p W fr fun ρ => .nx ρ) := pss_imp pss_nil fun E σ H ⟨ρ, S, m⟩ => m σ H S
theorem s_cons (h1 : PS X st (tS p W fr k)) (h2 : PSs X rest (tS p W fr k')) : PSs X (st :: rest) (tS p W fr fun ρ => (k ρ).then k') := pss_imp (pss_cons h1 h2) fun E σ H ⟨ρ, S, m⟩ => by
  refine ⟨ρ, S, ?_⟩
  cases hk : k ρ with
  | nx ρ1 => simp only [hk] at m; exact fun σ' H' S' => ⟨ρ1, S', m⟩
  | brk ρ1 => simp only [hk] at m; exact m
  | cnt ρ1 => simp only [hk] at m; exact m
  | ret d ρ1 => simp only [hk] at m; exact m
  | exn c ρ1 => simp only [hk] at m; exact m
  | bad => simp only [hk] at m; exact m
theorem s_doc {x : Str} {j pos'} : PS X (.Expr (.Constant (.str x) j pos) pos') (tS p W fr fun ρ => .nx ρ) := ps_imp ps_doc fun E σ H ⟨ρ, S, m⟩ => m σ H S
theorem s_pass : PS X (.Pass pos) (tS p W fr fun ρ => .nx ρ) := ps_imp ps_pass fun E σ H ⟨ρ, S, m⟩ => m σ H S
theorem s_brk : PS X (.Break pos) (tS p W fr fun ρ => .brk ρ) := ps_imp ps_break fun E σ H ⟨ρ, S, m⟩ => m σ H S
theorem s_cnt : PS X (.Continue pos) (tS p W fr fun ρ => .cnt ρ) := ps_imp ps_continue fun E σ H ⟨ρ, S, m⟩ => m σ H S
theorem s_exp (he : PE X e (tX p W false f)) (hs : swapsWith e none pos.line X.env = pure false) : PS X (.Expr e pos) (tS p W fr fun ρ => (f ρ).o fun _ ρ1 => .nx ρ1) := ps_imp (ps_expr he hs) fun E σ H m => by
  refine (tS.bind (G := gX p false) m).mono fun v H1 ⟨d, st, g, ρ, S, m1⟩ => m1 σ H1 S
theorem s_if {t : Slots → R Bool} {A B : List Stmt} (hc : PT X c (tB p W t)) (ha : PSs X A (tS p W fr k)) (hb : PSs X B (tS p W fr k')) : PS X (.If c A B pos) (tS p W fr fun ρ => (t ρ).t fun b ρ1 => if b then k ρ1 else k' ρ1) := ps_imp (ps_if hc ha hb) fun E σ H m => by
  refine m.bindT.mono fun b H1 ⟨st, m1⟩ => ?_
  cases b with
  | true => rw [if_pos rfl]; simpa using m1
  | false => rw [if_neg Bool.false_ne_true]; simpa using m1
theorem s_retN (hfr : ∀ b, p.A0 b → p.H0 b ≠ none) : PS X (.Return none pos) (tS p W fr fun ρ => .ret .none ρ) := ps_imp ps_retN fun E σ H ⟨ρ, S, m⟩ => m σ .non H S ⟨.non, fun _ ds h => by cases h⟩
theorem RetS.of {σ : St} {H : Hp} {ρ : Slots} {v : V} {d : D} (r : Rp p.K (av p σ) H v d) (hl : fr = true → ∀ ds, d ≠ .list ds) : RetS p ρ fr H v d := ⟨r.mono fun b h => .inl h, fun hf ds e => absurd e (hl hf ds)⟩
/-- return e in a def that hands back no new list -/
theorem s_ret (he : PE X e (tX p W false f)) : PS X (.Return (some e) pos) (tS p W false fun ρ => (f ρ).o fun d ρ1 => .ret d ρ1) := ps_imp (ps_ret he) fun E σ H m => by
  refine (tS.bind (G := gX p false) m).mono fun v H1 ⟨d, st, g, ρ, S, m1⟩ => m1 σ v H1 S (RetS.of g.1 fun h => Bool.noConfusion h)
/-- return e where e is no list -/
def noList : D → Bool
  | .list _ => false
  | _ => true
theorem s_retNL (he : PE X e (tX p W false f)) (hn : ∀ ρ d ρ', f ρ = .ok d ρ' → noList d = true) : PS X (.Return (some e) pos) (tS p W fr fun ρ => (f ρ).o fun d ρ1 => .ret d ρ1) := ps_imp (ps_ret he) fun E σ H ⟨ρ, S, m⟩ => by
  refine ⟨ρ, S, ?_⟩
  cases hf : f ρ with
  | ok d ρ1 =>
    simp only [hf] at m
    exact fun v H1 S1 st g => m σ v H1 S1 (RetS.of g.1 fun _ ds e => by subst e; have := hn _ _ _ hf; cases this)
  | exn c ρ1 => simp only [hf] at m; exact fun H1 S1 _ => m σ H1 S1
  | bad => simp only [hf] at m; exact m
theorem io_owned {σ : St} {H : Hp} {ρ : Slots} (S : SR p σ H ρ) {q : Nat × Addr} (hq : q ∈ p.io) {d : D} (hd : get ρ q.1 = some d) : ∃ (xs : List V) (es : List D), d = .list es ∧ H q.2 = some (.lst xs) ∧ RpAll p.K (av p σ) H xs es := by
  obtain ⟨h1, h2⟩ := S.ios q hq
  obtain ⟨a, xs, ds, e1, e2, e3, e4, _⟩ := S.ov q.1 d h1 hd
  rw [h2] at e2; cases e2
  exact ⟨xs, ds, e1, e3, e4⟩
/-- return x, x an own list -/
theorem s_retO {i : Nat} (hi : i ∈ p.own) (hfr : ∀ b, p.A0 b → p.H0 b ≠ none) (hio : ∀ q ∈ p.io, q.1 ≠ i) (he : PE X e (tVar i)) : PS X (.Return (some e) pos) (tS p W fr fun ρ => (opt (get ρ i) ρ).o fun d ρ1 => .ret d ρ1) := ps_imp (ps_ret he) fun E σ H ⟨ρ, S, m⟩ => by
  have m : tSres p W fr E ((opt (get ρ i) ρ).o fun d ρ1 => .ret d ρ1) := m
  cases hg : get ρ i with
  | none => rw [hg] at m; exact False.elim m
  | some d =>
    rw [hg] at m
    obtain ⟨a, xs, ds, rfl, h2, h3, h4, h5⟩ := S.ov i d hi hg
    have h0 : p.H0 a = none := by
      rcases h5 with h | h
      · exact h
      · exact absurd rfl (hio _ h)
    have lt : ∀ b, p.A0 b ∨ b = a → av p σ b := fun b h => by
      rcases h with h | h
      · exact .inl h
      · exact .inr ⟨i, hi, by rw [h]; exact h2⟩
    refine ⟨_, h2, m σ _ H S ⟨.lst (Rd.of h3) (fun z => hfr a z h0) (RpAll.mono (fun b h => lt b (.inl h)) h4), fun _ es e => ?_⟩⟩
    cases e
    refine ⟨a, xs, rfl, h0, h3, RpAll.mono lt h4, fun q hq d' hd' => ?_⟩
    obtain ⟨ys, es, e1, e2, e3⟩ := io_owned S hq hd'
    exact ⟨ys, es, e1, e2, RpAll.mono lt e3⟩
/-- return e, e a new list -/
theorem s_retZ (hfr : ∀ b, p.A0 b → p.H0 b ≠ none) (he : PE X e (tZ p W f)) : PS X (.Return (some e) pos) (tS p W fr fun ρ => (f ρ).o fun d ρ1 => match d with | .list _ => .ret d ρ1 | _ => .bad) := ps_imp (ps_ret he) fun E σ H m => by
  have hm := m
  refine tZ.mono (m.bindZ (k := fun d ρ1 => O.ret d ρ1)) ?_
  rintro v H1 ⟨a, ds, xs, ρ1, rfl, st, S, S', h1, h2, h3, m⟩
  have h0 : p.H0 a = none := by
    obtain ⟨ρ0, S0, _⟩ := hm
    exact S0.st.none h1
  have lt : ∀ b, p.A0 b ∨ b = a → av (p.with a) σ b := fun b h => .inl h
  refine m σ _ H1 S ⟨.lst (Rd.of h2) (fun z => hfr a z h0) (RpAll.mono (fun b h => .inl (.inl h)) h3), fun _ es e => ?_⟩
  cases e
  refine ⟨a, xs, rfl, h0, h2, RpAll.mono (fun b h => h.imp .inl id) h3, fun q hq d' hd' => ?_⟩
  obtain ⟨ys, es, e1, e2, e3⟩ := io_owned S' hq hd'
  exact ⟨ys, es, e1, e2, RpAll.mono lt e3⟩
end
end Z

set_option linter.all false
set_option maxRecDepth 100000
set_option maxHeartbeats 1000000
namespace Z
open PySem PySem.Spec L2
open PyProof.Rows hiding St

/-- an own slot takes a new list -/
theorem SR.setOwn {p : Par} {σ : St} {H : Hp} {ρ : Slots} {a : Addr} {xs : List V} {ds : List D} {i : Nat} (S : SR p σ H ρ) (S' : SR (p.with a) σ H ρ) (h0 : p.H0 a = none) (na : ¬ av p σ a) (ha : H a = some (.lst xs))
    (r : RpAll p.K (fun b => av p σ b ∨ b = a) H xs ds) (hi : i ∈ p.own) (hl : i < σ.length) (hio : ∀ q ∈ p.io, q.1 ≠ i) (hxs : ∀ q ∈ p.xs, q.1 ≠ i) : SR p (σ.set i (some (.ref a))) H (Z.put ρ i (.list ds)) := by
  have hl' : i < ρ.length := by rw [← S.ln]; exact hl
  have le : ∀ b, av p (σ.set i (some (.ref a))) b → av (p.with a) σ b := fun b h => by
    rcases h with h | ⟨j, h1, h2⟩
    · exact .inl (.inl h)
    · by_cases hj : i = j
      · subst hj
        rw [List.getElem?_set_self hl] at h2; cases h2
        exact .inl (.inr rfl)
      · rw [List.getElem?_set_ne hj] at h2
        exact .inr ⟨j, h1, h2⟩
  have le' : ∀ b, av p (σ.set i (some (.ref a))) b → av p σ b ∨ b = a := fun b h => by
    rcases le b h with (h | h) | h
    · exact .inl (.inl h)
    · exact .inr h
    · exact .inl (.inr h)
  refine ⟨by rw [List.length_set, length_put]; exact S.ln, fun j e hj hd => ?_, fun j w hj hw => ?_, fun j e hj hd => ?_, fun j k b h1 h2 h3 h4 => ?_, S.st, fun q hq => ?_, S.a0, fun q hq => (S'.pn q hq).mono le, fun q hq => ?_⟩
  · have hne : i ≠ j := fun z => hj (z ▸ hi)
    rw [get_put_ne hne] at hd
    obtain ⟨w, h1, h2⟩ := S'.va j e hj hd
    exact ⟨w, by rw [List.getElem?_set_ne hne]; exact h1, h2.mono le⟩
  · by_cases h : i = j
    · subst h; exact ⟨_, get_put_same hl'⟩
    · rw [get_put_ne h]
      rw [List.getElem?_set_ne h] at hw
      exact S.oi j w hj hw
  · by_cases h : i = j
    · subst h
      rw [get_put_same hl'] at hd; cases hd
      exact ⟨a, xs, ds, rfl, List.getElem?_set_self hl, ha, RpAll.mono le' r, .inl h0⟩
    · rw [get_put_ne h] at hd
      obtain ⟨b, ys, es, e1, e2, e3, e4, e5⟩ := S'.ov j e hj hd
      exact ⟨b, ys, es, e1, by rw [List.getElem?_set_ne h]; exact e2, e3, RpAll.mono le e4, e5⟩
  · by_cases e1 : i = j
    · by_cases e2 : i = k
      · rw [← e1, ← e2]
      · subst e1
        rw [List.getElem?_set_self hl] at h3; cases h3
        rw [List.getElem?_set_ne e2] at h4
        exact absurd (.inr ⟨k, h2, h4⟩) na
    · by_cases e2 : i = k
      · subst e2
        rw [List.getElem?_set_self hl] at h4; cases h4
        rw [List.getElem?_set_ne e1] at h3
        exact absurd (.inr ⟨j, h1, h3⟩) na
      · rw [List.getElem?_set_ne e1] at h3
        rw [List.getElem?_set_ne e2] at h4
        exact S.dj j k b h1 h2 h3 h4
  · obtain ⟨h1, h2⟩ := S.ios q hq
    exact ⟨h1, by rw [List.getElem?_set_ne (Ne.symm (hio q hq))]; exact h2⟩
  · rw [List.getElem?_set_ne (Ne.symm (hxs q hq))]; exact S.xh q hq
/-- an own list changes -/
theorem SR.upd1 {p : Par} {σ : St} {H : Hp} {ρ : Slots} {a : Addr} {ys : List V} {es : List D} {i : Nat} (S : SR p σ H ρ) (hi : i ∈ p.own) (hs : σ[i]? = some (some (.ref a))) (r : RpAll p.K (av p σ) H ys es) : SR p σ (upd H a (.lst ys)) (Z.put ρ i (.list es)) := by
  obtain ⟨zs, hz⟩ := S.owd ⟨i, hi, hs⟩
  have st : Stay (fun b => ∃ k, k ∈ [i] ∧ σ[k]? = some (some (.ref b))) H (upd H a (.lst ys)) := fun b o e => by
    by_cases h : b = a
    · subst h
      rw [hz] at e; cases e
      exact .inr ⟨⟨i, List.mem_cons_self, hs⟩, ⟨_, rfl⟩, _, upd_same⟩
    · exact .inl (by rw [upd_ne h]; exact e)
  have := SR.outs (ks := [i]) (outs := [.list es]) S (by simp) (fun k hk => by rw [List.mem_singleton] at hk; subst hk; exact ⟨hi, a, hs⟩) st fun n k hk b hb => by
    cases n with
    | zero =>
      cases hk
      rw [hs] at hb; cases hb
      exact ⟨ys, es, rfl, upd_same, RpAll.stay st (fun b hb => by obtain ⟨k, h1, h2⟩ := hb; rw [List.mem_singleton] at h1; subst h1; exact .inr ⟨k, hi, h2⟩) r⟩
    | succ n => simp at hk
  exact this
section
variable {X : Cx} {p : Par} {W : Wh} {fr : Bool} {pos : Pos} {e a b c : Expr} {f g h : Slots → R D} {ca cb cc cl : C} {s st : Stmt} {body rest : List Stmt} {k k' : Slots → O}
/-- name = e -/
theorem s_set {i : Nat} {x : Str} {pos' : Pos} (hN : X.N.Nodup) (hi : X.N[i]? = some x) (hx : Loc X.env.scope x) (ho : i ∉ p.own) (hxs : ∀ q ∈ p.xs, q.1 ≠ i) (he : PE X e (tX p W false f)) (hs : swapsWith e (some (.Name x pos')) pos.line X.env = pure false) (hf : X.fn x = true ∨ X.env.scope.names.lookup x = some .local) :
    PS X (.Assign [.Name x pos'] e pos) (tS p W fr fun ρ => (f ρ).o fun d ρ1 => .nx (put ρ1 i d)) := by
  refine ⟨fun pins s σ H E I m => (ps_set hN hi hx he hs hf).run pins s σ H E I ?_⟩
  have hl : i < σ.length := by rw [I.len]; exact (List.getElem?_eq_some_iff.mp hi).1
  refine (tS.bind (G := gX p false) m).mono fun v H1 ⟨d, st, g, ρ, S, m1⟩ => ?_
  exact m1 _ H1 (S.put ho hxs hl g.1)
/-- name = a new list, of one's own -/
theorem s_own {i : Nat} {x : Str} {pos' : Pos} (hN : X.N.Nodup) (hi : X.N[i]? = some x) (hx : Loc X.env.scope x) (ho : i ∈ p.own) (hio : ∀ q ∈ p.io, q.1 ≠ i) (hxs : ∀ q ∈ p.xs, q.1 ≠ i) (he : PE X e (tZ p W f)) (hs : swapsWith e (some (.Name x pos')) pos.line X.env = pure false) (hf : X.fn x = true ∨ X.env.scope.names.lookup x = some .local) :
    PS X (.Assign [.Name x pos'] e pos) (tS p W fr fun ρ => (f ρ).o fun d ρ1 => match d with | .list _ => .nx (put ρ1 i d) | _ => .bad) := by
  refine ⟨fun pins s σ H E I m => (ps_set hN hi hx he hs hf).run pins s σ H E I ?_⟩
  have hl : i < σ.length := by rw [I.len]; exact (List.getElem?_eq_some_iff.mp hi).1
  have hm := m
  refine tZ.mono (m.bindZ (k := fun d ρ1 => O.nx (put ρ1 i d))) ?_
  rintro v H1 ⟨a, ds, xs, ρ1, rfl, st, S, S', h1, h2, h3, m⟩
  obtain ⟨ρ0, S0, _⟩ := hm
  have na : ¬ av p σ a := S0.fresh h1
  exact m _ H1 (S.setOwn S' (S0.st.none h1) na h2 h3 ho hl hio hxs)
/-- pattern = e -/
theorem s_pat {tg : Expr} {pat : C} (hg : PG X tg (tPat p pat)) (he : PE X e (tX p W false f)) (hs : swapsWithSole [tg] e pos.line X.env = pure false) (hw : swappedStores [tg] e X.env = pure none) (h1 : (assignEach [tg] X.env).map (·.2) = [assign tg X.env]) :
    PS X (.Assign [tg] e pos) (tS p W fr fun ρ => (f ρ).o fun d ρ1 => optO (bindP pat d ρ1)) := ps_imp (ps_asg he hg hs hw h1) fun E σ H m => by
  refine (tS.bind (G := gX p false) m).mono fun v H1 ⟨d, st, g, ρ, S, m1⟩ => ⟨d, ρ, S, g.1, ?_⟩
  have m1 : tSres p W fr E (optO (bindP pat d ρ)) := m1
  cases hb : bindP pat d ρ with
  | none => rw [hb] at m1; exact m1
  | some ρ' => rw [hb] at m1; exact fun σ' S' _ => m1 σ' H1 S'
/-- own.append(e) is an expression statement: what the method leaves -/
theorem s_while {t : Slots → R Bool} (hp : PassesOwn (model X.prog X.w) X.A X.env X.xe) (hc : PT X c (tB p W t)) (hb : PSs X body (tS p W fr k)) : PS X (.While c body [] pos) (tS p W fr fun ρ => loop t k fuel ρ) := ps_imp (ps_while hp hc hb) fun E σ H ⟨ρ, S, m⟩ => by
  refine ⟨fun n σ H => ∃ ρ, SR p σ H ρ ∧ tSres p W fr E (loop t k n ρ), ⟨fuel, ρ, S, m⟩, ?_⟩
  rintro n σ H ⟨ρ, S, m⟩
  cases n with
  | zero => exact False.elim m
  | succ n =>
    refine ⟨ρ, S, ?_⟩
    unfold loop at m
    cases ht : t ρ with
    | bad => rw [ht] at m; exact m
    | exn c ρ1 => rw [ht] at m; exact fun H1 S1 _ => m σ H1 S1
    | ok b ρ1 =>
      rw [ht] at m
      intro H1 S1 st1
      cases b with
      | false => rw [if_neg Bool.false_ne_true]; exact m σ H1 S1
      | true =>
        rw [if_pos rfl]
        have m : tSres p W fr E (match k ρ1 with
          | .nx ρ'' => loop t k n ρ''
          | .cnt ρ'' => loop t k n ρ''
          | .brk ρ'' => .nx ρ''
          | y => y) := m
        refine ⟨fun σ' H' => ∃ ρ, SR p σ' H' ρ ∧ tSres p W fr E (loop t k n ρ), fun σ' H' h => ⟨n, Nat.lt_succ_self n, h⟩, ρ1, S1, ?_⟩
        cases hk : k ρ1 with
        | nx ρ2 => rw [hk] at m; exact fun σ' H' S' => ⟨ρ2, S', m⟩
        | cnt ρ2 => rw [hk] at m; exact fun σ' H' S' => ⟨ρ2, S', m⟩
        | brk ρ2 => rw [hk] at m; exact m
        | ret d ρ2 => rw [hk] at m; exact m
        | exn c ρ2 => rw [hk] at m; exact m
        | bad => rw [hk] at m; exact m
/-- .. within one body -/
structure SimS (ol : List Nat) (p q : Par) : Prop where
  sim : Sim p q
  A0 : q.A0 = p.A0
  H0 : q.H0 = p.H0
  io : ∀ z ∈ q.io, z ∈ p.io ∨ z.1 ∈ ol
def sE (ol : List Nat) (p : Par) (W : Wh) (fr : Bool) (k : Slots → O) : TS := fun E σ H => ∃ q : Par, SimS ol p q ∧ tS q W fr k E σ H
theorem pss_ex {ol : List Nat} (h : ∀ q : Par, SimS ol p q → PSs X body (tS q W fr k)) : PSs X body (sE ol p W fr k) := ⟨fun pins s σ H E I ⟨q, h1, m⟩ => (h q h1).run pins s σ H E I m⟩
theorem turns_chk {chk : Slots → Bool} {f : D → Slots → O} {xs : List D} {ρ : Slots} {E : Ends} (m : tSres p W fr E (turns chk f xs ρ)) : chk ρ = true := by
  cases h : chk ρ with
  | true => rfl
  | false => cases xs <;> (unfold turns at m; rw [h, if_neg Bool.false_ne_true] at m; exact False.elim m)
theorem s_for {tg it : Expr} {pat : C} {ol : List Nat} {chk : List D → Slots → Bool} {fi : Slots → R (List D)} (hp : PassesOwn (model X.prog X.w) X.A X.env X.xe) (hc : X.calm = true) (hi : PI X tg it (tI p W ol chk fi))
    (hg : ∀ q : Par, Sim p q → PG X tg (tPat q pat)) (hb : ∀ q : Par, SimS ol p q → PSs X body (tS q W fr k)) (hs : ∀ x, foldedSetIterable it X.env x = pure x) :
    PS X (.For tg it body [] pos) (tS p W fr fun ρ => match fi ρ with
      | .ok xs ρ1 => turns (chk xs) (fun d ρ2 => match bindP pat d ρ2 with | none => .bad | some ρ3 => k ρ3) xs ρ1
      | .exn c ρ1 => .exn c ρ1
      | .bad => .bad) := ps_imp (ps_for (g := gE p pat) (tb := sE ol p W fr k) hp hc hi (pg_ex hg) (pss_ex hb) hs) fun E σ H ⟨ρ, S, m⟩ => by
  refine ⟨ρ, S, ?_⟩
  cases hf : fi ρ with
  | bad => simp only [hf] at m; exact m
  | exn c ρ1 => simp only [hf] at m; exact fun H1 S1 _ => m σ H1 S1
  | ok xs ρ1 =>
    simp only [hf] at m
    intro J H1 ps os S1 st1 hps hos wk
    let q : Par := p.walk ps os
    have sm : Sim p q := ⟨rfl, rfl, rfl⟩
    have smS : SimS ol p q := ⟨sm, rfl, rfl, fun z hz => (List.mem_append.mp hz).elim (fun h => .inr (hos z h).1) .inl⟩
    have leave : ∀ {σ : St} {H : Hp} {ρ : Slots}, SR q σ H ρ → SR p σ H ρ := fun S => S.unwalk fun q hq => (hos q hq).2.2.2
    generalize hF : (fun d ρ2 => match bindP pat d ρ2 with | none => O.bad | some ρ3 => k ρ3) = F at m
    refine ⟨fun i n σ' H' => n = xs.length - i ∧ i ≤ xs.length ∧ ∃ ρ', SR q σ' H' ρ' ∧ tSres p W fr E (turns (chk xs) F (xs.drop i) ρ'), ⟨xs.length, by simp, Nat.zero_le _, ρ1, S1.walk hps fun q hq => ⟨(hos q hq).2.1, (hos q hq).2.2.1⟩, m⟩, ?_⟩
    rintro i n σ' H' ⟨rfl, hi, ρ', S', m'⟩
    have ck := turns_chk m'
    have wki := wk q σ' H' ρ' rfl (fun q hq => List.mem_append_left _ hq) (fun q hq => List.mem_append_left _ hq) S' ck i
    by_cases hlt : i < xs.length
    · refine .inr ⟨wki.1 hlt, fun σ2 H2 => i + 1 ≤ xs.length ∧ ∃ ρ', SR q σ2 H2 ρ' ∧ tSres p W fr E (turns (chk xs) F (xs.drop (i + 1)) ρ'), fun σ2 H2 h => ⟨xs.length - (i + 1), by omega, rfl, h⟩, fun x H3 hy => ?_⟩
      obtain ⟨sm3, _, e, he, re⟩ := wki.2.2 x H3 hlt hy
      have hdrop : xs.drop i = e :: xs.drop (i + 1) := by
        obtain ⟨h1, h2⟩ := List.getElem?_eq_some_iff.mp he
        rw [List.drop_eq_getElem_cons h1, h2]
      rw [hdrop] at m'
      unfold turns at m'
      rw [if_pos ck] at m'
      refine ⟨q, sm, e, ρ', S'.same sm3, re, ?_⟩
      have hFe : F e ρ' = match bindP pat e ρ' with | none => O.bad | some ρ3 => k ρ3 := by rw [← hF]
      cases hb' : bindP pat e ρ' with
      | none => rw [hFe, hb'] at m'; exact False.elim m'
      | some ρ3 =>
        rw [hFe, hb'] at m'
        intro σ3 S3 _
        refine ⟨q, smS, ρ3, S3, ?_⟩
        have m' : tSres p W fr E (match k ρ3 with
          | .nx ρ' => turns (chk xs) F (xs.drop (i + 1)) ρ'
          | .cnt ρ' => turns (chk xs) F (xs.drop (i + 1)) ρ'
          | .brk ρ' => .nx ρ'
          | y => y) := m'
        cases hk : k ρ3 with
        | nx ρ4 => rw [hk] at m'; exact fun σ4 H4 S4 => ⟨hlt, ρ4, S4, m'⟩
        | cnt ρ4 => rw [hk] at m'; exact fun σ4 H4 S4 => ⟨hlt, ρ4, S4, m'⟩
        | brk ρ4 => rw [hk] at m'; exact fun σ4 H4 S4 => m' σ4 H4 (leave S4)
        | ret d ρ4 => rw [hk] at m'; exact fun σ4 v H4 S4 r => m' σ4 v H4 (leave S4) ⟨r.1, fun hf ds e => by
            obtain ⟨a, xs, h1, h2, h3, h4, h5⟩ := r.2 hf ds e
            exact ⟨a, xs, h1, h2, h3, h4, fun z hz => h5 z (List.mem_append_right _ hz)⟩⟩
        | exn c ρ4 => rw [hk] at m'; exact fun σ4 H4 S4 => m' σ4 H4 (leave S4)
        | bad => rw [hk] at m'; exact m'
    · have ei : i = xs.length := by omega
      subst ei
      rw [List.drop_length] at m'
      unfold turns at m'
      rw [if_pos ck] at m'
      exact .inl ⟨wki.2.1 (Nat.le_refl _), m' σ' H' (leave S')⟩
end
end Z

set_option linter.all false
set_option maxRecDepth 100000
set_option maxHeartbeats 1000000
namespace Z
open PySem PySem.Spec L2
open PyProof.Rows hiding St

section
variable {X : Cx} {p : Par} {W : Wh} {fr : Bool} {pos : Pos} {e o a b c : Expr} {f g h : Slots → R D} {ca cb cc cl : C} {s st : Stmt} {body rest : List Stmt} {k k' : Slots → O}
/-- the own list's address where its slot has data -/
theorem own_at {σ : St} {H : Hp} {ρ : Slots} (S : SR p σ H ρ) {i : Nat} (hi : i ∈ p.own) (h : (get ρ i).isSome = true) : ∃ (a : Addr) (xs : List V), σ[i]? = some (some (V.ref a)) ∧ H a = some (.lst xs) := by
  obtain ⟨d, hd⟩ := Option.isSome_iff_exists.mp h
  obtain ⟨a, xs, ds, _, h2, h3, _⟩ := S.ov i d hi hd
  exact ⟨a, xs, h2, h3⟩
/-- own.append(e) -/
theorem s_app {i : Nat} {apos cpos : Pos} (hi : i ∈ p.own) (ho : PE X o (tVar i)) (he : PE X e (tX p W false f)) (hb : attributeBase o "append" X.env (eval o X.env) = eval o X.env) (hfew : ((backTo cpos (starEach [e] X.env)).all (fun x => !x.1) && (backToKw cpos (keywordEach [] X.env)).all (fun x => x.1.isSome)
      && decide ([e].length + ([] : List Keyword).length + (if ([] : List Keyword).isEmpty then 0 else 1) < 30)) = true) (hline : (apos.endLine == cpos.line) = true) (hs : starEach [e] X.env = (false, eval e X.env) :: starEach [] X.env) :
    PS X (.Expr (.Call (.Attribute o "append" apos) [e] [] cpos) pos) (tS p W fr fun ρ => if (get ρ i).isSome then (f ρ).o fun d ρ1 => match get ρ1 i with
      | some (.list xs) => if xs.length < sizeLine then .nx (put ρ1 i (.list (xs ++ [d]))) else .bad
      | _ => .bad else .bad) := by
  have pe := pe_bm (X := X) (apos := apos) (cpos := cpos) F.plainAttrs_list F.slot_list_append rfl mt_append ho (pa_cons he pa_nil hs) hb hfew hline hs rfl
  refine ps_imp (ps_expr pe rfl) fun E σ H ⟨ρ, S, m⟩ => ?_
  cases hg : (get ρ i).isSome with
  | false => simp only [hg, if_neg Bool.false_ne_true] at m; exact False.elim m
  | true =>
    simp only [hg, if_pos] at m
    obtain ⟨a, xs0, h2, h3⟩ := own_at S hi hg
    refine ⟨_, h2, .inl ⟨rfl, xs0, .inl (Rd.of h3)⟩, ?_⟩
    have m : tS p W fr (fun ρ => (f ρ).o fun d ρ1 => match get ρ1 i with
      | some (.list xs) => if xs.length < sizeLine then .nx (put ρ1 i (.list (xs ++ [d]))) else .bad
      | _ => .bad) E σ H := ⟨ρ, S, m⟩
    refine (tS.bind (G := gX p false) m).mono fun v H1 ⟨d, st, g, ρ1, S1, m1⟩ => ?_
    cases hg1 : get ρ1 i with
    | none => simp only [hg1] at m1; exact False.elim m1
    | some d1 =>
      simp only [hg1] at m1
      obtain ⟨b, xs, ds, rfl, e2, e3, e4, _⟩ := S1.ov i d1 hi hg1
      rw [h2] at e2; cases e2
      by_cases hl : ds.length < sizeLine
      · simp only [if_pos hl] at m1
        refine ⟨a, xs, v, rfl, rfl, e3, by rw [e4.length]; exact hl, ?_⟩
        exact m1 σ _ (S1.upd1 hi h2 (e4.append (.cons g.1 .nil)))
      · simp only [if_neg hl] at m1; exact False.elim m1
/-- own[e] = v -/
theorem s_put {i : Nat} {ix : Expr} {spos : Pos} (hi : i ∈ p.own) (ho : PE X o (tVar i)) (he : PE X e (tX p W false f)) (ha : PE X ix (tX p W false g)) (hs : swapsWithSole [.Subscript o ix spos] e pos.line X.env = pure false) (hw : swappedStores [.Subscript o ix spos] e X.env = pure none)
    (hrel : ∀ v, assign (.Subscript o ix spos) X.env v = (do
      let ov ← holding [v] (eval o X.env)
      let iv ← holding [v, ov] (eval ix X.env)
      standAt spos
      holding [v, ov, iv] (setItem ov iv v)
      release [v, ov, iv] [])) :
    PS X (.Assign [.Subscript o ix spos] e pos) (tS p W fr fun ρ => if (get ρ i).isSome then (f ρ).o fun d ρ1 => (g ρ1).o fun x ρ2 => match x, get ρ2 i with
      | .int k, some (.list xs) => match ixOf k xs.length with
        | some j => .nx (put ρ2 i (.list (xs.set j d)))
        | none => .bad
      | _, _ => .bad else .bad) := by
  refine ⟨fun pins s σ H E I m => (ps_asg he (pg_sub ho ha set_list hrel) hs hw rfl).run pins s σ H E I ?_⟩
  obtain ⟨ρ, S, m⟩ := m
  cases hg : (get ρ i).isSome with
  | false => simp only [hg, if_neg Bool.false_ne_true] at m; exact False.elim m
  | true =>
    simp only [hg, if_pos] at m
    obtain ⟨a, xs0, h2, h3⟩ := own_at S hi hg
    have m : tS p W fr (fun ρ => (f ρ).o fun d ρ1 => (g ρ1).o fun x ρ2 => match x, get ρ2 i with
      | .int k, some (.list xs) => match ixOf k xs.length with
        | some j => .nx (put ρ2 i (.list (xs.set j d)))
        | none => .bad
      | _, _ => .bad) E σ H := ⟨ρ, S, m⟩
    refine (tS.bind (G := gX p false) m).mono fun v H1 ⟨d, st, gd, m1⟩ => ⟨_, h2, ?_⟩
    refine (tS.bind (G := gX p false) m1).mono fun u H2 ⟨z, st2, gz, ρ2, S2, m2⟩ => ?_
    cases hg1 : get ρ2 i with
    | none => cases z <;> (simp only [hg1] at m2; exact False.elim m2)
    | some d1 =>
      obtain ⟨b, xs, ds, rfl, e2, e3, e4, _⟩ := S2.ov i d1 hi hg1
      rw [h2] at e2; cases e2
      cases z with
      | int j =>
        simp only [hg1] at m2
        cases gz.1
        cases hj : ixOf j ds.length with
        | none => simp only [hj] at m2; exact False.elim m2
        | some n =>
          simp only [hj] at m2
          exact ⟨a, xs, j, n, rfl, rfl, e3, by rw [e4.length]; exact (show ixN ds.length j = some n from hj), m2 σ _ (S2.upd1 hi h2 (e4.set n (Rp.stay st2 ow_av gd.1)))⟩
      | _ => simp only [hg1] at m2; exact False.elim m2
/-! raise -/
theorem pmk_own0 {C : Addr} {bmB : List Value} {B newId initId : String} {x : Str} {pp : Pos} (F : ExcBaseFacts B newId initId bmB) (q : PySem.W.excIn X.K C bmB newId = true) (gC : X.mg x = some (.ref C)) (kC : PySem.W.keepIn X.K (.ref C) = true) (r : Raises X (.ref C)) (hg : Gl X x)
    (hdb : (x == ("__debug__" : Str)) = false) : PMk X (.Call (.Name x pp) [] [] pos) (fun _ H Q => Q (.ref C) none H) := by
  intro pins s σ H Q I h
  refine wpAny_Call_Name_kw (ld_glob I hg gC ?_ hdb)
  refine PySem.W.callWith_K0 I.kIn kC ?_
  obtain ⟨bm, N, nm, qn, bs, hdct, sn, sub, ab, col, dd, k0, k1, k2, k3, k5, mN, hC, hN, hni, T⟩ := exc_obj I.kIn q
  refine wpAny_call_exc_subT F T hC hN hni (fun h' e hm => ?_) (by show 0 ≤ sizeLine; exact Nat.zero_le _)
  exact mk_of I hm r h (I.hok.gone hm.new)
theorem s_raise {ex : Nat → Addr} {n : Nat} (hc : X.calm = true) (tk : Takes X (wx ex W)) (he : PMk X e (fun _ H Q => Q (.ref (ex n)) none H)) : PS X (.Raise (some e) none pos) (tS p W fr fun ρ => .exn n ρ) :=
  ps_imp (ps_raise hc tk he) fun E σ H ⟨ρ, S, m⟩ => ⟨n, rfl, rfl, m σ H S⟩
/-! try -/
theorem SR.unset {σ : St} {H : Hp} {ρ : Slots} (S : SR p σ H ρ) {i : Nat} {w : Option V} (hi : i ∉ p.own) (hxs : ∀ q ∈ p.xs, q.1 ≠ i) : SR p (σ.set i w) H (ρ.set i none) := by
  have ne : ∀ j, j ∈ p.own → i ≠ j := fun j hj z => hi (by rw [z]; exact hj)
  have b : But [i] σ (σ.set i w) := But.set List.mem_cons_self
  have eo := ow_but (p := p) (fun v hv => by rw [List.mem_singleton] at hv; subst hv; exact hi) b
  have ea : av p (σ.set i w) = av p σ := by funext b; unfold av; rw [eo]
  have gn : ∀ j, i ≠ j → get (ρ.set i none) j = get ρ j := fun j hj => by unfold get; rw [List.getElem?_set_ne hj]
  refine ⟨by rw [List.length_set, List.length_set]; exact S.ln, fun j e hj hd => ?_, fun j v hj hv => ?_, fun j e hj hd => ?_, fun j k a h1 h2 h3 h4 => ?_, S.st, fun q hq => ?_, S.a0, fun q hq => by rw [ea]; exact S.pn q hq, fun q hq => ?_⟩
  · by_cases h : i = j
    · subst h
      unfold get at hd
      by_cases hl : i < ρ.length
      · rw [List.getElem?_set_self hl] at hd; cases hd
      · rw [List.getElem?_eq_none (by rw [List.length_set]; omega)] at hd; cases hd
    · rw [gn j h] at hd
      rw [List.getElem?_set_ne h, ea]
      exact S.va j e hj hd
  · rw [List.getElem?_set_ne (ne j hj)] at hv
    rw [gn j (ne j hj)]
    exact S.oi j v hj hv
  · rw [gn j (ne j hj)] at hd
    rw [List.getElem?_set_ne (ne j hj), ea]
    exact S.ov j e hj hd
  · rw [List.getElem?_set_ne (ne j h1)] at h3
    rw [List.getElem?_set_ne (ne k h2)] at h4
    exact S.dj j k a h1 h2 h3 h4
  · obtain ⟨h1, h2⟩ := S.ios q hq
    exact ⟨h1, by rw [List.getElem?_set_ne (ne _ h1)]; exact h2⟩
  · rw [List.getElem?_set_ne (Ne.symm (hxs q hq))]; exact S.xh q hq
/-- .. in a suite that holds an exception -/
structure SimX (i : Nat) (a : Addr) (p q : Par) : Prop where
  K : q.K = p.K
  own : q.own = p.own
  xs : q.xs = (i, a) :: p.xs
  A0 : q.A0 = p.A0
  H0 : q.H0 = p.H0
  io : q.io = p.io
def hE (p : Par) (fr : Bool) (i : Nat) (ex : Nat → Addr) (sub : Nat → Option Bool) (k : Nat → Slots → O) : Addr → Value → Option Addr → TS := fun a cls d E σ H => ∃ (n : Nat) (q : Par), cls = .ref (ex n) ∧ d = none ∧ sub n = some true ∧ SimX i a p q ∧ tS q W0 fr (k n) E σ H
theorem s_try {x n : Str} {i : Nat} {cv : Value} {b0 : Stmt} {suite : List Stmt} {np pos' : Pos} {ex : Nat → Addr} {sub : Nat → Option Bool} {kh : Nat → Slots → O} (hs : X.stack = X.env :: X.outer) (hf : X.env.frame = some X.env.locals) (hN : X.N.Nodup) (hi : X.N[i]? = some n) (hln : X.env.kindOf n = some .local) (hc : Names X x cv)
    (tk : Takes X (wx ex W)) (ho : i ∉ p.own) (hxs : ∀ q ∈ p.xs, q.1 ≠ i) (hsub : ∀ m b, sub m = some b → PySem.W.exmOne X.K (.ref (ex m)) cv = some b)
    (hb : ∀ (W' : Wh) (pn : List (Addr × Obj)) (xe : Value → Shared → Prop), Takes (X.tr pn xe) (wx ex W') → PassesOwn (model X.prog X.w) X.A X.env xe → PSs (X.tr pn xe) body (tS p W' fr k))
    (hsu : ∀ (a : Addr) (oe : Obj) (m : Nat) (pn : List (Addr × Obj)) (q : Par), sub m = some true → Zc (.ref (ex m)) none oe → (∃ vs, oe.data = .fields vs) → SimX i a p q → PSs (X.suite a ((a, oe) :: pn)) (b0 :: suite) (tS q W0 fr (kh m))) :
    PS X (.Try body [.ExceptHandler (some (.Name x np)) (some n) (b0 :: suite) pos'] [] [] pos) (tS p W fr fun ρ => match k ρ with
      | .exn m ρ1 => match sub m with
        | some true => if i < ρ1.length then (kh m (ρ1.set i none)).clr i else .bad
        | some false => .exn m ρ1
        | none => .bad
      | y => y) := by
  have := ps_try_as (X := X) (tb := fun W' => tS p (fun c σ H => W' (.ref (ex c)) none σ H) fr k) (ts := hE p fr i ex sub kh) (Wout := wx ex W) (pos := pos) (pos' := pos') (np := np) hs hf hN hi hln hc tk
    (fun W' pn xe tk' ps' => hb _ pn xe (tk'.imp fun cls d σ H h => by obtain ⟨c, rfl, rfl, h⟩ := h; exact h) ps')
    (fun a oe cls d pn hz hfl => ⟨fun pins s σ H E I h => by
      obtain ⟨m, q, rfl, rfl, hsm, sm, h⟩ := h
      exact (hsu a oe m pn q hsm hz hfl sm).run pins s σ H E I h⟩)
  refine ps_imp this fun E σ H ⟨ρ, S, m⟩ => ⟨ρ, S, ?_⟩
  cases hk : k ρ with
  | nx ρ1 => simp only [hk] at m; exact m
  | brk ρ1 => simp only [hk] at m; exact m
  | cnt ρ1 => simp only [hk] at m; exact m
  | ret d ρ1 => simp only [hk] at m; exact m
  | bad => simp only [hk] at m; exact m
  | exn c ρ1 =>
    simp only [hk] at m
    intro σ' H' S'
    cases hsb : sub c with
    | none => simp only [hsb] at m; exact False.elim m
    | some b =>
      refine ⟨b, hsub c b hsb, fun hb' a ha => ?_, fun hb' => ?_⟩
      · subst hb'
        simp only [hsb] at m
        have hl : i < σ'.length := by
          rw [S'.ln]
          by_cases hl : i < ρ1.length
          · exact hl
          · rw [if_neg hl] at m; exact False.elim m
        rw [if_pos (by rw [← S'.ln]; exact hl)] at m
        let q : Par := { p with xs := (i, a) :: p.xs }
        have S2 : SR p (σ'.set i (some (.ref a))) H' (ρ1.set i none) := S'.unset ho hxs
        have S3 : SR q (σ'.set i (some (.ref a))) H' (ρ1.set i none) := ⟨S2.ln, S2.va, S2.oi, S2.ov, S2.dj, S2.st, S2.ios, S2.a0, S2.pn, fun z hz => by
          cases hz with
          | head => exact List.getElem?_set_self hl
          | tail _ h => exact S2.xh z h⟩
        have back : ∀ {σ : St} {H : Hp} {ρ : Slots}, SR q σ H ρ → SR p (σ.set i none) H (ρ.set i none) := fun {σ H ρ} S =>
          SR.unset (p := p) ⟨S.ln, S.va, S.oi, S.ov, S.dj, S.st, S.ios, S.a0, S.pn, fun z hz => S.xh z (List.mem_cons_of_mem _ hz)⟩ ho hxs
        have gn : ∀ (ρ : Slots) j, i ≠ j → get (ρ.set i none) j = get ρ j := fun ρ j hj => by unfold get; rw [List.getElem?_set_ne hj]
        refine ⟨c, q, rfl, rfl, hsb, ⟨rfl, rfl, rfl, rfl, rfl, rfl⟩, ρ1.set i none, S3, ?_⟩
        cases hkh : kh c (ρ1.set i none) with
        | nx ρ2 => simp only [hkh, O.clr] at m; exact fun σ2 H2 S4 => m _ _ (back S4)
        | brk ρ2 => simp only [hkh, O.clr] at m; exact fun σ2 H2 S4 => m _ _ (back S4)
        | cnt ρ2 => simp only [hkh, O.clr] at m; exact fun σ2 H2 S4 => m _ _ (back S4)
        | ret d ρ2 => simp only [hkh, O.clr] at m; exact fun σ2 v H2 S4 r => m _ v _ (back S4) ⟨r.1, fun hf ds e => by
            obtain ⟨a', xs, h1, h2, h3, h4, h5⟩ := r.2 hf ds e
            refine ⟨a', xs, h1, h2, h3, h4, fun z hz d' hd' => h5 z hz d' ?_⟩
            rw [gn ρ2 z.1 fun h => ho (by rw [h]; exact (S.ios z hz).1)] at hd'
            exact hd'⟩
        | exn x ρ2 => simp only [hkh, O.clr] at m; exact False.elim m
        | bad => simp only [hkh, O.clr] at m; exact False.elim m
      · subst hb'
        simp only [hsb] at m
        exact ⟨c, rfl, rfl, m σ' H' S'⟩
end
end Z

set_option linter.all false
set_option maxRecDepth 100000
set_option maxHeartbeats 1000000
namespace Z
open PySem PySem.Spec L2
open PyProof.Rows hiding St

/-! ### new lists that are in nothing else -/
section
variable {p : Par} {W : Wh} {σ : St} {H H' : Hp} {Q : VK} {G : GT} {L : GL} {ρ : Slots}
theorem SR.with (S : SR p σ H ρ) (sm : Same H H') {a : Addr} (hn : H a = none) (ha : ∃ o, H' a = some o) : SR (p.with a) σ H' ρ := by
  have more : ∀ b, av (p.with a) σ b → av p σ b ∨ H b = none := fun b h => by
    rcases h with (h | h) | h
    · exact .inl (.inl h)
    · exact .inr (by rw [h]; exact hn)
    · exact .inl (.inr h)
  refine ⟨S.ln, fun i d hi hd => ?_, S.oi, fun i d hi hd => ?_, S.dj, S.st.trans (Stay.of_same sm), S.ios, fun b hb => ?_, fun q hq => (Rp.more more (S.pn q hq)).same sm, S.xh⟩
  · obtain ⟨v, h1, h2⟩ := S.va i d hi hd
    exact ⟨v, h1, (Rp.more more h2).same sm⟩
  · obtain ⟨b, xs, ds, h1, h2, h3, h4, h5⟩ := S.ov i d hi hd
    exact ⟨b, xs, ds, h1, h2, sm _ _ h3, (RpAll.more more h4).same sm, h5⟩
  · rcases hb with h | h
    · obtain ⟨o, e⟩ := S.a0 b h
      exact ⟨o, sm _ _ e⟩
    · rw [h]; exact ha
theorem tZ.bind {f : Slots → R D} {k : D → Slots → R D} (m : tZ p W (fun ρ => (f ρ).bind k) σ H Q) :
    tG p W G f σ H fun x H1 => ∃ d, Stay (ow p σ) H H1 ∧ G σ H H1 x d ∧ tZ p W (k d) σ H1 Q := by
  obtain ⟨ρ, S, m⟩ := m
  refine ⟨ρ, S, ?_⟩
  cases hf : f ρ with
  | ok d ρ1 =>
    simp only [hf, R.bind] at m
    intro v H1 S1 s1 g1
    refine ⟨d, s1, g1, ρ1, S1, ?_⟩
    cases hk : k d ρ1 with
    | ok e ρ2 =>
      simp only [hk] at m
      obtain ⟨ds, e, m⟩ := m
      exact ⟨ds, e, fun a xs H2 S2 S2' s2 h1 h2 h3 => m a xs H2 S2 S2' (s1.trans s2) (s1.none h1) h2 h3⟩
    | exn c ρ2 => simp only [hk] at m; exact fun H2 S2 s2 => m H2 S2 (s1.trans s2)
    | bad => simp only [hk] at m
  | exn c ρ1 => simp only [hf, R.bind] at m; exact m
  | bad => simp only [hf, R.bind] at m
theorem tZ.bindL {f : Slots → R (List D)} {k : List D → Slots → R D} (m : tZ p W (fun ρ => (f ρ).bind k) σ H Q) :
    tAG p W L f σ H fun xs H1 => ∃ d, Stay (ow p σ) H H1 ∧ L σ H1 xs d ∧ tZ p W (k d) σ H1 Q := by
  obtain ⟨ρ, S, m⟩ := m
  refine ⟨ρ, S, ?_⟩
  cases hf : f ρ with
  | ok d ρ1 =>
    simp only [hf, R.bind] at m
    intro v H1 S1 s1 g1
    refine ⟨d, s1, g1, ρ1, S1, ?_⟩
    cases hk : k d ρ1 with
    | ok e ρ2 =>
      simp only [hk] at m
      obtain ⟨ds, e, m⟩ := m
      exact ⟨ds, e, fun a xs H2 S2 S2' s2 h1 h2 h3 => m a xs H2 S2 S2' (s1.trans s2) (s1.none h1) h2 h3⟩
    | exn c ρ2 => simp only [hk] at m; exact fun H2 S2 s2 => m H2 S2 (s1.trans s2)
    | bad => simp only [hk] at m
  | exn c ρ1 => simp only [hf, R.bind] at m; exact m
  | bad => simp only [hf, R.bind] at m
theorem RpAll.withA {K : PySem.W.Frag} {Av : Addr → Prop} {H H' : Hp} {xs : List V} {ds : List D} {a : Addr} (sm : Same H H') (hn : H a = none) (r : RpAll K Av H xs ds) : RpAll K (fun b => Av b ∨ b = a) H' xs ds :=
  (RpAll.more (fun b h => by
    rcases h with h | h
    · exact .inl h
    · exact .inr (by rw [h]; exact hn)) r).same sm
theorem tZ.okN {d : D} (m : tZ p W (fun ρ => .ok d ρ) σ H Q) : ∃ ρ, SR p σ H ρ ∧ ∀ v H', Same H H' → New p.K (av p σ) H H' v d → Q v H' := by
  obtain ⟨ρ, S, ds, e, m⟩ := m
  refine ⟨ρ, S, fun v H' sm n => ?_⟩
  obtain ⟨a, xs, rfl, h2, h3, h4⟩ := n.2 ds e
  exact m a xs H' (S.same sm) (S.with sm h2 ⟨_, h3⟩) (Stay.of_same sm) h2 h3 (h4.withA sm h2)
theorem tZ.optN {o : Slots → Option D} (m : tZ p W (fun ρ => opt (o ρ) ρ) σ H Q) : ∃ ρ d, SR p σ H ρ ∧ o ρ = some d ∧ ∀ v H', Same H H' → New p.K (av p σ) H H' v d → Q v H' := by
  obtain ⟨ρ, S, m⟩ := m
  cases e : o ρ with
  | none => simp only [e, Z.opt] at m
  | some d =>
    simp only [e, Z.opt] at m
    obtain ⟨ds, e', m⟩ := m
    refine ⟨ρ, d, S, e, fun v H' sm n => ?_⟩
    obtain ⟨a, xs, rfl, h2, h3, h4⟩ := n.2 ds e'
    exact m a xs H' (S.same sm) (S.with sm h2 ⟨_, h3⟩) (Stay.of_same sm) h2 h3 (h4.withA sm h2)
theorem tZ.bad (m : tZ p W (fun _ => .bad) σ H Q) : False := by
  obtain ⟨_, _, m⟩ := m
  exact m
/-- a plain reading of what hands back a list is one of new lists -/
theorem tG.toZ {fr : Bool} {f : Slots → R D} (m : tX p W fr f σ H Q) (hl : ∀ ρ d ρ', f ρ = .ok d ρ' → ∃ ds, d = .list ds) : tZ p W f σ H Q := by
  obtain ⟨ρ, S, m⟩ := m
  refine ⟨ρ, S, ?_⟩
  cases hf : f ρ with
  | ok d ρ1 =>
    obtain ⟨ds, rfl⟩ := hl _ _ _ hf
    simp only [hf] at m
    exact ⟨ds, rfl, fun a xs H1 S1 S1' st h1 h2 h3 => m _ H1 S1 st ⟨.lst (Rd.of h2) (S1'.st |> fun _ => S.fresh h1 |> fun n z => n (by exact z)) (RpAll.mono (fun b h => .inl h) h3), fun _ es e => by cases e; exact ⟨a, xs, rfl, h1, h2, h3⟩⟩⟩
  | exn c ρ1 => simp only [hf] at m; exact m
  | bad => simp only [hf] at m
end
section
variable {X : Cx} {p : Par} {W : Wh} {pos : Pos} {e a b c : Expr} {f g h : Slots → R D} {ca cb cc cl : C} {fr : Bool}
theorem z_op {o : Operator} {o' : Op} (hk : X.K = p.K) (ho : OpOk X (binaryOp o) (opD o')) (ha : PE X a (tY p W ca f)) (hb : PE X b (tY p W cb g)) :
    PE X (.BinOp a o b pos) (tZ p W fun ρ => (f ρ).bind fun x ρ1 => (g ρ1).bind fun y ρ2 => opt (opD o' (fixD ca x ρ2) (fixD cb y ρ2)) ρ2) := by
  refine ⟨fun pins s σ H Q I m => ?_⟩
  refine wpAny_BinOp (thn (ha.run pins s σ H _ I (m.bind (G := gY p ca))) fun v s1 ⟨x, H1, I1, r1, d, st1, g1, m1⟩ => thn (hb.run pins s1 σ H1 _ I1 (m1.bind (G := gY p cb))) fun u s2 ⟨y, H2, I2, r2, e, st2, g2, m2⟩ => ?_)
  obtain ⟨ρ, z, S, hz, m3⟩ := m2.optN
  exact thn (ho pins s2 σ H2 x y v u _ _ z (av p σ) I2 r1 r2 (fun b h => S.fresh h) (hk ▸ g1.ra st2 S) (hk ▸ g2.ra Stay.refl S) hz) fun r s3 h => EP.imp h fun w H' ⟨q1, q2⟩ => m3 w H' q1 (hk ▸ q2)
theorem z_sl {lo hi : Option Expr} {p2 : Pos} (hk : X.K = p.K) (ha : PE X a (tY p W ca f))
    (hl : ∀ (pins : List (Addr × Obj)) (s : Shared) (σ : St) (H : Hp) (Q : VK), Inv X pins σ H s → tX p W false g σ H Q → wpAny (model X.prog X.w) X.A (evalPart lo X.env) (EP X pins σ Q) X.xe s)
    (hh : ∀ (pins : List (Addr × Obj)) (s : Shared) (σ : St) (H : Hp) (Q : VK), Inv X pins σ H s → tX p W false h σ H Q → wpAny (model X.prog X.w) X.A (evalPart hi X.env) (EP X pins σ Q) X.xe s) :
    PE X (.Subscript a (.Slice lo hi none p2) pos) (tZ p W fun ρ => (f ρ).bind fun x ρ1 => (g ρ1).bind fun y ρ2 => (h ρ2).bind fun z ρ3 => opt (slD (fixD ca x ρ3) y z) ρ3) := by
  refine ⟨fun pins s σ H Q I m => ?_⟩
  refine Subscript_ (thn (ha.run pins s σ H _ I (m.bind (G := gY p ca))) fun v s1 ⟨x, H1, I1, r1, d, st1, g1, m1⟩ => ?_)
  refine wpAny_Slice (thn (hl pins s1 σ H1 _ I1 (m1.bind (G := gX p false))) fun vl s2 ⟨y, H2, I2, r2, e, st2, g2, m2⟩ => thn (hh pins s2 σ H2 _ I2 (m2.bind (G := gX p false))) fun vu s3 ⟨w, H3, I3, r3, k, st3, g3, m3⟩ => ?_)
  rw [evalPart_none]
  obtain ⟨ρ, z, S, hz, m4⟩ := m3.optN
  unfold slD at hz
  cases e1 : endD e with
  | none => rw [e1] at hz; cases hz
  | some lo' =>
    cases e2 : endD k with
    | none => rw [e1, e2] at hz; cases hz
    | some hi' =>
      rw [e1, e2] at hz
      have pl := isPart_of g2.1 r2 e1
      have pu := isPart_of g3.1 r3 e2
      refine wpAny_pure ?_
      have J : Inv X pins σ H3 { s3 with heap := s3.heap.push { cls := .type "slice", data := .fields #[vl, vu, .none] } } := I3.kept (t' := s3.toks) fun _ _ q => Heap.get?_push_of_some _ q
      obtain ⟨T, id, hT, ht, hg⟩ := ok_sl pins { s3 with heap := s3.heap.push { cls := .type "slice", data := .fields #[vl, vu, .none] } } σ H3 x v vl vu lo' hi' s3.heap.objs.size _ z (av p σ) J r1 (fun b h => S.fresh h)
        (hk ▸ g1.ra (st2.trans st3) S) hz (Heap.IsSliceOf.new ..) pl pu
      have hg' := thn hg fun r s4 (q : EP X pins σ _ r s4) => EP.imp (Q' := Q) q fun w H' ⟨q1, q2⟩ => m4 w H' q1 (hk ▸ q2)
      exact tail_any (value := a) (slice := .Slice lo hi none p2) (ops := [.ref s3.heap.objs.size, v]) ht hT hg' (by with_unfolding_all rfl)
theorem z_lst {es : List Expr} {t : Slots → R (List D)} (ho : ownsOf cl = []) (ha : PA X es (tAG p W (gA p cl) t)) :
    PE X (.List es pos) (tZ p W fun ρ => (t ρ).bind fun xs ρ1 => if xs.length ≤ sizeLine then .ok (.list xs) ρ1 else .bad) := pe_imp (pe_lst ha) fun σ H Q m => by
  refine m.bindL.mono fun vs H1 ⟨ds, st, g, m1⟩ => ?_
  have r := argAll_rp ho g
  by_cases hl : ds.length ≤ sizeLine
  · simp only [if_pos hl] at m1
    obtain ⟨ρ, S, m2⟩ := m1.okN
    refine ⟨by rw [r.length]; exact hl, fun q hq => ?_⟩
    obtain ⟨q1, q2⟩ := qn_lst (K := p.K) hq (S.fresh hq) r
    exact m2 _ _ q1 q2
  · simp only [if_neg hl] at m1
    exact (tZ.bad m1).elim
theorem z_bi {es : List Expr} {x : Str} {t : Slots → R (List D)} {fv : Value} {gd : List D → Option D} {pp : Pos} (hk : X.K = p.K) (hb : BiOk X fv gd) (hf : ∃ i, fv = .type i) (hg : Gl X x) (hm : X.mg x = none) (hv : bootBuiltins x = some fv)
    (ha : PA X (a :: es) (tAG p W (gA p cl) t)) (hn : x ≠ "__name__") (hdb : (x == ("__debug__" : Str)) = false) (he : starEach (a :: es) X.env = (false, eval a X.env) :: starEach es X.env) (hpl : (backTo pos (starEach es X.env)).any (·.1) = false) :
    PE X (.Call (.Name x pp) (a :: es) [] pos) (tZ p W fun ρ => (t ρ).bind fun ds ρ1 => opt (gd (fixL cl ds ρ1)) ρ1) := by
  obtain ⟨i, rfl⟩ := hf
  refine pe_imp (pe_callTy (r := fun vs H Q => ∃ σ ds, gA p cl σ H vs ds ∧ tZ p W (fun ρ1 => opt (gd (fixL cl ds ρ1)) ρ1) σ H Q) (fun pins s σ' H vs us Q I r ⟨σ, ds, g, m⟩ => ?_) hg hm hv ha hn hdb he hpl) fun σ H Q m => ?_
  · obtain ⟨ρ, z, S, hz, m2⟩ := m.optN
    exact thn (hb pins s σ' H vs us _ z (av p σ) I r (fun b h => S.fresh h) (hk ▸ argAll_ra S g) hz) fun r s3 h => EP.imp h fun w H' ⟨q1, q2⟩ => m2 w H' q1 (hk ▸ q2)
  · exact (m.bindL (L := gA p cl)).mono fun vs H1 ⟨ds, st, g, m1⟩ => ⟨σ, ds, g, m1⟩
variable {ct : CT} {ex : Nat → Addr} {F : Fn} {fi k : Nat} {fa : Addr} {fd : FuncData} {ps ks : List Str}
theorem z_call {es : List Expr} {x : Str} {pp : Pos} {t : Slots → R (List D)} (G : FnG X.prog X.w X.K X.mg X.base k fa fd ps (spF X.K F ct fi ex)) (hr : Room k X.A) (hgd : X.A.guards = some []) (tk : Takes X (wx ex W)) (hk : X.K = p.K) (hfr : F.fresh = true)
    (hio : (ioPairs 0 cl).map (·.1) = F.io) (hnd : (ownsOf cl).Nodup) (hg : Gl X x) (hm : X.mg x = some (.ref fa)) (hkp : PySem.W.keepIn X.K (.ref fa) = true) (hb : Binds X.K fd ps []) (ha : PA X (a :: es) (tAG p W (gA p cl) t)) (hdb : (x == ("__debug__" : Str)) = false)
    (he : starEach (a :: es) X.env = (false, eval a X.env) :: starEach es X.env) (hpl : (backTo pos (starEach es X.env)).any (·.1) = false) :
    PE X (.Call (.Name x pp) (a :: es) [] pos) (tZ p W fun ρ => (t ρ).bind fun ds ρ1 => callR ct fi cl ds ρ1) :=
  pe_imp (pe_callG G hr hgd tk hg hm hkp hb .nil ha hdb he hpl) fun σ H Q m => (m.bindL (L := gA p cl)).mono fun vs H1 ⟨ds, st, g, m1⟩ => by
    rw [List.append_nil]
    exact call_redZ hk hfr hio hnd g m1
theorem z_call0 {x : Str} {pp : Pos} (G : FnG X.prog X.w X.K X.mg X.base k fa fd ps (spF X.K F ct fi ex)) (hr : Room k X.A) (hgd : X.A.guards = some []) (tk : Takes X (wx ex W)) (hk : X.K = p.K) (hfr : F.fresh = true)
    (hio : F.io = []) (hg : Gl X x) (hm : X.mg x = some (.ref fa)) (hkp : PySem.W.keepIn X.K (.ref fa) = true) (hb : Binds X.K fd ps []) (hdb : (x == ("__debug__" : Str)) = false) :
    PE X (.Call (.Name x pp) [] [] pos) (tZ p W fun ρ => (R.ok [] ρ).bind fun ds ρ1 => callR ct fi .nil ds ρ1) :=
  pe_imp (pe_callG0 G hr hgd tk hg hm hkp hb .nil hdb) fun σ H Q m => call_redZ (cl := .nil) (ds := []) hk hfr (by rw [hio]; rfl) (by exact List.nodup_nil) trivial m
end
end Z

set_option linter.all false
set_option maxRecDepth 100000
set_option maxHeartbeats 1000000
namespace Z
open PySem PySem.Spec L2
open PyProof.Rows hiding St

section
variable {X : Cx} {p : Par} {W : Wh} {pos : Pos} {e a b c : Expr} {f g h : Slots → R D} {ca cb cc cl : C} {fr : Bool}
theorem pts_imp {es : List Expr} {t t' : TT} (h : PTs X es t) (i : ∀ σ H Q, t' σ H Q → t σ H Q) : PTs X es t' := ⟨fun pins s σ H Q I q => h.run pins s σ H Q I (i σ H Q q)⟩
theorem ts_nil : PTs X [] (tB p W fun ρ => .ok true ρ) := pts_imp pts_nil fun σ H Q m => by
  obtain ⟨ρ, S, m⟩ := m.ok
  exact m H fun _ _ h => h
theorem ts_one {t : Slots → R Bool} (h : PT X c (tB p W t)) : PTs X [c] (tB p W t) := pts_one h
/-- a comprehension's value -/
def lcD (chk : List D → Slots → Bool) (vs : List Nat) (pat : C) (tc : Slots → R Bool) (te : Slots → R D) (fi : Slots → R (List D)) : Slots → R D := fun ρ => (fi ρ).bind fun xs ρ1 => match comps (chk xs) (turnD vs pat tc te) xs (wipeD ρ1 vs) with
  | .ok ys ρ6 => if ys.length ≤ sizeLine then .ok (.list ys) (backD ρ1 ρ6 vs) else .bad
  | _ => .bad
theorem lcD_list {chk : List D → Slots → Bool} {vs : List Nat} {pat : C} {tc : Slots → R Bool} {te : Slots → R D} {fi : Slots → R (List D)} {ρ ρ' : Slots} {d : D} (h : lcD chk vs pat tc te fi ρ = .ok d ρ') : ∃ ds, d = .list ds := by
  unfold lcD at h
  cases hf : fi ρ with
  | ok xs ρ1 =>
    rw [hf] at h
    simp only [R.bind] at h
    split at h
    · split at h
      · cases h; exact ⟨_, rfl⟩
      · cases h
    · cases h
  | exn c ρ1 => rw [hf] at h; cases h
  | bad => rw [hf] at h; cases h
variable {elt tg iter : Expr} {ifs : List Expr} {scope : Scope} {own : List (Str × Nat)} {pat : C} {ol : List Nat} {chk : List D → Slots → Bool} {fi : Slots → R (List D)} {tc : Slots → R Bool} {te : Slots → R D}
/-- what a comprehension's parts must be -/
structure LcOk (X : Cx) (p : Par) (W : Wh) (elt tg iter : Expr) (ifs : List Expr) (scope : Scope) (own : List (Str × Nat)) (pat : C) (ol : List Nat) (chk : List D → Slots → Bool) (fi : Slots → R (List D)) (tc : Slots → R Bool) (te : Slots → R D) : Prop where
  calm : X.calm = true
  N : X.N.Nodup
  it : PI X tg iter (tI p W ol chk fi)
  blk : BlkOk X.N X.env.scope scope own
  hv : ∀ v ∈ own.map (·.2), v ∉ p.own
  hx : ∀ q ∈ p.xs, q.1 ∉ own.map (·.2)
  hs : ∀ v ∈ slotsP pat, v ∈ own.map (·.2)
  hg : ∀ (q : Par), Sim p q → ∀ (s : Shared) (H : Hp) (C : Addr) (cl : List (Str × Addr)) (fp : List Addr), PG (X.blk s H scope (compEnvC scope cl C X.env) fp) tg (tPat q pat)
  ht : ∀ (q : Par), Sim p q → ∀ (s : Shared) (H : Hp) (C : Addr) (cl : List (Str × Addr)) (fp : List Addr), PTs (X.blk s H scope (compEnvC scope cl C X.env) fp) ifs (tB q W0 tc)
  he : ∀ (q : Par), Sim p q → ∀ (s : Shared) (H : Hp) (C : Addr) (cl : List (Str × Addr)) (fp : List Addr), PE (X.blk s H scope (compEnvC scope cl C X.env) fp) elt (tX q W0 false te)
  hf : ∀ x, foldedSetIterable iter X.env x = pure x
theorem z_lc (L : LcOk X p W elt tg iter ifs scope own pat ol chk fi tc te) : PE X (.ListComp elt [⟨tg, iter, ifs, 0⟩] scope pos) (tZ p W (lcD chk (own.map (·.2)) pat tc te fi)) :=
  pe_imp (pe_lc L.calm L.N L.it L.blk (fun s H C cl fp => pg_ex fun q hq => L.hg q hq s H C cl fp) (fun s H C cl fp => pts_ex fun q hq => L.ht q hq s H C cl fp) (fun s H C cl fp => pe_ex fun q hq => L.he q hq s H C cl fp) L.hf)
    fun σ H Q m => lc_red L.hv L.hx L.hs m
theorem x_lc (L : LcOk X p W elt tg iter ifs scope own pat ol chk fi tc te) : PE X (.ListComp elt [⟨tg, iter, ifs, 0⟩] scope pos) (tX p W fr (lcD chk (own.map (·.2)) pat tc te fi)) :=
  pe_imp (z_lc L) fun σ H Q m => m.toZ fun ρ d ρ' h => lcD_list h
/-- name = [..] on one line -/
theorem s_setLc {i : Nat} {x : Str} {pos' spos : Pos} (L : LcOk X p W elt tg iter ifs scope own pat ol chk fi tc te) (hi : X.N[i]? = some x) (hx : X.env.scope.names.lookup x = some .local) (ho : i ∉ p.own) (hxs : ∀ q ∈ p.xs, q.1 ≠ i)
    (hs : swapsWith (.ListComp elt [⟨tg, iter, ifs, 0⟩] scope pos) (some (.Name x pos')) spos.line X.env = pure true) :
    PS X (.Assign [.Name x pos'] (.ListComp elt [⟨tg, iter, ifs, 0⟩] scope pos) spos) (tS p W fr fun ρ => (lcD chk (own.map (·.2)) pat tc te fi ρ).o fun d ρ1 => .nx (put ρ1 i d)) := by
  refine ⟨fun pins s σ H E I m => (ps_setLc L.calm L.N hi hx hs L.it L.blk (fun s H C cl fp => pg_ex fun q hq => L.hg q hq s H C cl fp) (fun s H C cl fp => pts_ex fun q hq => L.ht q hq s H C cl fp) (fun s H C cl fp => pe_ex fun q hq => L.he q hq s H C cl fp) L.hf).run pins s σ H E I ?_⟩
  have hl : i < σ.length := by rw [I.len]; exact (List.getElem?_eq_some_iff.mp hi).1
  refine lc_red L.hv L.hx L.hs (tG.toZ (fr := false) ?_ fun ρ d ρ' h => lcD_list h)
  refine (tS.bind (G := gX p false) m).mono fun v H1 ⟨d, st, g, ρ, S, m1⟩ => ?_
  exact m1 _ H1 (S.put ho hxs hl g.1)
theorem s_ownLc {i : Nat} {x : Str} {pos' spos : Pos} (L : LcOk X p W elt tg iter ifs scope own pat ol chk fi tc te) (hi : X.N[i]? = some x) (hx : X.env.scope.names.lookup x = some .local) (ho : i ∈ p.own) (hio : ∀ q ∈ p.io, q.1 ≠ i) (hxs : ∀ q ∈ p.xs, q.1 ≠ i)
    (hs : swapsWith (.ListComp elt [⟨tg, iter, ifs, 0⟩] scope pos) (some (.Name x pos')) spos.line X.env = pure true) :
    PS X (.Assign [.Name x pos'] (.ListComp elt [⟨tg, iter, ifs, 0⟩] scope pos) spos) (tS p W fr fun ρ => (lcD chk (own.map (·.2)) pat tc te fi ρ).o fun d ρ1 => match d with | .list _ => .nx (put ρ1 i d) | _ => .bad) := by
  refine ⟨fun pins s σ H E I m => (ps_setLc L.calm L.N hi hx hs L.it L.blk (fun s H C cl fp => pg_ex fun q hq => L.hg q hq s H C cl fp) (fun s H C cl fp => pts_ex fun q hq => L.ht q hq s H C cl fp) (fun s H C cl fp => pe_ex fun q hq => L.he q hq s H C cl fp) L.hf).run pins s σ H E I ?_⟩
  have hl : i < σ.length := by rw [I.len]; exact (List.getElem?_eq_some_iff.mp hi).1
  have hm := m
  refine lc_red L.hv L.hx L.hs (tZ.mono (m.bindZ (k := fun d ρ1 => O.nx (put ρ1 i d))) ?_)
  rintro v H1 ⟨a, ds, xs, ρ1, rfl, st, S, S', h1, h2, h3, m⟩
  obtain ⟨ρ0, S0, _⟩ := hm
  exact m _ H1 (S.setOwn S' (S0.st.none h1) (S0.fresh h1) h2 h3 ho hl hio hxs)
/-! a tuple of targets -/
theorem gs_nil : PGs X [] (tPats p .nil) := pgs_imp pgs_nil fun vs σ H Q ⟨ds, ρ, S, r, m⟩ => by
  cases r with
  | nil => exact ⟨rfl, m σ S But.refl⟩
  | cons _ _ => exact False.elim m
theorem gs_var {x : Str} {i : Nat} {es : List Expr} {l : C} {pp : Pos} (h1 : PG X (.Name x pp) (tPat p (.var i))) (h2 : PGs X es (tPats p l)) (hs : (assignEach (.Name x pp :: es) X.env).map (·.2) = assign (.Name x pp) X.env :: (assignEach es X.env).map (·.2)) (ho : i ∉ p.own) :
    PGs X (.Name x pp :: es) (tPats p (.cons (.var i) l)) := pgs_imp (pgs_cons h1 h2 hs) fun vs σ H Q ⟨ds, ρ, S, r, m⟩ => by
  cases r with
  | nil => exact False.elim m
  | cons r rr =>
    refine ⟨_, _, rfl, _, ρ, S, r, ?_⟩
    have m : (match bindP.bindPs l _ (put ρ i _) with | some ρ' => ∀ σ', SR p σ' H ρ' → But (slotsP.slotsPs (.cons (.var i) l)) σ σ' → Q σ' H | none => False) := m
    show ∀ σ', SR p σ' H (put ρ i _) → But [i] σ σ' → tPats p l _ σ' H Q
    intro σ' S' b'
    have eo : ow p σ' = ow p σ := ow_but (p := p) (fun v hv => by rw [List.mem_singleton] at hv; subst hv; exact ho) b'
    have ea : av p σ' = av p σ := by funext b; unfold av; rw [eo]
    refine ⟨_, _, S', ea ▸ rr, ?_⟩
    split at m
    · rename_i ρ' e
      try rw [e]
      exact fun σ2 S2 b2 => m σ2 S2 ((b'.mono fun v hv => by rw [List.mem_singleton] at hv; subst hv; exact List.mem_cons_self).trans (b2.mono fun v hv => List.mem_cons_of_mem _ hv))
    · exact False.elim m
theorem gs_tup {es es' : List Expr} {k : Nat} {l l' : C} {pp : Pos} (h1 : PG X (.Tuple es' k pp) (tPat p (.tup l'))) (h2 : PGs X es (tPats p l)) (hs : (assignEach (.Tuple es' k pp :: es) X.env).map (·.2) = assign (.Tuple es' k pp) X.env :: (assignEach es X.env).map (·.2)) (ho : ∀ v ∈ slotsP.slotsPs l', v ∉ p.own) :
    PGs X (.Tuple es' k pp :: es) (tPats p (.cons (.tup l') l)) := pgs_imp (pgs_cons h1 h2 hs) fun vs σ H Q ⟨ds, ρ, S, r, m⟩ => by
  cases r with
  | nil => exact False.elim m
  | @cons v vs d ds r rr =>
    refine ⟨_, _, rfl, _, ρ, S, r, ?_⟩
    cases d with
    | tuple ys =>
      have m : (match (bindP.bindPs l' ys ρ).bind fun ρ' => bindP.bindPs l ds ρ' with | some ρ' => ∀ σ', SR p σ' H ρ' → But (slotsP.slotsPs (.cons (.tup l') l)) σ σ' → Q σ' H | none => False) := m
      show (match bindP.bindPs l' ys ρ with | some ρ' => ∀ σ', SR p σ' H ρ' → But (slotsP.slotsPs l') σ σ' → tPats p l _ σ' H Q | none => False)
      cases e : bindP.bindPs l' ys ρ with
      | none => rw [e] at m; exact False.elim m
      | some ρ1 =>
        rw [e] at m
        have m : (match bindP.bindPs l ds ρ1 with | some ρ' => ∀ σ', SR p σ' H ρ' → But (slotsP.slotsPs (.cons (.tup l') l)) σ σ' → Q σ' H | none => False) := m
        intro σ' S' b'
        have eo : ow p σ' = ow p σ := ow_but (p := p) ho b'
        have ea : av p σ' = av p σ := by funext b; unfold av; rw [eo]
        refine ⟨_, _, S', ea ▸ rr, ?_⟩
        split at m
        · rename_i ρ' e
          try rw [e]
          exact fun σ2 S2 b2 => m σ2 S2 ((b'.mono fun v hv => List.mem_append_left _ hv).trans (b2.mono fun v hv => List.mem_append_right _ hv))
        · exact False.elim m
    | _ => exact False.elim m
/-- how many targets -/
def lenP : C → Nat
  | .cons _ r => lenP r + 1
  | _ => 0
theorem lenP_of (l : C) : ∀ (ds : List D) (ρ ρ' : Slots), bindP.bindPs l ds ρ = some ρ' → ds.length = lenP l := by
  induction l with
  | nil => intro ds ρ ρ' h; cases ds <;> first | rfl | cases h
  | cons a r _ ih =>
    intro ds ρ ρ' h
    cases ds with
    | nil => cases a <;> cases h
    | cons d ds =>
      cases a with
      | var i => exact congrArg (· + 1) (ih ds (put ρ i d) ρ' h)
      | tup l =>
        cases d with
        | tuple xs =>
          have h : ((bindP.bindPs l xs ρ).bind fun ρ' => bindP.bindPs r ds ρ') = some ρ' := h
          cases e : bindP.bindPs l xs ρ with
          | none => rw [e] at h; cases h
          | some ρ1 => rw [e] at h; exact congrArg (· + 1) (ih ds ρ1 ρ' h)
        | _ => cases h
      | _ => cases d <;> cases h
  | _ => intro ds ρ ρ' h; cases ds <;> cases h
theorem g_tup {es : List Expr} {k : Nat} {l : C} (hk : X.K = p.K) (hc : X.calm = true) (h : PGs X es (tPats p l)) (hn : (assignEach es X.env).length = lenP l) (hst : (assignEach es X.env).findIdx? (·.1) = none) : PG X (.Tuple es k pos) (tPat p (.tup l)) :=
  pg_imp (pg_tup hc h hn hst) fun v σ H Q ⟨d, ρ, S, r, m⟩ => by
    cases d with
    | tuple ds =>
      have m : (match bindP.bindPs l ds ρ with | some ρ' => ∀ σ', SR p σ' H ρ' → But (slotsP.slotsPs l) σ σ' → Q σ' H | none => False) := m
      obtain ⟨a, xs, rfl, h1, h2⟩ := (Rp.ra r).tup
      refine ⟨a, xs, rfl, hk ▸ h1, ?_, ds, ρ, S, h2, m⟩
      rw [h2.length]
      split at m
      · rename_i e
        exact lenP_of _ _ _ _ e
      · exact False.elim m
    | _ => exact False.elim m
end
end Z

set_option linter.all false
set_option maxRecDepth 100000
set_option maxHeartbeats 1000000
namespace Z
open PySem PySem.Spec L2
open PyProof.Rows hiding St

def isStrD : D → Bool
  | .str _ => true
  | _ => false
def meNm : Me → String
  | .split => "split" | .join => "join" | .count => "count" | .index => "index" | .get => "get" | .upper => "upper" | .find => "find" | .strip => "strip"
/-- a method of strings or lists -/
structure MeT (X : Cx) (m : Me) (isT : D → Bool) (T id : String) (g : D → List D → Option D) : Prop where
  pa : PlainAttrs T
  slot : Slot T (Str.ofString (meNm m)) id
  hty : typeOf (.builtin id) = pure (.type "method_descriptor")
  ok : MeOk X id g
  eq : ∀ d ds, isT d = true → g d ds = meD m d ds
  ty : ∀ K Av H v d, isT d = true → Ra K Av H v d → tyV K T v H
section
variable {X : Cx} {p : Par} {W : Wh} {pos : Pos} {e o a b c : Expr} {f g h : Slots → R D} {ca cb cc cl : C} {fr : Bool} {k k' : Slots → O}
theorem ra_str {K : PySem.W.Frag} {Av : Addr → Prop} {H : Hp} {v : V} {d : D} (h : isStrD d = true) (r : Ra K Av H v d) : tyV K "str" v H := by
  cases d with
  | str x => cases r.str; exact rfl
  | _ => cases h
def isLstD : D → Bool
  | .list _ => true
  | _ => false
theorem ra_lst {K : PySem.W.Frag} {Av : Addr → Prop} {H : Hp} {v : V} {d : D} (h : isLstD d = true) (r : Ra K Av H v d) : tyV K "list" v H := by
  cases d with
  | list x => obtain ⟨a, xs, rfl, h1, _⟩ := r.lst; exact .inl ⟨rfl, xs, h1⟩
  | _ => cases h
theorem fix_same {σ : St} {H H1 : Hp} {ρ ρ1 : Slots} {v : V} {d : D} {isT : D → Bool} (hT : isT = isStrD ∨ isT = isLstD) (S : SR p σ H ρ) (S1 : SR p σ H1 ρ1) (ar : Arg p σ H ca v d) (h : isT (fixD ca d ρ) = true) : isT (fixD ca d ρ1) = true := by
  unfold fixD at h ⊢
  unfold Arg at ar
  cases q : isOwn ca with
  | none => rw [q] at h; exact h
  | some i =>
    rw [q] at h ar
    obtain ⟨hi, hs⟩ := ar
    obtain ⟨d1, e1⟩ := S.oi i v hi hs
    obtain ⟨d2, e2⟩ := S1.oi i v hi hs
    obtain ⟨_, _, ds1, rfl, _⟩ := S.ov i d1 hi e1
    obtain ⟨_, _, ds2, rfl, _⟩ := S1.ov i d2 hi e2
    simp only [e1, e2, Option.getD_some] at h ⊢
    rcases hT with rfl | rfl
    · cases h
    · rfl
theorem x_me {m : Me} {es : List Expr} {apos cpos : Pos} {t : Slots → R (List D)} (hk : X.K = p.K) (hm : ∀ d, meTy m d = true → ∃ isT T id g, (isT = isStrD ∨ isT = isLstD) ∧ isT d = true ∧ MeT X m isT T id g) (ho : PE X o (tY p W ca f)) (ha : PA X (e :: es) (tAG p W (gA p cl) t)) {name : Str} (hnm : name = Str.ofString (meNm m))
    (hbase : attributeBase o name X.env (eval o X.env) = eval o X.env)
    (hfew : ((backTo cpos (starEach (e :: es) X.env)).all (fun x => !x.1) && (backToKw cpos (keywordEach [] X.env)).all (fun x => x.1.isSome)
      && decide ((e :: es).length + ([] : List Keyword).length + (if ([] : List Keyword).isEmpty then 0 else 1) < 30)) = true)
    (hline : (apos.endLine == cpos.line) = true) (hs : starEach (e :: es) X.env = (false, eval e X.env) :: starEach es X.env) (hplain : (backTo cpos (starEach es X.env)).any (·.1) = false) :
    PE X (.Call (.Attribute o name apos) (e :: es) [] cpos) (tX p W fr fun ρ => (f ρ).bind fun x ρ1 => if meTy m (fixD ca x ρ1) then (t ρ1).bind fun ds ρ2 => opt (meD m (fixD ca x ρ2) (fixL cl ds ρ2)) ρ2 else .bad) := by
  subst hnm
  refine ⟨fun pins s σ H Q I m0 => ?_⟩
  refine wpAny_Call_method_late hbase hfew hline rfl (thn (ho.run pins s σ H _ I (m0.bind (G := gY p ca) frmX)) fun v s1 ⟨x, H1, I1, r1, d, st1, g1, m1⟩ => ?_)
  obtain ⟨ρ1, S1, m1⟩ := m1
  by_cases ht : meTy m (fixD ca d ρ1) = true
  · simp only [if_pos ht] at m1
    obtain ⟨isT, T, id, gd, hT, hd, M⟩ := hm _ ht
    have ra1 : Ra X.K (av p σ) H1 x (fixD ca d ρ1) := hk ▸ g1.ra Stay.refl S1
    obtain ⟨h1, h2⟩ := tyV_is I1 r1 (M.ty _ _ _ _ _ hd ra1)
    refine ⟨T, id, M.pa, M.slot, M.hty, h1, h2, ?_⟩
    have m2 : tX p W fr (fun ρ1 => (t ρ1).bind fun ds ρ2 => opt (meD m (fixD ca d ρ2) (fixL cl ds ρ2)) ρ2) σ H1 Q := ⟨ρ1, S1, m1⟩
    have hA := ha.run cpos pins s1 σ H1 _ I1 (m2.bindL (L := gA p cl) frmX)
    rw [hs] at hA ⊢
    refine Calls.callWith_builtin (by show (false || (backTo cpos (starEach es X.env)).any (·.1)) = false; rw [hplain] <;> rfl) (Calls.evalArgs_plain ?_)
    refine thn hA fun us s2 ⟨vs, H2, I2, r2, ds, st2, g2, m3⟩ => ?_
    obtain ⟨ρ2, z, S2, hz, m4⟩ := m3.opt
    have hd2 := fix_same hT S1 S2 g1 hd
    exact thn (M.ok pins s2 σ H2 x v vs us _ _ z (av p σ) I2 r1 r2 (fun b h => S2.fresh h) (hk ▸ g1.ra st2 S2) (hk ▸ argAll_ra S2 g2) (by rw [M.eq _ _ hd2]; exact hz)) fun r s3 h => EP.imp h fun w H' ⟨q1, q2⟩ => m4 w H' q1 (New.got q1 (hk ▸ q2))
  · simp only [if_neg ht] at m1
/-- isinstance(caught, class) in the suite that holds the exception -/
theorem x_isE {i : Nat} {ad D0 : Addr} {oe : Obj} {pn : List (Addr × Obj)} {x y z : Str} {p1 p2 p3 : Pos} {cv : V} {cu : Value} {ob : Option Bool} (hK : ExcC X.K D0) (hz : Zc (.ref D0) none oe) (hf : ∃ vs, oe.data = .fields vs) (hx : x = "isinstance") (hg : Gl X x) (hm : X.mg x = none)
    (hi : X.N[i]? = some y) (hv : Vis X.env.scope y) (hyd : (y == ("__debug__" : Str)) = false) (hyc : (y == ("__classdict__" : Str)) = false) (hxs : (i, ad) ∈ p.xs) (hc : PE (X.suite ad ((ad, oe) :: pn)) (.Name z p3) (tC cv)) (hcv : ∀ u, RelV cv u → u = cu) (hob : ∀ b, ob = some b → PySem.W.kitOne X.K (.ref D0) cu = some b) :
    PE (X.suite ad ((ad, oe) :: pn)) (.Call (.Name x p1) [.Name y p2, .Name z p3] [] pos) (tX p W fr fun ρ => opt (ob.map .bool) ρ) := by
  subst hx
  have ha : PA (X.suite ad ((ad, oe) :: pn)) [.Name y p2, .Name z p3] (tCons (tVar i) (tCons (tC cv) tNil)) := pa_cons (pe_var hi hv hyd hyc) (pa_cons hc pa_nil rfl) rfl
  refine pe_imp (pe_callB (call_isE hK hz hf) hg hm (by decide +kernel) ha (he := rfl)) fun σ H Q m => ?_
  obtain ⟨ρ, zz, S, hz', m2⟩ := m.opt
  cases hb : ob with
  | none => rw [hb] at hz'; cases hz'
  | some b =>
    rw [hb] at hz'; cases hz'
    exact ⟨_, S.xh _ hxs, cv, cu, b, rfl, hcv, hob b hb, m2 _ H (fun _ _ h => h) ⟨.bl _, fun _ ds h => by cases h⟩⟩
/-- the heap has grown meanwhile -/
theorem tG.later {f : Slots → R D} {σ : St} {H H1 : Hp} {Q : VK} (m : tX p W fr f σ H Q) (q : Same H H1) : tX p W fr f σ H1 Q := by
  obtain ⟨ρ, S, m⟩ := m
  refine ⟨ρ, S.same q, ?_⟩
  cases hf : f ρ with
  | ok d ρ1 => simp only [hf] at m; exact fun v H2 S2 st2 gg => m v H2 S2 ((Stay.of_same q).trans st2) (gg.from (Stay.of_same q))
  | exn c ρ1 => simp only [hf] at m; exact fun H2 S2 st2 => m H2 S2 ((Stay.of_same q).trans st2)
  | bad => simp only [hf] at m
/-! a, b = x, y -/
theorem s_par {i j : Nat} {x y : Str} {ea eb : Expr} {t : Slots → R (List D)} {px py pt : Pos} {kt k2 : Nat} {pt2 : Pos} (hc : X.calm = true) (hN : X.N.Nodup) (hi : X.N[i]? = some x) (hj : X.N[j]? = some y) (hij : i ≠ j)
    (hx : X.env.scope.names.lookup x = some .local) (hy : X.env.scope.names.lookup y = some .local) (ho1 : i ∉ p.own) (ho2 : j ∉ p.own) (hx1 : ∀ q ∈ p.xs, q.1 ≠ i) (hx2 : ∀ q ∈ p.xs, q.1 ≠ j) (hl : ownsOf cl = []) (ha : PA X [ea, eb] (tAG p W (gA p cl) t))
    (hw : swappedStores [.Tuple [.Name x px, .Name y py] kt pt] (.Tuple [ea, eb] k2 pt2) X.env = pure (some [x, y]))
    (hs : swapsWithSole [.Tuple [.Name x px, .Name y py] kt pt] (.Tuple [ea, eb] k2 pt2) pos.line X.env = pure false) :
    PS X (.Assign [.Tuple [.Name x px, .Name y py] kt pt] (.Tuple [ea, eb] k2 pt2) pos) (tS p W fr fun ρ => match t ρ with
      | .ok ds ρ1 => if ds.length = 2 then .nx (putAll ρ1 [i, j] ds) else .bad
      | .exn c ρ1 => .exn c ρ1
      | .bad => .bad) := by
  refine ⟨fun pins s σ H E I m => (ps_par hc hN hi hj hij hx hy ha hw hs).run pins s σ H E I ?_⟩
  have li : i < σ.length := by rw [I.len]; exact (List.getElem?_eq_some_iff.mp hi).1
  have lj : j < σ.length := by rw [I.len]; exact (List.getElem?_eq_some_iff.mp hj).1
  obtain ⟨ρ, S, m⟩ := m
  refine ⟨ρ, S, ?_⟩
  cases ht : t ρ with
  | bad => simp only [ht] at m; exact m
  | exn c ρ1 => simp only [ht] at m; exact fun H1 S1 _ => m σ H1 S1
  | ok ds ρ1 =>
    simp only [ht] at m
    intro vs H1 S1 st g
    have r := argAll_rp hl g
    by_cases h2 : ds.length = 2
    · rw [if_pos h2] at m
      cases r with
      | nil => cases h2
      | cons r1 r =>
        cases r with
        | nil => cases h2
        | cons r2 r =>
          cases r with
          | cons _ _ => simp at h2
          | nil =>
            have A := S1.put ho1 hx1 li r1
            exact ⟨_, _, rfl, m _ H1 (A.put ho2 hx2 (by rw [List.length_set]; exact lj) (by rw [av_set ho1]; exact r2))⟩
    · rw [if_neg h2] at m; exact False.elim m
/-- a, b, c = x, y, z -/
theorem s_par3 {i j l : Nat} {x y z : Str} {ea eb ec : Expr} {t : Slots → R (List D)} {px py pz pt : Pos} {kt k2 : Nat} {pt2 : Pos} (hc : X.calm = true) (hN : X.N.Nodup) (hi : X.N[i]? = some x) (hj : X.N[j]? = some y) (hz : X.N[l]? = some z) (hij : i ≠ j) (hil : i ≠ l) (hjl : j ≠ l)
    (hx : X.env.scope.names.lookup x = some .local) (hy : X.env.scope.names.lookup y = some .local) (hzl : X.env.scope.names.lookup z = some .local) (ho1 : i ∉ p.own) (ho2 : j ∉ p.own) (ho3 : l ∉ p.own) (hx1 : ∀ q ∈ p.xs, q.1 ≠ i) (hx2 : ∀ q ∈ p.xs, q.1 ≠ j) (hx3 : ∀ q ∈ p.xs, q.1 ≠ l) (hl : ownsOf cl = []) (ha : PA X [ea, eb, ec] (tAG p W (gA p cl) t))
    (hw : swappedStores [.Tuple [.Name x px, .Name y py, .Name z pz] kt pt] (.Tuple [ea, eb, ec] k2 pt2) X.env = pure (some [x, y, z]))
    (hs : swapsWithSole [.Tuple [.Name x px, .Name y py, .Name z pz] kt pt] (.Tuple [ea, eb, ec] k2 pt2) pos.line X.env = pure false) :
    PS X (.Assign [.Tuple [.Name x px, .Name y py, .Name z pz] kt pt] (.Tuple [ea, eb, ec] k2 pt2) pos) (tS p W fr fun ρ => match t ρ with
      | .ok ds ρ1 => if ds.length = 3 then .nx (putAll ρ1 [i, j, l] ds) else .bad
      | .exn c ρ1 => .exn c ρ1
      | .bad => .bad) := by
  refine ⟨fun pins s σ H E I m => (ps_par3 hc hN hi hj hz hij hil hjl hx hy hzl ha hw hs).run pins s σ H E I ?_⟩
  have li : i < σ.length := by rw [I.len]; exact (List.getElem?_eq_some_iff.mp hi).1
  have lj : j < σ.length := by rw [I.len]; exact (List.getElem?_eq_some_iff.mp hj).1
  have ll : l < σ.length := by rw [I.len]; exact (List.getElem?_eq_some_iff.mp hz).1
  obtain ⟨ρ, S, m⟩ := m
  refine ⟨ρ, S, ?_⟩
  cases ht : t ρ with
  | bad => simp only [ht] at m; exact m
  | exn c ρ1 => simp only [ht] at m; exact fun H1 S1 _ => m σ H1 S1
  | ok ds ρ1 =>
    simp only [ht] at m
    intro vs H1 S1 st g
    have r := argAll_rp hl g
    by_cases h2 : ds.length = 3
    · rw [if_pos h2] at m
      cases r with
      | nil => cases h2
      | cons r1 r =>
        cases r with
        | nil => cases h2
        | cons r2 r =>
          cases r with
          | nil => cases h2
          | cons r3 r =>
            cases r with
            | cons _ _ => simp at h2
            | nil =>
              have A := S1.put ho1 hx1 li r1
              have B := A.put ho2 hx2 (by rw [List.length_set]; exact lj) (by rw [av_set ho1]; exact r2)
              exact ⟨_, _, _, rfl, m _ H1 (B.put ho3 hx3 (by rw [List.length_set, List.length_set]; exact ll) (by rw [av_set ho2, av_set ho1]; exact r3))⟩
    · rw [if_neg h2] at m; exact False.elim m
/-- a op b op' c -/
theorem x_chain {op op' : CmpOp} {o1 o2 : Cm} (hk : X.K = p.K) (h1 : OpOk X (compareOp op) (fun d e => (cmpD o1 d e).map .bool)) (h2 : OpOk X (compareOp op') (fun d e => (cmpD o2 d e).map .bool)) (ha : PE X a (tX p W false f)) (hb : PE X b (tX p W false g)) (hc : PE X c (tX p W false h))
    (hm : lastMarks [op, op'] [b, c] = false) : PE X (.Compare a [op, op'] [b, c] pos) (tX p W fr fun ρ => (f ρ).bind fun x ρ1 => (g ρ1).bind fun y ρ2 => (opt (cmpD o1 x y) ρ2).bind fun k ρ3 =>
      if k then (h ρ3).bind fun z ρ4 => opt ((cmpD o2 y z).map .bool) ρ4 else .ok (.bool false) ρ3) := by
  refine ⟨fun pins s σ H Q I m => ?_⟩
  refine Compare_chain (thn (ha.run pins s σ H _ I (m.bind (G := gX p false) frmX)) fun v s1 ⟨x, H1, I1, r1, dx, st1, gx, m1⟩ => chain_link (thn (hb.run pins s1 σ H1 _ I1 (m1.bind (G := gX p false) frmX)) fun u s2 ⟨y, H2, I2, r2, dy, st2, gy, m2⟩ => ?_)) hm
  obtain ⟨ρ2, S2, m2⟩ := m2
  cases hk1 : cmpD o1 dx dy with
  | none => simp only [hk1] at m2; exact False.elim m2
  | some kk =>
    simp only [hk1] at m2
    have m2 : tX p W fr (fun ρ3 => if kk = true then (h ρ3).bind fun z ρ4 => opt ((cmpD o2 dy z).map .bool) ρ4 else .ok (.bool false) ρ3) σ H2 Q := ⟨ρ2, S2, m2⟩
    refine thn (h1 pins s2 σ H2 x y v u dx dy (.bool kk) (av p σ) I2 r1 r2 (fun b h => S2.fresh h) (hk ▸ .inl (Rp.stay st2 ow_av gx.1)) (hk ▸ .inl gy.1) (by show (cmpD o1 dx dy).map PyData.bool = _; rw [hk1]; rfl)) fun d s3 ⟨z, H3, I3, r3, q1, q2⟩ => ?_
    have q2' := q2.1
    cases q2'
    cases r3
    refine wpAny_truthy_bool ?_
    have m3 : tX p W fr (fun ρ3 => if kk = true then (h ρ3).bind fun z ρ4 => opt ((cmpD o2 dy z).map .bool) ρ4 else .ok (.bool false) ρ3) σ H3 Q := m2.later q1
    cases kk with
    | false =>
      simp only [if_neg Bool.false_ne_true] at m3
      obtain ⟨ρ, S, m4⟩ := m3.ok
      exact ite_ff ⟨.bl false, H3, I3, rfl, m4 _ H3 (fun _ _ h => h) ⟨.bl _, fun _ ds h => by cases h⟩⟩
    | true =>
      simp only [if_pos] at m3
      refine ite_tt (chain_last (thn (hc.run pins s3 σ H3 _ I3 (m3.bind (G := gX p false) frmX)) fun w' s4 ⟨z', H4, I4, r4, dz, st4, gz, m4⟩ => ?_))
      obtain ⟨ρ4, z, S4, hz, m5⟩ := m4.opt
      refine thn (h2 pins s4 σ H4 y z' u w' dy dz z (av p σ) I4 r2 r4 (fun b h => S4.fresh h) (hk ▸ .inl (Rp.stay ((Stay.of_same q1).trans st4) ow_av gy.1)) (hk ▸ .inl gz.1) hz) fun r s5 h => EP.imp h fun w H' ⟨q1, q2⟩ => m5 w H' q1 (New.got q1 (hk ▸ q2))
theorem t_chain {op op' : CmpOp} {o1 o2 : Cm} (hk : X.K = p.K) (h1 : OpOk X (compareOp op) (fun d e => (cmpD o1 d e).map .bool)) (h2 : OpOk X (compareOp op') (fun d e => (cmpD o2 d e).map .bool)) (ha : PE X a (tX p W false f)) (hb : PE X b (tX p W false g)) (hc : PE X c (tX p W false h))
    (hm : lastMarks [op, op'] [b, c] = false) : PT X (.Compare a [op, op'] [b, c] pos) (tB p W fun ρ => ((f ρ).bind fun x ρ1 => (g ρ1).bind fun y ρ2 => (opt (cmpD o1 x y) ρ2).bind fun k ρ3 =>
      if k then (h ρ3).bind fun z ρ4 => opt ((cmpD o2 y z).map .bool) ρ4 else .ok (.bool false) ρ3).bind fun d ρ5 => opt (truthD d) ρ5) := by
  refine ⟨fun pins s σ H Q I m => ?_⟩
  have m := tB.bind (G := gX p false) m
  refine isTrue_chain (thn (ha.run pins s σ H _ I (m.bind (G := gX p false) frmX)) fun v s1 ⟨x, H1, I1, r1, dx, st1, gx, m1⟩ => test_link (thn (hb.run pins s1 σ H1 _ I1 (m1.bind (G := gX p false) frmX)) fun u s2 ⟨y, H2, I2, r2, dy, st2, gy, m2⟩ => ?_)) hm
  obtain ⟨ρ2, S2, m2⟩ := m2
  cases hk1 : cmpD o1 dx dy with
  | none => simp only [hk1] at m2; exact False.elim m2
  | some kk =>
    simp only [hk1] at m2
    have m2 : tX p W false (fun ρ3 => if kk = true then (h ρ3).bind fun z ρ4 => opt ((cmpD o2 dy z).map .bool) ρ4 else .ok (.bool false) ρ3) σ H2 _ := ⟨ρ2, S2, m2⟩
    refine thn (h1 pins s2 σ H2 x y v u dx dy (.bool kk) (av p σ) I2 r1 r2 (fun b h => S2.fresh h) (hk ▸ .inl (Rp.stay st2 ow_av gx.1)) (hk ▸ .inl gy.1) (by show (cmpD o1 dx dy).map PyData.bool = _; rw [hk1]; rfl)) fun d s3 ⟨z, H3, I3, r3, q1, q2⟩ => ?_
    have q2' := q2.1
    cases q2'
    cases r3
    refine wpAny_truthy_bool ?_
    have m3 := m2.later q1
    cases kk with
    | false =>
      simp only [if_neg Bool.false_ne_true] at m3
      obtain ⟨ρ, S, m4⟩ := m3.ok
      obtain ⟨d', _, g', m5⟩ := m4 _ H3 (fun _ _ h => h) ⟨.bl false, fun _ ds h => by cases h⟩
      cases g'.1
      obtain ⟨ρ', bb, S', e5, m6⟩ := m5.opt
      cases e5
      exact ite_ff ⟨H3, I3, m6 H3 fun _ _ h => h⟩
    | true =>
      simp only [if_pos] at m3
      refine ite_tt (test_last (thn (hc.run pins s3 σ H3 _ I3 (m3.bind (G := gX p false) frmX)) fun w' s4 ⟨z', H4, I4, r4, dz, st4, gz, m4⟩ => ?_))
      obtain ⟨ρ4, z, S4, hz, m5⟩ := m4.opt
      refine thn (h2 pins s4 σ H4 y z' u w' dy dz z (av p σ) I4 r2 r4 (fun b h => S4.fresh h) (hk ▸ .inl (Rp.stay ((Stay.of_same q1).trans st4) ow_av gy.1)) (hk ▸ .inl gz.1) hz) fun r s5 ⟨w, H5, I5, r5, e1, e2⟩ => ?_
      cases k : cmpD o2 dy dz with
      | none => rw [k] at hz; cases hz
      | some bb =>
        rw [k] at hz
        have hz : PyData.bool bb = z := by simpa using hz
        subst hz
        have e3 := e2.1
        obtain ⟨z2, st, gg, m6⟩ := m5 w H5 e1 (New.got e1 (hk ▸ e2))
        cases e3
        cases r5
        cases gg.1
        obtain ⟨ρ', b2, S', e5, m7⟩ := m6.opt
        cases e5
        exact wpAny_truthy_bool ⟨H5, I5, m7 H5 fun _ _ h => h⟩
end
end Z

set_option linter.all false
set_option maxRecDepth 100000
set_option maxHeartbeats 1000000
namespace Z
open PySem PySem.Spec L2
open PyProof.Rows hiding St

/-! ### from the text to C -/
/-- a def of the text: its number, its in/out parameters, whether it hands back a new list, its parameters; how it is called with keywords: how many by place, which names, the parameters' order -/
structure FI where
  f : Nat
  io : List Nat
  fresh : Bool
  ps : List Str
  kws : List (Nat × List Str × List Nat)
/-- the module's names: defs, data, exceptions, built-ins that stand -/
structure MT where
  defs : List (Str × FI)
  dat : List Str
  exs : List (Str × Nat)
  bin : List Str
structure GC where
  N : List Str
  own : List Nat
  io : List Nat
  xsl : List Nat
  sc : Scope
  calm : Bool
  fr : Bool
  fnb : Str → Bool
abbrev Rec := Bool → GC → Expr → Option C
def gd {α : Type} (b : Bool) (o : Option α) : Option α := if b then o else none
theorem gd_some {α : Type} {b : Bool} {o : Option α} {a : α} (h : gd b o = some a) : b = true ∧ o = some a := by
  unfold gd at h
  cases b with
  | true => exact ⟨rfl, h⟩
  | false => cases h
theorem bd_some {α β : Type} {o : Option α} {f : α → Option β} {b : β} (h : o.bind f = some b) : ∃ a, o = some a ∧ f a = some b := by
  cases o with
  | none => cases h
  | some a => exact ⟨a, rfl, h⟩
def nmOk (x : Str) : Bool := !(x == ("__debug__" : Str)) && !(x == ("__classdict__" : Str)) && !decide (x = ("__name__" : Str))
def visB (sc : Scope) (x : Str) : Bool := match sc.names.lookup x with
  | some .local => true | some .cell => true | some .free => true | _ => false
def locB (sc : Scope) (x : Str) : Bool := match sc.names.lookup x with
  | some .local => true | some .cell => true | _ => false
def glB (sc : Scope) (x : Str) : Bool := match sc.names.lookup x with
  | some .globalImplicit => true | _ => false
/-- the slot of a name that is read -/
def slot (G : GC) (x : Str) : Option Nat := gd (nmOk x && visB G.sc x) (G.N.findIdx? (· == x))
def ownE (G : GC) : Expr → Option Nat
  | .Name x _ => (slot G x).bind fun i => gd (G.own.contains i) (some i)
  | _ => none
def cA (r : Rec) (G : GC) (e : Expr) : Option C := match ownE G e with
  | some i => some (.own i)
  | none => r false G e
def cL (r : Rec) (G : GC) : List Expr → Option C
  | [] => some .nil
  | e :: es => gd (match e with | .Starred _ _ => false | _ => true) ((cA r G e).bind fun c => (cL r G es).bind fun l => some (.cons c l))
def cConst : Const → Option C
  | .none => some .non
  | .bool b => some (.bl b)
  | .int i => some (.int i)
  | .str s => some (.str s)
  | _ => none
def cOp : Operator → Option Op
  | .Add => some .add | .Sub => some .sub | .Mult => some .mul | .FloorDiv => some .fdiv | .Mod => some .mod | .Pow => some .pow
  | _ => none
def cCm : CmpOp → Cm
  | .Eq => .eq | .NotEq => .ne | .Lt => .lt | .LtE => .le | .Gt => .gt | .GtE => .ge | .In => .isIn | .NotIn => .notIn | .Is => .is | .IsNot => .isNot
def cAnd (r : Rec) (G : GC) : List Expr → Option C
  | [] => none
  | [a] => r false G a
  | a :: es => (r false G a).bind fun c => (cAnd r G es).bind fun d => some (.and c d)
def cOr (r : Rec) (G : GC) : List Expr → Option C
  | [] => none
  | [a] => r false G a
  | a :: es => (r false G a).bind fun c => (cOr r G es).bind fun d => some (.or c d)
def cTAnd (r : Rec) (G : GC) : List Expr → Option C
  | [] => none
  | [a] => r true G a
  | a :: es => (r true G a).bind fun c => (cTAnd r G es).bind fun d => some (.and c d)
def cTOr (r : Rec) (G : GC) : List Expr → Option C
  | [] => none
  | [a] => r true G a
  | a :: es => (r true G a).bind fun c => (cTOr r G es).bind fun d => some (.or c d)
/-- a built-in by name -/
def biOf (x : Str) : Option Bi :=
  if x = "len" then some .len else if x = "abs" then some .abs else if x = "int" then some .int else if x = "max" then some .max else if x = "min" then some .min else
  if x = "repr" then some .repr else if x = "sum" then some .sum else if x = "all" then some .all else if x = "any" then some .any else if x = "tuple" then some .tuple else if x = "list" then some .list else none
def tyOfN (x : Str) : Option Ty :=
  if x = "int" then some .int else if x = "bool" then some .bool else if x = "str" then some .str else if x = "tuple" then some .tuple else if x = "list" then some .list else none
def meOf (x : Str) : Option Me :=
  if x = "count" then some .count else if x = "index" then some .index else if x = "split" then some .split else if x = "join" then some .join else none
def noSuper : Expr → Bool
  | .Call (.Name _ _) [] [] _ => false
  | _ => true
def cEnd (r : Rec) (G : GC) : Option Expr → Option C
  | none => some .non
  | some e => r false G e
def cName (M : MT) (G : GC) (x : Str) : Option C := match slot G x with
  | some i => gd (!G.own.contains i) (some (.var i))
  | none => gd (nmOk x && glB G.sc x && M.dat.contains x) (some (.glob x))
/-- isinstance -/
def cIsi (r : Rec) (M : MT) (G : GC) (a b : Expr) : Option C := gd (glB G.sc "isinstance" && M.bin.contains "isinstance") (match b with
  | .Name y _ => gd (glB G.sc y && nmOk y) (match (match a with | .Name x _ => (slot G x).bind fun i => gd (G.xsl.contains i) (some i) | _ => none) with
    | some i => (M.exs.lookup y).bind fun c => some (.isE i c)
    | none => gd (M.bin.contains y) ((tyOfN y).bind fun t => (cA r G a).bind fun c => some (.isi t c)))
  | _ => none)
def kwNames (kws : List Keyword) : Option (List Str) := match kws with
  | [] => some []
  | ⟨some n, _, _⟩ :: r => (kwNames r).map (n :: ·)
  | _ => none
def cKw (r : Rec) (G : GC) : List Keyword → Option C
  | [] => some .nil
  | ⟨_, e, _⟩ :: es => (r false G e).bind fun c => (cKw r G es).bind fun l => some (.cons c l)
/-- len(set(a)): its a -/
def nsetArg (x : Str) : List Expr → Option Expr
  | [.Call (.Name y _) [a] [] _] => if x = "len" ∧ y = "set" then some a else none
  | _ => none
def cCall (r : Rec) (M : MT) (G : GC) (x : Str) (es : List Expr) (kws : List Keyword) (pos : Pos) : Option C := gd (glB G.sc x && nmOk x) (match M.defs.lookup x with
  | some fi => gd G.calm (match kws with
    | [] => (cL r G es).bind fun l => gd (decide ((ioPairs 0 l).map (·.1) = fi.io) && decide (ownsOf l).Nodup && decide (es.length = fi.ps.length)) (some (.call fi.f l))
    | _ => (cL r G es).bind fun l => (cKw r G kws).bind fun k => (kwNames kws).bind fun ks => ((fi.kws.find? fun q => decide (q.1 = es.length) && decide (q.2.1 = ks)).map (·.2.2)).bind fun pm => gd (decide (ownsOf l = []) && fi.io.isEmpty) (some (.callk fi.f pm l k)))
  | none => match kws, es with
    | [], [a, b] => if x = "isinstance" then cIsi r M G a b else gd (M.bin.contains x && G.calm) ((biOf x).bind fun b' => (cL r G es).bind fun l => some (.bi b' l))
    | [], _ :: _ => match nsetArg x es with
      | some a => gd (glB G.sc "set" && M.bin.contains "set" && M.bin.contains x && G.calm && (match a with | .Starred _ _ => false | _ => true)) ((r false G a).bind fun c => some (.bi .set (.cons c .nil)))
      | none => gd (M.bin.contains x && G.calm) ((biOf x).bind fun b' => (cL r G es).bind fun l => some (.bi b' l))
    | _, _ => none)
def cIt (r : Rec) (M : MT) (G : GC) (e : Expr) : Option C := match e with
  | .Call (.Name x _) es [] _ => if x = "range" then gd (glB G.sc x && M.bin.contains x && (decide (es.length = 1) || decide (es.length = 2))) ((cL r G es).bind fun l => some (.bi .range l)) else r false G e
  | _ => cA r G e
def cPs (f : Expr → Option C) : List Expr → Option C
  | [] => some .nil
  | e :: es => (f e).bind fun c => (cPs f es).bind fun l => some (.cons c l)
def cP (G : GC) : Nat → Expr → Option C
  | _, .Name x _ => gd (locB G.sc x && (G.fnb x || decide (G.sc.names.lookup x = some .local))) ((G.N.findIdx? (· == x)).bind fun i => gd (!G.own.contains i && !G.xsl.contains i) (some (.var i)))
  | n + 1, .Tuple es _ _ => gd G.calm ((cPs (cP G n) es).bind fun l => some (.tup l))
  | _, _ => none
def ownNames (N : List Str) : List (Str × NameKind) → List (Str × Nat)
  | [] => []
  | (x, k) :: r => match k, N.findIdx? (· == x) with
    | .local, some i => (x, i) :: ownNames N r
    | .cell, some i => (x, i) :: ownNames N r
    | _, _ => ownNames N r
def cLc (r : Rec) (M : MT) (G : GC) (elt tg it : Expr) (ifs : List Expr) (scope : Scope) : Option C :=
  let own : List (Str × Nat) := ownNames G.N scope.names
  let vs : List Nat := own.map (·.2)
  let G' : GC := { G with sc := relS scope G.sc, fnb := fun x => decide (scope.names.lookup x = some .cell) }
  gd (G.xsl.isEmpty && G.calm && blkC G.N G.sc scope own && own.all (fun q => !G.own.contains q.2 && !G.xsl.contains q.2)) ((cP G' 3 tg).bind fun p => gd ((slotsP p).all fun v => vs.contains v) ((cIt r M G it).bind fun ci =>
    (match ifs with | [] => some (C.tv (.bl true)) | [c] => r true G' c | _ => (none : Option C)).bind fun cc => (r false G' elt).bind fun ce => some (C.lc vs p ci cc ce)))
def cEst (r : Rec) (M : MT) (G : GC) : Expr → Option C
  | .Constant c _ _ => cConst c
  | .Name x _ => cName M G x
  | .BinOp a o b _ => (cOp o).bind fun o' => (cA r G a).bind fun ca => (cA r G b).bind fun cb => some (.op o' ca cb)
  | .UnaryOp .USub a _ => (r false G a).bind fun ca => some (.neg ca)
  | .UnaryOp .Not a _ => (r false G a).bind fun ca => some (.not ca)
  | .BoolOp .And es _ => cAnd r G es
  | .BoolOp .Or es _ => cOr r G es
  | .IfExp c a b _ => (r true G c).bind fun cc => (r false G a).bind fun ca => (r false G b).bind fun cb => some (.ite cc ca cb)
  | .Tuple es _ _ => (cL r G es).bind fun l => gd (decide (ownsOf l = [])) (some (.tup l))
  | .List es _ => (cL r G es).bind fun l => gd (decide (ownsOf l = [])) (some (.lst l))
  | .Dict [] [] _ => some .dic0
  | .Subscript a (.Slice lo hi none _) _ => (cA r G a).bind fun ca => (cEnd r G lo).bind fun cl => (cEnd r G hi).bind fun ch => some (.sl ca cl ch)
  | .Subscript a (.Slice none none (some (.UnaryOp .USub (.Constant (.int 1) _ _) _)) _) _ => (r false G a).bind fun ca => some (.bi .rev (.cons ca .nil))
  | .Subscript a (.Slice _ _ _ _) _ => none
  | .Subscript a i _ => (cA r G a).bind fun ca => (r false G i).bind fun ci => some (.ix ca ci)
  | .Compare a [o] [b] _ => gd (!behindInMarks o b) ((cA r G a).bind fun ca => (cA r G b).bind fun cb => some (.cmp (cCm o) ca cb))
  | .Compare a [o, o'] [b, c] _ => gd (!lastMarks [o, o'] [b, c]) ((r false G a).bind fun ca => (r false G b).bind fun cb => (r false G c).bind fun cc => some (.chain (cCm o) (cCm o') ca cb cc))
  | .Call (.Name x _) es kws pos => cCall r M G x es kws pos
  | .Call (.Attribute o name apos) (e :: es) [] cpos => if name = "pop" then gd (es.isEmpty && apos.endLine == cpos.line && (match e with | .Starred _ _ => false | _ => true)) ((ownE G o).bind fun i => (r false G e).bind fun c => some (.pop i c)) else gd (apos.endLine == cpos.line && noSuper o && decide ((e :: es).length < 20)) ((meOf name).bind fun m => (cA r G o).bind fun co => (cL r G (e :: es)).bind fun l => some (.me m co l))
  | .ListComp elt [⟨tg, it, ifs, 0⟩] scope _ => cLc r M G elt tg it ifs scope
  | _ => none
def cTst (r : Rec) (M : MT) (G : GC) : Expr → Option C
  | .UnaryOp .Not a _ => (r true G a).bind fun ca => some (.not ca)
  | .BoolOp .And es _ => cTAnd r G es
  | .BoolOp .Or es _ => cTOr r G es
  | .Compare a [o] [b] _ => gd (!behindInMarks o b) ((cA r G a).bind fun ca => (cA r G b).bind fun cb => some (.tv (.cmp (cCm o) ca cb)))
  | .Compare a [o, o'] [b, c] _ => gd (!lastMarks [o, o'] [b, c]) ((r false G a).bind fun ca => (r false G b).bind fun cb => (r false G c).bind fun cc => some (.tv (.chain (cCm o) (cCm o') ca cb cc)))
  | .Compare _ _ _ _ => none
  | .IfExp _ _ _ _ => none
  | e => (cA r G e).bind fun c => some (.tv c)
def cX (M : MT) : Nat → Rec
  | 0 => fun _ _ _ => none
  | n + 1 => fun b G e => if b then cTst (cX M n) M G e else cEst (cX M n) M G e
end Z

set_option linter.all false
set_option maxRecDepth 100000
set_option maxHeartbeats 1000000
namespace Z
open PySem PySem.Spec L2
open PyProof.Rows hiding St

/-! ### the context of a reading -/
/-- keywords: the parameters' order -/
def kwG (np : Nat) (nk : Nat) (pm : List Nat) (us ws : List Value) : List Value := if us.length = np ∧ ws.length = nk then pm.map fun k => (us ++ ws).getD k .none else []
def kwV (np : Nat) (nk : Nat) (pm : List Nat) (us ws : List V) : List V := if us.length = np ∧ ws.length = nk then permV pm (us ++ ws) else []
/-- a def that may be called -/
structure DefOk (X : Cx) (ct : CT) (ex : Nat → Addr) (x : Str) (fi : FI) (k : Nat) (fa : Addr) (fd : FuncData) (F : Fn) : Prop where
  fn : FnG X.prog X.w X.K X.mg X.base k fa fd fi.ps (spF X.K F ct fi.f ex)
  io : F.io = fi.io
  fr : F.fresh = fi.fresh
  mg : X.mg x = some (.ref fa)
  kp : PySem.W.keepIn X.K (.ref fa) = true
  bd : Binds X.K fd fi.ps []
  kw : ∀ q ∈ fi.kws, KBinds X.K fd fi.ps q.2.1 (kwG q.1 q.2.1.length q.2.2) (kwV q.1 q.2.1.length q.2.2)
structure GX (X : Cx) (p : Par) (G : GC) (M : MT) (T : Tab) (ct : CT) (W : Wh) (ex : Nat → Addr) : Prop where
  hK : X.K = p.K
  N : X.N = G.N
  nd : G.N.Nodup
  sc : X.env.scope = G.sc
  own : p.own = G.own
  xsl : p.xs.map (·.1) = G.xsl
  calm : G.calm = true → X.calm = true
  fn : ∀ x, G.fnb x = true → X.fn x = true
  gds : X.A.guards = some []
  un : X.A.units + 65 < cLine
  tk : Takes X (wx ex W)
  bin : ∀ x ∈ M.bin, X.mg x = none
  dat : ∀ x ∈ M.dat, ∀ d, T.gv x = some d → ∃ v u, X.mg x = some u ∧ RelV v u ∧ (∀ Av H, Rp p.K Av H v d)
  defs : G.calm = true → ∀ x fi, M.defs.lookup x = some fi → ∃ k fa fd F, DefOk X ct ex x fi k fa fd F ∧ Room k X.A
  suite : ∀ i, i ∈ G.xsl → ∃ (X0 : Cx) (ad : Addr) (n : Nat) (oe : Obj) (pn : List (Addr × Obj)), X = X0.suite ad ((ad, oe) :: pn) ∧ (i, ad) ∈ p.xs ∧ T.cur = some n ∧ ExcC X0.K (ex n) ∧ Zc (.ref (ex n)) none oe ∧ (∃ vs, oe.data = .fields vs) ∧
    ∀ y c, glB G.sc y = true → nmOk y = true → M.exs.lookup y = some c → ∃ cv cu, (∀ z, PE X (.Name y z) (tC cv)) ∧ (∀ u, RelV cv u → u = cu) ∧ ∀ b, T.sub n c = some b → PySem.W.kitOne X0.K (.ref (ex n)) cu = some b
section
variable {X : Cx} {p q : Par} {G : GC} {M : MT} {T : Tab} {ct : CT} {W : Wh} {ex : Nat → Addr} {r : Rec}
theorem GX.sim (g : GX X p G M T ct W ex) (s : Sim p q) : GX X q G M T ct W ex :=
  ⟨g.hK.trans s.K.symm, g.N, g.nd, g.sc, s.own.trans g.own, by rw [s.xs]; exact g.xsl, g.calm, g.fn, g.gds, g.un, g.tk, g.bin, fun x hx d hd => by rw [s.K]; exact g.dat x hx d hd, g.defs, fun i hi => by
    obtain ⟨X0, ad, n, oe, pn, h1, h2, h3⟩ := g.suite i hi
    exact ⟨X0, ad, n, oe, pn, h1, by rw [s.xs]; exact h2, h3⟩⟩
theorem takes0 {X : Cx} : Takes X (wx ex W0) := fun u s' h => by
  obtain ⟨_, _, _, _, _, _, _, _, _, _, _, _, _, _, _, _, h⟩ := h
  obtain ⟨_, _, _, h⟩ := h
  exact h.elim
/-- within a comprehension's block -/
theorem GX.blk {scope : Scope} (g : GX X p G M T ct W ex) (hx : G.xsl = []) {s : Shared} {H : Hp} {Cc : Addr} {cl : List (Str × Addr)} {fp : List Addr} :
    GX (X.blk s H scope (compEnvC scope cl Cc X.env) fp) p { G with sc := relS scope G.sc, fnb := fun x => decide (scope.names.lookup x = some .cell) } M T ct W0 ex :=
  ⟨g.hK, g.N, g.nd, by rw [← g.sc]; rfl, g.own, g.xsl, g.calm, fun x h => by
    have h : scope.names.lookup x = some .cell := of_decide_eq_true h
    show (scope.names.lookup x == some .cell) = true
    rw [h]; rfl, g.gds, g.un, takes0, g.bin, g.dat, fun hc x fi h => by
    obtain ⟨k, fa, fd, F, d, hr⟩ := g.defs hc x fi h
    exact ⟨k, fa, fd, F, ⟨d.fn, d.io, d.fr, d.mg, d.kp, d.bd, d.kw⟩, hr⟩, fun i hi => by rw [show G.xsl = [] from hx] at hi; cases hi⟩
/-! ### names -/
theorem ix_some {N : List Str} {x : Str} {i : Nat} (h : N.findIdx? (· == x) = some i) : N[i]? = some x := by
  obtain ⟨h1, h2, _⟩ := List.findIdx?_eq_some_iff_getElem.mp h
  rw [List.getElem?_eq_getElem h1, eq_of_beq h2]
theorem nmOk_of {x : Str} (h : nmOk x = true) : (x == ("__debug__" : Str)) = false ∧ (x == ("__classdict__" : Str)) = false ∧ x ≠ "__name__" := by
  unfold nmOk at h
  simp only [Bool.and_eq_true, Bool.not_eq_true', decide_eq_false_iff_not] at h
  exact ⟨h.1.1, h.1.2, h.2⟩
theorem visB_of {sc : Scope} {x : Str} (h : visB sc x = true) : Vis sc x := by
  unfold visB at h
  split at h
  · exact .inl (by assumption)
  · exact .inr (.inl (by assumption))
  · exact .inr (.inr (by assumption))
  · cases h
theorem locB_of {sc : Scope} {x : Str} (h : locB sc x = true) : L2.Loc sc x := by
  unfold locB at h
  split at h
  · exact .inl (by assumption)
  · exact .inr (by assumption)
  · cases h
theorem GX.gl (g : GX X p G M T ct W ex) {x : Str} (h : glB G.sc x = true) : Gl X x := by
  unfold glB at h
  show X.env.scope.names.lookup x = _
  rw [g.sc]
  split at h
  · assumption
  · cases h
theorem GX.var (g : GX X p G M T ct W ex) {x : Str} {i : Nat} (h : slot G x = some i) (pos : Pos) : PE X (.Name x pos) (tVar i) ∧ X.N[i]? = some x ∧ Vis X.env.scope x ∧ nmOk x = true := by
  obtain ⟨h1, h2⟩ := gd_some h
  simp only [Bool.and_eq_true] at h1
  obtain ⟨a, b, _⟩ := nmOk_of h1.1
  have hi : X.N[i]? = some x := by rw [g.N]; exact ix_some h2
  have hv : Vis X.env.scope x := by rw [g.sc]; exact visB_of h1.2
  exact ⟨pe_var hi hv a b, hi, hv, h1.1⟩
def plainC : C → Bool
  | .own _ => false
  | .star _ => false
  | _ => true
theorem plainC_own {c : C} (h : plainC c = true) : isOwn c = none := by cases c <;> first | rfl | cases h
/-- what is never read as an expression here -/
def okX : Expr → Bool
  | .Set _ _ _ => false
  | .Starred _ _ => false
  | .Slice _ _ _ _ => false
  | .SetComp _ _ _ _ => false
  | .DictComp _ _ _ _ _ => false
  | _ => true
/-- what a step's parts are known to be -/
structure Snd (M : MT) (r : Rec) : Prop where
  e : ∀ {X p G T ct W ex}, GX X p G M T ct W ex → ∀ {e c}, r false G e = some c → plainC c = true ∧ PE X e (tX p W false (denE T ct c)) ∧ okX e = true
  t : ∀ {X p G T ct W ex}, GX X p G M T ct W ex → ∀ {e c}, r true G e = some c → PT X e (tB p W (denT T ct c))
theorem Snd.a (S : Snd M r) (g : GX X p G M T ct W ex) {e : Expr} {c : C} (h : cA r G e = some c) : PE X e (tY p W c (denE T ct c)) ∧ (∀ a, c ≠ .star a) ∧ okX e = true := by
  unfold cA at h
  split at h
  · rename_i i hi
    cases h
    unfold ownE at hi
    split at hi
    · rename_i x pos
      obtain ⟨j, h1, h2⟩ := bd_some hi
      obtain ⟨h3, h4⟩ := gd_some h2
      cases h4
      exact ⟨x_own (by rw [g.own]; exact List.contains_iff_mem.mp h3) (g.var h1 pos).1, fun a e => (by cases e), rfl⟩
    · cases hi
  · obtain ⟨h1, h2, h3⟩ := S.e g h
    exact ⟨x_arg (plainC_own h1) h2, fun a e => (by subst e; cases h1), h3⟩
theorem star_cons {e : Expr} {es : List Expr} {env : Env} (h : (match e with | .Starred _ _ => false | _ => true) = true) : starEach (e :: es) env = (false, eval e env) :: starEach es env := by
  cases e <;> first | rfl | cases h
def noSt : Expr → Bool
  | .Starred _ _ => false
  | _ => true
theorem star_any : ∀ {es : List Expr} {env : Env} {pos : Pos}, es.all noSt = true → (backTo pos (starEach es env)).any (·.1) = false
  | [], _, _, _ => rfl
  | e :: es, env, pos, h => by
    simp only [List.all_cons, Bool.and_eq_true] at h
    rw [star_cons (by cases e <;> first | rfl | exact h.1)]
    show (false || (backTo pos (starEach es env)).any (·.1)) = false
    rw [star_any h.2]; rfl
theorem star_all : ∀ {es : List Expr} {env : Env} {pos : Pos}, es.all noSt = true → (backTo pos (starEach es env)).all (fun x => !x.1) = true
  | [], _, _, _ => rfl
  | e :: es, env, pos, h => by
    simp only [List.all_cons, Bool.and_eq_true] at h
    rw [star_cons (by cases e <;> first | rfl | exact h.1)]
    show (!false && (backTo pos (starEach es env)).all (fun x => !x.1)) = true
    rw [star_all h.2]; rfl
theorem denL_cons {T : Tab} {ct : CT} {c l : C} (hc : ∀ a, c ≠ .star a) : denL T ct (.cons c l) = fun ρ => (denE T ct c ρ).bind fun x ρ1 => (denL T ct l ρ1).bind fun xs ρ2 => .ok (x :: xs) ρ2 := by
  funext ρ
  cases c <;> first | rfl | exact absurd rfl (hc _)
theorem lenL_cons {T : Tab} {ct : CT} {c l : C} (hc : ∀ a, c ≠ .star a) {n : Nat} (h : ∀ ρ ds ρ', denL T ct l ρ = .ok ds ρ' → ds.length = n) : ∀ ρ ds ρ', denL T ct (.cons c l) ρ = .ok ds ρ' → ds.length = n + 1 := fun ρ ds ρ' e => by
  rw [denL_cons hc] at e
  cases e1 : denE T ct c ρ with
  | ok x ρ1 =>
    simp only [e1, R.bind] at e
    cases e2 : denL T ct l ρ1 with
    | ok xs ρ2 => simp only [e2] at e; cases e; rw [List.length_cons, h _ _ _ e2]
    | exn _ _ => simp only [e2] at e; cases e
    | bad => simp only [e2] at e; cases e
  | exn _ _ => simp only [e1, R.bind] at e; cases e
  | bad => simp only [e1, R.bind] at e; cases e
theorem Snd.l (S : Snd M r) (g : GX X p G M T ct W ex) : ∀ {es : List Expr} {l : C}, cL r G es = some l → PA X es (tAG p W (gA p l) (denL T ct l)) ∧ es.all noSt = true ∧ (∀ ρ ds ρ', denL T ct l ρ = .ok ds ρ' → ds.length = es.length)
  | [], l, h => by cases h; exact ⟨a_nil, rfl, fun ρ ds ρ' e => by cases e; rfl⟩
  | e :: es, l, h => by
    obtain ⟨h1, h2⟩ := gd_some h
    obtain ⟨c, h3, h4⟩ := bd_some h2
    obtain ⟨l', h5, h6⟩ := bd_some h4
    cases h6
    obtain ⟨p1, p2, _⟩ := S.a g h3
    obtain ⟨q1, q2, q3⟩ := S.l g h5
    refine ⟨?_, ?_, lenL_cons p2 q3⟩
    · rw [denL_cons p2]
      exact a_cons p1 q1 (star_cons h1)
    · rw [List.all_cons, q2, Bool.and_true]
      cases e <;> first | rfl | cases h1
theorem Snd.and (S : Snd M r) (g : GX X p G M T ct W ex) {pos : Pos} : ∀ {es : List Expr} {c : C}, cAnd r G es = some c → plainC c = true ∧ PE X (.BoolOp .And es pos) (tX p W false (denE T ct c))
  | [], c, h => by cases h
  | [a], c, h => by
    obtain ⟨h1, h2, _⟩ := S.e g (show r false G a = some c from h)
    exact ⟨h1, pe_one h2⟩
  | a :: b :: es, c, h => by
    obtain ⟨ca, h1, h2⟩ := bd_some h
    obtain ⟨cb, h3, h4⟩ := bd_some h2
    cases h4
    exact ⟨rfl, x_and (S.e g h1).2.1 (S.and g h3).2⟩
theorem Snd.or (S : Snd M r) (g : GX X p G M T ct W ex) {pos : Pos} : ∀ {es : List Expr} {c : C}, cOr r G es = some c → plainC c = true ∧ PE X (.BoolOp .Or es pos) (tX p W false (denE T ct c))
  | [], c, h => by cases h
  | [a], c, h => by
    obtain ⟨h1, h2, _⟩ := S.e g (show r false G a = some c from h)
    exact ⟨h1, pe_one h2⟩
  | a :: b :: es, c, h => by
    obtain ⟨ca, h1, h2⟩ := bd_some h
    obtain ⟨cb, h3, h4⟩ := bd_some h2
    cases h4
    exact ⟨rfl, x_or (S.e g h1).2.1 (S.or g h3).2⟩
theorem Snd.tand (S : Snd M r) (g : GX X p G M T ct W ex) {pos : Pos} : ∀ {es : List Expr} {c : C}, cTAnd r G es = some c → PW X (.BoolOp .And es pos) (tB p W (denT T ct c))
  | [], c, h => by cases h
  | [a], c, h => pw_and1 (S.t g (show r true G a = some c from h))
  | a :: b :: es, c, h => by
    obtain ⟨ca, h1, h2⟩ := bd_some h
    obtain ⟨cb, h3, h4⟩ := bd_some h2
    cases h4
    exact t_and (S.t g h1) (S.tand g h3)
theorem Snd.tor (S : Snd M r) (g : GX X p G M T ct W ex) {pos : Pos} : ∀ {es : List Expr} {c : C}, cTOr r G es = some c → PW X (.BoolOp .Or es pos) (tB p W (denT T ct c))
  | [], c, h => by cases h
  | [a], c, h => pw_or1 (S.t g (show r true G a = some c from h))
  | a :: b :: es, c, h => by
    obtain ⟨ca, h1, h2⟩ := bd_some h
    obtain ⟨cb, h3, h4⟩ := bd_some h2
    cases h4
    exact t_or (S.t g h1) (S.tor g h3)
theorem snd_const (g : GX X p G M T ct W ex) {k : Const} {j : Nat} {pos : Pos} {c : C} (h : cConst k = some c) : plainC c = true ∧ PE X (.Constant k j pos) (tX p W false (denE T ct c)) := by
  cases k <;> first | (cases h; done) | cases h
  · exact ⟨rfl, x_const (d := .none) (fun _ _ => .non) (fun _ e => by cases e) pe_non⟩
  · exact ⟨rfl, x_const (d := .bool _) (fun _ _ => .bl _) (fun _ e => by cases e) pe_bl⟩
  · exact ⟨rfl, x_const (d := .int _) (fun _ _ => .int _) (fun _ e => by cases e) pe_int⟩
  · exact ⟨rfl, x_const (d := .str _) (fun _ _ => .str _) (fun _ e => by cases e) pe_str⟩
theorem x_glob {x : Str} {pos : Pos} (g : GX X p G M T ct W ex) (hg : glB G.sc x = true) (hn : nmOk x = true) (hm : x ∈ M.dat) : PE X (.Name x pos) (tX p W false fun ρ => opt (T.gv x) ρ) := by
  cases hd : T.gv x with
  | none => exact ⟨fun pins s σ H Q I ⟨ρ, S, m⟩ => by exact False.elim m⟩
  | some d =>
    obtain ⟨v, u, h1, h2, h3⟩ := g.dat x hm d hd
    exact pe_imp (pe_glob (g.gl hg) h1 h2 (nmOk_of hn).1) fun σ H Q m => by
      obtain ⟨ρ, S, m⟩ := tG.ok (d := d) m
      exact m _ _ (fun _ _ h => h) (Got.no (h3 _ _))
theorem snd_name (g : GX X p G M T ct W ex) {x : Str} {pos : Pos} {c : C} (h : cName M G x = some c) : plainC c = true ∧ PE X (.Name x pos) (tX p W false (denE T ct c)) := by
  unfold cName at h
  split at h
  · rename_i i hi
    obtain ⟨h1, h2⟩ := gd_some h
    cases h2
    exact ⟨rfl, x_var (by rw [g.own]; simpa using h1) (g.var hi pos).1⟩
  · obtain ⟨h1, h2⟩ := gd_some h
    cases h2
    simp only [Bool.and_eq_true] at h1
    exact ⟨rfl, x_glob g h1.1.2 h1.1.1 (List.contains_iff_mem.mp h1.2)⟩
theorem ok_op {o : Operator} {o' : Op} (h : cOp o = some o') : OpOk X (binaryOp o) (opD o') := by
  cases o <;> first | (cases h; done) | cases h
  · exact ok_add
  · exact ok_sub
  · exact ok_mul
  · exact ok_mod
  · exact ok_pow
  · exact ok_fdiv
theorem cm_op (o : CmpOp) : cmOp (cCm o) = o := by cases o <;> rfl
theorem ok_cm (hu : X.A.units + 65 < cLine) (o : CmpOp) : OpOk X (compareOp o) (fun d e => (cmpD (cCm o) d e).map .bool) := by
  have := ok_cmp (X := X) hu (cCm o)
  rwa [cm_op] at this
end
end Z

/-! N1: sets of nested tuple keys: what the model asks of such a key, and the search. -/
namespace N
open PySem PySem.Spec PyProof.Rows L2

section
variable {P : Program} {w : World} {A : Around} {E : Value → Shared → Prop} {s : Shared}

/-- of no class statement, n levels down -/
def NoCls (P : Program) (w : World) (n : Nat) (s : Shared) (v : Value) : Prop := ∀ (A : Around) (E : Value → Shared → Prop) (Q : Bool → Shared → Prop), Q false s → wpAny (model P w) A (ofAClassStatement n v) Q E s
theorem NoCls.flat {n : Nat} {v : Value} (h : ∀ a, v ≠ .ref a) : NoCls P w n s v := fun A E Q q => by
  cases v with
  | ref a => exact absurd rfl (h a)
  | _ => cases n <;> exact wpAny_pure q
theorem NoCls.tuple {n : Nat} {a : Addr} {o : Obj} {vs : Array Value} {m : Nat} (ho : s.heap.get? a = some o) (hc : o.cls = .type "tuple") (hd : o.data = .seq vs m) (hq : ∀ v ∈ vs.toList, NoCls P w n s v) : NoCls P w (n + 1) s (.ref a) := fun A E Q h => by
  have hT : s.TypeIs (.ref a) "tuple" := ⟨o, ho, hc⟩
  unfold ofAClassStatement
  refine wpAny_bind (wpAny_typeOf hT ?_)
  dsimp only
  have e : (("tuple" : String) == "tuple") = true := by decide
  simp only [e, if_true, Bool.not_true, Bool.false_eq_true, if_false]
  try refine wpAny_bind (wpAny_pure ?_)
  try simp only [Bool.not_true, Bool.false_eq_true, if_false]
  show wpAny _ _ (seqItems? (.ref a) >>= _) _ _ s
  refine wpAny_bind (wpAny_seqItems ho hd ?_)
  dsimp only
  refine wpAny_bind ?_
  show wpAny _ _ (forIn vs _ _) _ _ s
  rw [← Array.forIn_toList]
  refine wpAny_forIn_list _ (fun rest r s' => r.1 = none ∧ s' = s ∧ ∀ v ∈ rest, NoCls P w n s v) _ ?_ ?_ _ _ ⟨rfl, rfl, hq⟩
  · rintro v rest r s' ⟨hr, rfl, hall⟩
    refine wpAny_bind (hall v List.mem_cons_self _ _ _ ?_)
    simp only [Bool.false_eq_true, if_false]
    exact wpAny_pure ⟨rfl, rfl, fun u hu' => hall u (List.mem_cons_of_mem _ hu')⟩
  · rintro ⟨r1, r2⟩ s' ⟨hr, rfl, _⟩
    simp only at hr
    subst hr
    exact wpAny_pure h
mutual
theorem cls_key : ∀ (k : NestedKey) (v : Value) (n : Nat), NestedIs s.heap k v → k.depth ≤ n → NoCls P w n s v
  | .none, _, n, x, _ => by cases x; exact .flat (fun a e => by cases e)
  | .num i, _, n, x, _ => by cases x <;> exact .flat (fun a e => by cases e)
  | .text y, _, n, x, _ => by cases x; exact .flat (fun a e => by cases e)
  | .tup ks, _, n, x, hn => by
    cases x with
    | tup hg hc hd hk =>
      simp only [NestedKey.depth] at hn
      cases n with
      | zero => omega
      | succ n => exact .tuple hg hc hd (cls_keys ks _ n hk (by omega))
theorem cls_keys : ∀ (ks : List NestedKey) (vs : List Value) (n : Nat), NestedAll s.heap ks vs → NestedKey.depthAll ks ≤ n → ∀ v ∈ vs, NoCls P w n s v
  | [], _, n, x, _, v, hv => by cases x; cases hv
  | k :: ks, _, n, x, hn, v, hv => by
    cases x with
    | cons x1 x2 =>
      simp only [NestedKey.depthAll] at hn
      rcases List.mem_cons.mp hv with e | hv
      · rw [e]; exact cls_key k _ n x1 (by omega)
      · exact cls_keys ks _ n x2 (by omega) v hv
end

/-- whether it is hashed by value: asked without a trace -/
def HbAt (P : Program) (w : World) (n : Nat) (s : Shared) (v : Value) : Prop := ∀ (A : Around) (E : Value → Shared → Prop) (Q : Bool → Shared → Prop), (∀ b, Q b s) → wpAny (model P w) A (hashByValue n v) Q E s
theorem HbAt.tuple {n : Nat} {a : Addr} {o : Obj} {vs : Array Value} {m : Nat} (ho : s.heap.get? a = some o) (hc : o.cls = .type "tuple") (hd : o.data = .seq vs m) (hq : ∀ v ∈ vs.toList, HbAt P w n s v) : HbAt P w (n + 1) s (.ref a) := fun A E Q h => by
  have hT : s.TypeIs (.ref a) "tuple" := ⟨o, ho, hc⟩
  unfold hashByValue
  refine wpAny_bind (wpAny_specialOf hT F.slot_tuple_hash.lookup ?_)
  show wpAny _ _ (seqItems? (.ref a) >>= _) _ _ s
  refine wpAny_bind (wpAny_seqItems ho hd ?_)
  refine wpAny_bind ?_
  show wpAny _ _ (forIn vs _ _) _ _ s
  rw [← Array.forIn_toList]
  refine wpAny_forIn_list _ (fun rest r s' => (r.1 = none ∨ ∃ b, r.1 = some b) ∧ s' = s ∧ ∀ v ∈ rest, HbAt P w n s v) _ ?_ ?_ _ _ ⟨.inl rfl, rfl, hq⟩
  · rintro v rest r s' ⟨hr, rfl, hall⟩
    refine wpAny_bind (hall v List.mem_cons_self _ _ _ fun b => ?_)
    cases b
    · simp only [Bool.not_false, if_true]
      exact wpAny_pure (wpAny_pure (h false))
    · simp only [Bool.not_true, Bool.false_eq_true, if_false]
      exact wpAny_pure ⟨.inl rfl, rfl, fun u hu' => hall u (List.mem_cons_of_mem _ hu')⟩
  · rintro ⟨r1, r2⟩ s' ⟨hr, rfl, _⟩
    simp only at hr
    rcases hr with e | ⟨b, e⟩
    · subst e; exact wpAny_pure (h true)
    · subst e; exact wpAny_pure (h b)
mutual
theorem hb_key : ∀ (k : NestedKey) (v : Value) (n : Nat), NestedIs s.heap k v → k.depth ≤ n → HbAt P w n s v
  | .none, _, n, x, _ => by cases x; intro A E Q q; cases n <;> exact wpAny_pure (q _)
  | .num i, _, n, x, _ => by cases x <;> (intro A E Q q; cases n <;> exact wpAny_pure (q _))
  | .text y, _, n, x, _ => by cases x; intro A E Q q; cases n <;> exact wpAny_pure (q _)
  | .tup ks, _, n, x, hn => by
    cases x with
    | tup hg hc hd hk =>
      simp only [NestedKey.depth] at hn
      cases n with
      | zero => omega
      | succ n => exact .tuple hg hc hd (hb_keys ks _ n hk (by omega))
theorem hb_keys : ∀ (ks : List NestedKey) (vs : List Value) (n : Nat), NestedAll s.heap ks vs → NestedKey.depthAll ks ≤ n → ∀ v ∈ vs, HbAt P w n s v
  | [], _, n, x, _, v, hv => by cases x; cases hv
  | k :: ks, _, n, x, hn, v, hv => by
    cases x with
    | cons x1 x2 =>
      simp only [NestedKey.depthAll] at hn
      rcases List.mem_cons.mp hv with e | hv
      · rw [e]; exact hb_key k _ n x1 (by omega)
      · exact hb_keys ks _ n x2 (by omega) v hv
end

/-- the value is a tuple that is this key -/
structure Is (h : Heap) (k : NestedKey) (b : Addr) : Prop where
  is : NestedIs h k (.ref b)
  dp : k.depth ≤ 8
theorem Is.keep {h h' : Heap} {k : NestedKey} {b : Addr} (x : Is h k b) (hk : ∀ c o, h.get? c = some o → h'.get? c = some o) : Is h' k b :=
  ⟨NestedIs.at (fun a o _ _ ho _ => hk a o ho) k _ x.is, x.dp⟩
theorem Is.same {h h' : Heap} {k : NestedKey} {a b : Addr} {o : Obj} {es : Array (Int × Value)} {ep : Nat} {t : SetTable} (x : Is h k b) (ho : h.get? a = some o) (hd : o.data = .set es ep t) (hs : Heap.SameBut a h h') : Is h' k b :=
  ⟨NestedIs.at (fun c ob vs n hb hc => (hs.2 c fun e => by subst e; rw [ho] at hb; cases hb; rw [hd] at hc; cases hc).trans hb) k _ x.is, x.dp⟩

/-- a search among such keys shows nothing -/
theorem seen_n {k : NestedKey} {b : Addr} {Q : Bool → Shared → Prop} (hk : Is s.heap k b) {ys : List Value} (hy : ∀ y ∈ ys, ∃ k' c, y = Value.ref c ∧ Is s.heap k' c) (h : Q false s) :
    wpAny (model P w) A (searchCouldBeSeen (.ref b) ys) Q E s := by
  unfold searchCouldBeSeen
  refine wpAny_bind ?_
  refine wpAny_forIn_list _ (fun rest r s' => r.1 = none ∧ s' = s ∧ ∀ y ∈ rest, ∃ k' c, y = Value.ref c ∧ Is s.heap k' c) _ ?_ ?_ _ _ ⟨rfl, rfl, hy⟩
  · rintro v rest r s' ⟨hr, rfl, hall⟩
    obtain ⟨k', c, rfl, hc⟩ := hall v List.mem_cons_self
    have rest' : ∀ y ∈ rest, ∃ k' c, y = Value.ref c ∧ Is s'.heap k' c := fun u hu' => hall u (List.mem_cons_of_mem _ hu')
    dsimp only
    by_cases hv : (b == c || (carriedByValue (.ref b) && carriedByValue (.ref c))) = true
    · refine wp_if_pos hv ?_
      exact wpAny_pure ⟨rfl, rfl, rest'⟩
    · refine wp_if_neg hv ?_
      refine wpAny_bind (quiet_key k _ 8 _ hk.is hk.dp _ _ _ ?_)
      simp only [Bool.not_true, Bool.false_eq_true, if_false]
      refine wpAny_bind (quiet_key k' _ 8 _ hc.is hc.dp _ _ _ ?_)
      simp only [Bool.not_true, Bool.false_eq_true, if_false]
      refine wpAny_bind (cls_key k _ 8 hk.is hk.dp _ _ _ ?_)
      simp only [Bool.false_eq_true, if_false]
      refine wpAny_bind (cls_key k' _ 8 hc.is hc.dp _ _ _ ?_)
      simp only [Bool.false_eq_true, if_false]
      exact wpAny_pure ⟨rfl, rfl, rest'⟩
  · rintro ⟨r1, r2⟩ s' ⟨hr, rfl, _⟩
    simp only at hr
    subst hr
    exact wpAny_pure h
theorem eq_n {x y : NestedKey} {a b : Addr} {Q : Bool → Shared → Prop} (hu : A.units + 8 < cLine) (hx : Is s.heap x a) (hy : Is s.heap y b) (h : Q (decide (x = y)) s) : wpAny (model P w) A (eqBool (.ref a) (.ref b)) Q E s :=
  (nestedKind P w).eqBool (x := x) (y := y) hu ⟨hx.is, hx.dp⟩ ⟨hy.is, hy.dp⟩ h
end
end N

/-! N2: a set of nested tuple keys: the search, the table laid anew, the add. -/
namespace N
open PySem PySem.Spec PyProof.Rows L2
abbrev Row := (Int × Value) × NestedKey
/-- the m-th look on a hash's way -/
abbrev look (m : Nat) (h : Int) (c : Nat) : SetTable.Probe := nth m (runAt m (SetTable.bits h % (m + 1)) (SetTable.bits h)) c
theorem look_add (m : Nat) (h : Int) (c q : Nat) : nth m (look m h c) q = look m h (c + q) := (nth_add m c _ q).symm
theorem nth_dummy (m : Nat) : ∀ (n : Nat) (p : SetTable.Probe), p.dummy = none → (nth m p n).dummy = none
  | 0, _, h => h
  | n + 1, p, h => nth_dummy m n (adv m p) (by unfold adv; split <;> exact h)

/-- what lies in the set: rows with their keys -/
structure SR (w : World) (h : Heap) (a : Addr) (M : List Row) (es : Array (Int × Value)) (ep : Nat) (t : SetTable) : Prop where
  ob : ∃ o, h.get? a = some o ∧ o.ExactSet ∧ o.data = .set es ep t
  rows : M.map (·.1) = es.toList
  ok : ∀ m ∈ M, m.1.1 = m.2.hash w ∧ ∃ b, m.1.2 = .ref b ∧ Is h m.2 b
  tab : TabOk t (M.map fun m => m.1.1)
  nd : (M.map (·.2)).Nodup
  room : M.length * 5 < t.mask * 3

section
variable {P : Program} {w : World} {A : Around} {E : Value → Shared → Prop} {s : Shared}
variable {h0 : Heap} {a : Addr} {M : List Row} {es : Array (Int × Value)} {ep : Nat} {t : SetTable}
theorem SR.size (R : SR w h0 a M es ep t) : es.size = M.length := by
  have h := congrArg List.length R.rows
  rw [List.length_map, Array.length_toList] at h
  exact h.symm
theorem fits_of {n : Nat} (h1 : t.place.size = n) (h2 : t.dummies = #[]) (h3 : n ≤ t.mask) : t.fits n = true := by
  unfold SetTable.fits SetTable.fill
  rw [h2, Bool.and_eq_true, beq_iff_eq, decide_eq_true_eq]
  show t.place.size = n ∧ t.place.size + 0 ≤ t.mask
  omega
theorem SR.psize (R : SR w h0 a M es ep t) : t.place.size = M.length := R.tab.sz.trans (List.length_map _)
theorem SR.fits (R : SR w h0 a M es ep t) : t.fits es.size = true :=
  fits_of (by rw [R.psize, R.size]) R.tab.dm (by rw [R.size]; have := R.room; omega)
theorem SR.entry (R : SR w h0 a M es ep t) {i : Nat} {m : Row} (h : M[i]? = some m) : es[i]? = some m.1 := by
  rw [← Array.getElem?_toList, ← R.rows, List.getElem?_map, h] <;> rfl
theorem SR.gw (R : SR w h0 a M es ep t) : ¬ t.gaveWay = true := by
  unfold SetTable.gaveWay
  rw [mask_odd R.tab.mok]
  decide
theorem SR.live (R : SR w h0 a M es ep t) {i j : Nat} (h : t.place.toList[i]? = some j) : ∃ m, M[i]? = some m := by
  have h1 : i < t.place.toList.length := (List.getElem?_eq_some_iff.mp h).1
  have h2 := R.psize
  rw [Array.length_toList] at h1
  exact ⟨M[i], List.getElem?_eq_getElem (by omega)⟩

/-- the search from the c-th look on -/
theorem search_from (R : SR w s.heap a M es ep t) {x : Addr} {k : NestedKey} (hx : Is s.heap k x) (hu : A.units + 8 < cLine) {K : Nat} (hKf : K < 10 * SetTable.turns t.mask)
    (hK : way t.mask (k.hash w) K ∉ t.place.toList) (hKb : ∀ c, c < K → way t.mask (k.hash w) c ∈ t.place.toList) {Q : SetFound → Shared → Prop}
    (hin : k ∈ M.map (·.2) → Q (.there none) s) (hout : k ∉ M.map (·.2) → Q (.free (way t.mask (k.hash w) K) false) s) :
    ∀ (f c : Nat) (stand : Option SetTable.Probe), stand.getD (t.probeStart (k.hash w)) = look t.mask (k.hash w) c → c ≤ K → K - c < f →
      (∀ (i : Nat) m, M[i]? = some m → m.2 = k → ∃ c', c ≤ c' ∧ c' < K ∧ t.place.toList[i]? = some (way t.mask (k.hash w) c')) →
      wpAny (model P w) A (setSearchFrom a (.ref x) (k.hash w) true f stand) Q E s
  | 0, c, stand, _, _, hf, _ => absurd hf (Nat.not_lt_zero _)
  | f + 1, c, stand, hst, hc, hf, hre => by
    obtain ⟨o, ho, hex, hd⟩ := R.ob
    have e1 : ∀ q, (nth t.mask (look t.mask (k.hash w) c) q).j = way t.mask (k.hash w) (c + q) := fun q => congrArg SetTable.Probe.j (look_add t.mask (k.hash w) c q)
    have hashAt : ∀ (i : Nat) m, M[i]? = some m → (fun i => (es[i]?.map (·.1)).getD 0) i = m.1.1 := fun i m hm => by
      show (es[i]?.map (·.1)).getD 0 = _
      rw [R.entry hm] <;> rfl
    have spec := go_spec t R.tab.ris R.tab.dm (fun i => (es[i]?.map (·.1)).getD 0) (k.hash w) (10 * SetTable.turns t.mask) (K - c) (look t.mask (k.hash w) c) (nth_dummy _ _ _ rfl) (by omega)
      (fun q hq => by rw [e1]; exact hKb (c + q) (by omega)) (by rw [e1, show c + (K - c) = K by omega]; exact hK)
    -- an equal key is not passed
    have hkh : ∀ (i : Nat) m, M[i]? = some m → m.2 = k → (fun i => (es[i]?.map (·.1)).getD 0) i = k.hash w := fun i m hm hk => by
      rw [hashAt i m hm, (R.ok m (List.mem_of_getElem? hm)).1, hk]
    rw [setSearchFrom_succ]
    refine wpAny_bind (wpAny_setState_of ho hd R.fits ?_)
    dsimp only
    refine wp_if_neg R.gw ?_
    try refine wpAny_bind (wpAny_pure ?_)
    rcases spec with ⟨q, i, hq, hi, hh, hno, hpr⟩ | ⟨hno, hpr⟩
    · have hpr' : t.probe (fun i => (es[i]?.map (·.1)).getD 0) (k.hash w) (stand.getD (t.probeStart (k.hash w))) = some (.candidate (way t.mask (k.hash w) (c + q)) i (look t.mask (k.hash w) (c + (q + 1)))) := by
        rw [hst, ← e1, ← look_add]
        exact hpr
      rw [hpr']
      dsimp only
      rw [e1] at hi
      obtain ⟨m, hm⟩ := R.live hi
      have hmem : m ∈ M := List.mem_of_getElem? hm
      obtain ⟨hmh, b, hb, hbi⟩ := R.ok m hmem
      have hen : es[i]? = some (m.1.1, Value.ref b) := by rw [R.entry hm, ← hb]
      have rest : wpAny (model P w) A (searchRest a (.ref x) (k.hash w) true f es t (way t.mask (k.hash w) (c + q)) i (look t.mask (k.hash w) (c + (q + 1)))) Q E s := by
        unfold searchRest
        rw [hen]
        dsimp only
        refine wpAny_bind (wpAny_holding (eq_n hu hbi hx ?_))
        refine wpAny_bind (wpAny_setState_of ho hd R.fits ?_)
        dsimp only
        by_cases hkk : m.2 = k
        · refine wp_if_pos (by simp [hkk]) ?_
          exact wpAny_pure (hin (List.mem_map.mpr ⟨m, hmem, hkk⟩))
        · refine wp_if_neg (by simp [hkk]) ?_
          try refine wpAny_bind (wpAny_pure ?_)
          rw [sameMem]
          dsimp only
          have hsl : t.slot (way t.mask (k.hash w) (c + q)) = .live i := slot_live R.tab.ris hi
          simp only [if_true, hsl, hen]
          refine wpAny_bind (wpAny_isSame_ref_self (wpAny_bind (wpAny_pure ?_)))
          simp only [if_true]
          refine wp_if_neg (by simp [hkk]) ?_
          refine search_from R hx hu hKf hK hKb hin hout f (c + (q + 1)) _ rfl (by omega) (by omega) fun i0 m0 hm0 hk0 => ?_
          obtain ⟨c', a1, a2, a3⟩ := hre i0 m0 hm0 hk0
          refine ⟨c', ?_, a2, a3⟩
          rcases Nat.lt_trichotomy c' (c + q) with z | z | z
          · exact absurd (hkh i0 m0 hm0 hk0) (hno (c' - c) i0 (by omega) (by rw [e1, show c + (c' - c) = c' by omega]; exact a3))
          · rw [z] at a3
            have s0 := slot_live R.tab.ris a3
            rw [hsl] at s0
            injection s0 with s0
            rw [← s0, hm] at hm0
            exact absurd ((congrArg Prod.snd (Option.some.inj hm0)).trans hk0) hkk
          · omega
      by_cases hl : t.led = true
      · refine wp_if_neg (by simp [hl]) ?_
        try refine wpAny_bind (wpAny_pure ?_)
        exact rest
      · refine wp_if_pos (by simp [hl]) ?_
        refine wpAny_bind (seen_n hx (fun y hy => ?_) ?_)
        · obtain ⟨e, he, ee⟩ := List.mem_map.mp hy
          have he1 : e ∈ es ∧ e.1 = k.hash w := by simpa using he
          have he2 : e ∈ es.toList := by simpa using he1.1
          rw [← R.rows] at he2
          obtain ⟨m2, hm2, e2⟩ := List.mem_map.mp he2
          obtain ⟨_, b2, hb2, hi2⟩ := R.ok m2 hm2
          exact ⟨m2.2, b2, by rw [← ee, ← e2]; exact hb2, hi2⟩
        · refine wp_if_neg (by decide) ?_
          try refine wpAny_bind (wpAny_pure ?_)
          exact rest
    · have hpr' : t.probe (fun i => (es[i]?.map (·.1)).getD 0) (k.hash w) (stand.getD (t.probeStart (k.hash w))) = some (.empty (way t.mask (k.hash w) K) none) := by
        have e2 : way t.mask (k.hash w) K = (nth t.mask (look t.mask (k.hash w) c) (K - c)).j := by
          rw [e1, show c + (K - c) = K by omega]
        rw [hst, e2]
        exact hpr
      rw [hpr']
      dsimp only
      refine wpAny_pure (hout fun hmm => ?_)
      obtain ⟨m0, h0, hk0⟩ := List.mem_map.mp hmm
      obtain ⟨i0, hi0, e0⟩ := List.getElem_of_mem h0
      have h00 : M[i0]? = some m0 := by rw [List.getElem?_eq_getElem hi0, e0]
      obtain ⟨c', a1, a2, a3⟩ := hre i0 m0 h00 hk0
      exact absurd (hkh i0 m0 h00 hk0) (hno (c' - c) i0 (by omega) (by rw [e1, show c + (c' - c) = c' by omega]; exact a3))

theorem search_at (R : SR w s.heap a M es ep t) {x : Addr} {k : NestedKey} (hx : Is s.heap k x) (hu : A.units + 8 < cLine) {Q : SetFound → Shared → Prop}
    (hin : k ∈ M.map (·.2) → Q (.there none) s)
    (hout : ∀ K, k ∉ M.map (·.2) → way t.mask (k.hash w) K ∉ t.place.toList → (∀ c, c < K → way t.mask (k.hash w) c ∈ t.place.toList) → Q (.free (way t.mask (k.hash w) K) false) s) :
    wpAny (model P w) A (setSearch a (.ref x) (k.hash w) true) Q E s := by
  have hroom := R.room
  obtain ⟨K, hKf, hK, hKb⟩ := R.tab.first (by rw [List.length_map]; omega) (k.hash w)
  have hbig : K < 100000 := by
    have : 10 * SetTable.turns t.mask ≤ 1420 := by
      unfold SetTable.turns
      rcases R.tab.mok with e | e | e <;> omega
    omega
  unfold setSearch
  refine search_from R hx hu hKf hK hKb hin (fun hn => hout K hn hK hKb) 100000 0 none rfl (Nat.zero_le _) (by omega) fun i m hm hk => ?_
  have hi : (M.map fun m => m.1.1)[i]? = some (k.hash w) := by
    rw [List.getElem?_map, hm, ← hk, ← (R.ok m (List.mem_of_getElem? hm)).1] <;> rfl
  have hil : i < t.place.toList.length := by
    have h1 : i < M.length := (List.getElem?_eq_some_iff.mp hm).1
    have h2 := R.psize
    rw [Array.length_toList]
    omega
  have hj := List.getElem?_eq_getElem hil
  obtain ⟨c, hc, e⟩ := R.tab.before hK hi hj
  exact ⟨c, Nat.zero_le _, hc, by rw [hj, e]⟩
end
end N

/-! N3: a set of nested tuple keys: laid anew, and the add. -/
namespace N
open PySem PySem.Spec PyProof.Rows L2

/-- a permutation of images comes from one of the list -/
theorem perm_lift {α β : Type} (f : α → β) {m n : List β} (p : m.Perm n) : ∀ l : List α, l.map f = n → ∃ l' : List α, l'.map f = m ∧ l'.Perm l := by
  induction p with
  | nil =>
    intro l h
    cases l with
    | nil => exact ⟨[], rfl, .nil⟩
    | cons a l => simp at h
  | cons x _ ih =>
    intro l h
    cases l with
    | nil => simp at h
    | cons a l =>
      rw [List.map_cons] at h
      injection h with h1 h2
      obtain ⟨l', e, q⟩ := ih l h2
      exact ⟨a :: l', by rw [List.map_cons, h1, e], q.cons a⟩
  | swap x y l0 =>
    intro l h
    match l, h with
    | a :: b :: l, h =>
      simp only [List.map_cons] at h
      injection h with h1 h2
      injection h2 with h2 h3
      exact ⟨b :: a :: l, by simp only [List.map_cons, h1, h2, h3], .swap a b l⟩
  | trans _ _ ih1 ih2 =>
    intro l h
    obtain ⟨l1, e1, q1⟩ := ih2 l h
    obtain ⟨l2, e2, q2⟩ := ih1 l1 e1
    exact ⟨l2, e2, q2.trans q1⟩
theorem order_fst (es : Array (Int × Value)) : ∀ l : List Nat, (∀ i ∈ l, i < es.size) → (l.filterMap fun i => es[i]?).map (·.1) = l.map fun i => (es.map (·.1)).getD i 0
  | [], _ => rfl
  | i :: l, h => by
    have hi := h i List.mem_cons_self
    have e : es[i]? = some es[i] := Array.getElem?_eq_getElem hi
    rw [List.filterMap_cons_some e, List.map_cons, List.map_cons, order_fst es l fun j hj => h j (List.mem_cons_of_mem _ hj)]
    have e2 : (es.map (·.1)).getD i 0 = es[i].1 := by
      have e5 : (es.map (·.1))[i]? = some es[i].1 := by rw [Array.getElem?_map, e] <;> rfl
      simp [Array.getD_eq_getD_getElem?, e5]
    rw [e2]

section
variable {P : Program} {w : World} {A : Around} {E : Value → Shared → Prop} {s : Shared}
variable {a : Addr} {M : List Row} {es : Array (Int × Value)} {ep : Nat} {t : SetTable}
/-- what holds of a list of rows whatever their order -/
structure Rows (w : World) (h : Heap) (M : List Row) : Prop where
  ok : ∀ m ∈ M, m.1.1 = m.2.hash w ∧ ∃ b, m.1.2 = .ref b ∧ Is h m.2 b
  nd : (M.map (·.2)).Nodup
theorem Rows.perm {h : Heap} {M M' : List Row} (R : Rows w h M) (p : M'.Perm M) : Rows w h M' :=
  ⟨fun m hm => R.ok m (p.mem_iff.mp hm), (p.map (·.2)).nodup_iff.mpr R.nd⟩
theorem Rows.same {h h' : Heap} {o : Obj} (R : Rows w h M) (ho : h.get? a = some o) (hd : o.data = .set es ep t) (hs : Heap.SameBut a h h') : Rows w h' M :=
  ⟨fun m hm => by
    obtain ⟨e, b, hb, hi⟩ := R.ok m hm
    exact ⟨e, b, hb, hi.same ho hd hs⟩, R.nd⟩

/-- the table laid anew, larger -/
theorem relay_at {o : Obj} (ho : s.heap.get? a = some o) (hex : o.ExactSet) (hd : o.data = .set es ep t) (hrows : M.map (·.1) = es.toList) (R : Rows w s.heap M) (hf : t.fits es.size = true) (few : M.length < 64) {wanted m : Nat}
    (hw : SetTable.sizeAbove wanted - 1 = m) (hm : MaskOk m) (hw2 : SetTable.sizeAbove wanted ≤ 128) (hn : M.length * 5 < m * 3) {Q : Unit → Shared → Prop}
    (hQ : ∀ h' M' es' ep' t', Heap.SameBut a s.heap h' → SR w h' a M' es' ep' t' → M'.Perm M → Q () { s with heap := h' }) : wpAny (model P w) A (setRelay a wanted) Q E s := by
  have hsl : es.size = M.length := by
    have h := congrArg List.length hrows
    rw [List.length_map, Array.length_toList] at h
    exact h.symm
  obtain ⟨t', order, e, hp, T, em, el, ep', ed⟩ := relaid_ok t (hs := es.map (·.1)) (wanted := wanted) hw hm (by rw [Array.size_map, hsl]; omega)
  rw [Array.size_map] at hp
  have hlt : ∀ i ∈ order.toList, i < es.size := fun i hi => List.mem_range.mp (hp.mem_iff.mp hi)
  have hfm : (order.filterMap (es[·]?)).toList = order.toList.filterMap fun i => es[i]? := by
    first | exact Array.toList_filterMap .. | simp
  have pm : (order.filterMap (es[·]?)).toList.Perm es.toList := by
    rw [hfm]
    exact (hp.filterMap _).trans (by rw [filterMap_getElem?_range])
  obtain ⟨M', eM, pM⟩ := perm_lift (fun m : Row => m.1) pm M hrows
  have hh : (M'.map fun m => m.1.1) = order.toList.map fun i => (es.map (·.1)).getD i 0 := by
    rw [← order_fst es order.toList hlt, ← hfm, ← eM, List.map_map] <;> rfl
  rw [← hh] at T
  have hs2 : (order.filterMap (es[·]?)).size = es.size := by rw [← Array.length_toList, pm.length_eq, Array.length_toList]
  rw [setRelay_eq]
  refine wpAny_bind (wpAny_setState_of ho hd hf ?_)
  dsimp only
  refine wp_if_neg (by rw [sizeLine_eq]; omega) ?_
  try refine wpAny_bind (wpAny_pure ?_)
  rw [e]
  dsimp only
  refine wpAny_bind ?_
  refine wp_if_neg (by rw [hs2]; simp) ?_
  try refine wpAny_bind (wpAny_pure ?_)
  refine wpAny_pure ?_
  dsimp only
  refine wpAny_storeSet_of ho hd ?_ (by rw [hs2, hsl, sizeLine_eq]; omega)
  have sb : Heap.SameBut a s.heap (s.heap.update a (Obj.putSet (order.filterMap (es[·]?)) t')) := Heap.SameBut.update ..
  have R' := (R.perm pM).same ho hd sb
  exact hQ _ M' (order.filterMap (es[·]?)) (ep + 1) t' sb ⟨⟨_, store_at ho hd, ⟨hex.1, hex.2.1, hex.2.2⟩, rfl⟩, eM, R'.ok, T, R'.nd, by rw [pM.length_eq, em]; exact hn⟩ pM

/-- the add of a key -/
theorem add_at (R : SR w s.heap a M es ep t) {x : Addr} {k : NestedKey} (hx : Is s.heap k x) (hu : A.units + 8 < cLine) (hfew : M.length + 1 < 64) {Q : Bool → Shared → Prop}
    (hQ : ∀ b h' M' es' ep' t', Heap.SameBut a s.heap h' → SR w h' a M' es' ep' t' → (k ∈ M.map (·.2) → M' = M) → (k ∉ M.map (·.2) → M'.Perm (((k.hash w, .ref x), k) :: M)) → Q b { s with heap := h' }) :
    wpAny (model P w) A (setAddHashed a (.ref x) (k.hash w)) Q E s := by
  obtain ⟨o, ho, hex, hd⟩ := R.ob
  have hsl := R.size
  have hroom := R.room
  unfold setAddHashed
  refine wpAny_holding ?_
  rw [show (100000 : Nat) = 99999 + 1 from rfl, setAddHashedIn_succ]
  refine wpAny_bind (wpAny_setState_of ho hd R.fits ?_)
  dsimp only
  refine wp_if_neg (by simp [byScan, Value.scannable]) ?_
  try refine wpAny_bind (wpAny_pure ?_)
  refine wpAny_bind (search_at R hx hu (fun hm => ?_) fun K hm hK hb => ?_)
  · dsimp only
    exact wpAny_pure (hQ false s.heap M es ep t (Heap.SameBut.refl a s.heap) R (fun _ => rfl) fun z => absurd hm z)
  · dsimp only
    refine wpAny_bind (wpAny_setState_of ho hd R.fits ?_)
    dsimp only
    obtain ⟨q1, q2, q3, q4, q5, q6, q7, q8, q9⟩ := R.tab.put hK hb
    generalize hpt : t.put (way t.mask (k.hash w) K) = pt at q1 q3 q4 q5 q6 q7 q8 q9 ⊢
    obtain ⟨t1, p⟩ := pt
    dsimp only at q1 q3 q4 q5 q6 q7 q8 q9 ⊢
    subst q1
    have hin : ((M.take (SetTable.below t.place (way t.mask (k.hash w) K)) ++ ((k.hash w, Value.ref x), k) :: M.drop (SetTable.below t.place (way t.mask (k.hash w) K))).map (·.1)) = (SetTable.insertAt es (SetTable.below t.place (way t.mask (k.hash w) K)) (k.hash w, Value.ref x)).toList := by
      rw [SetTable.toList_insertAt, ← R.rows, List.map_append, List.map_cons, List.map_take, List.map_drop]
    generalize hpp : SetTable.below t.place (way t.mask (k.hash w) K) = p at q2 q3 hin ⊢
    have pm := put_perm M p ((k.hash w, Value.ref x), k)
    have hlen : (M.take p ++ ((k.hash w, Value.ref x), k) :: M.drop p).length = M.length + 1 := pm.length_eq
    have hhs : (M.take p ++ ((k.hash w, Value.ref x), k) :: M.drop p).map (fun m => m.1.1) = (M.map fun m => m.1.1).take p ++ k.hash w :: (M.map fun m => m.1.1).drop p := by
      rw [List.map_append, List.map_cons, List.map_take, List.map_drop]
    rw [← hhs] at q3
    have R1 : Rows w s.heap (M.take p ++ ((k.hash w, Value.ref x), k) :: M.drop p) := by
      refine Rows.perm ⟨fun m hmm => ?_, ?_⟩ pm
      · rcases List.mem_cons.mp hmm with e | hmm
        · rw [e]; exact ⟨rfl, x, rfl, hx⟩
        · exact R.ok m hmm
      · rw [List.map_cons]
        exact List.nodup_cons.mpr ⟨hm, R.nd⟩
    have hes : (SetTable.insertAt es p (k.hash w, Value.ref x)).size = M.length + 1 := by
      have h := congrArg List.length hin
      rw [List.length_map, hlen, Array.length_toList] at h
      exact h.symm
    generalize SetTable.insertAt es p (k.hash w, Value.ref x) = es1 at hin hes ⊢
    generalize M.take p ++ ((k.hash w, Value.ref x), k) :: M.drop p = M1 at pm hlen q3 R1 hin
    -- whether it is hashed by value changes the mark alone
    have tail : ∀ t2 : SetTable, t2.place = t1.place → t2.dummies = t1.dummies → t2.mask = t1.mask → (∀ hs, TabOk t1 hs → TabOk t2 hs) → wpAny (model P w) A (do
        storeSet a es1 t2
        if !false && t2.tooFull then setRelay a (SetTable.grown (es.size + 1))
        return true) Q E s := fun t2 z1 z2 z3 z4 => by
      refine wpAny_bind (wpAny_storeSet_of ho hd ?_ (by rw [hes, sizeLine_eq]; omega))
      have sb : Heap.SameBut a s.heap (s.heap.update a (Obj.putSet es1 t2)) := Heap.SameBut.update ..
      have ho1 := store_at (es' := es1) (t' := t2) ho hd
      have R2 := R1.same ho hd sb
      generalize s.heap.update a (Obj.putSet es1 t2) = h1 at sb ho1 R2 ⊢
      have q32 := z4 _ q3
      have hfill : t2.fill = M.length + 1 := by
        have q9' := q9
        unfold SetTable.fill at q9' ⊢
        rw [z1, z2, q9', List.length_map]
      have hsz1 : t2.place.size = es1.size := by
        have h := q32.sz
        rw [List.length_map, hlen] at h
        rw [h, hes]
      by_cases hf : t2.tooFull = true
      · first
          | (refine wpAny_bind ?_; refine wp_if_pos (by simp [hf]) ?_)
          | (refine wp_if_pos (by simp [hf]) ?_; refine wpAny_bind ?_)
        have hfull : (M.length + 1) * 5 ≥ t2.mask * 3 := by
          have h := hf
          unfold SetTable.tooFull at h
          rw [decide_eq_true_eq, hfill] at h
          exact h
        rw [hsl]
        have em : t2.mask = t.mask := z3.trans q4
        have cases2 : (t.mask = 7 ∧ M.length = 4) ∨ (t.mask = 31 ∧ M.length = 18) := by
          rcases R.tab.mok with e | e | e
          · left; rw [em, e] at hfull; rw [e] at hroom; exact ⟨e, by omega⟩
          · right; rw [em, e] at hfull; rw [e] at hroom; exact ⟨e, by omega⟩
          · exfalso; rw [em, e] at hfull; omega
        have go : ∀ m, SetTable.sizeAbove (SetTable.grown (M.length + 1)) - 1 = m → MaskOk m → SetTable.sizeAbove (SetTable.grown (M.length + 1)) ≤ 128 → (M.length + 1) * 5 < m * 3 →
            wpAny (model P w) A (setRelay a (SetTable.grown (M.length + 1))) (fun _ s' => wpAny (model P w) A (pure true) Q E s') E { s with heap := h1 } := fun m h1' h2' h3' h4' => by
          refine relay_at (s := { s with heap := h1 }) ho1 ⟨hex.1, hex.2.1, hex.2.2⟩ rfl hin R2 (fits_of hsz1 q32.dm (by rw [hes, em]; rcases cases2 with ⟨e, e2⟩ | ⟨e, e2⟩ <;> omega)) (by rw [hlen]; exact hfew) h1' h2' h3' (by rw [hlen]; exact h4') ?_
          intro h2 M2 es2 ep2 t3 sb2 S2 pm2
          refine wpAny_pure (hQ true h2 M2 es2 ep2 t3 (sb.trans sb2) S2 (fun z => absurd z hm) fun _ => pm2.trans pm)
        rcases cases2 with ⟨_, e2⟩ | ⟨_, e2⟩
        · refine go 31 (by rw [e2, size_20]) (.inr (.inl rfl)) (by rw [e2, size_20]; decide) (by omega)
        · refine go 127 (by rw [e2, size_76]) (.inr (.inr rfl)) (by rw [e2, size_76]; decide) (by omega)
      · first
          | refine wp_if_neg (by simp [hf]) ?_
          | (refine wpAny_bind ?_; refine wp_if_neg (by simp [hf]) ?_; refine wpAny_pure ?_)
        refine wpAny_pure (hQ true h1 M1 es1 (ep + 1) t2 sb ⟨⟨_, ho1, ⟨hex.1, hex.2.1, hex.2.2⟩, rfl⟩, hin, R2.ok, q32, R2.nd, ?_⟩ (fun z => absurd z hm) fun _ => pm)
        have h := hf
        unfold SetTable.tooFull at h
        rw [decide_eq_true_eq, hfill] at h
        rw [hlen]
        omega
    have plainOff : ∀ hs, TabOk t1 hs → TabOk { t1 with plain := false } hs := fun hs T => ⟨T.ris, T.dm, T.sz, T.mok, T.bd, T.reach⟩
    by_cases hp1 : t1.plain = true
    · first
        | (refine wpAny_bind ?_; refine wp_if_pos hp1 ?_; refine hb_key k _ 8 hx.is hx.dp _ _ _ fun b => ?_)
        | refine wp_if_pos hp1 (wpAny_bind (hb_key k _ 8 hx.is hx.dp _ _ _ fun b => ?_))
      cases b
      · simp only [Bool.false_eq_true, if_false]
        exact tail _ rfl rfl rfl plainOff
      · simp only [if_true]
        exact tail _ rfl rfl rfl fun _ z => z
    · first
        | (refine wpAny_bind ?_; refine wp_if_neg hp1 ?_; refine wpAny_pure ?_)
        | refine wp_if_neg hp1 (wpAny_bind (wpAny_pure ?_))
        | refine wp_if_neg hp1 ?_
      simp only [if_true]
      exact tail _ rfl rfl rfl fun _ z => z
theorem sr_fresh {h : Heap} {b : Bool} (ho : h.get? a = some { cls := .type "set", dict := none, data := .set #[] 0 (.fresh 0 0 b) }) : SR w h a [] #[] 0 (.fresh 0 0 b) where
  ob := ⟨_, ho, ⟨rfl, rfl, rfl⟩, rfl⟩
  rows := rfl
  ok := fun m hm => nomatch hm
  tab := ⟨List.Pairwise.nil, rfl, rfl, .inl rfl, fun x hx => (by cases hx), fun i h j hi => (by simp at hi)⟩
  nd := List.nodup_nil
  room := by
    show 0 * 5 < 7 * 3
    decide
theorem SR.keep {h h' : Heap} (R : SR w h a M es ep t) (hk : ∀ c o, h.get? c = some o → h'.get? c = some o) : SR w h' a M es ep t := by
  obtain ⟨o, ho, r⟩ := R.ob
  exact ⟨⟨o, hk a o ho, r⟩, R.rows, fun m hm => by
    obtain ⟨e, b, hb, hi⟩ := R.ok m hm
    exact ⟨e, b, hb, hi.keep hk⟩, R.tab, R.nd, R.room⟩
end
end N

/-! N4: set(x) of a tuple whose items all are texts, or all nested tuple keys; len of it. -/
namespace N
open PySem PySem.Spec PyProof.Rows L2
open Z (limS)

section
variable {P : Program} {w : World} {A : Around} {E : Value → Shared → Prop} {s : Shared}

/-- a text that is there is not added -/
theorem add_dup {a : Addr} {T : String} {D : Froz.SD} {l : List Str} {k : Str} {u : Tok} {Q : Bool → Shared → Prop} (ho : s.heap.get? a = some (Froz.sObj T D)) (F : Froz.TxOk P w D l) (hk : k ∈ l) (hb : l.length < scanBound)
    (h : Q false s) : wpAny (model P w) A (setAddHashed a (.str k u) (hashStr w k)) Q E s := by
  obtain ⟨es, ep, t⟩ := D
  have hd : (Froz.sObj T (es, ep, t)).data = .set es ep t := rfl
  have hf : t.fits es.size = true := F.fit
  have hel : ElemsOf (strKind P w) es.toList := F.el
  have hsz : es.size = l.length := F.sz
  have hkey : (strKind P w).is k (.str k u) = true := Froz.is_str k u
  obtain ⟨j, hj⟩ : ∃ j, List.findIdx? (fun e => (strKind P w).is k e.2) es.toList = some j := by
    cases hr : List.findIdx? (fun e => (strKind P w).is k e.2) es.toList with
    | some j => exact ⟨j, rfl⟩
    | none =>
      obtain ⟨e, he, z⟩ := (F.mem k).mp hk
      have q := List.findIdx?_eq_none_iff.mp hr e he
      rw [z] at q
      cases q
  unfold setAddHashed setAddHashedIn
  refine wpAny_holding (wpAny_bind (wpAny_setState_of ho hd hf ?_))
  dsimp only
  rw [byScan_of rfl (by omega) hel]
  simp only [↓reduceIte]
  unfold setAddByScan
  refine wpAny_bind ?_
  refine wpAny_bind (wpAny_rule ?_)
  refine wpAny_bind (wpAny_setScan_of (knd := strKind P w) (k := k) hkey ho hd hf hel ?_)
  rw [hj]
  dsimp only
  exact wpAny_pure (wpAny_pure h)

/-- what is put into the set: tuples, or texts -/
inductive El (h : Heap) : Bool → NestedKey → Value → Prop
  | tup {k b} : Is h k b → El h true k (.ref b)
  | txt (x u) : El h false (.text x) (.str x u)
theorem El.keep {h h' : Heap} {q : Bool} {k : NestedKey} {v : Value} (e : El h q k v) (hk : ∀ c o, h.get? c = some o → h'.get? c = some o) : El h' q k v := by
  cases e with
  | tup i => exact .tup (i.keep hk)
  | txt x u => exact .txt x u
/-- the set at a in h holds the keys l; its items lie in h0 -/
inductive SI (P : Program) (w : World) (h0 h : Heap) (a : Addr) : Bool → List NestedKey → Prop
  | tup {M es ep t} : SR w h a M es ep t → (∀ m ∈ M, ∃ b, m.1.2 = .ref b ∧ Is h0 m.2 b) → SI P w h0 h a true (M.map (·.2))
  | txt {D xs} : h.get? a = some (Froz.sObj "set" D) → Froz.TxOk P w D xs → SI P w h0 h a false (xs.map .text)
variable {h0 : Heap} {a : Addr} {q : Bool} {l : List NestedKey}
theorem SI.keep {h h' : Heap} (S : SI P w h0 h a q l) (ha : ∀ o, h.get? a = some o → h'.get? a = some o) (hk : ∀ c o, h0.get? c = some o → h'.get? c = some o) : SI P w h0 h' a q l := by
  cases S with
  | tup R i =>
    obtain ⟨o, ho, r⟩ := R.ob
    refine .tup ⟨⟨o, ha o ho, r⟩, R.rows, fun m hm => ?_, R.tab, R.nd, R.room⟩ i
    obtain ⟨e, b, hb, hi⟩ := R.ok m hm
    obtain ⟨b', hb', hi'⟩ := i m hm
    exact ⟨e, b', hb', hi'.keep hk⟩
  | txt ho F => exact .txt (ha _ ho) F
theorem SI.len {h : Heap} (S : SI P w h0 h a q l) : ∃ o es ep t, h.get? a = some o ∧ o.ExactSet ∧ o.data = .set es ep t ∧ t.fits es.size = true ∧ es.size = l.length := by
  cases S with
  | @tup M es ep t R i =>
    obtain ⟨o, ho, hex, hd⟩ := R.ob
    exact ⟨o, es, ep, t, ho, hex, hd, R.fits, by rw [R.size, List.length_map]⟩
  | @txt D xs ho F => exact ⟨_, D.1, D.2.1, D.2.2, ho, ⟨rfl, rfl, rfl⟩, rfl, F.fit, by rw [F.sz, List.length_map]⟩
/-- one add -/
theorem add_si (S : SI P w h0 s.heap a q l) {k : NestedKey} {v : Value} (e : El h0 q k v) (hk : ∀ c o, h0.get? c = some o → s.heap.get? c = some o) (hfew : l.length + 1 < limS q) (hu : A.units + 8 < cLine) {Q : Bool → Shared → Prop}
    (hQ : ∀ b h' tk l', s.toks ≤ tk → Heap.SameBut a s.heap h' → SI P w h0 h' a q l' → (k ∈ l → l' = l) → (k ∉ l → l'.Perm (k :: l)) → Q b { s with heap := h', toks := tk }) : wpAny (model P w) A (setAdd a v) Q E s := by
  unfold setAdd
  refine wpAny_holding ?_
  cases S with
  | @tup M es ep t R i =>
    cases e with
    | @tup _ x hx0 =>
      have hx := hx0.keep hk
      refine wpAny_bind (pyHash_key k _ A s _ hx.is (by have := hx.dp; omega) ?_)
      refine add_at (s := { s with toks := s.toks + k.draws }) R hx hu (by rw [List.length_map] at hfew; exact hfew) fun b h' M' es' ep' t' sb R' c1 c2 => ?_
      refine hQ b h' _ (M'.map (·.2)) (Nat.le_add_right _ _) sb (.tup R' fun m hm => ?_) (fun z => by rw [c1 z]) fun z => (c2 z).map _
      rcases Classical.em (k ∈ M.map (·.2)) with z | z
      · rw [c1 z] at hm; exact i m hm
      · rcases List.mem_cons.mp ((c2 z).mem_iff.mp hm) with y | y
        · rw [y]; exact ⟨x, rfl, hx0⟩
        · exact i m y
  | @txt D xs ho F =>
    cases e with
    | txt x u =>
      rw [List.length_map] at hfew
      have hfew : xs.length + 1 < 4000 := hfew
      refine wpAny_bind (wpAny_pyHash_str ?_)
      rcases Classical.em (x ∈ xs) with z | z
      · refine add_dup (s := { s with toks := s.toks + 1 }) ho F z (by unfold scanBound; omega) ?_
        exact hQ false s.heap _ _ (Nat.le_add_right _ _) (Heap.SameBut.refl a s.heap) (.txt ho F) (fun _ => rfl) fun y => absurd (List.mem_map.mpr ⟨x, z, rfl⟩) y
      · refine Froz.add_x (s := { s with toks := s.toks + 1 }) ho F z (by unfold scanBound; omega) ?_
        refine hQ true _ _ ((x :: xs).map .text) (Nat.le_add_right _ _) (Heap.SameBut.update ..) (.txt (D := Froz.addTx (hashStr w x) (.str x u) D) (Froz.get_upd _ ho rfl) (Froz.add_ok u F)) (fun y => ?_) fun _ => .refl _
        obtain ⟨x', hx', ex⟩ := List.mem_map.mp y
        injection ex with ex
        exact absurd (ex ▸ hx') z
theorem si_fresh {h : Heap} {b : Bool} (ho : h.get? a = some { cls := .type "set", dict := none, data := .set #[] 0 (.fresh 0 0 b) }) : SI P w h0 h a q [] := by
  cases q
  · exact .txt (D := (#[], 0, .fresh 0 0 b)) (xs := []) ho (.nil rfl)
  · exact .tup (M := []) (sr_fresh ho) fun m hm => nomatch hm

/-- set.update's loop -/
theorem update_loop {I : Addr} {fp wr : List Addr} {G : Array GenState → Array GenState → Prop} {n : Nat} {Pv : Nat → Value → Prop} {St : Nat → Shared → Prop} {R : Result → Shared → Prop}
    (W : WalksS P w A.in1 I fp wr G n Pv St) (S : Addr) (hSf : S ∉ fp) (q : Bool) (ks : List NestedKey) (hn : n = ks.length) (hfew : ks.length < limS q)
    (h0 : Heap) (hval : ∀ i v, Pv i v → ∃ k, ks[i]? = some k ∧ El h0 q k v) (hS0 : h0.get? S = none) (hw0 : ∀ b ∈ wr, h0.get? b = none) (hu : A.in1.units + 8 < cLine) :
    ∀ (m i : Nat) (s : Shared), n - i = m → i ≤ n → St i s → (∀ b o, h0.get? b = some o → s.heap.get? b = some o) → (∃ l, SI P w h0 s.heap S q l ∧ l.Nodup ∧ l.length ≤ i ∧ ∀ k, k ∈ l ↔ k ∈ ks.take i) →
      (∀ s' l, Moved (S :: wr) G s s' → SI P w h0 s'.heap S q l → l.Nodup → (∀ k, k ∈ l ↔ k ∈ ks) → (∀ b o, h0.get? b = some o → s'.heap.get? b = some o) → R (.ok (.ret .none)) s') →
      codeAny (model P w) A (.builtin "set.update.loop" ⟨[.ref S, .ref I], []⟩) R s := by
  have hSw : S ∉ wr := fun h => hSf (W.sub _ h)
  have hsub : ∀ b ∈ wr, b ∈ S :: wr := fun b hb => List.mem_cons_of_mem _ hb
  have keepM : ∀ {s s' : Shared}, Moved wr G s s' → (∀ b o, h0.get? b = some o → s.heap.get? b = some o) → ∀ b o, h0.get? b = some o → s'.heap.get? b = some o := fun hm hkp b o e =>
    hm.heap b o (fun hb => by rw [hw0 b hb] at e; cases e) (hkp b o e)
  intro m
  induction m with
  | zero =>
    intro i s hm' hi hst hkp ⟨l, hS, nd, le, mem⟩ hR
    have hin : i = n := by omega
    subst hin
    refine codeAny_builtin F.entry_set_update_loop ?_
    rw [Around.under_plainId F.plain_set_update_loop _]
    show wpAny _ A.in1 (pyNext (.ref I) >>= _) _ _ s
    refine wpAny_bind (W.done s _ _ hst fun s' hm => ?_)
    show wpAny _ A.in1 (ret Value.none) _ _ s'
    have hkp' := keepM hm hkp
    refine wpAny_pure (hR s' l (hm.mono hsub) (hS.keep (fun o e => hm.heap S o hSw e) hkp') nd (fun k => ?_) hkp')
    rw [mem, hn, List.take_length]
  | succ m ih =>
    intro i s hm' hi hst hkp ⟨l, hS, nd, le, mem⟩ hR
    have hlt : i < n := by omega
    refine codeAny_builtin F.entry_set_update_loop ?_
    rw [Around.under_plainId F.plain_set_update_loop _]
    show wpAny _ A.in1 (pyNext (.ref I) >>= _) _ _ s
    refine wpAny_bind (W.item i s _ _ hlt hst fun v s' hP hst' hm => ?_)
    obtain ⟨k, hk, he⟩ := hval i v hP
    have hkp' := keepM hm hkp
    have hS' := hS.keep (fun o e => hm.heap S o hSw e) hkp'
    show wpAny _ A.in1 (holding [v] (setAdd S v) >>= _) _ _ s'
    refine wpAny_bind (wpAny_holding ?_)
    refine add_si hS' he hkp' (by omega) hu fun b h' tk l' htk sb hS2 c1 c2 => ?_
    have tn : ks.take (i + 1) = ks.take i ++ [k] := take_next hk
    have g : l'.Nodup ∧ l'.length ≤ i + 1 ∧ ∀ k, k ∈ l' ↔ k ∈ ks.take (i + 1) := by
      rcases Classical.em (k ∈ l) with z | z
      · rw [c1 z]
        refine ⟨nd, by omega, fun k' => ?_⟩
        rw [tn, List.mem_append, mem k', List.mem_singleton]
        refine ⟨fun y => .inl y, fun y => ?_⟩
        rcases y with y | y
        · exact y
        · rw [y]; exact (mem k).mp z
      · have p := c2 z
        refine ⟨p.nodup_iff.mpr (List.nodup_cons.mpr ⟨z, nd⟩), by rw [p.length_eq, List.length_cons]; omega, fun k' => ?_⟩
        rw [tn, List.mem_append, List.mem_singleton, p.mem_iff, List.mem_cons, mem k']
        exact Or.comm
    have hkp2 : ∀ b o, h0.get? b = some o → h'.get? b = some o := fun b o e => (sb.2 b (fun z => by rw [z, hS0] at e; cases e)).trans (hkp' b o e)
    refine wpAny_pure ⟨plainId_quiet F.plain_set_update_loop _, ih (i + 1) _ (by omega) hlt (W.frame _ s' _ _ hst' htk fun b hb o e => ?_) hkp2 ⟨l', hS2, g⟩ fun s'' l2 hm'' hS'' nd'' mem'' hkp'' => ?_⟩
    · rw [sb.2 b (fun h : b = S => hSf (by rw [← h]; exact hb))]; exact e
    · refine hR s'' l2 (Moved.trans W.gtrans ((hm.mono hsub).then_heap htk fun b o hb e => ?_) hm'') hS'' nd'' mem'' hkp''
      rw [sb.2 b (fun h : b = S => hb (by rw [h]; exact List.mem_cons_self))]; exact e

set_option maxRecDepth 100000 in
set_option maxHeartbeats 3200000 in
/-- set(xs), xs a tuple -/
theorem call_set_tuple {T : Addr} {items : Array Value} (q : Bool) (ks : List NestedKey) {Q : Value → Shared → Prop} (hh : A.handled = none) (hl : s.heap.IsTuple T items) (hlen : items.size = ks.length) (hval : ∀ (i : Nat) (v : Value), items[i]? = some v → ∃ k, ks[i]? = some k ∧ El s.heap q k v)
    (hfew : ks.length < limS q) (hu : A.units + 16 < cLine)
    (h : ∀ (h' : Heap) (tk : Nat) l, SI P w s.heap h' s.heap.objs.size q l → l.Nodup → (∀ k, k ∈ l ↔ k ∈ ks) → (∀ b o, s.heap.get? b = some o → h'.get? b = some o) → Q (.ref s.heap.objs.size) { s with heap := h', toks := tk }) :
    wpAny (model P w) A (call (.type "set") [.ref T]) Q E s := by
  obtain ⟨c, tl, hmro⟩ := F.called_set.mro
  have hmade := F.called_set.made
  have hsub := F.called_set.sub
  refine wpAny_call (codeAny_of_tree ?_)
  show wpAny _ _ (callAny (.type "set") _) _ _ _
  refine wpAny_pure ⟨Code.quiet_builtin _ (by decide +kernel), codeAny_builtin F.entry_type_call ?_⟩
  rw [Around.under_plain (weight_type_call_type "set" [.ref T] []) rfl]
  have h1 := F.called_set.notType
  have h2 := F.called_set.canCreate
  have hct := F.typeCall_set_1 (.ref T)
  repeat (any_goals (first | assumption | wp_step))
  refine codeAny_mono (code_set_led1 (.ref T) (E := E) (Q₁ := fun obj s₁ => obj = .ref s.heap.objs.size ∧ s₁ = { s with heap := s.heap.push { cls := .type "set", dict := none, data := .set #[] 0 (.fresh 0 0 (!w.params.followText "set-order")) } }) ⟨rfl, rfl⟩) fun r s₁ hr => ?_
  cases r with
  | error e => exact hr
  | ok fl =>
    cases fl with
    | ret obj =>
      obtain ⟨rfl, rfl⟩ := hr
      have hS : (s.heap.push { cls := .type "set", dict := none, data := .set #[] 0 (.fresh 0 0 (!w.params.followText "set-order")) }).get? s.heap.objs.size = some { cls := .type "set", dict := none, data := .set #[] 0 (.fresh 0 0 (!w.params.followText "set-order")) } := Heap.get?_push_size _ rfl
      have hT : Shared.TypeIs { s with heap := s.heap.push { cls := .type "set", dict := none, data := .set #[] 0 (.fresh 0 0 (!w.params.followText "set-order")) } } (.ref s.heap.objs.size) "set" := ⟨_, hS, rfl⟩
      have hli := F.called_set.init.lookup
      have hbi := F.called_set.init.bind (.ref s.heap.objs.size)
      repeat (any_goals (first | assumption | wp_step))
      refine codeAny_mono (codeAny_call_builtin (R := wants (fun r s₂ => r = .none ∧ ∃ h' tk l, s₂ = { s with heap := h', toks := tk } ∧ SI P w s.heap h' s.heap.objs.size q l ∧ l.Nodup ∧ (∀ k, k ∈ l ↔ k ∈ ks) ∧
          (∀ b o, s.heap.get? b = some o → h'.get? b = some o)) E) F.called_set.init.plain F.entry_set_init (check_set_init_1 hT ?_)) fun r₂ s₂ hr₂ => ?_
      · obtain ⟨ol, hol, hcl, nl, hdl⟩ := hl
        obtain ⟨ocls, odict, odata, oslots⟩ := ol
        simp only at hcl hdl
        subst hcl; subst hdl
        have hol' : (s.heap.push { cls := .type "set", dict := none, data := .set #[] 0 (.fresh 0 0 (!w.params.followText "set-order")) }).get? T = some { cls := .type "tuple", dict := odict, data := .seq items nl, slots := oslots } := Heap.get?_push_of_some _ hol
        have hsls := F.sub_tuple_set
        have hslf := F.sub_tuple_frozenset
        have hne : (Value.type "tuple" == Value.type "dict") = false := by decide
        have hl1 : (s.heap.push { cls := .type "set", dict := none, data := .set #[] 0 (.fresh 0 0 (!w.params.followText "set-order")) }).IsTuple T items := ⟨_, hol', rfl, nl, rfl⟩
        unfold Builtin.«set.__init__» noKeywords Builtin.Frozenset.updateFrom
        generalize hPI : pyIter = PI
        wp_walk
        subst hPI
        refine wpAny_pyIter_tuple hl1 ?_
        refine wpAny_bind (wpAny_runValue ?_)
        have hlS : T < s.heap.objs.size := Heap.lt_size hol
        have hh3 : A.in1.in1.in1.handled = none := by simp [hh]
        have hneI : T ≠ (s.heap.push { cls := .type "set", dict := none, data := .set #[] 0 (.fresh 0 0 (!w.params.followText "set-order")) }).objs.size := by
          rw [Heap.size_push]; exact Nat.ne_of_lt (Nat.lt_succ_of_lt hlS)
        have hSf : s.heap.objs.size ∉ [(s.heap.push { cls := .type "set", dict := none, data := .set #[] 0 (.fresh 0 0 (!w.params.followText "set-order")) }).objs.size, T] := by
          rw [Heap.size_push]; simp only [List.mem_cons, List.mem_singleton, List.not_mem_nil, or_false, not_or]
          exact ⟨Nat.ne_of_lt (Nat.lt_succ_self _), Nat.ne_of_gt hlS⟩
        have none_of : ∀ b, s.heap.objs.size ≤ b → s.heap.get? b = none := fun b hb => by
          cases q : s.heap.get? b with
          | none => rfl
          | some o => exact absurd (Nat.lt_of_lt_of_le (Heap.lt_size q) hb) (Nat.lt_irrefl _)
        refine update_loop ((Walks.tuple hh3 _ T hneI items).toS) s.heap.objs.size
          hSf q ks hlen hfew s.heap hval (none_of _ (Nat.le_refl _)) (fun b hb => none_of b (by
            rw [List.mem_singleton.mp hb, Heap.size_push]
            exact Nat.le_succ _)) (by simp only [Around.in1_units]; omega) (items.size - 0) 0 _ (by omega) (Nat.zero_le _)
          ⟨⟨_, Heap.get?_push_size _ rfl, rfl, rfl⟩, (hl1.push _)⟩ (fun b o e => Heap.get?_push_of_some _ (Heap.get?_push_of_some _ e)) ?hS0 ?hR
        case hS0 =>
          exact ⟨[], si_fresh (Heap.get?_push_of_some _ hS), List.nodup_nil, Nat.le_refl _, fun k => by simp⟩
        case hR =>
          intro s' l hm hS' nd mem hkp
          obtain ⟨h', g2, d', tk', os'⟩ := s'
          have eg : g2 = s.gens := hm.gens
          have ed : d' = s.drawn := hm.drawn
          have eo : os' = s.os := hm.os
          subst eg; subst ed; subst eo
          show wpAny _ _ _ _ _ _
          refine wpAny_pure ?_
          show wpAny _ _ (ret Value.none) _ _ _
          exact wpAny_pure ⟨rfl, h', tk', l, rfl, hS', nd, mem, hkp⟩
      · cases r₂ with
        | error e => exact hr₂
        | ok fl₂ =>
          cases fl₂ with
          | ret r =>
            obtain ⟨rfl, h', tk, l, rfl, hS', nd, mem, hk'⟩ := hr₂
            repeat (any_goals (first | assumption | wp_step))
            exact h _ _ _ hS' nd mem hk'
          | _ => exact hr₂.elim
    | _ => exact hr.elim
end
end N

set_option linter.all false
set_option maxRecDepth 100000
set_option maxHeartbeats 1000000
/-! N5: len(set(x)), read. -/
namespace Z
open PySem PySem.Spec L2
open PyProof.Rows hiding St
theorem nub_mem (k : NestedKey) : ∀ ks : List NestedKey, k ∈ nub ks ↔ k ∈ ks
  | [] => Iff.rfl
  | x :: r => by
    unfold nub
    have ih := nub_mem k r
    split
    · rename_i h
      rw [ih, List.mem_cons]
      refine ⟨fun z => .inr z, fun z => ?_⟩
      rcases z with z | z
      · rw [z]; exact h
      · exact z
    · rw [List.mem_cons, List.mem_cons, ih]
theorem nub_nodup : ∀ ks : List NestedKey, (nub ks).Nodup
  | [] => List.nodup_nil
  | x :: r => by
    unfold nub
    split
    · exact nub_nodup r
    · rename_i h
      exact List.nodup_cons.mpr ⟨fun z => h ((nub_mem x r).mp z), nub_nodup r⟩
theorem nub_le : ∀ ks : List NestedKey, (nub ks).length ≤ ks.length
  | [] => Nat.le_refl _
  | x :: r => by
    unfold nub
    split
    · exact Nat.le_succ_of_le (nub_le r)
    · exact Nat.succ_le_succ (nub_le r)
theorem nub_len {l ks : List NestedKey} (nd : l.Nodup) (h : ∀ k, k ∈ l ↔ k ∈ ks) : l.length = (nub ks).length :=
  ((List.perm_ext_iff_of_nodup nd (nub_nodup ks)).mpr fun k => (h k).trans (nub_mem k ks).symm).length_eq
theorem nkeys_cons {x : D} {xs : List D} {ks : List NestedKey} (h : nkeys (x :: xs) = some ks) : ∃ k r, ks = k :: r ∧ nkey x = some k ∧ nkeys xs = some r := by
  unfold nkeys at h
  split at h
  · rename_i k r e1 e2
    cases h
    exact ⟨k, r, rfl, e1, e2⟩
  · cases h
mutual
theorem key_reads {h : Heap} : ∀ (d : D) (v : Value) (as : List Addr) (k : NestedKey), Reads h v d as → nkey d = some k → NestedIs h k v
  | .none, v, as, k, r, e => by cases r; cases e; exact .none
  | .bool b, v, as, k, r, e => by cases r; cases e; exact .bool rfl
  | .int i, v, as, k, r, e => by cases r; cases e; exact .int _ _
  | .str x, v, as, k, r, e => by cases r; cases e; exact .text _ _
  | .tuple xs, v, as, k, r, e => by
    unfold nkey at e
    cases hk : nkeys xs with
    | none => rw [hk] at e; cases e
    | some ks =>
      rw [hk] at e; cases e
      cases r with
      | tuple h1 h2 h3 h4 => exact .tup h1 h2 h3 (keys_reads xs _ _ ks h4 hk)
  | .list _, v, as, k, r, e => by simp [nkey] at e
  | .dict _, v, as, k, r, e => by simp [nkey] at e
theorem keys_reads {h : Heap} : ∀ (ds : List D) (vs : List Value) (as : List Addr) (ks : List NestedKey), ReadsAll h vs ds as → nkeys ds = some ks → NestedAll h ks vs
  | [], vs, as, ks, r, e => by cases r; cases e; exact .nil
  | d :: ds, vs, as, ks, r, e => by
    obtain ⟨k, rr, rfl, e1, e2⟩ := nkeys_cons e
    cases r with
    | cons r1 r2 => exact .cons (key_reads d _ _ k r1 e1) (keys_reads ds _ _ rr r2 e2)
end
/-- the items as they go into the set -/
theorem els_of {h : Heap} {q : Bool} : ∀ {ds : List D} {vs : List Value} {as : List Addr} {ks : List NestedKey}, ReadsAll h vs ds as → nkeys ds = some ks → (∀ k ∈ ks, k.depth ≤ 8) → (ds.all fun d => if q = true then isTup d else isTxt d) = true →
    vs.length = ks.length ∧ ∀ (i : Nat) (v : Value), vs[i]? = some v → ∃ k, ks[i]? = some k ∧ N.El h q k v
  | [], _, _, ks, r, e, _, _ => by cases r; cases e; exact ⟨rfl, fun i v z => by simp at z⟩
  | d :: ds, _, _, ks, r, e, hd, ha => by
    obtain ⟨k, rr, rfl, e1, e2⟩ := nkeys_cons e
    rw [List.all_cons, Bool.and_eq_true] at ha
    cases r with
    | @cons v vs _ _ as bs r1 r2 =>
      obtain ⟨l, f⟩ := els_of r2 e2 (fun k hk => hd k (List.mem_cons_of_mem _ hk)) ha.2
      refine ⟨congrArg (· + 1) l, fun i u z => ?_⟩
      cases i with
      | succ i => exact f i u (by simpa using z)
      | zero =>
        have z : v = u := by simpa using z
        subst z
        refine ⟨k, rfl, ?_⟩
        have hd0 := hd k List.mem_cons_self
        have ha0 := ha.1
        cases q
        · cases d with
          | str x => cases r1; cases e1; exact .txt _ _
          | _ => exact absurd ha0 (by simp [isTxt])
        · cases d with
          | tuple xs =>
            have n := key_reads _ _ _ _ r1 e1
            cases r1 with
            | tuple _ _ _ _ => exact .tup ⟨n, hd0⟩
          | _ => exact absurd ha0 (by simp [isTup])
theorem setKeys_some {xs : List D} {ks : List NestedKey} (h : setKeys xs = some ks) : ∃ q : Bool, (q = true → limS (!xs.all isTxt) ≤ 64) ∧ (xs.all fun d => if q = true then isTup d else isTxt d) = true ∧ nkeys xs = some ks ∧ ∀ k ∈ ks, k.depth ≤ 8 := by
  unfold setKeys at h
  split at h
  · rename_i c
    cases hk : nkeys xs with
    | none => rw [hk] at h; cases h
    | some ks' =>
      rw [hk] at h
      simp only [Option.bind_some] at h
      split at h
      · rename_i c2
        cases h
        have hd : ∀ k ∈ ks, k.depth ≤ 8 := fun k hk => of_decide_eq_true (List.all_eq_true.mp c2 k hk)
        rw [Bool.or_eq_true] at c
        cases ht : xs.all isTxt with
        | true => exact ⟨false, ⟨fun z => Bool.noConfusion z, by simpa using ht, rfl, hd⟩⟩
        | false =>
          rcases c with c | c
          · rw [ht] at c; cases c
          · exact ⟨true, ⟨fun _ => Nat.le_refl _, by simpa using c, rfl, hd⟩⟩
      · cases h
  · cases h
theorem bNset_some {d z : D} (h : bNset d = some z) : ∃ xs ks, d = .tuple xs ∧ setKeys xs = some ks ∧ ks.length < limS (!xs.all isTxt) ∧ z = .int ((nub ks).length : Nat) := by
  cases d with
  | tuple xs =>
    simp only [bNset] at h
    cases hk : setKeys xs with
    | none => rw [hk] at h; cases h
    | some ks =>
      rw [hk] at h
      simp only [Option.bind_some] at h
      split at h
      · rename_i c; cases h; exact ⟨xs, ks, rfl, hk, c, rfl⟩
      · cases h
  | _ => cases h
section
variable {X : Cx} {p : Par} {W : Wh}
theorem x_nset {a : Expr} {f : Slots → R D} {p1 p2 q pos : Pos} (hk : X.K = p.K) (hc : X.calm = true) (hu : X.A.units + 65 < cLine) (hg : Gl X "len") (hm : X.mg "len" = none) (hg2 : Gl X "set") (hm2 : X.mg "set" = none) (ha : PE X a (tX p W false f))
    (na : starEach [a] X.env = (false, eval a X.env) :: starEach [] X.env) : PE X (.Call (.Name "len" p1) [.Call (.Name "set" p2) [a] [] q] [] pos) (tX p W false fun ρ => (f ρ).bind fun x ρ1 => opt (bNset x) ρ1) := by
  refine ⟨fun pins s σ H Q I m => ?_⟩
  refine Call_ (ld_blt I hg hm PySem.boot_len ?_)
  refine PyProof.Rows.callWith_builtin1 (PyProof.Rows.args_cons ?_ rfl) rfl rfl
  refine Call_ (ld_blt I hg2 hm2 PyProof.Rows.boot_set ?_)
  refine PyProof.Rows.callWith_type1 (PyProof.Rows.args_cons (thn (ha.run pins s σ H _ I (m.bind (G := gX p false) frmX)) fun v s1 ⟨x, H1, I1, r1, d, st1, g1, m1⟩ => PyProof.Rows.args_nil ?_) na) na rfl
  obtain ⟨ρ, z, S, hz, m2⟩ := m1.opt
  obtain ⟨xs, ks, rfl, hks, hfew, rfl⟩ := bNset_some hz
  obtain ⟨qq, hq64, hall, hnk, hdp⟩ := setKeys_some hks
  have hbig : limS (!xs.all isTxt) ≤ 4000 := by cases xs.all isTxt <;> decide
  have hfew : ks.length < limS qq := by
    cases qq with
    | true => exact Nat.lt_of_lt_of_le hfew (hq64 rfl)
    | false => exact Nat.lt_of_lt_of_le hfew hbig
  have hf4 : ks.length < 4000 := Nat.lt_of_lt_of_le hfew (by cases qq <;> decide)
  obtain ⟨as, rd⟩ := Rp.reads I1 (hk ▸ g1.1) r1
  cases rd with
  | @tuple l o vs n _ as h1 h2 h3 h4 =>
    obtain ⟨hl, hval⟩ := els_of (q := qq) h4 hnk hdp hall
    have hl : vs.size = ks.length := by rw [← Array.length_toList]; exact hl
    refine N.call_set_tuple qq ks (I1.ok.hd hc) ⟨o, h1, h2, n, h3⟩ hl (fun i v z => hval i v (by rw [Array.getElem?_toList]; exact z)) hfew (by omega) fun h' tk l hS nd mem hk' => ?_
    refine PyProof.Rows.args_nil ?_
    obtain ⟨o, es, ep, t, ho, hex, hd, hf, hn⟩ := hS.len
    have I2 : Inv X pins σ H1 { s1 with heap := h', toks := tk } := I1.kept fun b o e => hk' b o e
    have hle := nub_le ks
    refine call_len_set ho hex hd hf (by rw [hn, nub_len nd mem]; omega) ⟨.int ((nub ks).length : Nat), H1, I2.tok _, ⟨_, by rw [hn, nub_len nd mem]⟩, m2 _ H1 (fun _ _ e => e) (Got.no (.int _))⟩
theorem den_nset {T : Tab} {ct : CT} {c : C} (h : plainC c = true) : denE T ct (.bi .set (.cons c .nil)) = fun ρ => (denE T ct c ρ).bind fun x ρ1 => opt (bNset x) ρ1 := by
  funext ρ
  show (denL T ct (.cons c .nil) ρ).bind (fun ds ρ1 => opt (biD .set (fixL (.cons c .nil) ds ρ1)) ρ1) = _
  rw [denL_cons fun a e => by subst e; cases h]
  show ((denE T ct c ρ).bind fun x ρ1 => (denL T ct .nil ρ1).bind fun xs ρ2 => .ok (x :: xs) ρ2).bind _ = _
  cases denE T ct c ρ with
  | ok x ρ1 =>
    show opt (one bNset [fixD c x ρ1]) ρ1 = opt (bNset x) ρ1
    unfold fixD
    rw [plainC_own h]
    rfl
  | exn _ _ => rfl
  | bad => rfl
end
end Z

set_option linter.all false
set_option maxRecDepth 100000
set_option maxHeartbeats 1000000
/-! N6: own.pop(i); x[::-1]. -/
namespace Z
open PySem PySem.Spec L2 HT
open PyProof.Rows hiding St

section
variable {X : Cx} {p : Par} {G : GC} {M : MT} {T : Tab} {ct : CT} {W : Wh} {ex : Nat → Addr}
theorem own_mem (g : GX X p G M T ct W ex) {i : Nat} (h : G.own.contains i = true) : i ∈ p.own := by rw [g.own]; exact List.contains_iff_mem.mp h
theorem snd_ownE (g : GX X p G M T ct W ex) {e : Expr} {i : Nat} (h : ownE G e = some i) : i ∈ p.own ∧ PE X e (tVar i) ∧ (∀ name env, attributeBase e name env (eval e env) = eval e env) := by
  unfold ownE at h
  split at h
  · rename_i x pos
    obtain ⟨j, h1, h2⟩ := bd_some h
    obtain ⟨h3, h4⟩ := gd_some h2
    cases h4
    exact ⟨own_mem g h3, (g.var h1 pos).1, fun _ _ => rfl⟩
  · cases h
end
section
variable {X : Cx} {p : Par} {W : Wh} {e o a : Expr} {f g h : Slots → R D}
theorem ix_bd {i : Int} {n k : Nat} (h : ixOf i n = some k) (hn : n ≤ sizeLine) : seqIndex? i n = some k ∧ k < n ∧ -(2 ^ 63) ≤ i ∧ i < 2 ^ 63 := by
  rw [sizeLine_eq] at hn
  unfold ixOf at h
  unfold seqIndex?
  dsimp only
  split at h
  · split at h
    · cases h
      rw [if_neg (show ¬ i < 0 by omega)]
      simp only [Bool.and_eq_true, decide_eq_true_eq]
      rw [if_pos (by omega)]
      exact ⟨rfl, by omega, by omega, by omega⟩
    · cases h
  · split at h
    · cases h
      rw [if_pos (show i < 0 by omega)]
      simp only [Bool.and_eq_true, decide_eq_true_eq]
      rw [if_pos (by omega)]
      exact ⟨rfl, by omega, by omega, by omega⟩
    · cases h
def rPopN : V → List V → Hp → VK → Prop := fun x vs H Q => ∃ l xs i k y, x = .ref l ∧ vs = [.int i] ∧ H l = some (.lst xs) ∧ ixOf i xs.length = some k ∧ xs[k]? = some y ∧ Q y (upd H l (.lst (xs.eraseIdx k)))
theorem mt_popN : MtM X "list.pop" rPopN := by
  intro pins s σ H x vs v us Q I rx rv h
  obtain ⟨l, xs, i, k, y, rfl, rfl, hH, hk, hy, q⟩ := h
  obtain ⟨z, its, n, r, hl, e⟩ := I.lstM hH
  obtain ⟨b1, _, b3, b4⟩ := ix_bd hk z
  exact mt_popAt pins s σ H _ _ v us Q I rx rv ⟨l, xs, i, k, y, rfl, rfl, hH, b3, b4, b1, hy, q⟩
theorem RpAll.getD {K : PySem.W.Frag} {Av : Addr → Prop} {H : Hp} : ∀ {vs : List V} {ds : List D} {k : Nat} {d : D}, RpAll K Av H vs ds → ds[k]? = some d → ∃ v, vs[k]? = some v ∧ Rp K Av H v d
  | _, _, 0, _, .cons r _, e => by cases e; exact ⟨_, rfl, r⟩
  | _, _, k + 1, _, .cons _ q, e => by
    obtain ⟨v, h1, h2⟩ := RpAll.getD (k := k) q (by simpa using e)
    exact ⟨v, by simpa using h1, h2⟩
theorem RpAll.eraseIdx {K : PySem.W.Frag} {Av : Addr → Prop} {H : Hp} : ∀ {vs : List V} {ds : List D} (k : Nat), RpAll K Av H vs ds → RpAll K Av H (vs.eraseIdx k) (ds.eraseIdx k)
  | _, _, _, .nil => .nil
  | _, _, 0, .cons _ q => q
  | _, _, k + 1, .cons r q => .cons r (RpAll.eraseIdx k q)
/-- own.pop(e) -/
theorem x_pop {i : Nat} {apos cpos : Pos} (hi : i ∈ p.own) (ho : PE X o (tVar i)) (he : PE X e (tX p W false f)) (hb : attributeBase o "pop" X.env (eval o X.env) = eval o X.env) (hfew : ((backTo cpos (starEach [e] X.env)).all (fun x => !x.1) && (backToKw cpos (keywordEach [] X.env)).all (fun x => x.1.isSome)
      && decide ([e].length + ([] : List Keyword).length + (if ([] : List Keyword).isEmpty then 0 else 1) < 30)) = true) (hline : (apos.endLine == cpos.line) = true) (hs : starEach [e] X.env = (false, eval e X.env) :: starEach [] X.env) :
    PE X (.Call (.Attribute o "pop" apos) [e] [] cpos) (tX p W false fun ρ => if (get ρ i).isSome then (f ρ).bind fun x ρ1 => match x, get ρ1 i with
      | .int k, some (.list xs) => match ixOf k xs.length with
        | some j => match xs[j]? with | some y => .ok y (put ρ1 i (.list (xs.eraseIdx j))) | none => .bad
        | none => .bad
      | _, _ => .bad else .bad) := by
  have pe := pe_bm (X := X) (apos := apos) (cpos := cpos) F.plainAttrs_list F.slot_list_pop rfl mt_popN ho (pa_cons he pa_nil hs) hb hfew hline hs rfl
  refine pe_imp pe fun σ H Q ⟨ρ, S, m⟩ => ?_
  cases hg : (get ρ i).isSome with
  | false => simp only [hg, if_neg Bool.false_ne_true] at m; try exact False.elim m
  | true =>
    simp only [hg, if_pos] at m
    obtain ⟨a, xs0, h2, h3⟩ := own_at S hi hg
    refine ⟨_, h2, .inl ⟨rfl, xs0, .inl (Rd.of h3)⟩, ?_⟩
    have m : tX p W false (fun ρ => (f ρ).bind fun x ρ1 => match x, get ρ1 i with
      | .int k, some (.list xs) => match ixOf k xs.length with
        | some j => match xs[j]? with | some y => .ok y (put ρ1 i (.list (xs.eraseIdx j))) | none => .bad
        | none => .bad
      | _, _ => .bad) σ H Q := ⟨ρ, S, m⟩
    refine (m.bind (G := gX p false) frmX).mono fun v H1 ⟨d, st, g, ρ1, S1, m1⟩ => ?_
    cases hg1 : get ρ1 i with
    | none => cases d <;> (simp only [hg1] at m1; try exact False.elim m1)
    | some d1 =>
      obtain ⟨b, xs, ds, rfl, e2, e3, e4, _⟩ := S1.ov i d1 hi hg1
      rw [h2] at e2; cases e2
      cases d with
      | int j =>
        simp only [hg1] at m1
        cases g.1
        cases hj : ixOf j ds.length with
        | none => simp only [hj] at m1; try exact False.elim m1
        | some n =>
          simp only [hj] at m1
          cases hy : ds[n]? with
          | none => simp only [hy] at m1; try exact False.elim m1
          | some y =>
            simp only [hy] at m1
            obtain ⟨w, hw, rw'⟩ := e4.getD hy
            have su : Stay (ow p σ) H1 (upd H1 a (.lst (xs.eraseIdx n))) := fun b o e => by
              by_cases h : b = a
              · subst h
                rw [e3] at e; cases e
                exact .inr ⟨⟨i, hi, h2⟩, ⟨_, rfl⟩, _, upd_same⟩
              · exact .inl (by rw [upd_ne h]; exact e)
            refine ⟨a, xs, j, n, w, rfl, rfl, e3, by rw [e4.length]; exact hj, hw, ?_⟩
            exact m1 w _ (S1.upd1 hi h2 (e4.eraseIdx n)) su (Got.no (Rp.stay su ow_av rw'))
      | _ => simp only [hg1] at m1; try exact False.elim m1

/-! x[::-1] -/
theorem applied_rev {w : World} {P : Program} {A : Around} {E : Value → Shared → Prop} {s : Shared} {sl : Addr} {vl vu vs : Value} {n : Nat} {Q : Int × Int × Nat → Shared → Prop} (hs : s.heap.IsSliceOf sl vl vu vs) (pl : IsPart vl none) (pu : IsPart vu none) (ps : IsPart vs (some (-1)))
    (h : Q ((n : Int) - 1, -1, n) s) : wpAny (model P w) A (Builtin.Slice.sliceApplied (.ref sl) (pure (n : Int))) Q E s := by
  obtain ⟨os, hos, hcs, hds⟩ := id hs
  unfold Builtin.Slice.sliceApplied Builtin.Slice.sliceFields
  refine wpAny_bind (wpAny_bind (wpAny_field hos hds (x := vl) rfl (wpAny_bind (wpAny_field hos hds (x := vu) rfl (wpAny_bind (wpAny_field hos hds (x := vs) rfl (wpAny_pure ?_)))))))
  refine wpAny_bind (slicePart_ ps ?_)
  show wpAny _ _ (if ((-1 : Int) == 0) = true then _ else _) _ _ s
  rw [if_neg (by decide)]
  refine wpAny_bind (slicePart_ pl (wpAny_bind (slicePart_ pu (wpAny_bind (wpAny_pure ?_)))))
  have e : Builtin.Slice.slicePlaces ((n : Int) - 1) (-1) (-1) = n := by
    unfold Builtin.Slice.slicePlaces
    rw [if_neg (by decide), show (-(-1 : Int)) = 1 by decide, Int.ediv_one]
    split <;> omega
  show wpAny _ _ (pure ((n : Int) - 1, (-1 : Int), Builtin.Slice.slicePlaces ((n : Int) - 1) (-1) (-1))) _ _ s
  rw [e]
  exact wpAny_pure h
theorem pick_rev (xs : Array Value) : ((List.range xs.size).filterMap fun (m : Nat) => xs[((xs.size : Int) - 1 + (m : Int) * (-1)).toNat]?).toArray = xs.toList.reverse.toArray := by
  have e : ((List.range xs.size).filterMap fun (m : Nat) => xs[((xs.size : Int) - 1 + (m : Int) * (-1)).toNat]?) = ((List.range xs.size).map fun k => xs.size - 1 - k).filterMap (xs[·]?) := by
    rw [List.filterMap_map]
    have key : ∀ l : List Nat, (∀ m ∈ l, m < xs.size) → (l.filterMap fun (m : Nat) => xs[((xs.size : Int) - 1 + (m : Int) * (-1)).toNat]?) = l.filterMap ((fun x => xs[x]?) ∘ fun k => xs.size - 1 - k) := by
      intro l
      induction l with
      | nil => intro _; rfl
      | cons m l ih =>
        intro hl
        have := hl m List.mem_cons_self
        have e : ((xs.size : Int) - 1 + (m : Int) * (-1)).toNat = xs.size - 1 - m := by omega
        rw [List.filterMap_cons, List.filterMap_cons, ih fun k hk => hl k (List.mem_cons_of_mem _ hk), e] <;> rfl
    exact key _ fun m hm => List.mem_range.mp hm
  rw [e, PySem.W.krv_range, List.filterMap_reverse, PySem.W.krv_all]
theorem getItem_tuple_rev {w : World} {P : Program} {A : Around} {E : Value → Shared → Prop} {s : Shared} {t sl : Addr} {items : Array Value} {vl vu vs : Value} {Q : Value → Shared → Prop} (ht : IsTup s.heap t items) (hs : s.heap.IsSliceOf sl vl vu vs) (pl : IsPart vl none) (pu : IsPart vu none) (ps : IsPart vs (some (-1)))
    (h : Q (.ref s.heap.objs.size) { s with heap := s.heap.push { cls := .type "tuple", data := .seq items.toList.reverse.toArray } }) (hsz : items.size ≤ sizeLine) : wpAny (model P w) A (getItem (.ref t) (.ref sl)) Q E s := by
  obtain ⟨os, hos, hcs, hds⟩ := id hs
  have hTs : s.TypeIs (.ref sl) "slice" := ⟨os, hos, hcs⟩
  unfold getItem
  try with_reducible refine wpAny_holding ?_
  first | refine wpAny_bind (wpAny_pure ?_) | skip
  refine wpAny_bind (wpAny_sequenceKey ht.typeIs (by decide) ?_)
  refine wpAny_bind (wpAny_callSpecial?_slot (name := Str.ofString "__getitem__") ht.typeIs PyProof.Rows.slot_tuple_getitem
    (wpAny_call_entry PyProof.Rows.slot_tuple_getitem ht.typeIs entry_tuple_getitem ?_ (args_tuple_getitem _ _)))
  show wpAny _ _ (Builtin.Tuple.tupleItemsOf (.ref t) >>= _) _ _ s
  refine wpAny_bind (tupleItemsOf_ ht ?_)
  refine wpAny_bind (wpAny_typeOf hTs ?_)
  rw [if_pos (by decide)]
  refine wpAny_bind (applied_rev hs pl pu ps ?_)
  have hno : ¬ ((((items.size : Int) - 1) == 0 && (-1 : Int) == 1 && items.size == items.size) = true) := by
    rw [show ((-1 : Int) == 1) = false by decide, Bool.and_false, Bool.false_and]
    exact Bool.false_ne_true
  show wpAny _ _ (if (((items.size : Int) - 1) == 0 && (-1 : Int) == 1 && items.size == items.size) = true then _ else _) _ _ s
  rw [if_neg hno, pick_rev]
  have hsz2 : sizeOk (.seq items.toList.reverse.toArray) := by
    show items.toList.reverse.toArray.size ≤ sizeLine
    rw [List.size_toArray, List.length_reverse, Array.length_toList]; exact hsz
  first
    | exact wpAny_bind (m := Builtin.Tuple.tupleExact _) (wpAny_newObj_type (wpAny_pure ⟨_, rfl, wpAny_pure h⟩) hsz2)
    | exact wpAny_bind (m := Builtin.Tuple.tupleExact _) (wpAny_newObj_type (wpAny_bind (wpAny_pure (wpAny_pure ⟨_, rfl, wpAny_pure h⟩))) hsz2)
    | exact wpAny_bind (wpAny_bind (m := Builtin.Tuple.tupleExact _) (wpAny_newObj_type (wpAny_pure (wpAny_pure ⟨_, rfl, wpAny_pure h⟩)) hsz2))
    | exact wpAny_bind (wpAny_bind (m := Builtin.Tuple.tupleExact _) (wpAny_newObj_type (wpAny_pure ⟨_, rfl, wpAny_pure h⟩) hsz2))
theorem RpAll.append' {K : PySem.W.Frag} {Av : Addr → Prop} {H : Hp} : ∀ {vs ws : List V} {ds es : List D}, RpAll K Av H vs ds → RpAll K Av H ws es → RpAll K Av H (vs ++ ws) (ds ++ es)
  | _, _, _, _, .nil, q => q
  | _, _, _, _, .cons r r', q => .cons r (RpAll.append' r' q)
theorem RpAll.rev {K : PySem.W.Frag} {Av : Addr → Prop} {H : Hp} : ∀ {vs : List V} {ds : List D}, RpAll K Av H vs ds → RpAll K Av H vs.reverse ds.reverse
  | _, _, .nil => .nil
  | _, _, .cons r q => by
    rw [List.reverse_cons, List.reverse_cons]
    exact RpAll.append' (RpAll.rev q) (.cons r .nil)
theorem bRev_some {d z : D} (h : bRev d = some z) : (∃ xs, d = .list xs ∧ z = .list xs.reverse) ∨ ∃ xs, d = .tuple xs ∧ z = .tuple xs.reverse := by
  cases d with
  | list xs => cases h; exact .inl ⟨xs, rfl, rfl⟩
  | tuple xs => cases h; exact .inr ⟨xs, rfl, rfl⟩
  | _ => cases h
/-- x[::-1] -/
theorem x_rev {k : Nat} {p1 p2 p3 pos : Pos} (hk : X.K = p.K) (ha : PE X a (tX p W false f)) : PE X (.Subscript a (.Slice none none (some (.UnaryOp .USub (.Constant (.int 1) k p1) p2)) p3) pos) (tX p W false fun ρ => (f ρ).bind fun x ρ1 => opt (bRev x) ρ1) := by
  refine ⟨fun pins s σ H Q I m => ?_⟩
  refine Subscript_ (thn (ha.run pins s σ H _ I (m.bind (G := gX p false) frmX)) fun v s1 ⟨x, H1, I1, r1, d, st1, g1, m1⟩ => ?_)
  have hst : PO X (some (.UnaryOp .USub (.Constant (.int 1) k p1) p2)) (tPart (tUn (rU fun i => .int (-i)) (tC (.int 1)))) := po_some (pe_un un_neg pe_int)
  refine wpAny_Slice (thn (po_none.run pins s1 σ H1 (fun o H2 => o = none ∧ H2 = H1) I1 ⟨rfl, rfl⟩) fun vl s2 ⟨l, H2, I2, pl, el, e2⟩ => ?_)
  subst el e2
  refine thn (po_none.run pins s2 σ H2 (fun o H3 => o = none ∧ H3 = H2) I2 ⟨rfl, rfl⟩) fun vu s3 ⟨u, H3, I3, pu, eu, e3⟩ => ?_
  subst eu e3
  refine thn (hst.run pins s3 σ H3 (fun o H4 => o = some (-1) ∧ H4 = H3) I3 ⟨1, rfl, -1, rfl, rfl, rfl⟩) fun vs s4 ⟨o, H4, I4, ps, eo, e4⟩ => ?_
  subst eo e4
  have I5 : Inv X pins σ H4 { s4 with heap := s4.heap.push { cls := .type "slice", data := .fields #[vl, vu, vs] } } := I4.kept (t' := s4.toks) fun b ob q => Heap.get?_push_of_some _ q
  obtain ⟨ρ, z, S, hz, m2⟩ := m1.opt
  have hf := fun b h => S.fresh (b := b) h
  rcases bRev_some hz with ⟨xs, rfl, rfl⟩ | ⟨xs, rfl, rfl⟩
  · obtain ⟨a', ws, rfl, sa, ra⟩ := Ra.lst (.inl (hk ▸ g1.1))
    cases r1
    obtain ⟨its, r, ht, hz⟩ := I5.list sa
    have hlen := r.length
    refine tail_any (ops := [.ref a', .ref s4.heap.objs.size]) ht.isList.typeIs (PySem.slot_list_getitem.lookup) ?_ (by with_unfolding_all rfl)
    refine wpAny_getItem_list_slice ht.isList (Heap.IsSliceOf.new _ vl vu vs) pl pu ps (by decide) ?_ (by rw [List.size_toArray]; omega)
    rw [PySem.W.krv_pick]
    have hn := I5.hok.fresh (Nat.le_refl _)
    obtain ⟨q1, q2⟩ := qn_lst hn (hf _ hn) ra.rev
    refine ⟨.ref _, _, I5.laid (t' := s4.toks) (o := .lst ws.reverse) (fun b ob q => Heap.get?_push_of_some _ q) (Nat.le_refl _) ?_, rfl, m2 _ _ q1 (New.got q1 (hk ▸ q2))⟩
    exact ⟨by rw [List.length_reverse]; exact hz, _, 0, r.reverse, Heap.get?_push_size _ rfl⟩
  · obtain ⟨a', ws, rfl, sa, ra⟩ := Ra.tup (.inl (hk ▸ g1.1))
    cases r1
    obtain ⟨its, r, ht, hz⟩ := I5.tuple sa
    have hlen := r.length
    refine tail_any (ops := [.ref a', .ref s4.heap.objs.size]) ht.typeIs (PyProof.Rows.slot_tuple_getitem.lookup) ?_ (by with_unfolding_all rfl)
    refine getItem_tuple_rev ht (Heap.IsSliceOf.new _ vl vu vs) pl pu ps ?_ (by rw [List.size_toArray]; omega)
    have hn := I5.hok.fresh (Nat.le_refl _)
    obtain ⟨q1, q2⟩ := qn_tup hn ra.rev
    refine ⟨.ref _, _, I5.laid (t' := s4.toks) (o := .tup ws.reverse) (fun b ob q => Heap.get?_push_of_some _ q) (Nat.le_refl _) ?_, rfl, m2 _ _ q1 (New.got q1 (hk ▸ q2))⟩
    exact ⟨by rw [List.length_reverse]; exact hz, _, r.reverse, IsTup.new _ _⟩
theorem den_one {T : Tab} {ct : CT} {c : C} {b : Bi} {bf : D → Option D} (h : plainC c = true) (hb : biD b = one bf) : denE T ct (.bi b (.cons c .nil)) = fun ρ => (denE T ct c ρ).bind fun x ρ1 => opt (bf x) ρ1 := by
  funext ρ
  show (denL T ct (.cons c .nil) ρ).bind (fun ds ρ1 => opt (biD b (fixL (.cons c .nil) ds ρ1)) ρ1) = _
  rw [denL_cons fun a e => by subst e; cases h]
  show ((denE T ct c ρ).bind fun x ρ1 => (denL T ct .nil ρ1).bind fun xs ρ2 => .ok (x :: xs) ρ2).bind _ = _
  cases denE T ct c ρ with
  | ok x ρ1 =>
    show opt (biD b [fixD c x ρ1]) ρ1 = opt (bf x) ρ1
    unfold fixD
    rw [plainC_own h, hb]
    rfl
  | exn _ _ => rfl
  | bad => rfl
end
end Z

set_option linter.all false
set_option maxRecDepth 100000
set_option maxHeartbeats 1000000
namespace Z
open PySem PySem.Spec L2
open PyProof.Rows hiding St

section
variable {X : Cx} {p q : Par} {G : GC} {M : MT} {T : Tab} {ct : CT} {W : Wh} {ex : Nat → Addr} {r : Rec} {fr : Bool}
theorem x_weak {e : Expr} {f : Slots → R D} (h : PE X e (tX p W fr f)) : PE X e (tX p W false f) := pe_imp h fun σ H Q m => m.weak fun H' v d g => ⟨g.1, fun z => Bool.noConfusion z⟩
/-! built-ins -/
theorem bi_of (hc : X.calm = true) (hu : X.A.units + 65 < cLine) (hgd : X.A.guards = some []) {x : Str} {b : Bi} (h : biOf x = some b) : ∃ fv, BiOk X fv (biD b) ∧ ((∃ i, fv = .builtin i) ∨ ∃ i, fv = .type i) ∧ bootBuiltins x = some fv := by
  unfold biOf at h
  split at h
  · rename_i e; subst e; cases h; exact ⟨_, bi_len, .inl ⟨_, rfl⟩, by decide +kernel⟩
  split at h
  · rename_i e; subst e; cases h; exact ⟨_, bi_abs, .inl ⟨_, rfl⟩, by decide +kernel⟩
  split at h
  · rename_i e; subst e; cases h; exact ⟨_, bi_int, .inr ⟨_, rfl⟩, by decide +kernel⟩
  split at h
  · rename_i e; subst e; cases h; exact ⟨_, bi_max hc, .inl ⟨_, rfl⟩, by decide +kernel⟩
  split at h
  · rename_i e; subst e; cases h; exact ⟨_, bi_min hc, .inl ⟨_, rfl⟩, by decide +kernel⟩
  split at h
  · rename_i e; subst e; cases h; exact ⟨_, bi_repr hu hgd, .inl ⟨_, rfl⟩, by decide +kernel⟩
  split at h
  · rename_i e; subst e; cases h; exact ⟨_, bi_sum hc, .inl ⟨_, rfl⟩, by decide +kernel⟩
  split at h
  · rename_i e; subst e; cases h; exact ⟨_, bi_all hc, .inl ⟨_, rfl⟩, by decide +kernel⟩
  split at h
  · rename_i e; subst e; cases h; exact ⟨_, bi_any hc, .inl ⟨_, rfl⟩, by decide +kernel⟩
  split at h
  · rename_i e; subst e; cases h; exact ⟨_, bi_tuple, .inr ⟨_, rfl⟩, by decide +kernel⟩
  split at h
  · rename_i e; subst e; cases h; exact ⟨_, bi_list, .inr ⟨_, rfl⟩, by decide +kernel⟩
  cases h
theorem snd_bi (S : Snd M r) (g : GX X p G M T ct W ex) {x : Str} {pp pos : Pos} {es : List Expr} {b : Bi} {l : C} (hne : es ≠ []) (hg : glB G.sc x = true) (hn : nmOk x = true) (hc : G.calm = true) (hm : x ∈ M.bin) (hb : biOf x = some b) (hl : cL r G es = some l) :
    PE X (.Call (.Name x pp) es [] pos) (tX p W false (denE T ct (.bi b l))) := by
  obtain ⟨fv, h1, h2, h3⟩ := bi_of (g.calm hc) g.un g.gds hb
  obtain ⟨q1, q2, _⟩ := S.l g hl
  obtain ⟨n1, n2, n3⟩ := nmOk_of hn
  cases es with
  | nil => exact absurd rfl hne
  | cons a es =>
    rw [List.all_cons, Bool.and_eq_true] at q2
    exact x_bi g.hK h1 h2 (g.gl hg) (g.bin x hm) h3 q1 n3 n1 (star_cons (by cases a <;> first | rfl | exact q2.1)) (star_any q2.2)
theorem ty_of {x : Str} {t : Ty} (h : tyOfN x = some t) : t ≠ .seq ∧ x = Str.ofString (tyNm t) := by
  unfold tyOfN at h
  repeat' split at h
  all_goals first | (cases h; done) | (rename_i e; subst e; cases h; exact ⟨by simp, by decide +kernel⟩) | (rename_i e; cases h; subst e; exact ⟨by simp, by decide +kernel⟩)
theorem snd_isi (S : Snd M r) (g : GX X p G M T ct W ex) {pp pos : Pos} {a b : Expr} {c : C} (h : cIsi r M G a b = some c) : plainC c = true ∧ PE X (.Call (.Name "isinstance" pp) [a, b] [] pos) (tX p W false (denE T ct c)) := by
  obtain ⟨h1, h⟩ := gd_some h
  rw [Bool.and_eq_true] at h1
  split at h
  · rename_i y py _
    obtain ⟨h2, h⟩ := gd_some h
    rw [Bool.and_eq_true] at h2
    split at h
    · rename_i i hi
      obtain ⟨n, h3, h4⟩ := bd_some h
      cases h4
      split at hi
      · rename_i x px _
        obtain ⟨j, h5, h6⟩ := bd_some hi
        obtain ⟨h7, h8⟩ := gd_some h6
        cases h8
        obtain ⟨v1, v2, v3, v4⟩ := g.var h5 px
        obtain ⟨n1, n2, _⟩ := nmOk_of v4
        have hb := g.bin _ (List.contains_iff_mem.mp h1.2)
        have hgl := g.gl h1.1
        obtain ⟨X0, ad, m, oe, pn, e, k1, k2, k3, k4, k5, k6⟩ := g.suite i (List.contains_iff_mem.mp h7)
        obtain ⟨cv, cu, c1, c2, c3⟩ := k6 y n h2.1 h2.2 h3
        subst e
        refine ⟨rfl, ?_⟩
        have : denE T ct (.isE i n) = fun ρ => opt ((T.sub m n).map .bool) ρ := by funext ρ; show opt (T.cur.bind _) ρ = _; rw [k2]; rfl
        rw [this]
        exact x_isE k3 k4 k5 rfl hgl hb v2 v3 n1 n2 k1 (c1 py) c2 c3
      · cases hi
    · obtain ⟨h3, h⟩ := gd_some h
      obtain ⟨t, h4, h⟩ := bd_some h
      obtain ⟨c', h5, h6⟩ := bd_some h
      cases h6
      obtain ⟨p1, p2, p3⟩ := S.a g h5
      obtain ⟨t1, t2⟩ := ty_of h4
      exact ⟨rfl, x_isi t1 g.hK p1 (g.gl h1.1) rfl (g.bin _ (List.contains_iff_mem.mp h1.2)) (g.gl h2.1) t2 (g.bin _ (List.contains_iff_mem.mp h3)) (by cases a <;> first | rfl | cases p3)⟩
  · cases h
/-! calls -/
def lenC : C → Nat
  | .cons _ r => lenC r + 1
  | _ => 0
theorem argAll_len : ∀ {l : C} {σ : St} {H : Hp} {vs : List V} {ds : List D}, ArgAll p σ H l vs ds → vs.length = lenC l ∧ ds.length = lenC l
  | .nil, _, _, [], [], _ => ⟨rfl, rfl⟩
  | .cons c r, _, _, v :: vs, d :: ds, h => by
    obtain ⟨h1, h2⟩ := argAll_len (l := r) h.2
    exact ⟨congrArg (· + 1) h1, congrArg (· + 1) h2⟩
theorem cL_len : ∀ {es : List Expr} {l : C}, cL r G es = some l → lenC l = es.length
  | [], l, h => by cases h; rfl
  | e :: es, l, h => by
    obtain ⟨h1, h2⟩ := gd_some h
    obtain ⟨c, h3, h4⟩ := bd_some h2
    obtain ⟨l', h5, h6⟩ := bd_some h4
    cases h6
    exact congrArg (· + 1) (cL_len h5)
theorem pk_imp {kws : List Keyword} {t t' : TA} (h : PK X kws t) (i : ∀ σ H Q, t' σ H Q → t σ H Q) : PK X kws t' := ⟨fun po pins s σ H Q I q => h.run po pins s σ H Q I (i σ H Q q)⟩
theorem Snd.k (S : Snd M r) (g : GX X p G M T ct W ex) : ∀ {kws : List Keyword} {l : C}, cKw r G kws = some l → PK X kws (tAG p W (gA p l) (denL T ct l)) ∧ ownsOf l = [] ∧ lenC l = kws.length
  | [], l, h => by
    cases h
    exact ⟨pk_imp pk_nil fun σ H Q m => tAG.ok m _ trivial, rfl, rfl⟩
  | ⟨nm, e, kp⟩ :: kws, l, h => by
    obtain ⟨c, h3, h4⟩ := bd_some h
    obtain ⟨l', h5, h6⟩ := bd_some h4
    cases h6
    obtain ⟨p1, p2, p3⟩ := S.e g h3
    obtain ⟨q1, q2, q3⟩ := S.k g h5
    have po := plainC_own p1
    refine ⟨?_, by unfold ownsOf; rw [po]; exact q2, congrArg (· + 1) q3⟩
    rw [denL_cons fun a e => by subst e; cases p1]
    refine pk_imp (pk_cons (x_arg po p2) q1) fun σ H Q m => ?_
    refine (tAG.bind (G := gY p c) m).mono fun v H1 ⟨d, st, g1, m1⟩ => ?_
    refine (tAG.bindL (L' := gA p l') m1).mono fun vs H2 ⟨ds, st2, g2, m2⟩ => ?_
    exact m2.ok _ ⟨g1.stay st2, g2⟩
theorem kw_names : ∀ {kws : List Keyword} {ks : List Str} {env : Env} {pos : Pos}, kwNames kws = some ks → (backToKw pos (keywordEach kws env)).all (·.1.isSome) = true ∧ (backToKw pos (keywordEach kws env)).filterMap (·.1) = ks ∧ (backToKw pos (keywordEach kws env)).any (·.1.isNone) = false ∧ ks.length = kws.length
  | [], ks, _, _, h => by cases h; exact ⟨rfl, rfl, rfl, rfl⟩
  | ⟨none, e, kp⟩ :: kws, ks, _, _, h => by cases h
  | ⟨some n, e, kp⟩ :: kws, ks, env, pos, h => by
    have h : (kwNames kws).map (n :: ·) = some ks := h
    cases hk : kwNames kws with
    | none => rw [hk] at h; cases h
    | some ks' =>
      rw [hk] at h; cases h
      obtain ⟨a, b, c, d⟩ := kw_names (env := env) (pos := pos) hk
      refine ⟨?_, ?_, ?_, congrArg (· + 1) d⟩
      · show (true && (backToKw pos (keywordEach kws env)).all (·.1.isSome)) = true
        rw [a]; rfl
      · show n :: (backToKw pos (keywordEach kws env)).filterMap (·.1) = _
        rw [b]
      · show (false || (backToKw pos (keywordEach kws env)).any (·.1.isNone)) = false
        rw [c]; rfl
theorem RpAll.stayO {σ : St} {H H' : Hp} {vs : List V} {ds : List D} (s : Stay (ow p σ) H H') (h : RpAll p.K (av p σ) H vs ds) : RpAll p.K (av p σ) H' vs ds := RpAll.stay s ow_av h
theorem snd_callk (S : Snd M r) (g : GX X p G M T ct W ex) {x : Str} {pp pos : Pos} {es : List Expr} {kws : List Keyword} {l k : C} {ks : List Str} {pm : List Nat} {fi : FI} {kk : Nat} {fa : Addr} {fd : FuncData} {F : Fn} (d : DefOk X ct ex x fi kk fa fd F) (hr : Room kk X.A)
    (hg : glB G.sc x = true) (hn : nmOk x = true) (hl : cL r G es = some l) (hk : cKw r G kws = some k) (hks : kwNames kws = some ks) (hpm : (es.length, ks, pm) ∈ fi.kws) (ho : ownsOf l = []) (hio : fi.io = []) :
    PE X (.Call (.Name x pp) es kws pos) (tX p W false (denE T ct (.callk fi.f pm l k))) := by
  obtain ⟨q1, q2, _⟩ := S.l g hl
  obtain ⟨k1, k2, k3⟩ := S.k g hk
  obtain ⟨n1, n2, n3, n4⟩ := kw_names (env := X.env) (pos := pos) hks
  have ll := cL_len hl
  have fin : ∀ {σ : St} {H1 H2 : Hp} {Q : VK} {vs zs : List V} {ds es' : List D}, gA p l σ H1 vs ds → Stay (ow p σ) H1 H2 → gA p k σ H2 zs es' → tX p W false (fun ρ2 => callP ct fi.f (permD pm (ds ++ es')) ρ2) σ H2 Q → spF X.K F ct fi.f ex (kwV es.length ks.length pm vs zs) H2 Q (WE (wx ex W) σ) := by
    intro σ H1 H2 Q vs zs ds es' g1 st g2 m
    have e : kwV es.length ks.length pm vs zs = permV pm (vs ++ zs) := by
      unfold kwV
      rw [if_pos ⟨by rw [(argAll_len g1).1, ll], by rw [(argAll_len g2).1, k3, n4]⟩]
    rw [e]
    exact callk_red g.hK (by rw [d.io]; exact hio) ((RpAll.stayO st (argAll_rp ho g1)).append (argAll_rp k2 g2)) (m.weak fun H' v d g => ⟨g.1, fun z => Bool.noConfusion z⟩)
  cases es with
  | nil =>
    cases (show some C.nil = some l from hl)
    refine pe_imp (pe_callGK0 d.fn hr g.gds g.tk (g.gl hg) d.mg d.kp (d.kw _ hpm) k1 n1 n2 (nmOk_of hn).1 (by rw [n3]; rfl)) fun σ H Q m => ?_
    have m : tX p W false (fun ρ => (denL T ct k ρ).bind fun es ρ2 => callP ct fi.f (permD pm ([] ++ es)) ρ2) σ H Q := m
    refine (m.bindL (L := gA p k) frmX).mono fun zs H2 ⟨es', st2, g2, m2⟩ => ?_
    exact fin (vs := []) (ds := []) (H1 := H2) trivial Stay.refl g2 m2
  | cons a es =>
    rw [List.all_cons, Bool.and_eq_true] at q2
    have hs : starEach (a :: es) X.env = (false, eval a X.env) :: starEach es X.env := star_cons (by cases a <;> first | rfl | exact q2.1)
    refine pe_imp (pe_callGK d.fn hr g.gds g.tk (g.gl hg) d.mg d.kp (d.kw _ hpm) q1 k1 n1 n2 (nmOk_of hn).1 hs (by rw [n3, hs]; show ((false || (backTo pos (starEach es X.env)).any (·.1)) || false) = false; rw [star_any q2.2]; rfl)) fun σ H Q m => ?_
    refine (tG.bindL (L := gA p l) frmX m).mono fun vs H1 ⟨ds, st1, g1, m1⟩ => ?_
    refine (m1.bindL (L := gA p k) frmX).mono fun zs H2 ⟨es', st2, g2, m2⟩ => ?_
    exact fin g1 st2 g2 m2
theorem nset_some {x : Str} {es : List Expr} {a : Expr} (h : nsetArg x es = some a) : x = "len" ∧ True ∧ True ∧ ∃ p2 q, es = [.Call (.Name "set" p2) [a] [] q] := by
  unfold nsetArg at h
  split at h
  · rename_i y p2 a' q
    split at h
    · rename_i c
      cases h
      obtain ⟨c1, c2⟩ := c
      subst c2
      exact ⟨c1, trivial, trivial, p2, q, rfl⟩
    · cases h
  · cases h
theorem snd_call (S : Snd M r) (g : GX X p G M T ct W ex) {x : Str} {pp pos : Pos} {es : List Expr} {kws : List Keyword} {c : C} (h : cCall r M G x es kws pos = some c) : plainC c = true ∧ PE X (.Call (.Name x pp) es kws pos) (tX p W false (denE T ct c)) := by
  obtain ⟨h1, h⟩ := gd_some h
  rw [Bool.and_eq_true] at h1
  split at h
  · rename_i fi hfi
    obtain ⟨hc, h⟩ := gd_some h
    obtain ⟨kk, fa, fd, F, d, hr⟩ := g.defs hc x fi hfi
    split at h
    · obtain ⟨l, h2, h⟩ := bd_some h
      obtain ⟨h3, h⟩ := gd_some h
      cases h
      simp only [Bool.and_eq_true, decide_eq_true_eq] at h3
      obtain ⟨q1, q2, _⟩ := S.l g h2
      refine ⟨rfl, x_weak (fr := F.fresh) ?_⟩
      cases es with
      | nil =>
        cases (show some C.nil = some l from h2)
        exact x_call0 d.fn hr g.gds g.tk g.hK (by rw [d.io, ← h3.1.1]; rfl) (g.gl h1.1) d.mg d.kp d.bd (nmOk_of h1.2).1
      | cons a es =>
        rw [List.all_cons, Bool.and_eq_true] at q2
        exact x_call d.fn hr g.gds g.tk g.hK (by rw [d.io]; exact h3.1.1) h3.1.2 (g.gl h1.1) d.mg d.kp d.bd q1 (nmOk_of h1.2).1 (star_cons (by cases a <;> first | rfl | exact q2.1)) (star_any q2.2)
    · obtain ⟨l, h2, h⟩ := bd_some h
      obtain ⟨k, h3, h⟩ := bd_some h
      obtain ⟨ks, h4, h⟩ := bd_some h
      obtain ⟨pm, h5, h⟩ := bd_some h
      have h5 : (es.length, ks, pm) ∈ fi.kws := by
        cases hf : fi.kws.find? fun q => decide (q.1 = es.length) && decide (q.2.1 = ks) with
        | none => rw [hf] at h5; cases h5
        | some q =>
          rw [hf] at h5
          cases h5
          have h6 := List.find?_some hf
          simp only [Bool.and_eq_true, decide_eq_true_eq] at h6
          obtain ⟨q1, q2, q3⟩ := q
          obtain ⟨rfl, rfl⟩ := h6
          exact List.mem_of_find?_eq_some hf
      obtain ⟨h6, h⟩ := gd_some h
      cases h
      simp only [Bool.and_eq_true, decide_eq_true_eq, List.isEmpty_iff] at h6
      exact ⟨rfl, snd_callk S g d hr h1.1 h1.2 h2 h3 h4 h5 h6.1 h6.2⟩
  · split at h
    · rename_i a b
      split at h
      · rename_i e
        subst e
        exact snd_isi S g h
      · obtain ⟨h2, h⟩ := gd_some h
        obtain ⟨b', h3, h⟩ := bd_some h
        obtain ⟨l, h4, h⟩ := bd_some h
        cases h
        rw [Bool.and_eq_true] at h2
        exact ⟨rfl, snd_bi S g (by simp) h1.1 h1.2 h2.2 (List.contains_iff_mem.mp h2.1) h3 h4⟩
    · split at h
      · rename_i a hns
        obtain ⟨h2, h⟩ := gd_some h
        obtain ⟨c', h3, h⟩ := bd_some h
        cases h
        simp only [Bool.and_eq_true] at h2
        obtain ⟨⟨⟨⟨k1, k2⟩, k3⟩, k4⟩, k5⟩ := h2
        obtain ⟨e1, e2, e3, p2, q, e4⟩ := nset_some hns
        obtain ⟨q1, q2, _⟩ := S.e g h3
        subst e1
        rw [e4, den_nset q1]
        exact ⟨rfl, x_nset g.hK (g.calm k4) g.un (g.gl h1.1) (g.bin _ (List.contains_iff_mem.mp k3)) (g.gl k1) (g.bin _ (List.contains_iff_mem.mp k2)) q2 (star_cons k5)⟩
      · obtain ⟨h2, h⟩ := gd_some h
        obtain ⟨b', h3, h⟩ := bd_some h
        obtain ⟨l, h4, h⟩ := bd_some h
        cases h
        rw [Bool.and_eq_true] at h2
        exact ⟨rfl, snd_bi S g (by simp) h1.1 h1.2 h2.2 (List.contains_iff_mem.mp h2.1) h3 h4⟩
    · cases h
end
end Z

set_option linter.all false
set_option maxRecDepth 100000
set_option maxHeartbeats 1000000
namespace Z
open PySem PySem.Spec L2
open PyProof.Rows hiding St

section
variable {X : Cx} {p q : Par} {G : GC} {M : MT} {T : Tab} {ct : CT} {W : Wh} {ex : Nat → Addr} {r : Rec} {fr : Bool}
theorem fold_ok {e : Expr} {env : Env} (h : okX e = true) : ∀ x, foldedSetIterable e env x = pure x := by
  intro x
  cases e <;> first | rfl | cases h
theorem keeps_plain {c : C} (h : isOwn c = none) : keeps c = noChk := by
  funext xs ρ
  unfold keeps
  rw [h]
/-- what is walked -/
def itsD (T : Tab) (ct : CT) (c : C) : Slots → R (List D) := fun ρ => (denE T ct c ρ).bind fun d ρ1 => opt (items d) ρ1
def olOf (c : C) : List Nat := match isOwn c with
  | some i => [i]
  | none => []
theorem pi_data (g : GX X p G M T ct W ex) {tg e : Expr} {c : C} (h1 : plainC c = true) (h2 : PE X e (tX p W false (denE T ct c))) : PI X tg e (tI p W (olOf c) (keeps c) (itsD T ct c)) := by
  have h := plainC_own h1
  rw [keeps_plain h, show olOf c = [] by unfold olOf; rw [h]]
  exact i_data g.hK h2
theorem snd_itA (S : Snd M r) (g : GX X p G M T ct W ex) {tg e : Expr} {c : C} (h : cA r G e = some c) : PI X tg e (tI p W (olOf c) (keeps c) (itsD T ct c)) ∧ okX e = true := by
  have h0 := h
  unfold cA at h
  split at h
  · rename_i i hi
    cases h
    unfold ownE at hi
    split at hi
    · rename_i x pos
      obtain ⟨j, h1, h2⟩ := bd_some hi
      obtain ⟨h3, h4⟩ := gd_some h2
      cases h4
      exact ⟨i_own g.hK (by rw [g.own]; exact List.contains_iff_mem.mp h3) (g.var h1 pos).1, rfl⟩
    · cases hi
  · obtain ⟨h1, h2, h3⟩ := S.e g h
    exact ⟨pi_data g h1 h2, h3⟩
theorem snd_it (S : Snd M r) (g : GX X p G M T ct W ex) {tg e : Expr} {c : C} (h : cIt r M G e = some c) : PI X tg e (tI p W (olOf c) (keeps c) (itsD T ct c)) ∧ okX e = true := by
  unfold cIt at h
  split at h
  · rename_i x pp es pos
    split at h
    · rename_i hx
      obtain ⟨h1, h⟩ := gd_some h
      obtain ⟨l, h2, h⟩ := bd_some h
      cases h
      simp only [Bool.and_eq_true, Bool.or_eq_true, decide_eq_true_eq] at h1
      obtain ⟨⟨h3, h4⟩, h5⟩ := h1
      obtain ⟨q1, q2, q3⟩ := S.l g h2
      have hm := g.bin x (List.contains_iff_mem.mp h4)
      refine ⟨?_, rfl⟩
      rw [keeps_plain (show isOwn (.bi .range l) = none from rfl)]
      rcases h5 with h5 | h5
      · obtain ⟨a, rfl⟩ := List.length_eq_one_iff.mp h5
        rw [List.all_cons, Bool.and_eq_true] at q2
        exact i_range1 hx (g.gl h3) hm q1 (star_cons (by cases a <;> first | rfl | exact q2.1)) q3
      · obtain ⟨a, b, rfl⟩ : ∃ a b, es = [a, b] := by
          match es, h5 with
          | [a, b], _ => exact ⟨a, b, rfl⟩
        simp only [List.all_cons, Bool.and_eq_true] at q2
        have e2 : starEach [b] X.env = [(false, eval b X.env)] := star_cons (by cases b <;> first | rfl | exact q2.2.1)
        exact i_range2 hx (g.gl h3) hm q1 (by rw [star_cons (by cases a <;> first | rfl | exact q2.1), e2]) e2 q3
    · obtain ⟨h1, h2, h3⟩ := S.e g h
      exact ⟨pi_data g h1 h2, h3⟩
  · exact snd_itA S g h
/-! targets -/
theorem xs_ne (g : GX X p G M T ct W ex) {i : Nat} (h : (!G.xsl.contains i) = true) : ∀ q ∈ p.xs, q.1 ≠ i := fun q hq e => by
  have : q.1 ∈ G.xsl := by rw [← g.xsl]; exact List.mem_map.mpr ⟨q, hq, rfl⟩
  rw [e] at this
  rw [List.contains_iff_mem.mpr this] at h
  cases h
theorem own_ne (g : GX X p G M T ct W ex) {i : Nat} (h : (!G.own.contains i) = true) : i ∉ p.own := fun hi => by
  rw [g.own] at hi
  rw [List.contains_iff_mem.mpr hi] at h
  cases h
theorem snd_gn (g : GX X p G M T ct W ex) {n : Nat} {x : Str} {pos : Pos} {c : C} (h : cP G n (.Name x pos) = some c) : ∃ i, c = .var i ∧ i ∉ p.own ∧ PG X (.Name x pos) (tPat p (.var i)) := by
  have h : gd (locB G.sc x && (G.fnb x || decide (G.sc.names.lookup x = some .local))) ((G.N.findIdx? (· == x)).bind fun i => gd (!G.own.contains i && !G.xsl.contains i) (some (C.var i))) = some c := by cases n <;> exact h
  obtain ⟨h1, h⟩ := gd_some h
  obtain ⟨i, h2, h⟩ := bd_some h
  obtain ⟨h3, h⟩ := gd_some h
  cases h
  simp only [Bool.and_eq_true, Bool.or_eq_true, decide_eq_true_eq] at h1 h3
  have ho := own_ne g h3.1
  refine ⟨i, rfl, ho, g_var (by rw [g.N]; exact g.nd) (by rw [g.N]; exact ix_some h2) (by rw [g.sc]; exact locB_of h1.1) ?_ ho (xs_ne g h3.2)⟩
  rcases h1.2 with z | z
  · exact .inl (g.fn x z)
  · exact .inr (by rw [g.sc]; exact z)
def nt : Expr → Bool
  | .Name _ _ => true
  | .Tuple _ _ _ => true
  | _ => false
theorem asg_cons {e : Expr} {es : List Expr} {env : Env} (h : nt e = true) : assignEach (e :: es) env = (false, assign e env) :: assignEach es env := by
  cases e <;> first | rfl | cases h
theorem asg_none : ∀ {es : List Expr} {env : Env}, es.all nt = true → (assignEach es env).length = es.length ∧ (assignEach es env).findIdx? (·.1) = none
  | [], _, _ => ⟨rfl, rfl⟩
  | e :: es, env, h => by
    rw [List.all_cons, Bool.and_eq_true] at h
    obtain ⟨h1, h2⟩ := asg_none (es := es) (env := env) h.2
    rw [asg_cons h.1]
    refine ⟨congrArg (· + 1) h1, ?_⟩
    rw [List.findIdx?_cons]
    simp [h2]
theorem cP_nt {n : Nat} {e : Expr} {c : C} (h : cP G n e = some c) : nt e = true := by
  cases e <;> first | rfl | (cases n <;> cases h)
theorem snd_p : ∀ (n : Nat) {X : Cx} {G : GC} {p : Par} {T : Tab} {ct : CT} {W : Wh} (g : GX X p G M T ct W ex) {e : Expr} {c : C}, cP G n e = some c → PG X e (tPat p c) ∧ (∀ v ∈ slotsP c, v ∉ p.own) := by
  intro n
  induction n with
  | zero =>
    intro X G p T ct W g e c h
    cases e <;> first | (cases h; done) | skip
    obtain ⟨i, rfl, ho, pg⟩ := snd_gn g h
    exact ⟨pg, fun v hv => by rw [show slotsP (.var i) = [i] from rfl, List.mem_singleton] at hv; subst hv; exact ho⟩
  | succ n ih =>
    intro X G p T ct W g e c h
    cases e <;> first | (cases h; done) | skip
    · obtain ⟨i, rfl, ho, pg⟩ := snd_gn g h
      exact ⟨pg, fun v hv => by rw [show slotsP (.var i) = [i] from rfl, List.mem_singleton] at hv; subst hv; exact ho⟩
    · rename_i es k pos
      obtain ⟨hc, h⟩ := gd_some h
      obtain ⟨l, h1, h2⟩ := bd_some h
      cases h2
      have key : ∀ (es : List Expr) (l : C), cPs (cP G n) es = some l → PGs X es (tPats p l) ∧ (∀ v ∈ slotsP.slotsPs l, v ∉ p.own) ∧ es.all nt = true ∧ lenP l = es.length := by
        intro es
        induction es with
        | nil => intro l h; cases h; exact ⟨gs_nil, (fun v hv => by cases hv), rfl, rfl⟩
        | cons e es ihe =>
          intro l h
          obtain ⟨c, h1, h⟩ := bd_some h
          obtain ⟨l', h2, h⟩ := bd_some h
          cases h
          obtain ⟨r1, r2, r3, r4⟩ := ihe l' h2
          have hn := cP_nt h1
          have ha : ((assignEach (e :: es) X.env).map (·.2)) = assign e X.env :: (assignEach es X.env).map (·.2) := by rw [asg_cons hn]; rfl
          refine ⟨?_, ?_, by rw [List.all_cons, hn, r3]; rfl, congrArg (· + 1) r4⟩
          · cases e <;> first | (cases hn; done) | skip
            · rename_i x px
              obtain ⟨i, rfl, ho, pg⟩ := snd_gn g h1
              exact gs_var pg r1 ha ho
            · obtain ⟨pg, hs⟩ := ih g h1
              cases n with
              | zero => cases h1
              | succ n =>
                obtain ⟨hc, h1⟩ := gd_some h1
                obtain ⟨l2, h3, h4⟩ := bd_some h1
                cases h4
                exact gs_tup pg r1 ha hs
          · obtain ⟨pg, hs⟩ := ih g h1
            intro v hv
            cases c with
            | var i =>
              rcases List.mem_cons.mp hv with z | z
              · subst z; exact hs _ List.mem_cons_self
              · exact r2 v z
            | tup l2 =>
              rcases List.mem_append.mp hv with z | z
              · exact hs v z
              · exact r2 v z
            | _ => cases hv
      obtain ⟨k1, k2, k3, k4⟩ := key es l h1
      obtain ⟨a1, a2⟩ := asg_none (env := X.env) k3
      exact ⟨g_tup g.hK (g.calm hc) k1 (by rw [a1, k4]) a2, k2⟩
/-! comprehensions -/
theorem denE_lc {vs : List Nat} {pt it c e : C} : denE T ct (.lc vs pt it c e) = lcD (keeps it) vs pt (denT T ct c) (denE T ct e) (itsD T ct it) := by
  funext ρ
  show (denE T ct it ρ).bind _ = ((denE T ct it ρ).bind _).bind _
  cases denE T ct it ρ with
  | ok x ρ1 =>
    simp only [R.bind]
    cases hx : items x with
    | none => simp only [opt, R.bind]
    | some xs => simp only [opt, R.bind]; rfl
  | exn c ρ1 => rfl
  | bad => rfl
theorem snd_lcOk (S : Snd M r) (g : GX X p G M T ct W ex) {elt tg it : Expr} {ifs : List Expr} {scope : Scope} {c : C} (h : cLc r M G elt tg it ifs scope = some c) :
    ∃ vs pt ci cc ce, c = .lc vs pt ci cc ce ∧ vs = (ownNames G.N scope.names).map (·.2) ∧ LcOk X p W elt tg it ifs scope (ownNames G.N scope.names) pt (olOf ci) (keeps ci) (itsD T ct ci) (denT T ct cc) (denE T ct ce) := by
  obtain ⟨h1, h⟩ := gd_some h
  obtain ⟨pt, h2, h⟩ := bd_some h
  obtain ⟨h3, h⟩ := gd_some h
  obtain ⟨ci, h4, h⟩ := bd_some h
  obtain ⟨cc, h5, h⟩ := bd_some h
  obtain ⟨ce, h6, h⟩ := bd_some h
  cases h
  simp only [Bool.and_eq_true, List.all_eq_true] at h1 h3
  obtain ⟨⟨⟨hx, hc⟩, hb⟩, ho⟩ := h1
  have hx : G.xsl = [] := List.isEmpty_iff.mp hx
  obtain ⟨i1, i2⟩ := snd_it (tg := tg) S g h4
  refine ⟨_, pt, ci, cc, ce, rfl, rfl, ⟨g.calm hc, by rw [g.N]; exact g.nd, i1, by rw [g.N, g.sc]; exact blkOk_by hb, fun v hv => ?_, fun q hq hv => ?_, fun v hv => List.contains_iff_mem.mp (h3 v hv), fun q hq s H Cc cl fp => (snd_p 3 ((g.blk hx).sim hq) h2).1, fun q hq s H Cc cl fp => ?_, fun q hq s H Cc cl fp => (S.e ((g.blk hx).sim hq) h6).2.1, fold_ok i2⟩⟩
  · obtain ⟨z, hz, rfl⟩ := List.mem_map.mp hv
    exact own_ne g (ho z hz).1
  · obtain ⟨z, hz, e⟩ := List.mem_map.mp hv
    exact xs_ne g (ho z hz).2 q hq e.symm
  · split at h5
    · cases h5; exact ts_nil
    · exact ts_one (S.t ((g.blk hx).sim hq) h5)
    · cases h5
theorem snd_lc (S : Snd M r) (g : GX X p G M T ct W ex) {elt tg it : Expr} {ifs : List Expr} {scope : Scope} {pos : Pos} {c : C} (h : cLc r M G elt tg it ifs scope = some c) : plainC c = true ∧ PE X (.ListComp elt [⟨tg, it, ifs, 0⟩] scope pos) (tX p W false (denE T ct c)) := by
  obtain ⟨vs, pt, ci, cc, ce, rfl, rfl, L⟩ := snd_lcOk S g h
  refine ⟨rfl, ?_⟩
  rw [denE_lc]
  exact x_lc L
end
end Z

set_option linter.all false
set_option maxRecDepth 100000
set_option maxHeartbeats 1000000
namespace Z
open PySem PySem.Spec L2
open PyProof.Rows hiding St

section
variable {X : Cx} {p q : Par} {G : GC} {M : MT} {T : Tab} {ct : CT} {W : Wh} {ex : Nat → Addr} {r : Rec} {fr : Bool}
theorem plainIx_ok {e : Expr} (h : okX e = true) : PlainIx e := by
  intro o i
  cases e <;> first | rfl | cases h
theorem noSuper_ok {o : Expr} {name : Str} {env : Env} (h : noSuper o = true) : attributeBase o name env (eval o env) = eval o env := by
  cases o <;> first | rfl | skip
  rename_i f es kws pos
  cases f <;> first | rfl | skip
  cases es <;> first | rfl | skip
  cases kws <;> first | rfl | cases h
theorem snd_end (S : Snd M r) (g : GX X p G M T ct W ex) {o : Option Expr} {c : C} (h : cEnd r G o = some c) : ∀ (pins : List (Addr × Obj)) (s : Shared) (σ : St) (H : Hp) (Q : VK), Inv X pins σ H s → tX p W false (denE T ct c) σ H Q → wpAny (model X.prog X.w) X.A (evalPart o X.env) (EP X pins σ Q) X.xe s := by
  cases o with
  | none => cases h; exact part_none
  | some e => exact part_some (S.e g (show r false G e = some c from h)).2.1
theorem me_ok (hu : X.A.units + 65 < cLine) {x : Str} {m : Me} (h : meOf x = some m) : x = Str.ofString (meNm m) ∧ ∀ d, meTy m d = true → ∃ isT T id g, (isT = isStrD ∨ isT = isLstD) ∧ isT d = true ∧ MeT X m isT T id g := by
  unfold meOf at h
  split at h
  · rename_i e; subst e; cases h
    refine ⟨by decide +kernel, fun d hd => ⟨isLstD, _, _, _, .inr rfl, ?_, ⟨F.plainAttrs_list, F.slot_list_count, rfl, me_count_list hu, fun d ds h => ?_, fun K Av H v d h r => ra_lst h r⟩⟩⟩
    · cases d <;> first | rfl | cases hd
    · cases d <;> first | rfl | cases h
  split at h
  · rename_i e; subst e; cases h
    refine ⟨by decide +kernel, fun d hd => ?_⟩
    cases d <;> first | (cases hd; done) | skip
    · exact ⟨isStrD, _, _, _, .inl rfl, rfl, ⟨F.plainAttrs_str, F.slot_str_index, rfl, me_index_str, (fun d ds h => by cases d <;> first | rfl | cases h), fun K Av H v d h r => ra_str h r⟩⟩
  split at h
  · rename_i e; subst e; cases h
    refine ⟨by decide +kernel, fun d hd => ?_⟩
    cases d <;> first | (cases hd; done) | skip
    · exact ⟨isStrD, _, _, _, .inl rfl, rfl, ⟨F.plainAttrs_str, F.slot_str_split, rfl, me_split, (fun d ds h => by cases d <;> first | rfl | cases h), fun K Av H v d h r => ra_str h r⟩⟩
  split at h
  · rename_i e; subst e; cases h
    refine ⟨by decide +kernel, fun d hd => ?_⟩
    cases d <;> first | (cases hd; done) | skip
    · exact ⟨isStrD, _, _, _, .inl rfl, rfl, ⟨F.plainAttrs_str, F.slot_str_join, rfl, me_join, (fun d ds h => by cases d <;> first | rfl | cases h), fun K Av H v d h r => ra_str h r⟩⟩
  cases h
theorem snd_me (S : Snd M r) (g : GX X p G M T ct W ex) {o e : Expr} {name : Str} {apos cpos : Pos} {es : List Expr} {m : Me} {co l : C} (h1 : (apos.endLine == cpos.line) = true) (h2 : noSuper o = true) (h3 : (e :: es).length < 20) (hm : meOf name = some m) (ho : cA r G o = some co) (hl : cL r G (e :: es) = some l) :
    PE X (.Call (.Attribute o name apos) (e :: es) [] cpos) (tX p W false (denE T ct (.me m co l))) := by
  obtain ⟨m1, m2⟩ := me_ok g.un hm
  obtain ⟨q1, q2, _⟩ := S.l g hl
  have q3 := q2
  rw [List.all_cons, Bool.and_eq_true] at q3
  refine x_me g.hK m2 (S.a g ho).1 q1 m1 (noSuper_ok h2) ?_ h1 (star_cons (by cases e <;> first | rfl | exact q3.1)) (star_any q3.2)
  rw [star_all q2]
  show (true && true && decide ((e :: es).length + 0 + 0 < 30)) = true
  simp only [Bool.and_self, Bool.true_and, decide_eq_true_eq]
  omega
theorem snd_est (S : Snd M r) (g : GX X p G M T ct W ex) {e : Expr} {c : C} (h : cEst r M G e = some c) : plainC c = true ∧ PE X e (tX p W false (denE T ct c)) ∧ okX e = true := by
  unfold cEst at h
  split at h
  · obtain ⟨a, b⟩ := snd_const g h; exact ⟨a, b, rfl⟩
  · obtain ⟨a, b⟩ := snd_name g h; exact ⟨a, b, rfl⟩
  · obtain ⟨o', h1, h⟩ := bd_some h
    obtain ⟨ca, h2, h⟩ := bd_some h
    obtain ⟨cb, h3, h⟩ := bd_some h
    cases h
    exact ⟨rfl, x_op g.hK (ok_op h1) (S.a g h2).1 (S.a g h3).1, rfl⟩
  · obtain ⟨ca, h1, h⟩ := bd_some h
    cases h
    exact ⟨rfl, x_neg (S.e g h1).2.1, rfl⟩
  · obtain ⟨ca, h1, h⟩ := bd_some h
    cases h
    exact ⟨rfl, x_not (S.e g h1).2.1, rfl⟩
  · obtain ⟨a, b⟩ := S.and g h; exact ⟨a, b, rfl⟩
  · obtain ⟨a, b⟩ := S.or g h; exact ⟨a, b, rfl⟩
  · obtain ⟨cc, h1, h⟩ := bd_some h
    obtain ⟨ca, h2, h⟩ := bd_some h
    obtain ⟨cb, h3, h⟩ := bd_some h
    cases h
    exact ⟨rfl, x_ite (S.t g h1) (S.e g h2).2.1 (S.e g h3).2.1, rfl⟩
  · obtain ⟨l, h1, h⟩ := bd_some h
    obtain ⟨h2, h⟩ := gd_some h
    cases h
    exact ⟨rfl, x_tup (of_decide_eq_true h2) (S.l g h1).1, rfl⟩
  · obtain ⟨l, h1, h⟩ := bd_some h
    obtain ⟨h2, h⟩ := gd_some h
    cases h
    exact ⟨rfl, x_lst (of_decide_eq_true h2) (S.l g h1).1, rfl⟩
  · cases h
    exact ⟨rfl, x_dic, rfl⟩
  · obtain ⟨ca, h1, h⟩ := bd_some h
    obtain ⟨cl, h2, h⟩ := bd_some h
    obtain ⟨ch, h3, h⟩ := bd_some h
    cases h
    exact ⟨rfl, x_sl g.hK (S.a g h1).1 (snd_end S g h2) (snd_end S g h3), rfl⟩
  · obtain ⟨ca, h1, h⟩ := bd_some h
    cases h
    obtain ⟨q1, q2, _⟩ := S.e g h1
    rw [den_one (bf := bRev) q1 rfl]
    exact ⟨rfl, x_rev g.hK q2, rfl⟩
  · cases h
  · obtain ⟨ca, h1, h⟩ := bd_some h
    obtain ⟨ci, h2, h⟩ := bd_some h
    cases h
    obtain ⟨_, k2, k3⟩ := S.e g h2
    exact ⟨rfl, x_ix g.hK (S.a g h1).1 k2 (plainIx_ok k3) rfl, rfl⟩
  · obtain ⟨h1, h⟩ := gd_some h
    obtain ⟨ca, h2, h⟩ := bd_some h
    obtain ⟨cb, h3, h⟩ := bd_some h
    cases h
    exact ⟨rfl, x_cmp g.hK (ok_cm g.un _) (S.a g h2).1 (S.a g h3).1 (by simpa using h1), rfl⟩
  · obtain ⟨h1, h⟩ := gd_some h
    obtain ⟨ca, h2, h⟩ := bd_some h
    obtain ⟨cb, h3, h⟩ := bd_some h
    obtain ⟨cc, h4, h⟩ := bd_some h
    cases h
    exact ⟨rfl, x_chain g.hK (ok_cm g.un _) (ok_cm g.un _) (S.e g h2).2.1 (S.e g h3).2.1 (S.e g h4).2.1 (by simpa using h1), rfl⟩
  · obtain ⟨a, b⟩ := snd_call S g h; exact ⟨a, b, rfl⟩
  · split at h
    · rename_i hn
      subst hn
      obtain ⟨h1, h⟩ := gd_some h
      obtain ⟨i, h2, h⟩ := bd_some h
      obtain ⟨c', h3, h⟩ := bd_some h
      cases h
      simp only [Bool.and_eq_true, List.isEmpty_iff] at h1
      obtain ⟨⟨k1, k2⟩, k3⟩ := h1
      subst k1
      obtain ⟨o1, o2, o3⟩ := snd_ownE g h2
      have hs := star_cons (es := []) (env := X.env) k3
      exact ⟨rfl, x_pop o1 o2 (S.e g h3).2.1 (o3 _ _) (by rw [hs]; rfl) k2 hs, rfl⟩
    · obtain ⟨h1, h⟩ := gd_some h
      obtain ⟨m, h2, h⟩ := bd_some h
      obtain ⟨co, h3, h⟩ := bd_some h
      obtain ⟨l, h4, h⟩ := bd_some h
      cases h
      simp only [Bool.and_eq_true, decide_eq_true_eq] at h1
      exact ⟨rfl, snd_me S g h1.1.1 h1.1.2 h1.2 h2 h3 h4, rfl⟩
  · obtain ⟨a, b⟩ := snd_lc S g h; exact ⟨a, b, rfl⟩
  · cases h
theorem snd_tst (S : Snd M r) (g : GX X p G M T ct W ex) {e : Expr} {c : C} (h : cTst r M G e = some c) : PT X e (tB p W (denT T ct c)) := by
  have key : ∀ {e : Expr} {c : C}, cA r G e = some c → (∀ whole, isTrue e X.env whole = (do let v ← whole; standAt e.pos; holding [v] (truthy v))) → PT X e (tB p W (denT T ct (.tv c))) := fun h he => t_truth g.hK (S.a g h).1 he
  unfold cTst at h
  split at h
  · obtain ⟨ca, h1, h⟩ := bd_some h
    cases h
    exact t_not (S.t g h1)
  · exact (S.tand g h).pt
  · exact (S.tor g h).pt
  · obtain ⟨h1, h⟩ := gd_some h
    obtain ⟨ca, h2, h⟩ := bd_some h
    obtain ⟨cb, h3, h⟩ := bd_some h
    cases h
    exact t_cmp g.hK (ok_cm g.un _) (S.a g h2).1 (S.a g h3).1 (by simpa using h1)
  · obtain ⟨h1, h⟩ := gd_some h
    obtain ⟨ca, h2, h⟩ := bd_some h
    obtain ⟨cb, h3, h⟩ := bd_some h
    obtain ⟨cc, h4, h⟩ := bd_some h
    cases h
    exact t_chain g.hK (ok_cm g.un _) (ok_cm g.un _) (S.e g h2).2.1 (S.e g h3).2.1 (S.e g h4).2.1 (by simpa using h1)
  · cases h
  · cases h
  · rename_i n1 n2 n3 n4 n4' n5 n6
    obtain ⟨c', h1, h⟩ := bd_some h
    cases h
    refine key h1 fun whole => ?_
    cases e <;> first | rfl | skip
    · rename_i o es ps
      cases o
      · exact absurd rfl (n2 _ _)
      · exact absurd rfl (n3 _ _)
    · rename_i o a ps
      cases o <;> first | rfl | exact absurd rfl (n1 _ _)
    · exact absurd rfl (n6 _ _ _ _)
    · exact absurd rfl (n5 _ _ _ _)
theorem snd_all (M : MT) : ∀ n, Snd M (cX M n)
  | 0 => ⟨fun {X p G T ct W ex} g {e c} h => (by cases h), fun {X p G T ct W ex} g {e c} h => (by cases h)⟩
  | n + 1 => ⟨fun {X p G T ct W ex} g {e c} h => snd_est (snd_all M n) g h, fun {X p G T ct W ex} g {e c} h => snd_tst (snd_all M n) g h⟩
end
end Z

set_option linter.all false
set_option maxRecDepth 100000
set_option maxHeartbeats 1000000
namespace Z
open PySem PySem.Spec L2
open PyProof.Rows hiding St

abbrev RecS := GC → List Stmt → Option C
/-- new lists -/
def cZ (r : Rec) (M : MT) (G : GC) : Expr → Option C
  | .List es _ => (cL r G es).bind fun l => gd (decide (ownsOf l = [])) (some (.lst l))
  | .ListComp elt [⟨tg, it, ifs, 0⟩] scope _ => cLc r M G elt tg it ifs scope
  | .BinOp a .Add b _ => (cA r G a).bind fun ca => (cA r G b).bind fun cb => some (.op .add ca cb)
  | .Subscript a (.Slice lo hi none _) _ => (cA r G a).bind fun ca => (cEnd r G lo).bind fun cl => (cEnd r G hi).bind fun ch => some (.sl ca cl ch)
  | .Call (.Name x _) es [] _ => gd (glB G.sc x && nmOk x && G.calm) (match M.defs.lookup x with
    | some fi => gd fi.fresh ((cL r G es).bind fun l => gd (decide ((ioPairs 0 l).map (·.1) = fi.io) && decide (ownsOf l).Nodup && decide (es.length = fi.ps.length)) (some (.call fi.f l)))
    | none => gd (decide (x = "list") && M.bin.contains x && !es.isEmpty) ((cL r G es).bind fun l => some (.bi .list l)))
  | _ => none
def notLC : Expr → Bool
  | .ListComp _ _ _ _ => false
  | .SetComp _ _ _ _ => false
  | .DictComp _ _ _ _ _ => false
  | _ => true
/-- a name that is assigned -/
def stor (G : GC) (x : Str) : Option Nat := gd (locB G.sc x && (G.fnb x || decide (G.sc.names.lookup x = some .local))) ((G.N.findIdx? (· == x)).bind fun i => gd (!G.xsl.contains i) (some i))
def blkK (sc : Scope) : ScopeKind := if sc.kind.isAnnotationScope then .function else sc.kind
def swB (G : GC) (x : Str) (px : Pos) (epos : Pos) (scope : Scope) : Bool :=
  blkK G.sc == .function && G.sc.names.lookup x == some .local && px.line == epos.line && !(scope.names.any fun (n, k) => n == x && (k == .local || k == .cell))
def nmsOf (G : GC) (ts : List Expr) : List Str := ts.filterMap fun
    | .Name id pos => if G.sc.names.lookup id == some .local && pos.line == (ts.head?.map (·.pos.line)).getD 0 then some id else none
    | _ => none
def swS (G : GC) (ts vs : List Expr) : Option (Option (List Str)) :=
  if !(ts.length == 2 || ts.length == 3) || vs.length != ts.length || blkK G.sc != .function then some none else
  if (vs.any fun | .Starred .. => true | _ => false) then some none else
  if (nmsOf G ts).length != ts.length || (nmsOf G ts).eraseDups.length != (nmsOf G ts).length then some none else
  if vs.all (foldedForSure 8) then some none else
  if vs.all (constantsAlone 8) then none else some (some (nmsOf G ts))
/-- a value that is no list -/
def noL : C → Bool
  | .non => true | .bl _ => true | .int _ => true | .str _ => true | .tup _ => true | .cmp _ _ _ => true | .not _ => true | .neg _ => true
  | _ => false
def cSet (r : Rec) (M : MT) (G : GC) (i : Nat) (e : Expr) : Option C :=
  if G.own.contains i then gd (!G.io.contains i && notLC e) ((cZ r M G e).bind fun c => some (.sOwn i c)) else gd (notLC e) ((r false G e).bind fun c => some (.sSet i c))
def cSetLc (r : Rec) (M : MT) (G : GC) (i : Nat) (x : Str) (px : Pos) (elt tg it : Expr) (ifs : List Expr) (scope : Scope) (epos : Pos) : Option C := gd (decide (G.sc.names.lookup x = some .local)) ((cLc r M G elt tg it ifs scope).bind fun c =>
  if G.own.contains i then gd (!G.io.contains i) (some (.sOwn i c)) else some (.sSet i c))
def cPar (r : Rec) (G : GC) (x y : Str) (a b : Expr) : Option C := (G.N.findIdx? (· == x)).bind fun i => (G.N.findIdx? (· == y)).bind fun j => gd (decide (i ≠ j) && decide (G.sc.names.lookup x = some .local) && decide (G.sc.names.lookup y = some .local) && !G.own.contains i && !G.own.contains j && !G.xsl.contains i && !G.xsl.contains j && G.calm)
  ((cL r G [a, b]).bind fun l => gd (decide (ownsOf l = [])) (some (.sPar [i, j] l)))
def cPar3 (r : Rec) (G : GC) (x y z : Str) (es : List Expr) : Option C := (G.N.findIdx? (· == x)).bind fun i => (G.N.findIdx? (· == y)).bind fun j => (G.N.findIdx? (· == z)).bind fun k => gd (decide (i ≠ j) && decide (i ≠ k) && decide (j ≠ k) && decide (G.sc.names.lookup x = some .local) && decide (G.sc.names.lookup y = some .local) && decide (G.sc.names.lookup z = some .local) && !G.own.contains i && !G.own.contains j && !G.own.contains k && !G.xsl.contains i && !G.xsl.contains j && !G.xsl.contains k && G.calm)
  ((cL r G es).bind fun l => gd (decide (ownsOf l = [])) (some (.sPar [i, j, k] l)))
def cSt (rs : RecS) (r : Rec) (M : MT) (rai : List (Str × Nat)) (G : GC) : Stmt → Option C
  | .Expr (.Constant (.str _) _ _) _ => some .sPass
  | .Expr (.Call (.Attribute o nm apos) [e] [] cpos) _ => gd (decide (nm = "append") && apos.endLine == cpos.line) ((ownE G o).bind fun i => gd (noSt e) ((r false G e).bind fun c => some (.sApp i c)))
  | .Expr e _ => gd (notLC e) ((r false G e).bind fun c => some (.sExp c))
  | .Assign [.Name x px] (.ListComp elt [⟨tg, it, ifs, 0⟩] scope epos) _ => (stor G x).bind fun i => if swB G x px epos scope then cSetLc r M G i x px elt tg it ifs scope epos else
      (cLc r M G elt tg it ifs scope).bind fun c => if G.own.contains i then gd (!G.io.contains i) (some (.sOwn i c)) else some (.sSet i c)
  | .Assign [.Name x _] e _ => (stor G x).bind fun i => cSet r M G i e
  | .Assign [.Tuple [.Name x px, .Name y py] k tp] (.Tuple [a, b] k2 tp2) _ => (swS G [.Name x px, .Name y py] [a, b]).bind fun o => match o with
    | some ns => gd (decide (ns = [x, y])) (cPar r G x y a b)
    | none => (cP G 3 (.Tuple [.Name x px, .Name y py] k tp)).bind fun p => (r false G (.Tuple [a, b] k2 tp2)).bind fun c => some (.sPat p c)
  | .Assign [.Tuple [.Name x px, .Name y py, .Name z pz] k tp] (.Tuple [a, b, c] k2 tp2) _ => (swS G [.Name x px, .Name y py, .Name z pz] [a, b, c]).bind fun o => match o with
    | some ns => gd (decide (ns = [x, y, z])) (cPar3 r G x y z [a, b, c])
    | none => (cP G 3 (.Tuple [.Name x px, .Name y py, .Name z pz] k tp)).bind fun p => (r false G (.Tuple [a, b, c] k2 tp2)).bind fun c => some (.sPat p c)
  | .Assign [.Tuple ts k tp] (.Tuple vs k2 tp2) _ => gd (decide (swS G ts vs = some none)) ((cP G 3 (.Tuple ts k tp)).bind fun p => (r false G (.Tuple vs k2 tp2)).bind fun c => some (.sPat p c))
  | .Assign [.Tuple ts k tp] e _ => gd (notLC e) ((cP G 3 (.Tuple ts k tp)).bind fun p => (r false G e).bind fun c => some (.sPat p c))
  | .Assign [.Subscript o i _] e _ => gd (notLC e) ((ownE G o).bind fun k => (r false G e).bind fun c => (r false G i).bind fun ci => some (.sPut k ci c))
  | .If c a b _ => (r true G c).bind fun cc => (rs G a).bind fun ca => (rs G b).bind fun cb => some (.sIf cc ca cb)
  | .For tg it body [] _ => gd G.calm ((cIt r M G it).bind fun ci => (cP G 3 tg).bind fun p => (rs { G with io := olOf ci ++ G.io } body).bind fun cb => some (.sFor p ci cb))
  | .While c body [] _ => gd G.calm ((r true G c).bind fun cc => (rs G body).bind fun cb => some (.sWhile cc cb))
  | .Return none _ => some .sRetN
  | .Return (some e) _ => match ownE G e with
    | some i => gd (!G.io.contains i) (some (.sRet (.own i)))
    | none => if G.fr then (match r false G e with
        | some c => if noL c then some (.sRet c) else (cZ r M G e).bind fun c => some (.sRetZ c)
        | none => none) else (r false G e).bind fun c => some (.sRet c)
  | .Pass _ => some .sPass
  | .Break _ => some .sBrk
  | .Continue _ => some .sCnt
  | .Raise (some (.Call (.Name x _) [] [] _)) none _ => gd (glB G.sc x && nmOk x && G.calm) ((rai.lookup x).bind fun n => some (.sRaise n))
  | .Try body [.ExceptHandler (some (.Name x _)) (some n) (b0 :: suite) _] [] [] _ => gd (glB G.sc x && nmOk x && G.calm && G.xsl.isEmpty && decide (G.sc.names.lookup n = some .local)) ((G.N.findIdx? (· == n)).bind fun i => gd (!G.own.contains i) ((M.exs.lookup x).bind fun ci =>
      (rs G body).bind fun cb => (rs { G with calm := false, xsl := [i] } (b0 :: suite)).bind fun ch => some (.sTry cb ci i ch)))
  | _ => none
def cSl (rs : RecS) (r : Rec) (M : MT) (rai : List (Str × Nat)) (G : GC) : List Stmt → Option C
  | [] => some .nil
  | st :: sts => (cSt rs r M rai G st).bind fun c => (cSl rs r M rai G sts).bind fun d => some (.cons c d)
def cS (M : MT) (rai : List (Str × Nat)) (ne : Nat) : Nat → RecS
  | 0 => fun _ _ => none
  | n + 1 => fun G sts => cSl (cS M rai ne n) (cX M ne) M rai G sts
/-- what a body's statements are read in -/
structure GS (X : Cx) (p : Par) (G : GC) (M : MT) (rai : List (Str × Nat)) (T : Tab) (ct : CT) (W : Wh) (ex : Nat → Addr) : Prop where
  gx : GX X p G M T ct W ex
  pass : G.calm = true → PassesOwn (model X.prog X.w) X.A X.env X.xe
  hfr : ∀ b, p.A0 b → p.H0 b ≠ none
  io : ∀ z ∈ p.io, z.1 ∈ G.io
  stk : G.calm = true → X.stack = X.env :: X.outer ∧ X.env.frame = some X.env.locals
  rai : G.calm = true → ∀ x n, rai.lookup x = some n → X.mg x = some (.ref (ex n)) ∧ PySem.W.keepIn X.K (.ref (ex n)) = true ∧ Raises X (.ref (ex n)) ∧ ∃ bmB B newId initId, ExcBaseFacts B newId initId bmB ∧ PySem.W.excIn X.K (ex n) bmB newId = true
  exc : G.calm = true → ∀ x n, M.exs.lookup x = some n → ∃ cv cu, RelV cv cu ∧ (∀ u, RelV cv u → u = cu) ∧ (X.mg x = some cu ∨ (X.mg x = none ∧ bootBuiltins x = some cu)) ∧ ∀ m b, T.sub m n = some b → PySem.W.exmOne X.K (.ref (ex m)) cu = some b ∧ PySem.W.kitOne X.K (.ref (ex m)) cu = some b
  hnd : G.calm = true → ∀ n c b, T.sub n c = some b → ExcC X.K (ex n)
end Z

set_option linter.all false
set_option maxRecDepth 100000
set_option maxHeartbeats 1000000
namespace Z
open PySem PySem.Spec L2
open PyProof.Rows hiding St

section
variable {X : Cx} {p q : Par} {G : GC} {M : MT} {rai : List (Str × Nat)} {T : Tab} {ct : CT} {W : Wh} {ex : Nat → Addr} {r : Rec} {rs : RecS} {fr : Bool}
theorem sw_no {e : Expr} (h : notLC e = true) {t : Option Expr} {l : Nat} {env : Env} : swapsWith e t l env = pure false := by cases e <;> first | rfl | cases h
theorem sw_noS {e t : Expr} (h : notLC e = true) {l : Nat} {env : Env} : swapsWithSole [t] e l env = pure false := sw_no (t := some t) h
theorem sw_lc (hs : X.env.scope = G.sc) {elt : Expr} {gs : List Comprehension} {scope : Scope} {epos px : Pos} {x : Str} {l : Nat} : swapsWith (.ListComp elt gs scope epos) (some (.Name x px)) l X.env = pure (swB G x px epos scope) := by
  unfold swB blkK
  rw [← hs]
  rfl
theorem sw_arm {ts vs : List Expr} {k k2 : Nat} {tp tp2 : Pos} {env : Env} : swappedStores [.Tuple ts k tp] (.Tuple vs k2 tp2) env =
    (if (!(ts.length == 2 || ts.length == 3) || vs.length != ts.length || env.blockKind != .function) = true then pure none else
     if (vs.any fun | .Starred .. => true | _ => false) = true then pure none else
     if ((ts.filterMap fun
    | .Name id pos => if env.kindOf id == some .local && pos.line == (ts.head?.map (·.pos.line)).getD 0 then some id else none
    | _ => none).length != ts.length || (ts.filterMap fun
    | .Name id pos => if env.kindOf id == some .local && pos.line == (ts.head?.map (·.pos.line)).getD 0 then some id else none
    | _ => none).eraseDups.length != (ts.filterMap fun
    | .Name id pos => if env.kindOf id == some .local && pos.line == (ts.head?.map (·.pos.line)).getD 0 then some id else none
    | _ => none).length) = true then pure none else
     if vs.all (foldedForSure 8) = true then pure none else
     if vs.all (constantsAlone 8) = true then (do let _ ← (unsupported "assign.tuple-of-constant-expressions:order-of-the-stores" : Sem Unit); pure (some (ts.filterMap fun
    | .Name id pos => if env.kindOf id == some .local && pos.line == (ts.head?.map (·.pos.line)).getD 0 then some id else none
    | _ => none))) else pure (some (ts.filterMap fun
    | .Name id pos => if env.kindOf id == some .local && pos.line == (ts.head?.map (·.pos.line)).getD 0 then some id else none
    | _ => none)) : Sem (Option (List Str))) := by
  rfl
theorem swS_ok (hs : X.env.scope = G.sc) {ts vs : List Expr} {o : Option (List Str)} {k k2 : Nat} {tp tp2 : Pos} (h : swS G ts vs = some o) : swappedStores [.Tuple ts k tp] (.Tuple vs k2 tp2) X.env = pure o := by
  have h : (if (!(ts.length == 2 || ts.length == 3) || vs.length != ts.length || X.env.blockKind != .function) = true then some none else
     if (vs.any fun | .Starred .. => true | _ => false) = true then some none else
     if ((ts.filterMap fun
    | .Name id pos => if X.env.kindOf id == some .local && pos.line == (ts.head?.map (·.pos.line)).getD 0 then some id else none
    | _ => none).length != ts.length || (ts.filterMap fun
    | .Name id pos => if X.env.kindOf id == some .local && pos.line == (ts.head?.map (·.pos.line)).getD 0 then some id else none
    | _ => none).eraseDups.length != (ts.filterMap fun
    | .Name id pos => if X.env.kindOf id == some .local && pos.line == (ts.head?.map (·.pos.line)).getD 0 then some id else none
    | _ => none).length) = true then some none else
     if vs.all (foldedForSure 8) = true then some none else
     if vs.all (constantsAlone 8) = true then none else some (some (ts.filterMap fun
    | .Name id pos => if X.env.kindOf id == some .local && pos.line == (ts.head?.map (·.pos.line)).getD 0 then some id else none
    | _ => none))) = some o := by
    unfold swS nmsOf blkK at h
    rw [← hs] at h
    exact h
  rw [sw_arm]
  generalize (ts.filterMap fun
    | .Name id pos => if X.env.kindOf id == some .local && pos.line == (ts.head?.map (·.pos.line)).getD 0 then some id else none
    | _ => none) = nms at h ⊢
  split at h
  · rename_i c; cases h; rw [if_pos c]
  · rename_i c
    rw [if_neg c]
    split at h
    · rename_i c; cases h; rw [if_pos c]
    · rename_i c
      rw [if_neg c]
      split at h
      · rename_i c; cases h; rw [if_pos c]
      · rename_i c
        rw [if_neg c]
        split at h
        · rename_i c; cases h; rw [if_pos c]
        · rename_i c
          rw [if_neg c]
          split at h
          · cases h
          · rename_i c
            cases h
            rw [if_neg c]
theorem sw_none {ts : List Expr} {e : Expr} {k : Nat} {tp : Pos} {env : Env} (h : ∀ vs k2 tp2, e ≠ .Tuple vs k2 tp2) : swappedStores [.Tuple ts k tp] e env = pure none := by
  cases e <;> first | rfl | exact absurd rfl (h _ _ _)
theorem sw_sub {o i : Expr} {sp : Pos} {e : Expr} {env : Env} : swappedStores [.Subscript o i sp] e env = pure none := by cases e <;> rfl
/-! new lists -/
theorem snd_z (S : Snd M r) (g : GX X p G M T ct W ex) {e : Expr} {c : C} (h : cZ r M G e = some c) : PE X e (tZ p W (denE T ct c)) := by
  unfold cZ at h
  split at h
  · obtain ⟨l, h1, h⟩ := bd_some h
    obtain ⟨h2, h⟩ := gd_some h
    cases h
    exact z_lst (of_decide_eq_true h2) (S.l g h1).1
  · obtain ⟨vs, pt, ci, cc, ce, rfl, rfl, L⟩ := snd_lcOk S g h
    rw [denE_lc]
    exact z_lc L
  · obtain ⟨ca, h2, h⟩ := bd_some h
    obtain ⟨cb, h3, h⟩ := bd_some h
    cases h
    exact z_op g.hK ok_add (S.a g h2).1 (S.a g h3).1
  · obtain ⟨ca, h1, h⟩ := bd_some h
    obtain ⟨cl, h2, h⟩ := bd_some h
    obtain ⟨ch, h3, h⟩ := bd_some h
    cases h
    exact z_sl g.hK (S.a g h1).1 (snd_end S g h2) (snd_end S g h3)
  · rename_i x pp es pos
    obtain ⟨h1, h⟩ := gd_some h
    simp only [Bool.and_eq_true] at h1
    obtain ⟨⟨hg, hn⟩, hc⟩ := h1
    split at h
    · rename_i fi hfi
      obtain ⟨hfr, h⟩ := gd_some h
      obtain ⟨l, h2, h⟩ := bd_some h
      obtain ⟨h3, h⟩ := gd_some h
      cases h
      simp only [Bool.and_eq_true, decide_eq_true_eq] at h3
      obtain ⟨kk, fa, fd, F, d, hr⟩ := g.defs hc x fi hfi
      obtain ⟨q1, q2, _⟩ := S.l g h2
      cases es with
      | nil =>
        cases (show some C.nil = some l from h2)
        exact z_call0 d.fn hr g.gds g.tk g.hK (by rw [d.fr]; exact hfr) (by rw [d.io, ← h3.1.1]; rfl) (g.gl hg) d.mg d.kp d.bd (nmOk_of hn).1
      | cons a es =>
        rw [List.all_cons, Bool.and_eq_true] at q2
        exact z_call d.fn hr g.gds g.tk g.hK (by rw [d.fr]; exact hfr) (by rw [d.io]; exact h3.1.1) h3.1.2 (g.gl hg) d.mg d.kp d.bd q1 (nmOk_of hn).1 (star_cons (by cases a <;> first | rfl | exact q2.1)) (star_any q2.2)
    · obtain ⟨h2, h⟩ := gd_some h
      obtain ⟨l, h3, h⟩ := bd_some h
      cases h
      simp only [Bool.and_eq_true, decide_eq_true_eq] at h2
      obtain ⟨⟨rfl, hb⟩, hne⟩ := h2
      obtain ⟨q1, q2, _⟩ := S.l g h3
      cases es with
      | nil => cases hne
      | cons a es =>
        rw [List.all_cons, Bool.and_eq_true] at q2
        exact z_bi g.hK bi_list ⟨_, rfl⟩ (g.gl hg) (g.bin _ (List.contains_iff_mem.mp hb)) (by decide +kernel) q1 (nmOk_of hn).2.2 (nmOk_of hn).1 (star_cons (by cases a <;> first | rfl | exact q2.1)) (star_any q2.2)
  · cases h
/-! names that are assigned -/
theorem snd_stor (g : GX X p G M T ct W ex) {x : Str} {i : Nat} (h : stor G x = some i) : X.N.Nodup ∧ X.N[i]? = some x ∧ L2.Loc X.env.scope x ∧ (X.fn x = true ∨ X.env.scope.names.lookup x = some .local) ∧ ∀ q ∈ p.xs, q.1 ≠ i := by
  obtain ⟨h1, h⟩ := gd_some h
  obtain ⟨j, h2, h⟩ := bd_some h
  obtain ⟨h3, h⟩ := gd_some h
  cases h
  simp only [Bool.and_eq_true, Bool.or_eq_true, decide_eq_true_eq] at h1
  refine ⟨by rw [g.N]; exact g.nd, by rw [g.N]; exact ix_some h2, by rw [g.sc]; exact locB_of h1.1, ?_, xs_ne g h3⟩
  rcases h1.2 with z | z
  · exact .inl (g.fn x z)
  · exact .inr (by rw [g.sc]; exact z)
theorem own_not (g : GX X p G M T ct W ex) {i : Nat} (h : ¬ G.own.contains i = true) : i ∉ p.own := fun hi => h (List.contains_iff_mem.mpr (by rw [← g.own]; exact hi))
theorem io_ne (g : GS X p G M rai T ct W ex) {i : Nat} (h : (!G.io.contains i) = true) : ∀ q ∈ p.io, q.1 ≠ i := fun q hq e => by
  have := g.io q hq
  rw [e] at this
  rw [List.contains_iff_mem.mpr this] at h
  cases h
theorem snd_set (S : Snd M r) (g : GS X p G M rai T ct W ex) {x : Str} {px pos : Pos} {e : Expr} {i : Nat} {c : C} (hst : stor G x = some i) (h : cSet r M G i e = some c) : PS X (.Assign [.Name x px] e pos) (tS p W fr (denS ct T c)) := by
  obtain ⟨hN, hi, hx, hf, hxs⟩ := snd_stor g.gx hst
  unfold cSet at h
  split at h
  · rename_i ho
    obtain ⟨h1, h⟩ := gd_some h
    obtain ⟨c', h2, h⟩ := bd_some h
    cases h
    rw [Bool.and_eq_true] at h1
    exact s_own hN hi hx (own_mem g.gx ho) (io_ne g h1.1) hxs (snd_z S g.gx h2) (sw_no h1.2) hf
  · rename_i ho
    obtain ⟨h1, h⟩ := gd_some h
    obtain ⟨c', h2, h⟩ := bd_some h
    cases h
    exact s_set hN hi hx (own_not g.gx ho) hxs (S.e g.gx h2).2.1 (sw_no h1) hf
end
end Z

set_option linter.all false
set_option maxRecDepth 100000
set_option maxHeartbeats 1000000
namespace Z
open PySem PySem.Spec L2
open PyProof.Rows hiding St

/-- statements' parts are known -/
structure SndS (M : MT) (rai : List (Str × Nat)) (ex : Nat → Addr) (rs : RecS) : Prop where
  s : ∀ {X p G T ct W}, GS X p G M rai T ct W ex → ∀ {sts c}, rs G sts = some c → PSs X sts (tS p W G.fr (denS ct T c))
section
variable {X : Cx} {p q : Par} {G : GC} {M : MT} {rai : List (Str × Nat)} {T : Tab} {ct : CT} {W W' : Wh} {ex : Nat → Addr} {r : Rec} {rs : RecS} {fr : Bool}
/-- in a walk's body -/
theorem GS.walk (g : GS X p G M rai T ct W ex) {ol : List Nat} (s : SimS ol p q) : GS X q { G with io := ol ++ G.io } M rai T ct W ex := by
  have gx := g.gx.sim s.sim
  exact ⟨⟨gx.hK, gx.N, gx.nd, gx.sc, gx.own, gx.xsl, gx.calm, gx.fn, gx.gds, gx.un, gx.tk, gx.bin, gx.dat, gx.defs, gx.suite⟩, g.pass, fun b => by rw [s.A0, s.H0]; exact g.hfr b, fun z hz => by
    rcases s.io z hz with h | h
    · exact List.mem_append_right _ (g.io z h)
    · exact List.mem_append_left _ h, g.stk, g.rai, g.exc, g.hnd⟩
/-- in a try's body -/
theorem GS.tr (g : GS X p G M rai T ct W ex) {pn : List (Addr × Obj)} {xe : Value → Shared → Prop} (hx : G.xsl = []) (tk : Takes (X.tr pn xe) (wx ex W')) (ps : PassesOwn (model X.prog X.w) X.A X.env xe) : GS (X.tr pn xe) p G M rai T ct W' ex := by
  have gx := g.gx
  exact ⟨⟨gx.hK, gx.N, gx.nd, gx.sc, gx.own, gx.xsl, gx.calm, gx.fn, gx.gds, gx.un, tk, gx.bin, gx.dat, fun hc x fi h => by
    obtain ⟨k, fa, fd, F, d, hr⟩ := gx.defs hc x fi h
    exact ⟨k, fa, fd, F, ⟨d.fn, d.io, d.fr, d.mg, d.kp, d.bd, d.kw⟩, hr⟩, fun i hi => by rw [hx] at hi; cases hi⟩, fun _ => ps, g.hfr, g.io, g.stk, g.rai, g.exc, g.hnd⟩
/-- in a suite -/
theorem GS.suite (g : GS X p G M rai T ct W ex) (hc : G.calm = true) (hx : G.xsl = []) {i : Nat} {ad : Addr} {oe : Obj} {m c : Nat} {b : Bool} {pn : List (Addr × Obj)} (s : SimX i ad p q) (hsb : T.sub m c = some b) (hz : Zc (.ref (ex m)) none oe) (hf : ∃ vs, oe.data = .fields vs) :
    GS (X.suite ad ((ad, oe) :: pn)) q { G with calm := false, xsl := [i] } M rai (T.at m) ct W0 ex := by
  have gx := g.gx
  have hpx : p.xs = [] := by
    have := gx.xsl
    rw [hx] at this
    exact List.map_eq_nil_iff.mp this
  refine ⟨⟨gx.hK.trans s.K.symm, gx.N, gx.nd, gx.sc, s.own.trans gx.own, by rw [s.xs, hpx]; rfl, fun h => (by cases h), gx.fn, gx.gds, gx.un, takes0, gx.bin, fun x hx d hd => by rw [s.K]; exact gx.dat x hx d hd, fun h => (by cases h), fun i' hi' => ?_⟩, fun h => (by cases h), (fun b => by rw [s.A0, s.H0]; exact g.hfr b), (fun z hz => by rw [s.io] at hz; exact g.io z hz), fun h => (by cases h), fun h => (by cases h), fun h => (by cases h), fun h => (by cases h)⟩
  have e : i' = i := by
    rcases List.mem_cons.mp hi' with h | h
    · exact h
    · cases h
  subst e
  refine ⟨X, ad, m, oe, pn, rfl, by rw [s.xs]; exact List.mem_cons_self, rfl, g.hnd hc m c b hsb, hz, hf, fun y n hg hn hy => ?_⟩
  obtain ⟨cv, cu, h1, h2, h3, h4⟩ := g.exc hc y n hy
  refine ⟨cv, cu, fun z => ?_, h2, fun b hb => (h4 m b hb).2⟩
  obtain ⟨n1, n2, n3⟩ := nmOk_of hn
  have hgl : Gl X y := gx.gl hg
  rcases h3 with h3 | ⟨h3, h5⟩
  · exact pe_glob (X := X.suite ad ((ad, oe) :: pn)) hgl h3 h1 n1
  · exact pe_bltn (X := X.suite ad ((ad, oe) :: pn)) hgl h3 h5 h1 n3 n1
theorem denS_for {pt it b : C} : denS ct T (.sFor pt it b) = fun ρ => match itsD T ct it ρ with
      | .ok xs ρ1 => turns (keeps it xs) (fun d ρ2 => match bindP pt d ρ2 with | none => .bad | some ρ3 => denS ct T b ρ3) xs ρ1
      | .exn c ρ1 => .exn c ρ1
      | .bad => .bad := by
  funext ρ
  unfold itsD
  rw [denS]
  cases denE T ct it ρ with
  | ok x ρ1 =>
    simp only [R.o, R.bind]
    cases items x <;> rfl
  | exn c ρ1 => rfl
  | bad => rfl
theorem snd_setLc (S : Snd M r) (g : GS X p G M rai T ct W ex) {x : Str} {px pos epos : Pos} {elt tg it : Expr} {ifs : List Expr} {scope : Scope} {i : Nat} {c : C} (hst : stor G x = some i) (hsw : swB G x px epos scope = true) (h : cSetLc r M G i x px elt tg it ifs scope epos = some c) :
    PS X (.Assign [.Name x px] (.ListComp elt [⟨tg, it, ifs, 0⟩] scope epos) pos) (tS p W fr (denS ct T c)) := by
  obtain ⟨hN, hi, hx, hf, hxs⟩ := snd_stor g.gx hst
  obtain ⟨h1, h⟩ := gd_some h
  obtain ⟨c', h2, h⟩ := bd_some h
  obtain ⟨vs, pt, ci, cc, ce, rfl, rfl, L⟩ := snd_lcOk S g.gx h2
  have hl : X.env.scope.names.lookup x = some .local := by rw [g.gx.sc]; exact of_decide_eq_true h1
  have hs := (sw_lc (X := X) g.gx.sc (elt := elt) (gs := [⟨tg, it, ifs, 0⟩]) (scope := scope) (epos := epos) (px := px) (x := x) (l := pos.line)).trans (by rw [hsw])
  split at h
  · rename_i ho
    obtain ⟨h3, h⟩ := gd_some h
    cases h
    show PS X _ (tS p W fr fun ρ => (denE T ct (.lc _ pt ci cc ce) ρ).o _)
    rw [denE_lc]
    exact s_ownLc L hi hl (own_mem g.gx ho) (io_ne g h3) hxs hs
  · rename_i ho
    cases h
    show PS X _ (tS p W fr fun ρ => (denE T ct (.lc _ pt ci cc ce) ρ).o _)
    rw [denE_lc]
    exact s_setLc L hi hl (own_not g.gx ho) hxs hs
theorem snd_setLc0 (S : Snd M r) (g : GS X p G M rai T ct W ex) {x : Str} {px pos epos : Pos} {elt tg it : Expr} {ifs : List Expr} {scope : Scope} {i : Nat} {c c' : C} (hst : stor G x = some i) (hsw : ¬ swB G x px epos scope = true) (h2 : cLc r M G elt tg it ifs scope = some c')
    (h : (if G.own.contains i then gd (!G.io.contains i) (some (C.sOwn i c')) else some (.sSet i c')) = some c) :
    PS X (.Assign [.Name x px] (.ListComp elt [⟨tg, it, ifs, 0⟩] scope epos) pos) (tS p W fr (denS ct T c)) := by
  obtain ⟨hN, hi, hx, hf, hxs⟩ := snd_stor g.gx hst
  obtain ⟨vs, pt, ci, cc, ce, rfl, rfl, L⟩ := snd_lcOk S g.gx h2
  have hs := (sw_lc (X := X) g.gx.sc (elt := elt) (gs := [⟨tg, it, ifs, 0⟩]) (scope := scope) (epos := epos) (px := px) (x := x) (l := pos.line)).trans (by rw [Bool.eq_false_iff.mpr hsw])
  have z : PE X (.ListComp elt [⟨tg, it, ifs, 0⟩] scope epos) (tZ p W (denE T ct (.lc ((ownNames G.N scope.names).map (·.2)) pt ci cc ce))) := by rw [denE_lc]; exact z_lc L
  have x0 : PE X (.ListComp elt [⟨tg, it, ifs, 0⟩] scope epos) (tX p W false (denE T ct (.lc ((ownNames G.N scope.names).map (·.2)) pt ci cc ce))) := by rw [denE_lc]; exact x_lc L
  split at h
  · rename_i ho
    obtain ⟨h3, h⟩ := gd_some h
    cases h
    exact s_own hN hi hx (own_mem g.gx ho) (io_ne g h3) hxs z hs hf
  · rename_i ho
    cases h
    exact s_set hN hi hx (own_not g.gx ho) hxs x0 hs hf
theorem noL_ok {c : C} (h : noL c = true) : ∀ ρ d ρ', denE T ct c ρ = .ok d ρ' → noList d = true := by
  intro ρ d ρ' e
  have ob : ∀ {o : Option D} {ρ1 : Slots}, (∀ z, o = some z → noList z = true) → opt o ρ1 = .ok d ρ' → noList d = true := fun {o ρ1} k e => by
    cases o with
    | none => cases e
    | some z => cases e; exact k _ rfl
  have bd : ∀ {α : Type} {x : R α} {k : α → Slots → R D}, x.bind k = .ok d ρ' → ∃ a ρ1, k a ρ1 = .ok d ρ' := fun {α x k} e => by
    cases x with
    | ok a ρ1 => exact ⟨a, ρ1, e⟩
    | exn _ _ => cases e
    | bad => cases e
  cases c <;> first | (cases h; done) | skip
  · cases e; rfl
  · cases e; rfl
  · cases e; rfl
  · cases e; rfl
  · obtain ⟨a, ρ1, e⟩ := bd e
    refine ob (fun z hz => ?_) e
    cases a <;> first | (cases hz; done) | (cases hz; rfl)
  · obtain ⟨a, ρ1, e⟩ := bd e
    obtain ⟨b, ρ2, e⟩ := bd e
    refine ob (fun z hz => ?_) e
    cases hc : cmpD _ _ _ with
    | none => rw [hc] at hz; cases hz
    | some k => rw [hc] at hz; cases hz; rfl
  · obtain ⟨a, ρ1, e⟩ := bd e
    refine ob (fun z hz => ?_) e
    cases a <;> first | (cases hz; done) | (cases hz; rfl)
  · obtain ⟨a, ρ1, e⟩ := bd e
    split at e
    · cases e; rfl
    · cases e
theorem snd_st (S : Snd M r) (R : SndS M rai ex rs) (g : GS X p G M rai T ct W ex) {st : Stmt} {c : C} (h : cSt rs r M rai G st = some c) : PS X st (tS p W G.fr (denS ct T c)) := by
  unfold cSt at h
  split at h
  · cases h; exact s_doc
  · rename_i o nm apos e cpos pos
    obtain ⟨h1, h⟩ := gd_some h
    obtain ⟨i, h2, h⟩ := bd_some h
    obtain ⟨h3, h⟩ := gd_some h
    obtain ⟨c', h4, h⟩ := bd_some h
    cases h
    rw [Bool.and_eq_true, decide_eq_true_eq] at h1
    obtain ⟨rfl, h1⟩ := h1
    obtain ⟨k1, k2, k3⟩ := snd_ownE g.gx h2
    have hs : starEach [e] X.env = (false, eval e X.env) :: starEach [] X.env := star_cons (by cases e <;> first | rfl | cases h3)
    exact s_app k1 k2 (S.e g.gx h4).2.1 (k3 _ _) (by rw [hs]; rfl) h1 hs
  · obtain ⟨h1, h⟩ := gd_some h
    obtain ⟨c', h2, h⟩ := bd_some h
    cases h
    exact s_exp (S.e g.gx h2).2.1 (sw_no h1)
  · obtain ⟨i, h1, h⟩ := bd_some h
    split at h
    · rename_i hsw
      exact snd_setLc S g h1 hsw h
    · rename_i hsw
      obtain ⟨c', h2, h⟩ := bd_some h
      exact snd_setLc0 S g h1 hsw h2 h
  · obtain ⟨i, h1, h⟩ := bd_some h
    exact snd_set S g h1 h
  · rename_i x px y py k tp a b k2 tp2 pos
    obtain ⟨o, h1, h⟩ := bd_some h
    have hw := swS_ok (X := X) (k := k) (tp := tp) (k2 := k2) (tp2 := tp2) g.gx.sc h1
    split at h
    · rename_i ns
      obtain ⟨h2, hp⟩ := gd_some h
      have e := of_decide_eq_true h2
      subst e
      clear h
      obtain ⟨i, h3, h⟩ := bd_some hp
      obtain ⟨j, h4, h⟩ := bd_some h
      obtain ⟨h5, h⟩ := gd_some h
      obtain ⟨l, h6, h⟩ := bd_some h
      obtain ⟨h7, h⟩ := gd_some h
      cases h
      simp only [Bool.and_eq_true, decide_eq_true_eq] at h5
      obtain ⟨⟨⟨⟨⟨⟨⟨d1, d2⟩, d3⟩, d4⟩, d5⟩, d6⟩, d7⟩, d8⟩ := h5
      exact s_par (g.gx.calm d8) (by rw [g.gx.N]; exact g.gx.nd) (by rw [g.gx.N]; exact ix_some h3) (by rw [g.gx.N]; exact ix_some h4) d1 (by rw [g.gx.sc]; exact d2) (by rw [g.gx.sc]; exact d3) (own_ne g.gx d4) (own_ne g.gx d5) (xs_ne g.gx d6) (xs_ne g.gx d7) (of_decide_eq_true h7) (S.l g.gx h6).1 hw rfl
    · obtain ⟨pt, h2, h⟩ := bd_some h
      obtain ⟨c', h3, h⟩ := bd_some h
      cases h
      exact s_pat (snd_p 3 g.gx h2).1 (S.e g.gx h3).2.1 rfl hw rfl
  · rename_i x px y py z pz k tp a b c3 k2 tp2 pos
    obtain ⟨o, h1, h⟩ := bd_some h
    have hw := swS_ok (X := X) (k := k) (tp := tp) (k2 := k2) (tp2 := tp2) g.gx.sc h1
    split at h
    · rename_i ns
      obtain ⟨h2, hp⟩ := gd_some h
      have e := of_decide_eq_true h2
      subst e
      clear h
      obtain ⟨i, h3, h⟩ := bd_some hp
      obtain ⟨j, h4, h⟩ := bd_some h
      obtain ⟨l, hl4, h⟩ := bd_some h
      obtain ⟨h5, h⟩ := gd_some h
      obtain ⟨l', h6, h⟩ := bd_some h
      obtain ⟨h7, h⟩ := gd_some h
      cases h
      simp only [Bool.and_eq_true, decide_eq_true_eq] at h5
      obtain ⟨⟨⟨⟨⟨⟨⟨⟨⟨⟨⟨⟨d1, da⟩, db⟩, d2⟩, d3⟩, dc⟩, d4⟩, d5⟩, dd⟩, d6⟩, d7⟩, de⟩, d8⟩ := h5
      exact s_par3 (g.gx.calm d8) (by rw [g.gx.N]; exact g.gx.nd) (by rw [g.gx.N]; exact ix_some h3) (by rw [g.gx.N]; exact ix_some h4) (by rw [g.gx.N]; exact ix_some hl4) d1 da db (by rw [g.gx.sc]; exact d2) (by rw [g.gx.sc]; exact d3) (by rw [g.gx.sc]; exact dc) (own_ne g.gx d4) (own_ne g.gx d5) (own_ne g.gx dd) (xs_ne g.gx d6) (xs_ne g.gx d7) (xs_ne g.gx de) (of_decide_eq_true h7) (S.l g.gx h6).1 hw rfl
    · obtain ⟨pt, h2, h⟩ := bd_some h
      obtain ⟨c', h3, h⟩ := bd_some h
      cases h
      exact s_pat (snd_p 3 g.gx h2).1 (S.e g.gx h3).2.1 rfl hw rfl
  · obtain ⟨h1, h⟩ := gd_some h
    obtain ⟨pt, h2, h⟩ := bd_some h
    obtain ⟨c', h3, h⟩ := bd_some h
    cases h
    exact s_pat (snd_p 3 g.gx h2).1 (S.e g.gx h3).2.1 rfl (swS_ok g.gx.sc (of_decide_eq_true h1)) rfl
  · rename_i ts k tp e pos n1 n2
    obtain ⟨h1, h⟩ := gd_some h
    obtain ⟨pt, h2, h⟩ := bd_some h
    obtain ⟨c', h3, h⟩ := bd_some h
    cases h
    exact s_pat (snd_p 3 g.gx h2).1 (S.e g.gx h3).2.1 (sw_noS h1) (sw_none fun vs k2 tp2 e => n2 _ _ _ e) rfl
  · rename_i o ix sp e pos
    obtain ⟨h1, h⟩ := gd_some h
    obtain ⟨i, h2, h⟩ := bd_some h
    obtain ⟨c', h3, h⟩ := bd_some h
    obtain ⟨ci, h4, h⟩ := bd_some h
    cases h
    obtain ⟨k1, k2, k3⟩ := snd_ownE g.gx h2
    obtain ⟨_, a2, a3⟩ := S.e g.gx h4
    refine s_put k1 k2 (S.e g.gx h3).2.1 a2 (sw_noS h1) sw_sub fun v => ?_
    cases ix <;> first | rfl | cases a3
  · obtain ⟨cc, h1, h⟩ := bd_some h
    obtain ⟨ca, h2, h⟩ := bd_some h
    obtain ⟨cb, h3, h⟩ := bd_some h
    cases h
    exact s_if (S.t g.gx h1) (R.s g h2) (R.s g h3)
  · rename_i tg it body pos
    obtain ⟨hc, h⟩ := gd_some h
    obtain ⟨ci, h1, h⟩ := bd_some h
    obtain ⟨pt, h2, h⟩ := bd_some h
    obtain ⟨cb, h3, h⟩ := bd_some h
    cases h
    obtain ⟨i1, i2⟩ := snd_it (tg := tg) S g.gx h1
    rw [denS_for]
    exact s_for (g.pass hc) (g.gx.calm hc) i1 (fun q hq => (snd_p 3 (g.gx.sim hq) h2).1) (fun q hq => R.s (g.walk hq) h3) (fold_ok i2)
  · obtain ⟨hc, h⟩ := gd_some h
    obtain ⟨cc, h1, h⟩ := bd_some h
    obtain ⟨cb, h2, h⟩ := bd_some h
    cases h
    exact s_while (g.pass hc) (S.t g.gx h1) (R.s g h2)
  · cases h
    exact s_retN g.hfr
  · rename_i e pos
    split at h
    · rename_i i hi
      obtain ⟨h1, h⟩ := gd_some h
      cases h
      obtain ⟨k1, k2, k3⟩ := snd_ownE g.gx hi
      exact s_retO k1 g.hfr (io_ne g h1) k2
    · split at h
      · rename_i hfr
        split at h
        · rename_i c0 hc0
          split at h
          · rename_i hn
            cases h
            exact s_retNL (S.e g.gx hc0).2.1 (noL_ok hn)
          · obtain ⟨c', h2, h⟩ := bd_some h
            cases h
            exact s_retZ g.hfr (snd_z S g.gx h2)
        · cases h
      · rename_i hfr
        obtain ⟨c', h2, h⟩ := bd_some h
        cases h
        rw [Bool.eq_false_iff.mpr hfr]
        exact s_ret (S.e g.gx h2).2.1
  · cases h; exact s_pass
  · cases h; exact s_brk
  · cases h; exact s_cnt
  · rename_i x pp cp pos
    obtain ⟨h1, h⟩ := gd_some h
    obtain ⟨n, h2, h⟩ := bd_some h
    cases h
    simp only [Bool.and_eq_true] at h1
    obtain ⟨a1, a2, a3, bmB, B, nI, iI, F, a4⟩ := g.rai h1.2 x n h2
    exact s_raise (g.gx.calm h1.2) g.gx.tk (pmk_own0 F a4 a1 a2 a3 (g.gx.gl h1.1.1) (nmOk_of h1.1.2).1)
  · rename_i body x np n b0 suite pos' pos
    obtain ⟨h1, h⟩ := gd_some h
    obtain ⟨i, h2, h⟩ := bd_some h
    obtain ⟨h3, h⟩ := gd_some h
    obtain ⟨ci, h4, h⟩ := bd_some h
    obtain ⟨cb, h5, h⟩ := bd_some h
    obtain ⟨ch, h6, h⟩ := bd_some h
    cases h
    simp only [Bool.and_eq_true, decide_eq_true_eq] at h1
    obtain ⟨⟨⟨⟨hg, hn⟩, hc⟩, hx⟩, hl⟩ := h1
    have hx : G.xsl = [] := List.isEmpty_iff.mp hx
    obtain ⟨st1, st2⟩ := g.stk hc
    obtain ⟨n1, n2, n3⟩ := nmOk_of hn
    obtain ⟨cv, cu, e1, e2, e3, e4⟩ := g.exc hc x ci h4
    have nm : Names X x cu := ⟨g.gx.gl hg, n1, e3.imp id fun z => ⟨z.1, z.2, n3⟩⟩
    have hpx : p.xs = [] := by
      have := g.gx.xsl
      rw [hx] at this
      exact List.map_eq_nil_iff.mp this
    exact s_try (sub := fun m => T.sub m ci) (kh := fun m => denS ct (T.at m) ch) st1 st2 (by rw [g.gx.N]; exact g.gx.nd) (by rw [g.gx.N]; exact ix_some h2) (by show X.env.scope.names.lookup n = _; rw [g.gx.sc]; exact hl) nm g.gx.tk (own_ne g.gx h3) (fun q hq => by rw [hpx] at hq; cases hq)
      (fun m b hb => (e4 m b hb).1) (fun W' pn xe tk' ps' => R.s (g.tr hx tk' ps') h5) (fun a oe m pn q hsm hz hf sm => R.s (g.suite hc hx sm hsm hz hf) h6)
  · cases h
theorem snd_sl (S : Snd M r) (R : SndS M rai ex rs) (g : GS X p G M rai T ct W ex) : ∀ {sts : List Stmt} {c : C}, cSl rs r M rai G sts = some c → PSs X sts (tS p W G.fr (denS ct T c))
  | [], c, h => by cases h; exact s_nil
  | st :: sts, c, h => by
    obtain ⟨c1, h1, h⟩ := bd_some h
    obtain ⟨c2, h2, h⟩ := bd_some h
    cases h
    exact s_cons (snd_st S R g h1) (snd_sl S R g h2)
theorem sndS_all (M : MT) (rai : List (Str × Nat)) (ex : Nat → Addr) (ne : Nat) : ∀ n, SndS M rai ex (cS M rai ne n)
  | 0 => ⟨fun {X p G T ct W} g {sts c} h => (by cases h)⟩
  | n + 1 => ⟨fun {X p G T ct W} g {sts c} h => snd_sl (snd_all M ne) (sndS_all M rai ex ne n) g h⟩
end
end Z

set_option linter.all false
set_option maxRecDepth 100000
set_option maxHeartbeats 1000000
namespace Z
open PySem PySem.Spec L2
open PyProof.Rows hiding St

/-- a def of the text with its reading -/
structure DE where
  x : Str
  st : Stmt
  N : List Str
  ps : List Str
  own : List Nat
  io : List Nat
  fresh : Bool
  kws : List (Nat × List Str × List Nat)
  c : C
abbrev DE.fn (e : DE) : Fn := ⟨e.N.length, e.ps.length, e.io, e.fresh, e.c⟩
abbrev DE.fi (e : DE) (i : Nat) : FI := ⟨i, e.io, e.fresh, e.ps, e.kws⟩
def DE.gc (e : DE) : GC := ⟨e.N, e.own, e.io, [], defScope e.st, true, e.fresh, fun _ => true⟩
def scZ (N P : List Str) (sc : Scope) : Bool :=
  decide (sc.kind = .function) && !sc.isCoroutine && !sc.isGenerator && decide N.Nodup && decide (N.take P.length = P) && P.all (fun x => locB sc x) && sc.names.all (fun y => !decide (y.2 = .free))
theorem scZ_ok {N P : List Str} {sc : Scope} (h : scZ N P sc = true) : FnScope N P sc := by
  unfold scZ at h
  simp only [Bool.and_eq_true, Bool.not_eq_true', decide_eq_true_eq, List.all_eq_true, decide_eq_false_iff_not] at h
  obtain ⟨⟨⟨⟨⟨⟨h1, h2⟩, h3⟩, h4⟩, h5⟩, h6⟩, h7⟩ := h
  exact ⟨h1, h2, h3, h4, h5, fun x hx => locB_of (h6 x hx), h7⟩
/-- what may be looked up of a def's reading -/
def DE.chk (e : DE) (M : MT) (rai : List (Str × Nat)) (ne ns : Nat) : Bool :=
  scZ e.N e.ps (defScope e.st) && e.io.all (fun i => e.own.contains i && decide (i < e.ps.length)) && e.own.all (fun i => e.io.contains i || decide (e.ps.length ≤ i)) && decide (cS M rai ne ns e.gc (defBody e.st) = some e.c)
/-- what the written part tells of the names -/
structure Mo (K : PySem.W.Frag) (mg : Str → Option Value) (M : MT) (rai : List (Str × Nat)) (T : Tab) (ex : Nat → Addr) : Prop where
  bin : ∀ x ∈ M.bin, mg x = none
  dat : ∀ x ∈ M.dat, ∀ d, T.gv x = some d → ∃ v u, mg x = some u ∧ RelV v u ∧ (∀ Av H, Rp K Av H v d)
  rai : ∀ x n, rai.lookup x = some n → mg x = some (.ref (ex n)) ∧ PySem.W.keepIn K (.ref (ex n)) = true ∧ PySem.W.subIn K (.ref (ex n)) (.type "BaseException") = some true ∧ PySem.W.typeIn K (.ref (ex n)) = some (.type "type") ∧ ∃ bmB B newId initId, ExcBaseFacts B newId initId bmB ∧ PySem.W.excIn K (ex n) bmB newId = true
  exc : ∀ x n, M.exs.lookup x = some n → ∃ cv cu, RelV cv cu ∧ (∀ u, RelV cv u → u = cu) ∧ (mg x = some cu ∨ (mg x = none ∧ bootBuiltins x = some cu)) ∧ ∀ m b, T.sub m n = some b → PySem.W.exmOne K (.ref (ex m)) cu = some b ∧ PySem.W.kitOne K (.ref (ex m)) cu = some b
  hnd : ∀ n c b, T.sub n c = some b → ExcC K (ex n)
/-- a def as it stands -/
structure DOk (K : PySem.W.Frag) (mg : Str → Option Value) (e : DE) (fa : Addr) (fd : FuncData) : Prop where
  fn : Fun K e.x e.x e.st fa fd
  mg : mg e.x = some (.ref fa)
  bd : Binds K fd e.ps []
  kw : ∀ q ∈ e.kws, KBinds K fd e.ps q.2.1 (kwG q.1 q.2.1.length q.2.2) (kwV q.1 q.2.1.length q.2.2)
section
variable {P : Program} {w : World} {K : PySem.W.Frag} {mg : Str → Option Value} {base : Heap} {M : MT} {rai : List (Str × Nat)} {T : Tab} {ex : Nat → Addr} {es : List DE} {ne ns : Nat}
theorem get_start {vs : List D} {n i : Nat} {d : D} (h : get (startD n vs) i = some d) : vs[i]? = some d := by
  unfold get startD at h
  by_cases hl : i < vs.length
  · rw [List.getElem?_append_left (by rw [List.length_map]; exact hl), List.getElem?_map] at h
    rw [List.getElem?_eq_getElem hl] at h ⊢
    exact h
  · rw [List.getElem?_append_right (by rw [List.length_map]; omega), List.getElem?_replicate] at h
    split at h <;> cases h
theorem start_get {N : List Str} {vs : List V} {i : Nat} {v : V} (h : vs[i]? = some v) : (L2.start N vs)[i]? = some (some v) := by
  unfold L2.start
  obtain ⟨hl, e⟩ := List.getElem?_eq_some_iff.mp h
  rw [List.getElem?_append_left (by rw [List.length_map]; exact hl), List.getElem?_map, h]; rfl
theorem start_inv {N : List Str} {vs : List V} {i : Nat} {v : V} (h : (L2.start N vs)[i]? = some (some v)) : vs[i]? = some v := by
  unfold L2.start at h
  by_cases hl : i < vs.length
  · rw [List.getElem?_append_left (by rw [List.length_map]; exact hl), List.getElem?_map, List.getElem?_eq_getElem hl] at h
    rw [List.getElem?_eq_getElem hl]
    exact Option.some.inj h
  · rw [List.getElem?_append_right (by rw [List.length_map]; omega), List.getElem?_replicate] at h
    split at h <;> cases h
theorem getD_start {vs : List D} {n i : Nat} {d : D} (h : vs[i]? = some d) : get (startD n vs) i = some d := by
  unfold get startD
  obtain ⟨hl, e⟩ := List.getElem?_eq_some_iff.mp h
  rw [List.getElem?_append_left (by rw [List.length_map]; exact hl), List.getElem?_map, h]; rfl
/-- the in/out slots with their lists -/
def ioA (io : List Nat) (vs : List V) : List (Nat × Addr) := io.filterMap fun i => match vs[i]? with
  | some (V.ref a) => some (i, a)
  | _ => none
theorem mem_ioA {io : List Nat} {vs : List V} {q : Nat × Addr} : q ∈ ioA io vs ↔ q.1 ∈ io ∧ vs[q.1]? = some (V.ref q.2) := by
  unfold ioA
  rw [List.mem_filterMap]
  refine ⟨fun ⟨i, h1, h2⟩ => ?_, fun ⟨h1, h2⟩ => ⟨q.1, h1, by rw [h2]⟩⟩
  split at h2
  · rename_i a e
    cases h2
    exact ⟨h1, e⟩
  · cases h2
theorem fnG_step {e : DE} {i k : Nat} {fa : Addr} {fd : FuncData} (hm : Mo K mg M rai T ex) (d : DOk K mg e fa fd) (hc : e.chk M rai ne ns = true) (hi : es[i]? = some e)
    (hdefs : ∀ x fi, M.defs.lookup x = some fi → ∃ fa fd F, FnG P w K mg base k fa fd fi.ps (spF K F (callN T (es.map DE.fn) k) fi.f ex) ∧ F.io = fi.io ∧ F.fresh = fi.fresh ∧ mg x = some (.ref fa) ∧ PySem.W.keepIn K (.ref fa) = true ∧ Binds K fd fi.ps [] ∧ ∀ q ∈ fi.kws, KBinds K fd fi.ps q.2.1 (kwG q.1 q.2.1.length q.2.2) (kwV q.1 q.2.1.length q.2.2)) :
    FnG P w K mg base (k + 1) fa fd e.ps (spF K e.fn (callN T (es.map DE.fn) (k + 1)) i ex) := by
  unfold DE.chk at hc
  simp only [Bool.and_eq_true, decide_eq_true_eq, List.all_eq_true, Bool.or_eq_true] at hc
  obtain ⟨⟨⟨h1, h2⟩, h3⟩, h4⟩ := hc
  have S := scZ_ok h1
  have hcall : ∀ ds, callN T (es.map DE.fn) (k + 1) i ds = runFn T (callN T (es.map DE.fn) k) e.fn ds := fun ds => by
    show (match (es.map DE.fn)[i]? with | none => CRes.bad | some F => runFn T (callN T (es.map DE.fn) k) F ds) = _
    rw [List.getElem?_map, hi]; rfl
  have len : ∀ vs H Q E, spF K e.fn (callN T (es.map DE.fn) (k + 1)) i ex vs H Q E → vs.length = e.ps.length := fun vs H Q E h => by
    obtain ⟨ds, A0, pin, m⟩ := h
    rw [pin.len]
    rw [hcall] at m
    unfold runFn at m
    by_cases hl : ds.length = e.ps.length
    · exact hl
    · rw [if_neg hl] at m; exact False.elim m
  refine FnG.of d.fn S len fun cdv A outer s H vs Q E hr hg hsp => ?_
  have hlen := len vs H Q E hsp
  obtain ⟨ds, A0, pin, m⟩ := hsp
  rw [hcall] at m
  have hl : ds.length = e.ps.length := by rw [← pin.len]; exact hlen
  have hN : vs.length ≤ e.N.length := by
    have := congrArg List.length S.pre
    rw [List.length_take] at this
    omega
  let p : Par := ⟨K, e.own, ioA e.io vs, A0, H, [], []⟩
  have own_io : ∀ j v, j ∈ e.own → (L2.start e.N vs)[j]? = some (some v) → j ∈ e.io := fun j v hj hv => by
    have := start_inv hv
    have hlt := (List.getElem?_eq_some_iff.mp this).1
    rcases h3 j hj with z | z
    · exact List.contains_iff_mem.mp z
    · omega
  have avA : ∀ b, av p (L2.start e.N vs) b → A0 b := fun b hb => by
    rcases hb with h | ⟨j, h1, h2⟩
    · exact h
    · have hj := own_io j _ h1 h2
      have hv := start_inv h2
      obtain ⟨dj, hdj⟩ : ∃ dj, ds[j]? = some dj := by
        have hlt := (List.getElem?_eq_some_iff.mp hv).1
        exact ⟨_, List.getElem?_eq_getElem (by rw [← pin.len]; exact hlt)⟩
      obtain ⟨a, xs, es', e1, e2, e3, e4, e5⟩ := pin.ino j _ _ hv hdj hj
      cases e1
      exact e5
  have S0 : SR p (L2.start e.N vs) H (startD e.N.length ds) := by
    refine ⟨?_, fun j dj hj hd => ?_, fun j v hj hv => ?_, fun j dj hj hd => ?_, fun j j' a hj hj' e1 e2 => ?_, Stay.refl, fun q hq => ?_, pin.a0, (fun q hq => by cases hq), (fun q hq => by cases hq)⟩
    · unfold L2.start startD
      rw [List.length_append, List.length_append, List.length_map, List.length_map, List.length_replicate, List.length_replicate, pin.len]
    · have hd' := get_start hd
      have hlt := (List.getElem?_eq_some_iff.mp hd').1
      have hv : vs[j]? = some (vs[j]'(by rw [pin.len]; exact hlt)) := List.getElem?_eq_getElem _
      have hn : j ∉ e.io := fun z => hj (List.contains_iff_mem.mp (h2 j z).1)
      exact ⟨_, start_get hv, (pin.arg j _ _ hv hd' hn).mono avA⟩
    · have hv' := start_inv hv
      have hlt := (List.getElem?_eq_some_iff.mp hv').1
      exact ⟨_, getD_start (List.getElem?_eq_getElem (by rw [← pin.len]; exact hlt))⟩
    · have hd' := get_start hd
      have hlt := (List.getElem?_eq_some_iff.mp hd').1
      have hv : vs[j]? = some (vs[j]'(by rw [pin.len]; exact hlt)) := List.getElem?_eq_getElem _
      have hio := own_io j _ hj (start_get hv)
      obtain ⟨a, xs, es', e1, e2, e3, e4, e5⟩ := pin.ino j _ _ hv hd' hio
      rw [e1] at hv
      exact ⟨a, xs, es', e2, start_get hv, e3, RpAll.mono avA e4, .inr (mem_ioA.mpr ⟨hio, hv⟩)⟩
    · exact pin.apart j j' a (own_io j _ hj e1) (own_io j' _ hj' e2) (start_inv e1) (start_inv e2)
    · obtain ⟨q1, q2⟩ := mem_ioA.mp hq
      exact ⟨List.contains_iff_mem.mp (h2 _ q1).1, start_get q2⟩
  have pout : ∀ {σ' : St} {H' : Hp} {ρ' : Slots}, SR p σ' H' ρ' → POut K A0 H H' e.io vs (outsOf e.io ρ') := fun {σ' H' ρ'} S' => by
    refine ⟨S'.st.mono (fun b hb => by obtain ⟨j, hj⟩ := hb; exact ⟨j, (mem_ioA.mp hj).1, (mem_ioA.mp hj).2⟩), fun n j hn a ha => ?_⟩
    have hq : ((j, a) : Nat × Addr) ∈ p.io := mem_ioA.mpr ⟨List.mem_of_getElem? hn, ha⟩
    obtain ⟨o1, o2⟩ := S'.ios _ hq
    obtain ⟨dj, hdj⟩ := S'.oi _ _ o1 o2
    obtain ⟨xs, es', e1, e2, e3⟩ := io_owned S' hq hdj
    refine ⟨xs, es', ?_, e2, RpAll.mono (fun b hb => .inl hb) e3⟩
    have hdj : get ρ' j = some dj := hdj
    unfold outsOf
    rw [List.getElem?_map, hn]
    show some ((get ρ' j).getD .none) = _
    rw [hdj, e1]; rfl
  let W : Wh := fun c _ H => E (.ref (ex c)) none H
  let X := cxOf (L2.CX P w) P w K mg base e.N e.x (defScope e.st) fa cdv A outer s H E
  have g : GS X p e.gc M rai T (callN T (es.map DE.fn) k) W ex := by
    refine ⟨⟨rfl, rfl, S.nd, rfl, rfl, rfl, fun _ => rfl, fun _ _ => rfl, hg, ?_, (takes_of rfl rfl rfl rfl).imp fun cls d σ H h => ?_, hm.bin, hm.dat, fun _ x fi h => ?_, fun j hj => by cases hj⟩, fun _ => passes_of rfl, fun b hb => ?_, fun z hz => (mem_ioA.mp hz).1, fun _ => ⟨rfl, rfl⟩, fun _ x n h => ?_, fun _ => hm.exc, fun _ => hm.hnd⟩
    · have := hr.un
      show (A.deeper _).units + 65 < cLine
      omega
    · obtain ⟨c, rfl, rfl, h⟩ := h
      exact h
    · obtain ⟨fa', fd', F, k1, k2, k3, k4, k5, k6, k7⟩ := hdefs x fi h
      exact ⟨k, fa', fd', F, ⟨k1, k2, k3, k4, k5, k6, k7⟩, hr⟩
    · obtain ⟨o, ho⟩ := pin.a0 b hb
      show H b ≠ none
      rw [ho]; exact fun z => by cases z
    · obtain ⟨a1, a2, a3, a4, a5⟩ := hm.rai x n h
      exact ⟨a1, a2, raises_own a3 a4, a5⟩
  refine ⟨_, (sndS_all M rai ex ne ns).s g h4, startD e.N.length ds, S0, ?_⟩
  unfold runFn at m
  rw [if_pos hl] at m
  show tSres p W e.fresh _ (denS (callN T (es.map DE.fn) k) T e.c (startD e.N.length ds))
  have m : (match (match denS (callN T (es.map DE.fn) k) T e.c (startD e.N.length ds) with
    | .nx ρ => CRes.ok .none (outsOf e.io ρ)
    | .ret d ρ => .ok d (outsOf e.io ρ)
    | .exn c ρ => .exn c (outsOf e.io ρ)
    | _ => .bad) with
    | .ok d outs => ∀ v H', POut K A0 H H' e.io vs outs → RetOk K A0 H H' e.io vs outs e.fresh v d → Q v H'
    | .exn c outs => ∀ H', POut K A0 H H' e.io vs outs → E (.ref (ex c)) none H'
    | .bad => False) := m
  cases hd : denS (callN T (es.map DE.fn) k) T e.c (startD e.N.length ds) with
  | nx ρ' => rw [hd] at m; exact fun σ' H' S' => m .non H' (pout S') ⟨.non, fun _ ds h => by cases h⟩
  | brk ρ' => rw [hd] at m; exact False.elim m
  | cnt ρ' => rw [hd] at m; exact False.elim m
  | ret d ρ' =>
    rw [hd] at m
    refine fun σ' v H' S' r => m v H' (pout S') ⟨r.1, fun hf ds hds => ?_⟩
    obtain ⟨a, xs, e1, e2, e3, e4, e5⟩ := r.2 hf ds hds
    refine ⟨a, xs, e1, e2, e3, e4, fun n j hn b hb => ?_⟩
    have hq : ((j, b) : Nat × Addr) ∈ p.io := mem_ioA.mpr ⟨List.mem_of_getElem? hn, hb⟩
    obtain ⟨o1, o2⟩ := S'.ios _ hq
    obtain ⟨dj, hdj⟩ := S'.oi _ _ o1 o2
    obtain ⟨ys, es', f1, f2, f3⟩ := e5 _ hq dj hdj
    refine ⟨ys, es', ?_, f2, f3⟩
    have hdj : get ρ' j = some dj := hdj
    unfold outsOf
    rw [List.getElem?_map, hn]
    show some ((get ρ' j).getD .none) = _
    rw [hdj, f1]; rfl
  | exn c ρ' => rw [hd] at m; exact fun σ' H' S' => m H' (pout S')
  | bad => rw [hd] at m; exact False.elim m
end
end Z

set_option linter.all false
set_option maxRecDepth 100000
set_option maxHeartbeats 1000000
namespace Z
open PySem PySem.Spec L2
open PyProof.Rows hiding St

def defsOf : Nat → List DE → List (Str × FI)
  | _, [] => []
  | i, e :: r => (e.x, e.fi i) :: defsOf (i + 1) r
theorem defsOf_some : ∀ {es : List DE} {j : Nat} {x : Str} {fi : FI}, (defsOf j es).lookup x = some fi → ∃ (i : Nat) (e : DE), es[i]? = some e ∧ e.x = x ∧ fi = e.fi (j + i)
  | [], _, _, _, h => by cases h
  | e :: r, j, x, fi, h => by
    have h : (match x == e.x with | true => some (e.fi j) | false => (defsOf (j + 1) r).lookup x) = some fi := h
    cases hx : x == e.x with
    | true =>
      rw [hx] at h; cases h
      exact ⟨0, e, rfl, (eq_of_beq hx).symm, rfl⟩
    | false =>
      rw [hx] at h
      obtain ⟨i, e', h1, h2, h3⟩ := defsOf_some (es := r) h
      exact ⟨i + 1, e', h1, h2, by rw [h3, show j + 1 + i = j + (i + 1) by omega]⟩
section
variable {P : Program} {w : World} {K : PySem.W.Frag} {mg : Str → Option Value} {M : MT} {rai : List (Str × Nat)} {T : Tab} {ex : Nat → Addr} {es : List DE} {ne ns : Nat}
theorem fnG_all (hm : Mo K mg M rai T ex) (hdf : M.defs = defsOf 0 es) (fa : Nat → Addr) (fd : Nat → FuncData) (hd : ∀ i e, es[i]? = some e → DOk K mg e (fa i) (fd i) ∧ e.chk M rai ne ns = true) (base : Heap) : ∀ k i e, es[i]? = some e → FnG P w K mg base k (fa i) (fd i) e.ps (spF K e.fn (callN T (es.map DE.fn) k) i ex) := by
  intro k
  induction k with
  | zero =>
    intro i e _
    have no : ∀ {vs H Q E}, ¬ spF K e.fn (callN T (es.map DE.fn) 0) i ex vs H Q E := fun {vs H Q E} ⟨_, _, _, h⟩ => h
    exact ⟨fun vs H Q E h => (no h).elim, fun A outer s H args us vs Q E _ _ _ _ _ h => (no h).elim⟩
  | succ k ih =>
    intro i e hi
    obtain ⟨d, hc⟩ := hd i e hi
    refine fnG_step hm d hc hi fun x fi h => ?_
    rw [hdf] at h
    obtain ⟨j, e', h1, h2, h3⟩ := defsOf_some h
    subst h3
    obtain ⟨d', _⟩ := hd j e' h1
    rw [Nat.zero_add]
    exact ⟨fa j, fd j, e'.fn, ih j e' h1, rfl, rfl, h2 ▸ d'.mg, d'.fn.kp, d'.bd, d'.kw⟩
end
/-! ### the facts of one law -/
section
variable {K : PySem.W.Frag} {C : Addr} {t : Value} {b : Bool} {T : String}
theorem clsR (h1 : PySem.W.hasDictIn K C = true) (h2 : PySem.W.typeIn K (.ref C) = some (.type "type")) : ((PySem.W.clsIn K C).isSome && PySem.W.typeIn K (.ref C) == some (.type "type")) = true := by
  obtain ⟨cd, hc, _⟩ := PySem.W.any_some h1
  rw [hc, h2]; rfl
theorem exmR (h1 : PySem.W.hasDictIn K C = true) (h2 : PySem.W.typeIn K (.ref C) = some (.type "type")) (h3 : PySem.W.subIn K (.ref C) (.type "BaseException") = some true) (h4 : PySem.W.subIn K t (.ref C) = some b) : PySem.W.exmOne K t (.ref C) = some b :=
  PySem.W.exm_ref h3 h1 h2 h4
theorem kitR (h1 : PySem.W.hasDictIn K C = true) (h2 : PySem.W.typeIn K (.ref C) = some (.type "type")) (h0 : PySem.W.subIn K t t = some true) (h4 : PySem.W.subIn K t (.ref C) = some b) : PySem.W.kitOne K t (.ref C) = some b := by
  unfold PySem.W.kitOne
  by_cases e : (t == .ref C) = true
  · rw [if_pos e]
    cases eq_of_beq e
    rw [h0] at h4
    exact h4
  · rw [if_neg e]
    show (if ((PySem.W.clsIn K C).isSome && PySem.W.typeIn K (.ref C) == some (.type "type")) = true then PySem.W.subIn K t (.ref C) else none) = _
    rw [if_pos (clsR h1 h2)]
    exact h4
theorem exmB (h1 : PySem.W.kitMeta T = true) (h2 : ((PySem.fastBuiltinMro T).map (·.contains (.type "BaseException"))) = some true) (h4 : PySem.W.subIn K t (.type T) = some b) : PySem.W.exmOne K t (.type T) = some b := by
  show (if ((PySem.fastBuiltinMro T).map (·.contains (.type "BaseException")) == some true) = true then (if PySem.W.kitMeta T = true then PySem.W.subIn K t (.type T) else none) else none) = _
  rw [h2, if_pos (by rfl), if_pos h1]
  exact h4
theorem kitB' {a : Addr} (h1 : PySem.W.kitMeta T = true) (h4 : PySem.W.subIn K (.ref a) (.type T) = some b) : PySem.W.kitOne K (.ref a) (.type T) = some b := by
  show (if ((Value.ref a) == (Value.type T)) = true then some true else (if PySem.W.kitMeta T = true then PySem.W.subIn K (.ref a) (.type T) else none)) = _
  rw [if_neg (by rw [show ((Value.ref a) == (Value.type T)) = false from rfl]; exact Bool.false_ne_true), if_pos h1]
  exact h4
end
theorem vals_getD : ∀ {vs : List V} {us : List Value} (k : Nat), Vals vs us → RelV (vs.getD k .non) (us.getD k .none)
  | _, _, _, .nil => rfl
  | _, _, 0, .cons r _ => r
  | _, _, k + 1, .cons _ rr => by
    have := vals_getD k rr
    simpa using this
theorem kb_of {K : PySem.W.Frag} {fd : FuncData} {ps ks : List Str} {np : Nat} {pm : List Nat} (hne : ps ≠ []) (h : ∀ us ws : List Value, us.length = np → ws.length = ks.length → bindArgs fd ⟨us, ks.zip ws⟩ = pure (ps.zip (pm.map fun k => (us ++ ws).getD k .none))) :
    KBinds K fd ps ks (kwG np ks.length pm) (kwV np ks.length pm) := by
  refine ⟨fun s us ws _ hl => ?_, fun {vs us zs ws} r rz => ?_⟩
  · unfold kwG at hl ⊢
    by_cases hc : us.length = np ∧ ws.length = ks.length
    · rw [if_pos hc]
      exact .of_eq (h us ws hc.1 hc.2)
    · rw [if_neg hc] at hl
      exact absurd (List.length_eq_zero_iff.mp hl.symm) hne
  · unfold kwG kwV
    rw [r.length, rz.length]
    by_cases hc : us.length = np ∧ ws.length = ks.length
    · rw [if_pos hc, if_pos hc]
      unfold permV
      have rr := L2.Vals.append r rz
      clear h
      induction pm with
      | nil => exact .nil
      | cons k pm ih => exact .cons (vals_getD k rr) ih
    · rw [if_neg hc, if_neg hc]
      exact .nil
/-- the defs in their order -/
inductive DL (K : PySem.W.Frag) (mg : Str → Option Value) : List DE → List (Addr × FuncData) → Prop
  | nil : DL K mg [] []
  | cons {e : DE} {es : List DE} {fa : Addr} {fd : FuncData} {r : List (Addr × FuncData)} : DOk K mg e fa fd → DL K mg es r → DL K mg (e :: es) ((fa, fd) :: r)
theorem DL.get {K : PySem.W.Frag} {mg : Str → Option Value} {q : Addr × FuncData} : ∀ {es : List DE} {r : List (Addr × FuncData)}, DL K mg es r → ∀ (i : Nat) (e : DE), es[i]? = some e → DOk K mg e (r.getD i q).1 (r.getD i q).2
  | _, _, .nil, i, e, h => by simp at h
  | _, _, .cons d _, 0, e, h => by cases h; exact d
  | _, _, .cons _ dr, i + 1, e, h => by
    have := DL.get (q := q) dr i e (by simpa using h)
    simpa using this
/-! ### the law's own head -/
theorem ints_all {K : PySem.W.Frag} {Av : Addr → Prop} {H : Hp} : ∀ ns : List Int, RpAll K Av H (ns.map V.int) (ns.map PyData.int)
  | [] => .nil
  | n :: ns => .cons (.int n) (ints_all ns)
theorem sp_law {K : PySem.W.Frag} {F : Fn} {ct : CT} {f : Nat} {ex : Nat → Addr} (hio : F.io = []) {ns : List Int} {outs : List D} (h : ct f [.list (ns.map PyData.int)] = .ok (.bool true) outs) {H : Hp} {a : Addr} (hS : SqL K H a (ns.map V.int)) :
    spF K F ct f ex [.ref a] H (fun v _ => v = .bl true) fun _ _ _ => False := by
  refine ⟨[.list (ns.map PyData.int)], fun _ => False, ⟨rfl, fun i v d e1 e2 _ => ?_, (fun i v d _ _ hi => by rw [hio] at hi; cases hi), (fun i j a hi => by rw [hio] at hi; cases hi), fun b hb => hb.elim, (fun i hi => by rw [hio] at hi; cases hi)⟩, ?_⟩
  · cases i with
    | zero =>
      cases e1; cases e2
      rcases hS with hS | hS
      · exact .lst hS (fun h => h) (ints_all ns)
      · exact .lsk (fun _ => .inr hS) (ints_all ns)
    | succ i => simp at e1
  · rw [h]
    intro v H' _ r
    cases r.1
    rfl
section
variable {P : Program} {w : World} {K : PySem.W.Frag} {mg mb : Str → Option Value}
theorem headZ {k : Nat} {fa a : Addr} {fd : FuncData} {x : Str} {sp : Sp} {s1 : Shared} {vs : List Value} {ns : List Int} (kin : K.In s1.heap) (gl : s1.heap.Ns mainGlobals mg) (bl : s1.heap.Ns builtinsNs mb) (blt : ∀ x : Str, x ≠ "__name__" → mb x = bootBuiltins x) (nol : s1.heap.NoLimit) (gn : s1.gens = #[])
    (scr : s1.heap.get? a = some { cls := .type "list", data := .seq vs.toArray }) (ins : IntsAre vs ns) (len : ns.length ≤ sizeLine) (room : Room k callerA) (F : ∀ base : Heap, K.In base → base.Ns mainGlobals mg → FnG P w K mg base k fa fd [x] sp) (bind : ∀ (s : Shared) (u : Value), BindsTo s fd ⟨[u], []⟩ [(x, u)])
    (prom : ∀ H : Hp, Only H → SqL K H a (ns.map V.int) → sp [.ref a] H (fun v _ => v = .bl true) fun _ _ _ => False) :
    codeAny (model P w) callerA (.call (.ref fa) ⟨[.ref a], []⟩) (fun r s' => r = .ok (.ret (.bool true)) ∧ OldK s1.heap s'.heap ∧ s'.os = s1.os ∧ AllBare s'.gens) s1 := by
  have vls := vals_ints ins
  have vlen := ins.length
  have go : ∀ H : Hp, Only H → SqL K H a (ns.map V.int) → HOk P w H s1.heap → (∀ b, H b ≠ none → b = a) → (H a ≠ none → K.lookup a = none) → codeAny (model P w) callerA (.call (.ref fa) ⟨[.ref a], []⟩) (fun r s' => r = .ok (.ret (.bool true)) ∧ OldK s1.heap s'.heap ∧ s'.os = s1.os ∧ AllBare s'.gens) s1 := by
    intro H only sq hok alone apart
    have old : ∀ {b : Addr} {o : Obj}, s1.heap.get? b = some o → H b = none → (hidT s1.heap H).get? b = some o := fun e n => hidT_get e n
    have nod : ∀ {b : Addr} {o : Obj} {es : Array DictEntry} {ep : Nat}, s1.heap.get? b = some o → o.data = .dict es ep → H b = none := by
      intro b o es ep e dt
      cases hb : H b with
      | none => rfl
      | some u =>
        obtain rfl : b = a := alone b (by rw [hb]; simp)
        rw [scr] at e; cases e
        exact absurd (show Data.seq vs.toArray _ = Data.dict es ep from dt) (fun z => by cases z)
    have nsp : ∀ {b : Addr} {m : Str → Option Value}, s1.heap.Ns b m → (hidT s1.heap H).Ns b m := by
      rintro b m ⟨o, es, ep, e, dt, r⟩
      exact ⟨o, es, ep, old e (nod e dt), dt, r⟩
    have kb : K.In (hidT s1.heap H) := by
      intro b o e
      refine old (kin b o e) ?_
      cases hb : H b with
      | none => rfl
      | some u =>
        obtain rfl : b = a := alone b (by rw [hb]; simp)
        rw [apart (by rw [hb]; simp)] at e; cases e
    have md : Mod K mg (hidT s1.heap H) := by
      obtain ⟨mc, n1, n2⟩ := nol
      exact ⟨kb, nsp gl, ⟨mb, nsp bl, blt⟩, ⟨mc, nsp n1, n2⟩⟩
    have env : Env0 P w K mg (hidT s1.heap H) callerA [] s1 H := ⟨rfl, md, fun b o e => of_hidT e, Nat.le_of_eq (hidT_size _ _), trivial, (fun b hb => absurd (show b ∈ ([] : List Addr) from hb) (by simp)), hok, .of_eq gn⟩
    refine codeAny_mono ((F _ kb (nsp gl)).run callerA [] s1 H ⟨[.ref a], []⟩ [.ref a] [.ref a] _ _ room rfl env (bind s1 (.ref a)) (.cons rfl .nil) (prom H only sq)) fun res s' hres => ?_
    cases res with
    | error e =>
      obtain ⟨_, _, _, _, _, _, _, _, _, _, _, _, no⟩ := hres
      exact no.elim
    | ok fl =>
      cases fl with
      | ret u =>
        obtain ⟨v, H', os, bare, un, hok', rv, hv⟩ := hres
        obtain rfl : v = .bl true := hv
        obtain rfl : u = Value.bool true := rv
        refine ⟨rfl, OldK.of_keep fun b o e => ?_, os, bare⟩
        cases hb : H b with
        | none => exact un.keep b o e hb (by intro z; exact absurd (show b ∈ ([] : List Addr) from z) (by simp)) (by simp)
        | some u =>
          rcases only b with z | ⟨ob, xs, z⟩
          · rw [hb] at z; cases z
          · obtain ⟨e1, _⟩ := hok b _ z
            obtain ⟨e2, _⟩ := hok' b _ (un.frzs b ob _ z)
            rw [e] at e1; cases e1
            exact e2
      | _ => exact False.elim hres
  cases hka : K.lookup a with
  | some o =>
    have e := kin a o hka
    rw [scr] at e
    cases e
    exact go (fun _ => none) (fun _ => .inl rfl) (.inr ⟨_, vs.toArray, _, hka, rfl, rfl, rfl, by rw [List.size_toArray, vlen]; exact len, by simpa using vls⟩) (fun b u z => by cases (show (none : Option HO) = some u from z)) (fun b z => absurd rfl z) fun z => absurd rfl z
  | none =>
    refine go (fun b => if b = a then some (.frz { cls := .type "list", data := .seq vs.toArray } (.lst (ns.map V.int))) else none) (fun b => ?_) (.inl (.inr ⟨{ cls := .type "list", data := .seq vs.toArray }, if_pos rfl⟩)) (fun b u z => ?_) (fun b z => ?_) fun _ => hka
    · exact (Decidable.em (b = a)).elim (fun hb => .inr ⟨_, _, if_pos hb⟩) fun hb => .inl (if_neg hb)
    · by_cases hb : b = a
      · cases (if_pos hb).symm.trans z
        subst hb
        exact ⟨scr, by rw [List.length_map]; exact len, vs, _, vls, scr⟩
      · cases (if_neg hb).symm.trans z
    · exact Decidable.byContradiction fun hb => z (if_neg hb)
end
theorem walkZ {l : PySem.W.OpenLaw} {n k : Nat} {q : Program} {loose : List Str} {XP : (Str → Option Value) → Heap → Prop} {YP : World → Heap → Prop} {d : DefRec} {K : Params → PySem.W.Frag} {x : Str} (hn : l.most = some n) (hn2 : n ≤ sizeLine) (hdf : d.params.defaults = []) (hr : Room k callerA)
    (hY : ∀ (w : World) (h : Heap), YP w h → (K w.params).In h)
    (F : ∀ (w : World) (mg : Str → Option Value) (fa : Addr) (h : Heap), (K w.params).In h → h.Ns mainGlobals mg → mg d.name = some (.ref fa) →
      ∃ (fd : FuncData) (sp : Sp), (∀ (s : Shared) (u : Value), BindsTo s fd ⟨[u], []⟩ [(x, u)]) ∧ (∀ base : Heap, (K w.params).In base → base.Ns mainGlobals mg → FnG l.prog w (K w.params) mg base k fa fd [x] sp) ∧
        ∀ (H : Hp) (a : Addr) (ns : List Int), ns.length ≤ n → SqL (K w.params) H a (ns.map V.int) → sp [.ref a] H (fun v _ => v = .bl true) fun _ _ _ => False) :
    PySem.W.WalkO q loose XP YP l.row.toRowW d [] (fun f vs => PySem.call f vs) := by
  refine Att.attach_call hn hdf fun w s0 s1 mg mb fa o pm cd doc a vs ns G Y ho hd hcd hmg hobj hints hlen hg => ?_
  obtain ⟨fd, sp, hb, hF, hsp⟩ := F w mg fa _ (hY w _ Y) G.T.g hmg
  exact headZ (hY w _ Y) G.T.g G.T.b G.T.builtins G.T.nolimit hg hobj hints (Nat.le_trans hlen hn2) hr hF hb fun H _ hS => hsp H a ns hlen hS
end Z

set_option linter.all false
set_option maxRecDepth 100000
set_option maxHeartbeats 1000000
/-! Zu: plain laws of the denotation -/
namespace Z
open PySem
theorem oAdd (i j : Int) : opD .add (.int i) (.int j) = some (.int (i + j)) := rfl
theorem oSub (i j : Int) : opD .sub (.int i) (.int j) = some (.int (i - j)) := rfl
theorem oMod (i j : Int) (h : 0 < j) : opD .mod (.int i) (.int j) = some (.int (i % j)) := if_pos h
theorem p2000 : 10 ^ 600 ≤ 2 ^ 2000 := by decide +kernel
theorem oFdiv (i j : Int) (h : 0 < j) (h2 : j ≤ 1000000000000000000000000000000000000000000000000000000000000) : opD .fdiv (.int i) (.int j) = some (.int (i / j)) := if_pos ⟨h, Nat.lt_of_lt_of_le (show j.natAbs < 10 ^ 600 from Nat.lt_of_le_of_lt (show j.natAbs ≤ 1000000000000000000000000000000000000000000000000000000000000 by omega) (by decide +kernel)) p2000⟩
theorem oMulL (i j : Int) (h : small64 i = true) : opD .mul (.int i) (.int j) = some (.int (i * j)) := if_pos (by rw [h]; rfl)
theorem oMulR (i j : Int) (h : small64 j = true) : opD .mul (.int i) (.int j) = some (.int (i * j)) := if_pos (by rw [h, Bool.or_true])
theorem oPow (i j : Int) (h : 0 ≤ j) (h1 : j ≤ 1000) (h2 : i.natAbs < 2 ^ 2000) : opD .pow (.int i) (.int j) = some (.int (i ^ j.toNat)) := if_pos ⟨h, h1, h2⟩
theorem oPow2 (i j : Int) (h : 0 ≤ j) (h1 : j ≤ 1000) (h0 : -1000000000000000000000000000000000000000000000000000000000000 ≤ i) (h2 : i ≤ 1000000000000000000000000000000000000000000000000000000000000) : opD .pow (.int i) (.int j) = some (.int (i ^ j.toNat)) :=
  oPow i j h h1 (Nat.lt_of_lt_of_le (show i.natAbs < 10 ^ 600 from Nat.lt_of_le_of_lt (show i.natAbs ≤ 1000000000000000000000000000000000000000000000000000000000000 by omega) (by decide +kernel)) p2000)
section
variable {ct : CT} {T : Tab} {a b r e it pt : C} {ρ ρ' ρ1 : Slots} {d : D} {c : Nat}
theorem sq_nx (h : denS ct T a ρ = .nx ρ') : denS ct T (.cons a r) ρ = denS ct T r ρ' := by rw [denS, h]; rfl
theorem sq_ret (h : denS ct T a ρ = .ret d ρ') : denS ct T (.cons a r) ρ = .ret d ρ' := by rw [denS, h]; rfl
theorem sq_exn (h : denS ct T a ρ = .exn c ρ') : denS ct T (.cons a r) ρ = .exn c ρ' := by rw [denS, h]; rfl
theorem sq_nil : denS ct T .nil ρ = .nx ρ := rfl
theorem run_ret {F : Fn} {ds : List D} (hl : ds.length = F.np) (h : denS ct T F.body (startD F.n ds) = .ret d ρ) : runFn T ct F ds = .ok d (outsOf F.io ρ) := by
  unfold runFn; rw [if_pos hl, h]
theorem run_exn {F : Fn} {ds : List D} (hl : ds.length = F.np) (h : denS ct T F.body (startD F.n ds) = .exn c ρ) : runFn T ct F ds = .exn c (outsOf F.io ρ) := by
  unfold runFn; rw [if_pos hl, h]
theorem run_nx {F : Fn} {ds : List D} (hl : ds.length = F.np) (h : denS ct T F.body (startD F.n ds) = .nx ρ) : runFn T ct F ds = .ok .none (outsOf F.io ρ) := by
  unfold runFn; rw [if_pos hl, h]
theorem if_t {c2 : C} (h : denT T ct c2 ρ = .ok true ρ1) : denS ct T (.sIf c2 a b) ρ = denS ct T a ρ1 := by rw [denS, h]; rfl
theorem if_f {c2 : C} (h : denT T ct c2 ρ = .ok false ρ1) : denS ct T (.sIf c2 a b) ρ = denS ct T b ρ1 := by rw [denS, h]; rfl
theorem set_d {i : Nat} (h : denE T ct e ρ = .ok d ρ1) : denS ct T (.sSet i e) ρ = .nx (Z.put ρ1 i d) := by rw [denS, h]; rfl
theorem ret_d (h : denE T ct e ρ = .ok d ρ1) : denS ct T (.sRet e) ρ = .ret d ρ1 := by rw [denS, h]; rfl
theorem own_d {i : Nat} {ds : List D} (h : denE T ct e ρ = .ok (.list ds) ρ1) : denS ct T (.sOwn i e) ρ = .nx (Z.put ρ1 i (.list ds)) := by rw [denS, h]; rfl
/-- a for's turn -/
def forF (ct : CT) (T : Tab) (pt b : C) : D → Slots → O := fun d ρ2 => match bindP pt d ρ2 with | none => .bad | some ρ3 => denS ct T b ρ3
theorem forF_of {ρ3 : Slots} (h : bindP pt d ρ = some ρ3) : forF ct T pt b d ρ = denS ct T b ρ3 := by unfold forF; rw [h]
theorem for_d {x : D} {xs : List D} (h : denE T ct it ρ = .ok x ρ1) (hx : items x = some xs) (ho : isOwn it = none) : denS ct T (.sFor pt it b) ρ = turns (fun _ => true) (forF ct T pt b) xs ρ1 := by
  rw [denS, h]
  show (match items x with | none => O.bad | some xs => _) = _
  rw [hx]
  show turns (keeps it xs) _ xs ρ1 = _
  rw [keeps_plain ho]
  rfl
theorem turns_ind {f : D → Slots → O} (P : Nat → Slots → Prop) : ∀ (ds : List D) (n : Nat) (ρ : Slots), P n ρ → (∀ i d ρ, ds[i]? = some d → P (n + i) ρ → ∃ ρ', f d ρ = .nx ρ' ∧ P (n + i + 1) ρ') → ∃ ρ', turns (fun _ => true) f ds ρ = .nx ρ' ∧ P (n + ds.length) ρ'
  | [], n, ρ, h, _ => ⟨ρ, rfl, h⟩
  | d :: ds, n, ρ, h, hs => by
    obtain ⟨ρ1, h1, h2⟩ := hs 0 d ρ rfl h
    obtain ⟨ρ2, h3, h4⟩ := turns_ind P ds (n + 1) ρ1 h2 fun i d' ρ' hd hp => by
      have := hs (i + 1) d' ρ' (by simpa using hd) (by rw [show n + (i + 1) = n + 1 + i by omega]; exact hp)
      rw [show n + 1 + i + 1 = n + (i + 1) + 1 by omega]
      exact this
    refine ⟨ρ2, ?_, by rw [List.length_cons, show n + (ds.length + 1) = n + 1 + ds.length by omega]; exact h4⟩
    rw [turns, if_pos rfl, h1]
    exact h3
theorem comps_map {f : D → Slots → R (Option D)} {g : D → D} {ρ : Slots} : ∀ ds : List D, (∀ d ∈ ds, f d ρ = .ok (some (g d)) ρ) → comps (fun _ => true) f ds ρ = .ok (ds.map g) ρ
  | [], _ => rfl
  | d :: ds, h => by
    rw [comps, if_pos rfl, h d List.mem_cons_self]
    show (match comps (fun _ => true) f ds ρ with | .ok ys ρ'' => R.ok (g d :: ys) ρ'' | _ => .bad) = _
    rw [comps_map ds fun d' hd => h d' (List.mem_cons_of_mem _ hd)]
    rfl
/-- a comprehension without a test -/
theorem lc_map {vs : List Nat} {x : D} {xs : List D} {g : D → D} (h : denE T ct it ρ = .ok x ρ1) (hx : items x = some xs) (ho : isOwn it = none) (hl : xs.length ≤ sizeLine) (hb : backD ρ1 (wipeD ρ1 vs) vs = ρ1)
    (ht : ∀ d ∈ xs, ∃ ρ3, bindP pt d (wipeD ρ1 vs) = some ρ3 ∧ ∃ ρ5, denE T ct e ρ3 = .ok (g d) ρ5 ∧ wipeD ρ5 vs = wipeD ρ1 vs) : denE T ct (.lc vs pt it (.tv (.bl true)) e) ρ = .ok (.list (xs.map g)) ρ1 := by
  rw [denE_lc]
  unfold lcD itsD
  rw [h]
  simp only [R.bind, hx, opt]
  rw [keeps_plain ho]
  have := comps_map (f := turnD vs pt (denT T ct (.tv (.bl true))) (denE T ct e)) (g := g) (ρ := wipeD ρ1 vs) xs fun d hd => by
    obtain ⟨ρ3, h1, ρ5, h2, h3⟩ := ht d hd
    unfold turnD
    rw [h1]
    show (match R.ok true ρ3 with | .ok k ρ4 => if k then _ else _ | _ => R.bad) = _
    show (match denE T ct e ρ3 with | .ok y ρ5 => R.ok (some y) (wipeD ρ5 vs) | _ => R.bad) = _
    rw [h2, ← h3]
  show (match comps (fun _ => true) _ xs _ with | .ok ys ρ6 => _ | _ => R.bad) = _
  rw [this]
  show (if (xs.map g).length ≤ sizeLine then R.ok (PyData.list (xs.map g)) (backD ρ1 (wipeD ρ1 vs) vs) else R.bad) = _
  rw [if_pos (by rw [List.length_map]; exact hl), hb]
end
end Z

set_option linter.all false
set_option maxRecDepth 100000
set_option maxHeartbeats 1000000
/-! A1: what values can be told by: the values AV, what lies in them (G), when one lies in another (leF) -/
namespace A
open PySem Z
inductive AV where
  | top
  | ex (d : D)
  | int (lo hi : Int)
  | bool
  | str (c0 c1 lo hi : Nat)
  | tup (xs : List AV)
  | lst (xs : List AV)
  | tupN (a : AV) (lo hi : Nat)
  | lstN (a : AV) (lo hi : Nat)
  | any (fd fl : Bool) (n m : Nat)
  | well (u : Nat)
  | idx (j : Nat)
  | alt (xs : List AV)
  | pr (n : Nat)
abbrev AS := List AV
def wl (w0 w1 w2 : Int) : D := .list [.int w0, .int w1, .int w2]
def w1Max : Int := 10000000000000000000000000000000000000000000000000
def strB (c0 c1 lo hi : Nat) (x : Str) : Bool := decide (lo ≤ x.length) && decide (x.length ≤ hi) && x.cps.toList.all fun c => decide (c0 ≤ c) && decide (c ≤ c1)
def huge : Nat := 1000000000
mutual
/-- no less than the length of what repr writes -/
def wt : D → Nat
  | .none => 4
  | .bool _ => 5
  | .int i => if i.natAbs < 2 ^ 400 then 140 else huge
  | .str x => if x.cps.toList.all (fun c => decide (c < 1114112)) then 10 * x.length + 2 else huge
  | .list xs => 3 + wts xs
  | .tuple xs => 3 + wts xs
  | .dict kvs => if kvs.isEmpty then 2 else huge
def wts : List D → Nat
  | [] => 0
  | x :: xs => wt x + 2 + wts xs
end
/-- any data, so deep, so heavy at most; dicts or lists within or not -/
def anyB (fd fl : Bool) (m n : Nat) (d : D) : Bool := decide (wt d ≤ m) && decide (d.depth ≤ n) && (fd || !d.hasDict) && (fl || !hasLst d)
section
variable (P : Nat → D → Prop) (B : Nat)
mutual
def G : AV → D → Prop
  | .top, _ => True
  | .ex e, d => d = e
  | .int lo hi, d => ∃ i, d = .int i ∧ lo ≤ i ∧ i ≤ hi
  | .bool, d => ∃ b, d = .bool b
  | .str c0 c1 lo hi, d => ∃ x, d = .str x ∧ strB c0 c1 lo hi x = true
  | .tup as, d => ∃ ds, d = .tuple ds ∧ Gs as ds
  | .lst as, d => ∃ ds, d = .list ds ∧ Gs as ds
  | .tupN a lo hi, d => ∃ ds, d = .tuple ds ∧ lo ≤ ds.length ∧ ds.length ≤ hi ∧ ∀ x ∈ ds, G a x
  | .lstN a lo hi, d => ∃ ds, d = .list ds ∧ lo ≤ ds.length ∧ ds.length ≤ hi ∧ ∀ x ∈ ds, G a x
  | .any fd fl n m, d => anyB fd fl m n d = true
  | .well u, d => ∃ w0 w1 w2 : Int, d = wl w0 w1 w2 ∧ 0 ≤ w0 ∧ 0 ≤ w1 ∧ w1 ≤ w1Max ∧ 0 ≤ w2 ∧ w2 ≤ ((B + u : Nat) : Int)
  | .idx _, _ => False
  | .alt as, d => Go as d
  | .pr n, d => P n d
def Gs : List AV → List D → Prop
  | [], [] => True
  | a :: as, d :: ds => G a d ∧ Gs as ds
  | _, _ => False
def Go : List AV → D → Prop
  | [], _ => False
  | a :: as, d => G a d ∨ Go as d
end
end
section
variable {P : Nat → D → Prop} {B : Nat}
theorem go_iff {d : D} : ∀ {as : List AV}, Go P B as d ↔ ∃ a ∈ as, G P B a d
  | [] => by simp [Go]
  | a :: as => by rw [Go, go_iff (as := as)]; simp
theorem gs_len : ∀ {as : List AV} {ds : List D}, Gs P B as ds → as.length = ds.length
  | [], [], _ => rfl
  | _ :: as, _ :: ds, h => congrArg (· + 1) (gs_len (as := as) (by rw [Gs] at h; exact h.2))
  | [], _ :: _, h => by rw [Gs] at h; exact h.elim; all_goals simp
  | _ :: _, [], h => by rw [Gs] at h; exact h.elim; all_goals simp
theorem gs_nil {ds : List D} (h : Gs P B [] ds) : ds = [] := by
  have := gs_len h
  cases ds with
  | nil => rfl
  | cons _ _ => cases this
theorem gs_cons {a : AV} {as : List AV} {ds : List D} (h : Gs P B (a :: as) ds) : ∃ d r, ds = d :: r ∧ G P B a d ∧ Gs P B as r := by
  cases ds with
  | nil => have := gs_len h; cases this
  | cons d r => rw [Gs] at h; exact ⟨d, r, rfl, h⟩
theorem gs_get : ∀ {as : List AV} {ds : List D} {k : Nat} {a : AV}, Gs P B as ds → as[k]? = some a → ∃ d, ds[k]? = some d ∧ G P B a d
  | [], _, _, _, _, e => by simp at e
  | a :: as, ds, 0, _, h, e => by
    obtain ⟨d, r, rfl, h1, _⟩ := gs_cons h
    simp at e; subst e
    exact ⟨d, rfl, h1⟩
  | a :: as, ds, k + 1, _, h, e => by
    obtain ⟨d, r, rfl, _, h2⟩ := gs_cons h
    simpa using gs_get h2 (by simpa using e)
theorem gs_getD : ∀ {as : List AV} {ds : List D} {k : Nat} {d : D}, Gs P B as ds → ds[k]? = some d → ∃ a, as[k]? = some a ∧ G P B a d
  | [], ds, _, _, h, e => by rw [gs_nil h] at e; simp at e
  | a :: as, ds, 0, _, h, e => by
    obtain ⟨d, r, rfl, h1, _⟩ := gs_cons h
    simp at e; subst e
    exact ⟨a, rfl, h1⟩
  | a :: as, ds, k + 1, _, h, e => by
    obtain ⟨d, r, rfl, _, h2⟩ := gs_cons h
    simpa using gs_getD h2 (by simpa using e)
theorem gs_mem {as : List AV} {ds : List D} {d : D} (h : Gs P B as ds) (hd : d ∈ ds) : ∃ a ∈ as, G P B a d := by
  obtain ⟨k, hk⟩ := List.getElem?_of_mem hd
  obtain ⟨a, h1, h2⟩ := gs_getD h hk
  exact ⟨a, List.mem_of_getElem? h1, h2⟩
theorem gs_app : ∀ {as bs : List AV} {ds es : List D}, Gs P B as ds → Gs P B bs es → Gs P B (as ++ bs) (ds ++ es)
  | [], _, _, _, h, k => by rw [gs_nil h]; exact k
  | a :: as, _, _, _, h, k => by
    obtain ⟨d, r, rfl, h1, h2⟩ := gs_cons h
    rw [List.cons_append, List.cons_append, Gs]
    exact ⟨h1, gs_app h2 k⟩
theorem gs_take : ∀ {as : List AV} {ds : List D} (n : Nat), Gs P B as ds → Gs P B (as.take n) (ds.take n)
  | _, _, 0, _ => by simp [Gs]
  | [], _, n + 1, h => by rw [gs_nil h]; simp [Gs]
  | a :: as, _, n + 1, h => by
    obtain ⟨d, r, rfl, h1, h2⟩ := gs_cons h
    rw [List.take_succ_cons, List.take_succ_cons, Gs]
    exact ⟨h1, gs_take n h2⟩
theorem gs_drop : ∀ {as : List AV} {ds : List D} (n : Nat), Gs P B as ds → Gs P B (as.drop n) (ds.drop n)
  | _, _, 0, h => h
  | [], _, n + 1, h => by rw [gs_nil h]; simp [Gs]
  | a :: as, _, n + 1, h => by
    obtain ⟨d, r, rfl, h1, h2⟩ := gs_cons h
    exact gs_drop n h2
theorem gs_cut {as : List AV} {ds : List D} (lo hi : Option Int) (h : Gs P B as ds) : Gs P B (Z.cut as lo hi) (Z.cut ds lo hi) := by
  unfold Z.cut
  rw [gs_len h]
  exact gs_take _ (gs_drop _ h)
theorem gs_ex : ∀ ds : List D, Gs P B (ds.map AV.ex) ds
  | [] => by simp [Gs]
  | d :: ds => by rw [List.map_cons, Gs]; exact ⟨by rw [G], gs_ex ds⟩
theorem gs_exeq : ∀ {ds es : List D}, Gs P B (ds.map AV.ex) es → es = ds
  | [], _, h => gs_nil h
  | d :: ds, _, h => by
    obtain ⟨e, r, rfl, h1, h2⟩ := gs_cons h
    rw [G] at h1
    rw [h1, gs_exeq h2]
end
/-! ### the very value in another one -/
def memF : Nat → AV → D → Bool
  | 0, _, _ => false
  | n + 1, a, d => match a with
    | .top => true
    | .ex e => beqD d e
    | .int lo hi => (match d with | .int i => decide (lo ≤ i) && decide (i ≤ hi) | _ => false)
    | .bool => (match d with | .bool _ => true | _ => false)
    | .str c0 c1 lo hi => (match d with | .str x => strB c0 c1 lo hi x | _ => false)
    | .tup as => (match d with | .tuple ds => decide (as.length = ds.length) && (as.zip ds).all fun q => memF n q.1 q.2 | _ => false)
    | .lst as => (match d with | .list ds => decide (as.length = ds.length) && (as.zip ds).all fun q => memF n q.1 q.2 | _ => false)
    | .tupN a lo hi => (match d with | .tuple ds => decide (lo ≤ ds.length) && decide (ds.length ≤ hi) && ds.all (memF n a) | _ => false)
    | .lstN a lo hi => (match d with | .list ds => decide (lo ≤ ds.length) && decide (ds.length ≤ hi) && ds.all (memF n a) | _ => false)
    | .any fd fl k m => anyB fd fl m k d
    | .alt as => as.any fun a => memF n a d
    | _ => false
section
variable {P : Nat → D → Prop} {B : Nat}
theorem gs_zip {f : AV → D → Bool} (hf : ∀ a d, f a d = true → G P B a d) : ∀ {as : List AV} {ds : List D}, as.length = ds.length → ((as.zip ds).all fun q => f q.1 q.2) = true → Gs P B as ds
  | [], [], _, _ => by simp [Gs]
  | a :: as, d :: ds, h, k => by
    simp only [List.zip_cons_cons, List.all_cons, Bool.and_eq_true] at k
    rw [Gs]
    exact ⟨hf _ _ k.1, gs_zip hf (by simpa using h) k.2⟩
  | [], _ :: _, h, _ => by cases h
  | _ :: _, [], h, _ => by cases h
theorem mem_ok : ∀ (n : Nat) (a : AV) (d : D), memF n a d = true → G P B a d := by
  intro n
  induction n with
  | zero => intro a d h; cases h
  | succ n ih =>
    intro a d h
    cases a with
    | top => simp [G]
    | ex e => rw [G]; exact beqD_eq d e (by simpa [memF] using h)
    | int lo hi =>
      rw [G]
      cases d <;> simp [memF] at h
      exact ⟨_, rfl, h⟩
    | bool =>
      rw [G]
      cases d <;> simp [memF] at h
      exact ⟨_, rfl⟩
    | str c0 c1 lo hi =>
      rw [G]
      cases d <;> simp [memF] at h
      exact ⟨_, rfl, h⟩
    | tup as =>
      rw [G]
      cases d <;> simp only [memF, Bool.and_eq_true, decide_eq_true_eq, Bool.false_eq_true] at h
      exact ⟨_, rfl, gs_zip ih h.1 h.2⟩
    | lst as =>
      rw [G]
      cases d <;> simp only [memF, Bool.and_eq_true, decide_eq_true_eq, Bool.false_eq_true] at h
      exact ⟨_, rfl, gs_zip ih h.1 h.2⟩
    | tupN a lo hi =>
      rw [G]
      cases d <;> simp only [memF, Bool.and_eq_true, decide_eq_true_eq, Bool.false_eq_true, List.all_eq_true] at h
      exact ⟨_, rfl, h.1.1, h.1.2, fun x hx => ih _ _ (h.2 x hx)⟩
    | lstN a lo hi =>
      rw [G]
      cases d <;> simp only [memF, Bool.and_eq_true, decide_eq_true_eq, Bool.false_eq_true, List.all_eq_true] at h
      exact ⟨_, rfl, h.1.1, h.1.2, fun x hx => ih _ _ (h.2 x hx)⟩
    | any fd fl k m => rw [G]; exact h
    | alt as =>
      rw [G, go_iff]
      simp only [memF, List.any_eq_true] at h
      obtain ⟨a, h1, h2⟩ := h
      exact ⟨a, h1, ih _ _ h2⟩
    | _ => cases h
end
/-! ### one in another -/
mutual
def meas : AV → Option (Nat × Nat × Bool × Bool)
  | .ex d => some (wt d, d.depth, d.hasDict, hasLst d)
  | .int l h => if -(2 ^ 399) ≤ l ∧ h ≤ 2 ^ 399 then some (140, 0, false, false) else none
  | .bool => some (5, 0, false, false)
  | .str _ c1 _ h => if c1 < 1114112 then some (10 * h + 2, 0, false, false) else none
  | .tup xs => (measA xs).map fun q => (3 + q.1, q.2.1 + 1, q.2.2.1, q.2.2.2)
  | .lst xs => (measA xs).map fun q => (3 + q.1, q.2.1 + 1, q.2.2.1, true)
  | .tupN a _ h => (meas a).map fun q => (3 + h * (q.1 + 2), q.2.1 + 1, q.2.2.1, q.2.2.2)
  | .lstN a _ h => (meas a).map fun q => (3 + h * (q.1 + 2), q.2.1 + 1, q.2.2.1, true)
  | .any fd fl n m => some (m, n, fd, fl)
  | .alt xs => measO xs
  | _ => none
def measA : List AV → Option (Nat × Nat × Bool × Bool)
  | [] => some (0, 0, false, false)
  | a :: r => (meas a).bind fun q => (measA r).map fun z => (q.1 + 2 + z.1, max q.2.1 z.2.1, q.2.2.1 || z.2.2.1, q.2.2.2 || z.2.2.2)
def measO : List AV → Option (Nat × Nat × Bool × Bool)
  | [] => some (0, 0, false, false)
  | a :: r => (meas a).bind fun q => (measO r).map fun z => (max q.1 z.1, max q.2.1 z.2.1, q.2.2.1 || z.2.2.1, q.2.2.2 || z.2.2.2)
end
def leAny (fd fl : Bool) (m n : Nat) (a : AV) : Bool := match meas a with
  | some q => decide (q.1 ≤ m) && decide (q.2.1 ≤ n) && (fd || !q.2.2.1) && (fl || !q.2.2.2)
  | none => false
def leOne (rec : AV → AV → Bool) (a : AV) : AV → Bool
  | .top => true
  | .alt ys => ys.any fun y => rec a y
  | .int l h => (match a with | .int l' h' => decide (l ≤ l') && decide (h' ≤ h) | _ => false)
  | .bool => (match a with | .bool => true | _ => false)
  | .str c0 c1 l h => (match a with | .str c0' c1' l' h' => decide (c0 ≤ c0') && decide (c1' ≤ c1) && decide (l ≤ l') && decide (h' ≤ h) | _ => false)
  | .tup ys => (match a with | .tup xs => decide (xs.length = ys.length) && (xs.zip ys).all fun q => rec q.1 q.2 | _ => false)
  | .lst ys => (match a with | .lst xs => decide (xs.length = ys.length) && (xs.zip ys).all fun q => rec q.1 q.2 | _ => false)
  | .tupN b l h => (match a with | .tup xs => decide (l ≤ xs.length) && decide (xs.length ≤ h) && xs.all fun x => rec x b | .tupN b' l' h' => decide (l ≤ l') && decide (h' ≤ h) && rec b' b | _ => false)
  | .lstN b l h => (match a with | .lst xs => decide (l ≤ xs.length) && decide (xs.length ≤ h) && xs.all fun x => rec x b | .lstN b' l' h' => decide (l ≤ l') && decide (h' ≤ h) && rec b' b | _ => false)
  | .any fd fl n m => leAny fd fl m n a
  | .well u => (match a with | .well u' => decide (u' ≤ u) | _ => false)
  | .pr j => (match a with | .pr i => i == j | _ => false)
  | _ => false
def leF : Nat → AV → AV → Bool
  | 0, _, _ => false
  | n + 1, a, b => match a with
    | .alt xs => xs.all fun x => leF n x b
    | .ex d => memF n b d
    | a => leOne (leF n) a b
section
variable {P : Nat → D → Prop} {B : Nat}
def Ms (q : Nat × Nat × Bool × Bool) (d : D) : Prop := wt d ≤ q.1 ∧ d.depth ≤ q.2.1 ∧ (q.2.2.1 = false → d.hasDict = false) ∧ (q.2.2.2 = false → hasLst d = false)
def MsA (q : Nat × Nat × Bool × Bool) (ds : List D) : Prop := wts ds ≤ q.1 ∧ PyData.depthAll ds ≤ q.2.1 ∧ (q.2.2.1 = false → PyData.hasDictAll ds = false) ∧ (q.2.2.2 = false → hasLsts ds = false)
theorem ms_all {q : Nat × Nat × Bool × Bool} : ∀ ds : List D, (∀ x ∈ ds, Ms q x) → wts ds ≤ ds.length * (q.1 + 2) ∧ PyData.depthAll ds ≤ q.2.1 ∧ (q.2.2.1 = false → PyData.hasDictAll ds = false) ∧ (q.2.2.2 = false → hasLsts ds = false)
  | [], _ => ⟨by simp [wts], by simp [PyData.depthAll], fun _ => by simp [PyData.hasDictAll], fun _ => by simp [hasLsts]⟩
  | d :: ds, h => by
    obtain ⟨a, b, c, e⟩ := h d List.mem_cons_self
    obtain ⟨a', b', c', e'⟩ := ms_all ds fun x hx => h x (List.mem_cons_of_mem _ hx)
    refine ⟨?_, ?_, fun z => ?_, fun z => ?_⟩
    · rw [wts, List.length_cons, Nat.succ_mul]; omega
    · rw [PyData.depthAll]; omega
    · rw [PyData.hasDictAll, c z, c' z]; rfl
    · rw [hasLsts, e z, e' z]; rfl
mutual
theorem meas_ok : ∀ (a : AV) (q : Nat × Nat × Bool × Bool) (d : D), meas a = some q → G P B a d → Ms q d
  | .ex e, q, d, h, g => by
    rw [G] at g; subst g
    simp only [meas, Option.some.injEq] at h; subst h
    exact ⟨Nat.le_refl _, Nat.le_refl _, fun z => z, fun z => z⟩
  | .int l hh, q, d, h, g => by
    simp only [meas] at h
    split at h
    · rename_i k
      cases h
      rw [G] at g
      obtain ⟨i, rfl, g1, g2⟩ := g
      have e : i.natAbs < 2 ^ 400 := by omega
      exact ⟨by rw [wt, if_pos e]; exact Nat.le_refl _, by simp [PyData.depth], fun _ => by simp [PyData.hasDict], fun _ => by simp [hasLst]⟩
    · cases h
  | .bool, q, d, h, g => by
    simp only [meas, Option.some.injEq] at h; subst h
    rw [G] at g
    obtain ⟨b, rfl⟩ := g
    exact ⟨by simp [wt], by simp [PyData.depth], fun _ => by simp [PyData.hasDict], fun _ => by simp [hasLst]⟩
  | .str c0 c1 l hh, q, d, h, g => by
    simp only [meas] at h
    split at h
    · rename_i k
      cases h
      rw [G] at g
      obtain ⟨x, rfl, g⟩ := g
      simp only [strB, Bool.and_eq_true, decide_eq_true_eq, List.all_eq_true] at g
      have e : (x.cps.toList.all fun c => decide (c < 1114112)) = true := by
        rw [List.all_eq_true]
        intro c hc
        have := g.2 c hc
        rw [decide_eq_true_eq]
        omega
      exact ⟨by rw [wt, if_pos e]; show _ ≤ 10 * hh + 2; omega, by simp [PyData.depth], fun _ => by simp [PyData.hasDict], fun _ => by simp [hasLst]⟩
    · cases h
  | .tup xs, q, d, h, g => by
    simp only [meas] at h
    cases e : measA xs with
    | none => rw [e] at h; cases h
    | some z =>
      rw [e] at h
      cases h
      rw [G] at g
      obtain ⟨ds, rfl, g⟩ := g
      obtain ⟨m1, m2, m3, m4⟩ := measA_ok xs z ds e g
      exact ⟨by rw [wt]; show _ ≤ 3 + z.1; omega, by simp only [PyData.depth]; omega, fun w => by simpa [PyData.hasDict] using m3 w, fun w => by simpa [hasLst] using m4 w⟩
  | .lst xs, q, d, h, g => by
    simp only [meas] at h
    cases e : measA xs with
    | none => rw [e] at h; cases h
    | some z =>
      rw [e] at h
      cases h
      rw [G] at g
      obtain ⟨ds, rfl, g⟩ := g
      obtain ⟨m1, m2, m3, m4⟩ := measA_ok xs z ds e g
      exact ⟨by rw [wt]; show _ ≤ 3 + z.1; omega, by simp only [PyData.depth]; omega, fun w => by simpa [PyData.hasDict] using m3 w, fun w => by cases w⟩
  | .tupN a lo hi, q, d, h, g => by
    simp only [meas] at h
    cases e : meas a with
    | none => rw [e] at h; cases h
    | some z =>
      rw [e] at h
      cases h
      rw [G] at g
      obtain ⟨ds, rfl, g1, g2, g3⟩ := g
      obtain ⟨m1, m2, m3, m4⟩ := ms_all ds fun x hx => meas_ok a z x e (g3 x hx)
      have : ds.length * (z.1 + 2) ≤ hi * (z.1 + 2) := Nat.mul_le_mul_right _ g2
      exact ⟨by rw [wt]; show _ ≤ 3 + hi * (z.1 + 2); omega, by simp only [PyData.depth]; omega, fun w => by simpa [PyData.hasDict] using m3 w, fun w => by simpa [hasLst] using m4 w⟩
  | .lstN a lo hi, q, d, h, g => by
    simp only [meas] at h
    cases e : meas a with
    | none => rw [e] at h; cases h
    | some z =>
      rw [e] at h
      cases h
      rw [G] at g
      obtain ⟨ds, rfl, g1, g2, g3⟩ := g
      obtain ⟨m1, m2, m3, m4⟩ := ms_all ds fun x hx => meas_ok a z x e (g3 x hx)
      have : ds.length * (z.1 + 2) ≤ hi * (z.1 + 2) := Nat.mul_le_mul_right _ g2
      exact ⟨by rw [wt]; show _ ≤ 3 + hi * (z.1 + 2); omega, by simp only [PyData.depth]; omega, fun w => by simpa [PyData.hasDict] using m3 w, fun w => by cases w⟩
  | .any fd fl n m, q, d, h, g => by
    simp only [meas, Option.some.injEq] at h; subst h
    rw [G] at g
    simp only [anyB, Bool.and_eq_true, decide_eq_true_eq, Bool.or_eq_true, Bool.not_eq_true'] at g
    exact ⟨g.1.1.1, g.1.1.2, fun w => g.1.2.resolve_left (by have w : fd = false := w; rw [w]; exact Bool.false_ne_true), fun w => g.2.resolve_left (by have w : fl = false := w; rw [w]; exact Bool.false_ne_true)⟩
  | .alt xs, q, d, h, g => by
    rw [G] at g
    exact measO_ok xs q d (by simpa only [meas] using h) g
  | .top, _, _, h, _ => by simp [meas] at h
  | .well _, _, _, h, _ => by simp [meas] at h
  | .idx _, _, _, h, _ => by simp [meas] at h
  | .pr _, _, _, h, _ => by simp [meas] at h
theorem measA_ok : ∀ (as : List AV) (q : Nat × Nat × Bool × Bool) (ds : List D), measA as = some q → Gs P B as ds → MsA q ds
  | [], q, ds, h, g => by
    rw [gs_nil g]
    simp only [measA, Option.some.injEq] at h; subst h
    exact ⟨by simp [wts], by simp [PyData.depthAll], fun _ => by simp [PyData.hasDictAll], fun _ => by simp [hasLsts]⟩
  | a :: as, q, ds, h, g => by
    obtain ⟨d, r, rfl, g1, g2⟩ := gs_cons g
    simp only [measA] at h
    cases e : meas a with
    | none => rw [e] at h; cases h
    | some z =>
      cases e' : measA as with
      | none => rw [e, e'] at h; cases h
      | some z' =>
        rw [e, e'] at h
        cases h
        obtain ⟨m1, m2, m3, m4⟩ := meas_ok a z d e g1
        obtain ⟨k1, k2, k3, k4⟩ := measA_ok as z' r e' g2
        refine ⟨by rw [wts]; show _ ≤ z.1 + 2 + z'.1; omega, by rw [PyData.depthAll]; show _ ≤ max z.2.1 z'.2.1; omega, fun w => ?_, fun w => ?_⟩
        · have w := Bool.or_eq_false_iff.mp w
          rw [PyData.hasDictAll, m3 w.1, k3 w.2]; rfl
        · have w := Bool.or_eq_false_iff.mp w
          rw [hasLsts, m4 w.1, k4 w.2]; rfl
theorem measO_ok : ∀ (as : List AV) (q : Nat × Nat × Bool × Bool) (d : D), measO as = some q → Go P B as d → Ms q d
  | [], q, d, h, g => by rw [Go] at g; exact g.elim
  | a :: as, q, d, h, g => by
    simp only [measO] at h
    cases e : meas a with
    | none => rw [e] at h; cases h
    | some z =>
      cases e' : measO as with
      | none => rw [e, e'] at h; cases h
      | some z' =>
        rw [e, e'] at h
        cases h
        rw [Go] at g
        rcases g with g | g
        · obtain ⟨m1, m2, m3, m4⟩ := meas_ok a z d e g
          exact ⟨by show _ ≤ max z.1 z'.1; omega, by show _ ≤ max z.2.1 z'.2.1; omega, fun w => m3 (Bool.or_eq_false_iff.mp w).1, fun w => m4 (Bool.or_eq_false_iff.mp w).1⟩
        · obtain ⟨m1, m2, m3, m4⟩ := measO_ok as z' d e' g
          exact ⟨by show _ ≤ max z.1 z'.1; omega, by show _ ≤ max z.2.1 z'.2.1; omega, fun w => m3 (Bool.or_eq_false_iff.mp w).2, fun w => m4 (Bool.or_eq_false_iff.mp w).2⟩
end
theorem leAny_ok {fd fl : Bool} {m n : Nat} {a : AV} {d : D} (h : leAny fd fl m n a = true) (g : G P B a d) : anyB fd fl m n d = true := by
  unfold leAny at h
  split at h
  · rename_i q e
    obtain ⟨m1, m2, m3, m4⟩ := meas_ok a q d e g
    simp only [anyB, Bool.and_eq_true, decide_eq_true_eq, Bool.or_eq_true, Bool.not_eq_true'] at h ⊢
    refine ⟨⟨⟨by omega, by omega⟩, h.1.2.imp id m3⟩, h.2.imp id m4⟩
  · cases h
theorem gs_zip2 {rec : AV → AV → Bool} (hr : ∀ a b d, rec a b = true → G P B a d → G P B b d) : ∀ {xs ys : List AV} {ds : List D}, xs.length = ys.length → ((xs.zip ys).all fun q => rec q.1 q.2) = true → Gs P B xs ds → Gs P B ys ds
  | [], [], _, _, _, g => g
  | x :: xs, y :: ys, ds, h, k, g => by
    obtain ⟨d, r, rfl, g1, g2⟩ := gs_cons g
    simp only [List.zip_cons_cons, List.all_cons, Bool.and_eq_true] at k
    rw [Gs]
    exact ⟨hr _ _ _ k.1 g1, gs_zip2 hr (by simpa using h) k.2 g2⟩
  | [], _ :: _, _, h, _, _ => by cases h
  | _ :: _, [], _, h, _, _ => by cases h
theorem leOne_ok {rec : AV → AV → Bool} (hr : ∀ a b d, rec a b = true → G P B a d → G P B b d) {a b : AV} {d : D} (h : leOne rec a b = true) (g : G P B a d) : G P B b d := by
  cases b with
  | top => simp [G]
  | alt ys =>
    simp only [leOne, List.any_eq_true] at h
    obtain ⟨y, h1, h2⟩ := h
    rw [G, go_iff]
    exact ⟨y, h1, hr _ _ _ h2 g⟩
  | int l hh =>
    cases a <;> simp only [leOne, Bool.false_eq_true, Bool.and_eq_true, decide_eq_true_eq] at h
    rw [G] at g ⊢
    obtain ⟨i, rfl, g1, g2⟩ := g
    exact ⟨i, rfl, by omega, by omega⟩
  | bool =>
    cases a <;> simp only [leOne, Bool.false_eq_true] at h
    exact g
  | str c0 c1 l hh =>
    cases a <;> simp only [leOne, Bool.false_eq_true, Bool.and_eq_true, decide_eq_true_eq] at h
    rw [G] at g ⊢
    obtain ⟨x, rfl, g⟩ := g
    refine ⟨x, rfl, ?_⟩
    simp only [strB, Bool.and_eq_true, decide_eq_true_eq, List.all_eq_true] at g ⊢
    exact ⟨⟨by omega, by omega⟩, fun c hc => by have := g.2 c hc; omega⟩
  | tup ys =>
    cases a <;> simp only [leOne, Bool.false_eq_true, Bool.and_eq_true, decide_eq_true_eq] at h
    rw [G] at g ⊢
    obtain ⟨ds, rfl, g⟩ := g
    exact ⟨ds, rfl, gs_zip2 hr h.1 h.2 g⟩
  | lst ys =>
    cases a <;> simp only [leOne, Bool.false_eq_true, Bool.and_eq_true, decide_eq_true_eq] at h
    rw [G] at g ⊢
    obtain ⟨ds, rfl, g⟩ := g
    exact ⟨ds, rfl, gs_zip2 hr h.1 h.2 g⟩
  | tupN c l hh =>
    cases a <;> simp only [leOne, Bool.false_eq_true, Bool.and_eq_true, decide_eq_true_eq, List.all_eq_true] at h
    · simp only [G] at g ⊢
      obtain ⟨ds, rfl, g⟩ := g
      refine ⟨ds, rfl, by rw [← gs_len g]; exact h.1.1, by rw [← gs_len g]; exact h.1.2, fun x hx => ?_⟩
      obtain ⟨a, ha, hg⟩ := gs_mem g hx
      exact hr _ _ _ (h.2 a ha) hg
    · simp only [G] at g ⊢
      obtain ⟨ds, rfl, g1, g2, g3⟩ := g
      exact ⟨ds, rfl, by omega, by omega, fun x hx => hr _ _ _ h.2 (g3 x hx)⟩
  | lstN c l hh =>
    cases a <;> simp only [leOne, Bool.false_eq_true, Bool.and_eq_true, decide_eq_true_eq, List.all_eq_true] at h
    · simp only [G] at g ⊢
      obtain ⟨ds, rfl, g⟩ := g
      refine ⟨ds, rfl, by rw [← gs_len g]; exact h.1.1, by rw [← gs_len g]; exact h.1.2, fun x hx => ?_⟩
      obtain ⟨a, ha, hg⟩ := gs_mem g hx
      exact hr _ _ _ (h.2 a ha) hg
    · simp only [G] at g ⊢
      obtain ⟨ds, rfl, g1, g2, g3⟩ := g
      exact ⟨ds, rfl, by omega, by omega, fun x hx => hr _ _ _ h.2 (g3 x hx)⟩
  | any fd fl n m => rw [G]; exact leAny_ok h g
  | well u =>
    cases a <;> simp only [leOne, Bool.false_eq_true, decide_eq_true_eq] at h
    rw [G] at g ⊢
    obtain ⟨w0, w1, w2, e, a, b, c, d, k⟩ := g
    exact ⟨w0, w1, w2, e, a, b, c, d, by omega⟩
  | pr j =>
    cases a <;> simp only [leOne, Bool.false_eq_true, beq_iff_eq] at h
    subst h
    exact g
  | _ => cases h
theorem le_ok : ∀ (n : Nat) (a b : AV) (d : D), leF n a b = true → G P B a d → G P B b d := by
  intro n
  induction n with
  | zero => intro a b d h; cases h
  | succ n ih =>
    intro a b d h g
    cases a with
    | alt xs =>
      simp only [leF, List.all_eq_true] at h
      rw [G, go_iff] at g
      obtain ⟨a, h1, h2⟩ := g
      exact ih _ _ _ (h a h1) h2
    | ex e =>
      rw [G] at g
      subst g
      exact mem_ok n b d h
    | _ => exact leOne_ok ih h g
end
abbrev le (a b : AV) : Bool := leF 30 a b
end A

set_option Elab.async false
set_option linter.all false
set_option maxRecDepth 100000
set_option maxHeartbeats 1000000
/-! A2: operations on what values can be -/
namespace A
open PySem Z
def flat : List AV → List AV
  | [] => []
  | .alt xs :: r => xs ++ flat r
  | a :: r => a :: flat r
def mkAlt (l : List AV) : AV := match flat l with
  | [a] => a
  | l' => .alt l'
def spl : AV → List AV
  | .alt xs => xs
  | a => [a]
/-- a list or tuple that is known, with its parts told apart -/
def opn : AV → AV
  | .ex (.list ds) => .lst (ds.map .ex)
  | .ex (.tuple ds) => .tup (ds.map .ex)
  | a => a
def allM {α β : Type} (f : α → Option (List β)) : List α → Option (List β)
  | [] => some []
  | a :: r => (f a).bind fun l => (allM f r).map (l ++ ·)
section
variable {P : Nat → D → Prop} {B : Nat}
theorem flat_ok {d : D} : ∀ {l : List AV} {a : AV}, a ∈ l → G P B a d → ∃ b ∈ flat l, G P B b d
  | b :: r, a, h, g => by
    rcases List.mem_cons.mp h with rfl | h
    · cases a with
      | alt xs =>
        rw [G, go_iff] at g
        obtain ⟨x, h1, h2⟩ := g
        exact ⟨x, by rw [flat]; exact List.mem_append_left _ h1, h2⟩
      | _ => exact ⟨_, List.mem_cons_self, g⟩
    · obtain ⟨x, h1, h2⟩ := flat_ok h g
      refine ⟨x, ?_, h2⟩
      cases b with
      | alt xs => rw [flat]; exact List.mem_append_right _ h1
      | _ => exact List.mem_cons_of_mem _ h1
theorem mkAlt_ok {d : D} {l : List AV} {a : AV} (h : a ∈ l) (g : G P B a d) : G P B (mkAlt l) d := by
  obtain ⟨b, h1, h2⟩ := flat_ok h g
  unfold mkAlt
  split
  · rename_i x e
    rw [e, List.mem_singleton] at h1
    exact h1 ▸ h2
  · rw [G, go_iff]; exact ⟨b, h1, h2⟩
theorem spl_ok {d : D} {a : AV} (g : G P B a d) : ∃ b ∈ spl a, G P B b d := by
  cases a with
  | alt xs => rw [G, go_iff] at g; exact g
  | _ => exact ⟨_, List.mem_singleton.mpr rfl, g⟩
theorem opn_ok {d : D} {a : AV} (g : G P B a d) : G P B (opn a) d := by
  cases a with
  | ex e =>
    rw [G] at g; subst g
    cases d with
    | list ds => simp only [opn, G]; exact ⟨_, rfl, gs_ex ds⟩
    | tuple ds => simp only [opn, G]; exact ⟨_, rfl, gs_ex ds⟩
    | _ => simp only [opn, G]
  | _ => exact g
theorem allM_ok {α β : Type} {f : α → Option (List β)} : ∀ {l : List α} {rs : List β} {a : α}, allM f l = some rs → a ∈ l → ∃ r, f a = some r ∧ ∀ x ∈ r, x ∈ rs
  | b :: l, rs, a, h, m => by
    simp only [allM] at h
    cases e : f b with
    | none => rw [e] at h; cases h
    | some r =>
      cases e' : allM f l with
      | none => rw [e, e'] at h; cases h
      | some r' =>
        rw [e, e'] at h
        cases h
        rcases List.mem_cons.mp m with rfl | m
        · exact ⟨r, e, fun x hx => List.mem_append_left _ hx⟩
        · obtain ⟨q, h1, h2⟩ := allM_ok e' m
          exact ⟨q, h1, fun x hx => List.mem_append_right _ (h2 x hx)⟩
end
abbrev U1 := AV → Option (List AV)
abbrev U2 := AV → AV → Option (List AV)
def lift1 (g : U1) (a : AV) : Option (List AV) := allM g (spl a)
def lift2 (g : U2) (a b : AV) : Option (List AV) := allM (fun x => allM (fun y => g x y) (spl b)) (spl a)
section
variable (P : Nat → D → Prop) (B : Nat)
def S1 (g : U1) (f : D → Option D) : Prop := ∀ a d l, g a = some l → G P B a d → ∃ z, f d = some z ∧ ∃ r ∈ l, G P B r z
def S2 (g : U2) (f : D → D → Option D) : Prop := ∀ a b d e l, g a b = some l → G P B a d → G P B b e → ∃ z, f d e = some z ∧ ∃ r ∈ l, G P B r z
end
section
variable {P : Nat → D → Prop} {B : Nat}
theorem lift1_ok {g : U1} {f : D → Option D} (h : S1 P B g f) : S1 P B (lift1 g) f := by
  intro a d l e hg
  obtain ⟨b, h1, h2⟩ := spl_ok hg
  obtain ⟨r, h3, h4⟩ := allM_ok e h1
  obtain ⟨z, h5, q, h6, h7⟩ := h b d r h3 h2
  exact ⟨z, h5, q, h4 q h6, h7⟩
theorem lift2_ok {g : U2} {f : D → D → Option D} (h : S2 P B g f) : S2 P B (lift2 g) f := by
  intro a b d e l hl hg hk
  obtain ⟨x, h1, h2⟩ := spl_ok hg
  obtain ⟨y, k1, k2⟩ := spl_ok hk
  obtain ⟨r, h3, h4⟩ := allM_ok hl h1
  obtain ⟨r', h3', h4'⟩ := allM_ok h3 k1
  obtain ⟨z, h5, q, h6, h7⟩ := h x y d e r' h3' h2 k2
  exact ⟨z, h5, q, h4 q (h4' q h6), h7⟩
end
/-! views -/
def iv : AV → Option (Int × Int)
  | .int l h => some (l, h)
  | .ex (.int i) => some (i, i)
  | _ => none
def minC : List Nat → Nat
  | [] => 1114111
  | c :: r => min c (minC r)
def maxC : List Nat → Nat
  | [] => 0
  | c :: r => max c (maxC r)
def sv : AV → Option (Nat × Nat × Nat × Nat)
  | .str a b l h => some (a, b, l, h)
  | .ex (.str x) => some (minC x.cps.toList, maxC x.cps.toList, x.length, x.length)
  | _ => none
/-- a tuple: its parts, how many -/
def tv (a : AV) : Option (AV × Nat × Nat) := match opn a with
  | .tup xs => some (mkAlt xs, xs.length, xs.length)
  | .tupN a l h => some (a, l, h)
  | _ => none
def lv (a : AV) : Option (AV × Nat × Nat) := match opn a with
  | .lst xs => some (mkAlt xs, xs.length, xs.length)
  | .lstN a l h => some (a, l, h)
  | _ => none
section
variable {P : Nat → D → Prop} {B : Nat}
theorem iv_ok {a : AV} {q : Int × Int} {d : D} (h : iv a = some q) (g : G P B a d) : ∃ i, d = .int i ∧ q.1 ≤ i ∧ i ≤ q.2 := by
  cases a with
  | int l hh => cases h; rw [G] at g; exact g
  | ex e =>
    rw [G] at g; subst g
    cases d <;> first | (cases h; done) | skip
    cases h
    exact ⟨_, rfl, Int.le_refl _, Int.le_refl _⟩
  | _ => cases h
theorem minC_le : ∀ {l : List Nat} {c : Nat}, c ∈ l → minC l ≤ c
  | b :: r, c, h => by
    rw [minC]
    rcases List.mem_cons.mp h with rfl | h
    · omega
    · have := minC_le h; omega
theorem le_maxC : ∀ {l : List Nat} {c : Nat}, c ∈ l → c ≤ maxC l
  | b :: r, c, h => by
    rw [maxC]
    rcases List.mem_cons.mp h with rfl | h
    · omega
    · have := le_maxC h; omega
theorem sv_ok {a : AV} {q : Nat × Nat × Nat × Nat} {d : D} (h : sv a = some q) (g : G P B a d) : ∃ x, d = .str x ∧ strB q.1 q.2.1 q.2.2.1 q.2.2.2 x = true := by
  cases a with
  | str a b l hh => cases h; rw [G] at g; exact g
  | ex e =>
    rw [G] at g; subst g
    cases d <;> first | (cases h; done) | skip
    cases h
    refine ⟨_, rfl, ?_⟩
    simp only [strB, Bool.and_eq_true, decide_eq_true_eq, List.all_eq_true]
    exact ⟨⟨Nat.le_refl _, Nat.le_refl _⟩, fun c hc => ⟨minC_le hc, le_maxC hc⟩⟩
  | _ => cases h
theorem tv_ok {a : AV} {q : AV × Nat × Nat} {d : D} (h : tv a = some q) (g : G P B a d) : ∃ ds, d = .tuple ds ∧ q.2.1 ≤ ds.length ∧ ds.length ≤ q.2.2 ∧ ∀ x ∈ ds, G P B q.1 x := by
  replace g := opn_ok g
  unfold tv at h
  split at h
  · rename_i xs e
    rw [e, G] at g
    cases h
    obtain ⟨ds, rfl, g⟩ := g
    refine ⟨ds, rfl, Nat.le_of_eq (gs_len g), Nat.le_of_eq (gs_len g).symm, fun x hx => ?_⟩
    obtain ⟨a, h1, h2⟩ := gs_mem g hx
    exact mkAlt_ok h1 h2
  · rename_i b l hh e
    rw [e, G] at g
    cases h
    exact g
  · cases h
theorem lv_ok {a : AV} {q : AV × Nat × Nat} {d : D} (h : lv a = some q) (g : G P B a d) : ∃ ds, d = .list ds ∧ q.2.1 ≤ ds.length ∧ ds.length ≤ q.2.2 ∧ ∀ x ∈ ds, G P B q.1 x := by
  replace g := opn_ok g
  unfold lv at h
  split at h
  · rename_i xs e
    rw [e, G] at g
    cases h
    obtain ⟨ds, rfl, g⟩ := g
    refine ⟨ds, rfl, Nat.le_of_eq (gs_len g), Nat.le_of_eq (gs_len g).symm, fun x hx => ?_⟩
    obtain ⟨a, h1, h2⟩ := gs_mem g hx
    exact mkAlt_ok h1 h2
  · rename_i b l hh e
    rw [e, G] at g
    cases h
    exact g
  · cases h
end
/-! operators -/
def lim : Nat := 1000000
def aAdd (a b : AV) : Option (List AV) := match iv a, iv b with
  | some p, some q => some [.int (p.1 + q.1) (p.2 + q.2)]
  | _, _ => match sv a, sv b with
    | some p, some q => if p.2.2.2 + q.2.2.2 ≤ lim then some [.str (min p.1 q.1) (max p.2.1 q.2.1) (p.2.2.1 + q.2.2.1) (p.2.2.2 + q.2.2.2)] else none
    | _, _ => match opn a, opn b with
      | .tup xs, .tup ys => if xs.length + ys.length ≤ lim then some [.tup (xs ++ ys)] else none
      | .lst xs, .lst ys => if xs.length + ys.length ≤ lim then some [.lst (xs ++ ys)] else none
      | _, _ => match tv a, tv b with
        | some p, some q => if p.2.2 + q.2.2 ≤ lim then some [.tupN (mkAlt [p.1, q.1]) (p.2.1 + q.2.1) (p.2.2 + q.2.2)] else none
        | _, _ => match lv a, lv b with
          | some p, some q => if p.2.2 + q.2.2 ≤ lim then some [.lstN (mkAlt [p.1, q.1]) (p.2.1 + q.2.1) (p.2.2 + q.2.2)] else none
          | _, _ => none
def aOp (o : Op) (a b : AV) : Option (List AV) := match a, b with
  | .ex x, .ex y => (opD o x y).map fun z => [.ex z]
  | a, b => match o with
    | .add => aAdd a b
    | .sub => (match iv a, iv b with | some p, some q => some [.int (p.1 - q.2) (p.2 - q.1)] | _, _ => none)
    | .mul => (match iv a, iv b with | some p, some q => if 0 ≤ p.1 ∧ 0 ≤ q.1 ∧ p.2 < 2 ^ 60 then some [.int (p.1 * q.1) (p.2 * q.2)] else none | _, _ => none)
    | .mod => (match iv a, iv b with | some _, some q => if 0 < q.1 then some [.int 0 (q.2 - 1)] else none | _, _ => none)
    | .fdiv => (match iv a, iv b with | some p, some q => if 0 ≤ p.1 ∧ 0 < q.1 ∧ q.2 < 2 ^ 400 then some [.int 0 p.2] else none | _, _ => none)
    | _ => none
theorem lim_ok {n : Nat} (h : n ≤ lim) : n ≤ sizeLine := Nat.le_trans h (by decide +kernel)
section
variable {P : Nat → D → Prop} {B : Nat}
theorem aAdd_ok : S2 P B aAdd (opD .add) := by
  intro a b d e l h g k
  unfold aAdd at h
  split at h
  · rename_i p q e1 e2
    obtain ⟨i, rfl, i1, i2⟩ := iv_ok e1 g
    obtain ⟨j, rfl, j1, j2⟩ := iv_ok e2 k
    cases h
    exact ⟨_, rfl, _, List.mem_singleton.mpr rfl, by rw [G]; exact ⟨_, rfl, by omega, by omega⟩⟩
  split at h
  · rename_i p q e1 e2
    split at h
    · rename_i hl
      cases h
      obtain ⟨x, rfl, x1⟩ := sv_ok e1 g
      obtain ⟨y, rfl, y1⟩ := sv_ok e2 k
      simp only [strB, Bool.and_eq_true, decide_eq_true_eq, List.all_eq_true] at x1 y1
      have hz : x.length + y.length ≤ sizeLine := lim_ok (by omega)
      have hlen : (x ++ y).length = x.length + y.length := Str.length_append x y
      refine ⟨.str (x ++ y), if_pos hz, _, List.mem_singleton.mpr rfl, ?_⟩
      rw [G]
      refine ⟨_, rfl, ?_⟩
      simp only [strB, Bool.and_eq_true, decide_eq_true_eq, List.all_eq_true]
      refine ⟨⟨by omega, by omega⟩, fun c hc => ?_⟩
      have hc : c ∈ x.cps.toList ++ y.cps.toList := by
        have : (x ++ y).cps.toList = x.cps.toList ++ y.cps.toList := by show (x.cps ++ y.cps).toList = _; simp
        rwa [this] at hc
      rcases List.mem_append.mp hc with hc | hc
      · have := x1.2 c hc; omega
      · have := y1.2 c hc; omega
    · cases h
  split at h
  · rename_i xs ys e1 e2
    split at h
    · rename_i hl
      cases h
      replace g := opn_ok g
      replace k := opn_ok k
      rw [e1, G] at g
      rw [e2, G] at k
      obtain ⟨ds, rfl, g⟩ := g
      obtain ⟨es, rfl, k⟩ := k
      have hz : ds.length + es.length ≤ sizeLine := lim_ok (by rw [← gs_len g, ← gs_len k]; exact hl)
      exact ⟨.tuple (ds ++ es), if_pos hz, _, List.mem_singleton.mpr rfl, by rw [G]; exact ⟨_, rfl, gs_app g k⟩⟩
    · cases h
  · rename_i xs ys e1 e2
    split at h
    · rename_i hl
      cases h
      replace g := opn_ok g
      replace k := opn_ok k
      rw [e1, G] at g
      rw [e2, G] at k
      obtain ⟨ds, rfl, g⟩ := g
      obtain ⟨es, rfl, k⟩ := k
      have hz : ds.length + es.length ≤ sizeLine := lim_ok (by rw [← gs_len g, ← gs_len k]; exact hl)
      exact ⟨.list (ds ++ es), if_pos hz, _, List.mem_singleton.mpr rfl, by rw [G]; exact ⟨_, rfl, gs_app g k⟩⟩
    · cases h
  split at h
  · rename_i p q e1 e2
    split at h
    · rename_i hl
      cases h
      obtain ⟨ds, rfl, g1, g2, g3⟩ := tv_ok e1 g
      obtain ⟨es, rfl, k1, k2, k3⟩ := tv_ok e2 k
      have hz : ds.length + es.length ≤ sizeLine := lim_ok (by omega)
      refine ⟨.tuple (ds ++ es), if_pos hz, _, List.mem_singleton.mpr rfl, ?_⟩
      rw [G]
      refine ⟨_, rfl, by rw [List.length_append]; omega, by rw [List.length_append]; omega, fun x hx => ?_⟩
      rcases List.mem_append.mp hx with hx | hx
      · exact mkAlt_ok List.mem_cons_self (g3 x hx)
      · exact mkAlt_ok (List.mem_cons_of_mem _ List.mem_cons_self) (k3 x hx)
    · cases h
  split at h
  · rename_i p q e1 e2
    split at h
    · rename_i hl
      cases h
      obtain ⟨ds, rfl, g1, g2, g3⟩ := lv_ok e1 g
      obtain ⟨es, rfl, k1, k2, k3⟩ := lv_ok e2 k
      have hz : ds.length + es.length ≤ sizeLine := lim_ok (by omega)
      refine ⟨.list (ds ++ es), if_pos hz, _, List.mem_singleton.mpr rfl, ?_⟩
      rw [G]
      refine ⟨_, rfl, by rw [List.length_append]; omega, by rw [List.length_append]; omega, fun x hx => ?_⟩
      rcases List.mem_append.mp hx with hx | hx
      · exact mkAlt_ok List.mem_cons_self (g3 x hx)
      · exact mkAlt_ok (List.mem_cons_of_mem _ List.mem_cons_self) (k3 x hx)
    · cases h
  · cases h
theorem aOp_ok (o : Op) : S2 P B (aOp o) (opD o) := by
  intro a b d e l h g k
  unfold aOp at h
  split at h
  · rw [G] at g k
    subst g; subst k
    cases hz : opD o d e with
    | none => rw [hz] at h; cases h
    | some z => rw [hz] at h; cases h; exact ⟨z, rfl, _, List.mem_singleton.mpr rfl, by rw [G]⟩
  · split at h
    · exact aAdd_ok _ _ _ _ _ h g k
    · split at h
      · rename_i p q e1 e2
        obtain ⟨i, rfl, i1, i2⟩ := iv_ok e1 g
        obtain ⟨j, rfl, j1, j2⟩ := iv_ok e2 k
        cases h
        exact ⟨_, rfl, _, List.mem_singleton.mpr rfl, by rw [G]; exact ⟨_, rfl, by omega, by omega⟩⟩
      · cases h
    · split at h
      · rename_i p q e1 e2
        obtain ⟨i, rfl, i1, i2⟩ := iv_ok e1 g
        obtain ⟨j, rfl, j1, j2⟩ := iv_ok e2 k
        split at h
        · rename_i hc
          cases h
          have hs : small64 i = true := by
            unfold small64
            rw [Bool.and_eq_true, decide_eq_true_eq, decide_eq_true_eq]
            omega
          refine ⟨.int (i * j), oMulL i j hs, _, List.mem_singleton.mpr rfl, ?_⟩
          rw [G]
          exact ⟨_, rfl, Int.mul_le_mul i1 j1 hc.2.1 (by omega), Int.mul_le_mul i2 j2 (by omega) (by omega)⟩
        · cases h
      · cases h
    · split at h
      · rename_i p q e1 e2
        obtain ⟨i, rfl, i1, i2⟩ := iv_ok e1 g
        obtain ⟨j, rfl, j1, j2⟩ := iv_ok e2 k
        split at h
        · rename_i hc
          cases h
          have hj : 0 < j := by omega
          refine ⟨.int (i % j), oMod i j hj, _, List.mem_singleton.mpr rfl, ?_⟩
          rw [G]
          have := Int.emod_nonneg i (show j ≠ 0 by omega)
          have := Int.emod_lt_of_pos i hj
          exact ⟨_, rfl, by omega, by omega⟩
        · cases h
      · cases h
    · split at h
      · rename_i p q e1 e2
        obtain ⟨i, rfl, i1, i2⟩ := iv_ok e1 g
        obtain ⟨j, rfl, j1, j2⟩ := iv_ok e2 k
        split at h
        · rename_i hc
          cases h
          have hj : 0 < j := by omega
          have hb : j.natAbs < 2 ^ 2000 := Nat.lt_trans (show j.natAbs < 2 ^ 400 by omega) (by decide +kernel)
          refine ⟨.int (i / j), if_pos ⟨hj, hb⟩, _, List.mem_singleton.mpr rfl, ?_⟩
          rw [G]
          have h0 := Int.ediv_nonneg (show 0 ≤ i by omega) (show 0 ≤ j by omega)
          have h1 := Int.ediv_le_self j (show 0 ≤ i by omega)
          exact ⟨_, rfl, by omega, by omega⟩
        · cases h
      · cases h
    · cases h
end
end A

set_option Elab.async false
set_option linter.all false
set_option maxRecDepth 100000
set_option maxHeartbeats 1000000
/-! A3: items, slices, comparisons, built-ins on what values can be -/
namespace A
open PySem Z
def ixOkB (l h : Int) (n : Nat) : Bool := (decide (0 ≤ l) && decide (h < n)) || (decide (h < 0) && decide (-(n : Int) ≤ l))
theorem ixOk {l h i : Int} {n m : Nat} (k : ixOkB l h n = true) (h1 : l ≤ i) (h2 : i ≤ h) (hm : n ≤ m) : ∃ j, ixOf i m = some j ∧ j < m := by
  unfold ixOkB at k
  simp only [Bool.or_eq_true, Bool.and_eq_true, decide_eq_true_eq] at k
  unfold ixOf
  rcases k with k | k
  · rw [if_pos (by omega), if_pos (by omega)]
    exact ⟨_, rfl, by omega⟩
  · rw [if_neg (by omega), if_pos (by omega)]
    exact ⟨_, rfl, by omega⟩
def fixedIx (c : AV) (i : Int) : Option AV := match opn c with
  | .tup xs => (ixOf i xs.length).bind fun k => xs[k]?
  | .lst xs => (ixOf i xs.length).bind fun k => xs[k]?
  | _ => none
def viewIx (c : AV) (q : Int × Int) : Option (List AV) := match tv c with
  | some p => if ixOkB q.1 q.2 p.2.1 then some [p.1] else none
  | none => match lv c with
    | some p => if ixOkB q.1 q.2 p.2.1 then some [p.1] else none
    | none => match sv c with
      | some p => if ixOkB q.1 q.2 p.2.2.1 && decide (p.2.2.2 ≤ lim) then some [.str p.1 p.2.1 1 1] else none
      | none => none
def aIx (c y : AV) : Option (List AV) := match c, y with
  | .ex x, .ex z => (ixD x z).map fun r => [.ex r]
  | c, .ex (.int i) => (match fixedIx c i with | some a => some [a] | none => viewIx c (i, i))
  | c, y => (match iv y with | some q => viewIx c q | none => none)
section
variable {P : Nat → D → Prop} {B : Nat}
theorem viewIx_ok {c : AV} {q : Int × Int} {d : D} {i : Int} {l : List AV} (h : viewIx c q = some l) (g : G P B c d) (h1 : q.1 ≤ i) (h2 : i ≤ q.2) : ∃ z, ixD d (.int i) = some z ∧ ∃ r ∈ l, G P B r z := by
  unfold viewIx at h
  split at h
  · rename_i p e
    split at h
    · rename_i k
      cases h
      obtain ⟨ds, rfl, g1, g2, g3⟩ := tv_ok e g
      obtain ⟨j, j1, j2⟩ := ixOk k h1 h2 g1
      refine ⟨ds[j], ?_, _, List.mem_singleton.mpr rfl, g3 _ (List.getElem_mem j2)⟩
      show (ixOf i ds.length).bind _ = _
      rw [j1]
      exact List.getElem?_eq_getElem j2
    · cases h
  split at h
  · rename_i p e
    split at h
    · rename_i k
      cases h
      obtain ⟨ds, rfl, g1, g2, g3⟩ := lv_ok e g
      obtain ⟨j, j1, j2⟩ := ixOk k h1 h2 g1
      refine ⟨ds[j], ?_, _, List.mem_singleton.mpr rfl, g3 _ (List.getElem_mem j2)⟩
      show (ixOf i ds.length).bind _ = _
      rw [j1]
      exact List.getElem?_eq_getElem j2
    · cases h
  split at h
  · rename_i p e
    split at h
    · rename_i k
      cases h
      rw [Bool.and_eq_true, decide_eq_true_eq] at k
      obtain ⟨x, rfl, g1⟩ := sv_ok e g
      simp only [strB, Bool.and_eq_true, decide_eq_true_eq, List.all_eq_true] at g1
      have hl : x.cps.toList.length = x.length := by simp; rfl
      obtain ⟨j, j1, j2⟩ := ixOk (m := x.cps.toList.length) k.1 h1 h2 (by omega)
      refine ⟨.str ⟨#[x.cps.toList[j]]⟩, ?_, _, List.mem_singleton.mpr rfl, ?_⟩
      · show (if x.length ≤ sizeLine then _ else none) = _
        rw [if_pos (lim_ok (by omega)), j1]
        show ((x.cps.toList[j]?).map _) = _
        rw [List.getElem?_eq_getElem j2]
        rfl
      · rw [G]
        refine ⟨_, rfl, ?_⟩
        have := g1.2 _ (List.getElem_mem j2)
        simp only [strB, Bool.and_eq_true, decide_eq_true_eq, List.all_eq_true]
        exact ⟨⟨Nat.le_refl _, Nat.le_refl _⟩, fun c hc => by
          simp only [List.mem_cons, List.not_mem_nil, or_false] at hc
          rw [hc]; exact this⟩
    · cases h
  · cases h
theorem fixedIx_ok {c a : AV} {d : D} {i : Int} (h : fixedIx c i = some a) (g : G P B c d) : ∃ z, ixD d (.int i) = some z ∧ G P B a z := by
  replace g := opn_ok g
  unfold fixedIx at h
  split at h
  · rename_i xs e
    rw [e, G] at g
    obtain ⟨ds, rfl, g⟩ := g
    cases k : ixOf i xs.length with
    | none => rw [k] at h; cases h
    | some j =>
      rw [k] at h
      obtain ⟨z, z1, z2⟩ := gs_get g h
      refine ⟨z, ?_, z2⟩
      show (ixOf i ds.length).bind _ = _
      rw [← gs_len g, k]
      exact z1
  · rename_i xs e
    rw [e, G] at g
    obtain ⟨ds, rfl, g⟩ := g
    cases k : ixOf i xs.length with
    | none => rw [k] at h; cases h
    | some j =>
      rw [k] at h
      obtain ⟨z, z1, z2⟩ := gs_get g h
      refine ⟨z, ?_, z2⟩
      show (ixOf i ds.length).bind _ = _
      rw [← gs_len g, k]
      exact z1
  · cases h
theorem aIx_ok : S2 P B aIx ixD := by
  intro a b d e l h g k
  unfold aIx at h
  split at h
  · rw [G] at g k
    subst g; subst k
    cases hz : ixD d e with
    | none => rw [hz] at h; cases h
    | some z => rw [hz] at h; cases h; exact ⟨z, rfl, _, List.mem_singleton.mpr rfl, by rw [G]⟩
  · rw [G] at k
    subst k
    split at h
    · rename_i a' e'
      cases h
      obtain ⟨z, z1, z2⟩ := fixedIx_ok e' g
      exact ⟨z, z1, _, List.mem_singleton.mpr rfl, z2⟩
    · exact viewIx_ok h g (Int.le_refl _) (Int.le_refl _)
  · split at h
    · rename_i q e'
      obtain ⟨i, rfl, i1, i2⟩ := iv_ok e' k
      exact viewIx_ok h g i1 i2
    · cases h
end
/-! slices -/
def eb : AV → Option (Option (Int × Int))
  | .ex .none => some none
  | a => (iv a).map some
def loE (o : Option (Int × Int)) (d n : Nat) : Nat := match o with
  | none => d
  | some q => if 0 ≤ q.1 then min q.1.toNat n else if q.2 < 0 then (q.1 + n).toNat else 0
def hiE (o : Option (Int × Int)) (d n : Nat) : Nat := match o with
  | none => d
  | some q => if 0 ≤ q.1 then min q.2.toNat n else if q.2 < 0 then (q.2 + n).toNat else n
def inE (o : Option (Int × Int)) (x : Option Int) : Prop := match o, x with
  | none, none => True
  | some q, some i => q.1 ≤ i ∧ i ≤ q.2
  | _, _ => False
theorem eb_ok {P : Nat → D → Prop} {B : Nat} {a : AV} {o : Option (Int × Int)} {d : D} (h : eb a = some o) (g : G P B a d) : ∃ x, endD d = some x ∧ inE o x := by
  unfold eb at h
  split at h
  · cases h
    rw [G] at g; subst g
    exact ⟨none, rfl, trivial⟩
  · cases e : iv a with
    | none => rw [e] at h; cases h
    | some q =>
      rw [e] at h; cases h
      obtain ⟨i, rfl, i1, i2⟩ := iv_ok e g
      exact ⟨some i, rfl, i1, i2⟩
theorem cutE_ok {o : Option (Int × Int)} {x : Option Int} {n n1 n2 d d1 d2 : Nat} (h : inE o x) (hn1 : n1 ≤ n) (hn2 : n ≤ n2) (hd1 : d1 ≤ d) (hd2 : d ≤ d2) : loE o d1 n1 ≤ cutEnd n d x ∧ cutEnd n d x ≤ hiE o d2 n2 := by
  cases o with
  | none => cases x with
    | none => exact ⟨hd1, hd2⟩
    | some _ => exact h.elim
  | some q => cases x with
    | none => exact h.elim
    | some i =>
      obtain ⟨h1, h2⟩ : q.1 ≤ i ∧ i ≤ q.2 := h
      simp only [loE, hiE, cutEnd]
      by_cases c1 : 0 ≤ q.1
      · rw [if_pos c1, if_pos c1, if_neg (by omega)]; omega
      · rw [if_neg c1, if_neg c1]
        by_cases c2 : q.2 < 0
        · rw [if_pos c2, if_pos c2, if_pos (by omega)]; omega
        · rw [if_neg c2, if_neg c2]
          split <;> omega
theorem cut_len {α : Type} (xs : List α) (a b : Option Int) : (cut xs a b).length = min (cutEnd xs.length xs.length b - cutEnd xs.length 0 a) (xs.length - cutEnd xs.length 0 a) := by
  unfold cut
  rw [List.length_take, List.length_drop]
theorem cut_sub {α : Type} {xs : List α} {a b : Option Int} {x : α} (h : x ∈ cut xs a b) : x ∈ xs := List.mem_of_mem_drop (List.mem_of_mem_take h)
theorem cutEnd_le {n d : Nat} {x : Option Int} (h : d ≤ n) (hx : ∀ v, x = some v → v < 0 → True) : cutEnd n d x ≤ n := by
  cases x with
  | none => exact h
  | some v => simp only [cutEnd]; split <;> omega
def cutLo (lo hi : Option (Int × Int)) (n1 n2 : Nat) : Nat := loE hi n1 n1 - hiE lo 0 n2
def cutHi (lo hi : Option (Int × Int)) (n1 n2 : Nat) : Nat := min n2 (hiE hi n2 n2 - loE lo 0 n1)
theorem cutN_ok {α : Type} {xs : List α} {a b : Option Int} {lo hi : Option (Int × Int)} {n1 n2 : Nat} (ha : inE lo a) (hb : inE hi b) (h1 : n1 ≤ xs.length) (h2 : xs.length ≤ n2) : cutLo lo hi n1 n2 ≤ (cut xs a b).length ∧ (cut xs a b).length ≤ cutHi lo hi n1 n2 := by
  rw [cut_len]
  have e1 := cutE_ok (d := 0) (d1 := 0) (d2 := 0) ha h1 h2 (Nat.le_refl _) (Nat.le_refl _)
  have e2 := cutE_ok (d := xs.length) (d1 := n1) (d2 := n2) hb h1 h2 h1 h2
  have e3 : cutEnd xs.length xs.length b ≤ xs.length := cutEnd_le (Nat.le_refl _) fun _ _ _ => trivial
  unfold cutLo cutHi
  omega
def exE : Option (Int × Int) → Option (Option Int)
  | none => some none
  | some q => if q.1 = q.2 then some (some q.1) else none
theorem exE_ok {o : Option (Int × Int)} {x y : Option Int} (h : exE o = some y) (k : inE o x) : x = y := by
  cases o with
  | none => cases x with
    | none => cases h; rfl
    | some _ => exact k.elim
  | some q => cases x with
    | none => exact k.elim
    | some i =>
      simp only [exE] at h
      split at h
      · cases h
        obtain ⟨k1, k2⟩ : q.1 ≤ i ∧ i ≤ q.2 := k
        congr 1; omega
      · cases h
def viewSl (c : AV) (lo hi : Option (Int × Int)) : Option (List AV) := match tv c with
  | some p => some [.tupN p.1 (cutLo lo hi p.2.1 p.2.2) (cutHi lo hi p.2.1 p.2.2)]
  | none => match lv c with
    | some p => some [.lstN p.1 (cutLo lo hi p.2.1 p.2.2) (cutHi lo hi p.2.1 p.2.2)]
    | none => match sv c with
      | some p => if p.2.2.2 ≤ lim then some [.str p.1 p.2.1 (cutLo lo hi p.2.2.1 p.2.2.2) (cutHi lo hi p.2.2.1 p.2.2.2)] else none
      | none => none
def fixSl (c : AV) (a b : Option Int) : Option (List AV) := match opn c with
  | .tup xs => some [.tup (cut xs a b)]
  | .lst xs => some [.lst (cut xs a b)]
  | _ => none
def aSl (c lo hi : AV) : Option (List AV) := match eb lo, eb hi with
  | some o, some o' => (match exE o, exE o' with
    | some a, some b => (match c with
      | .ex d => (cutD d a b).map fun z => [.ex z]
      | c => (match fixSl c a b with | some l => some l | none => viewSl c o o'))
    | _, _ => viewSl c o o')
  | _, _ => none
section
variable {P : Nat → D → Prop} {B : Nat}
theorem viewSl_ok {c : AV} {lo hi : Option (Int × Int)} {a b : Option Int} {d : D} {l : List AV} (h : viewSl c lo hi = some l) (g : G P B c d) (ha : inE lo a) (hb : inE hi b) : ∃ z, cutD d a b = some z ∧ ∃ r ∈ l, G P B r z := by
  unfold viewSl at h
  split at h
  · rename_i p e
    cases h
    obtain ⟨ds, rfl, g1, g2, g3⟩ := tv_ok e g
    obtain ⟨k1, k2⟩ := cutN_ok (xs := ds) ha hb g1 g2
    exact ⟨_, rfl, _, List.mem_singleton.mpr rfl, by rw [G]; exact ⟨_, rfl, k1, k2, fun x hx => g3 x (cut_sub hx)⟩⟩
  split at h
  · rename_i p e
    cases h
    obtain ⟨ds, rfl, g1, g2, g3⟩ := lv_ok e g
    obtain ⟨k1, k2⟩ := cutN_ok (xs := ds) ha hb g1 g2
    exact ⟨_, rfl, _, List.mem_singleton.mpr rfl, by rw [G]; exact ⟨_, rfl, k1, k2, fun x hx => g3 x (cut_sub hx)⟩⟩
  split at h
  · rename_i p e
    split at h
    · rename_i k
      cases h
      obtain ⟨x, rfl, g1⟩ := sv_ok e g
      simp only [strB, Bool.and_eq_true, decide_eq_true_eq, List.all_eq_true] at g1
      have hl : x.cps.toList.length = x.length := by simp; rfl
      obtain ⟨k1, k2⟩ := cutN_ok (xs := x.cps.toList) (n1 := p.2.2.1) (n2 := p.2.2.2) ha hb (by omega) (by omega)
      refine ⟨.str (strOfList (cut x.cps.toList a b)), if_pos (lim_ok (by omega)), _, List.mem_singleton.mpr rfl, ?_⟩
      rw [G]
      refine ⟨_, rfl, ?_⟩
      have e1 : (strOfList (cut x.cps.toList a b)).length = (cut x.cps.toList a b).length := by show (cut x.cps.toList a b).toArray.size = _; simp
      simp only [strB, Bool.and_eq_true, decide_eq_true_eq, List.all_eq_true]
      exact ⟨⟨by rw [e1]; exact k1, by rw [e1]; exact k2⟩, fun c hc => g1.2 c (cut_sub (a := a) (b := b) (by simpa [strOfList] using hc))⟩
    · cases h
  · cases h
theorem fixSl_ok {c : AV} {a b : Option Int} {d : D} {l : List AV} (h : fixSl c a b = some l) (g : G P B c d) : ∃ z, cutD d a b = some z ∧ ∃ r ∈ l, G P B r z := by
  replace g := opn_ok g
  unfold fixSl at h
  split at h
  · rename_i xs e
    rw [e, G] at g
    obtain ⟨ds, rfl, g⟩ := g
    cases h
    exact ⟨_, rfl, _, List.mem_singleton.mpr rfl, by rw [G]; exact ⟨_, rfl, gs_cut a b g⟩⟩
  · rename_i xs e
    rw [e, G] at g
    obtain ⟨ds, rfl, g⟩ := g
    cases h
    exact ⟨_, rfl, _, List.mem_singleton.mpr rfl, by rw [G]; exact ⟨_, rfl, gs_cut a b g⟩⟩
  · cases h
theorem aSl_ok {c lo hi : AV} {d x y : D} {l : List AV} (h : aSl c lo hi = some l) (g : G P B c d) (gx : G P B lo x) (gy : G P B hi y) : ∃ z, slD d x y = some z ∧ ∃ r ∈ l, G P B r z := by
  unfold aSl at h
  split at h
  · rename_i o o' e1 e2
    obtain ⟨a, a1, a2⟩ := eb_ok e1 gx
    obtain ⟨b, b1, b2⟩ := eb_ok e2 gy
    unfold slD
    rw [a1, b1]
    show ∃ z, cutD d a b = some z ∧ _
    split at h
    · rename_i a' b' f1 f2
      cases exE_ok f1 a2
      cases exE_ok f2 b2
      split at h
      · rw [G] at g; subst g
        cases hz : cutD d a b with
        | none => rw [hz] at h; cases h
        | some z => rw [hz] at h; cases h; exact ⟨z, rfl, _, List.mem_singleton.mpr rfl, by rw [G]⟩
      · split at h
        · rename_i l' q
          cases h
          exact fixSl_ok q g
        · exact viewSl_ok h g a2 b2
    · exact viewSl_ok h g a2 b2
  · cases h
end
end A

set_option Elab.async false
set_option linter.all false
set_option maxRecDepth 100000
set_option maxHeartbeats 1000000
/-! A4: comparisons, kinds, built-ins on what values can be -/
namespace A
open PySem Z
inductive Kd where
  | non | num | str | lst | tup | dic
  deriving DecidableEq
def kd : D → Kd
  | .none => .non
  | .bool _ => .num
  | .int _ => .num
  | .str _ => .str
  | .list _ => .lst
  | .tuple _ => .tup
  | .dict _ => .dic
def kdA : AV → Option Kd
  | .ex d => some (kd d)
  | .int _ _ => some .num
  | .bool => some .num
  | .str _ _ _ _ => some .str
  | .tup _ => some .tup
  | .lst _ => some .lst
  | .tupN _ _ _ => some .tup
  | .lstN _ _ _ => some .lst
  | .well _ => some .lst
  | _ => none
/-- surely comparable -/
def okA (a : AV) : Bool := leAny false true 900000000 60 a
section
variable {P : Nat → D → Prop} {B : Nat}
theorem kdA_ok {a : AV} {k : Kd} {d : D} (h : kdA a = some k) (g : G P B a d) : kd d = k := by
  cases a <;> first | (cases h; done) | (cases h; rw [G] at g)
  · subst g; rfl
  · obtain ⟨i, rfl, _⟩ := g; rfl
  · obtain ⟨i, rfl⟩ := g; rfl
  · obtain ⟨i, rfl, _⟩ := g; rfl
  · obtain ⟨i, rfl, _⟩ := g; rfl
  · obtain ⟨i, rfl, _⟩ := g; rfl
  · obtain ⟨i, rfl, _⟩ := g; rfl
  · obtain ⟨i, rfl, _⟩ := g; rfl
  · obtain ⟨_, _, _, rfl, _⟩ := g; rfl
mutual
theorem plain_of {n m : Nat} : ∀ d : D, wt d ≤ 900000000 → d.hasDict = false → d.plain = true
  | .none, _, _ => rfl
  | .bool _, _, _ => rfl
  | .int _, _, _ => rfl
  | .str _, _, _ => rfl
  | .list xs, h, k => by
    rw [wt] at h
    simp only [PyData.plain]
    exact plains_of xs (n := n) (m := m) (by omega) (by simpa [PyData.hasDict] using k)
  | .tuple xs, h, k => by
    rw [wt] at h
    simp only [PyData.plain]
    exact plains_of xs (n := n) (m := m) (by omega) (by simpa [PyData.hasDict] using k)
  | .dict _, _, k => by simp [PyData.hasDict] at k
theorem plains_of {n m : Nat} : ∀ ds : List D, wts ds ≤ 900000000 → PyData.hasDictAll ds = false → PyData.plainAll ds = true
  | [], _, _ => rfl
  | d :: ds, h, k => by
    rw [wts] at h
    simp only [PyData.hasDictAll, Bool.or_eq_false_iff] at k
    simp only [PyData.plainAll, plain_of d (n := n) (m := m) (by omega) k.1, plains_of ds (n := n) (m := m) (by omega) k.2, Bool.and_self]
end
theorem anyB_ok {fl : Bool} {m n : Nat} {d : D} (h : anyB false fl m n d = true) (hm : m ≤ 900000000) (hn : n ≤ 64) : okd d = true := by
  simp only [anyB, Bool.and_eq_true, decide_eq_true_eq, Bool.or_eq_true, Bool.not_eq_true', Bool.false_eq_true, false_or] at h
  unfold okd
  rw [Bool.and_eq_true, decide_eq_true_eq]
  exact ⟨plain_of (n := 0) (m := 0) d (by omega) h.1.2, by omega⟩
theorem okA_ok {a : AV} {d : D} (h : okA a = true) (g : G P B a d) : okd d = true := anyB_ok (leAny_ok h g) (Nat.le_refl _) (by decide)
theorem eqv_kd : ∀ {a b : D}, kd a ≠ kd b → PyData.eqv a b = false := by
  intro a b h
  cases a <;> cases b <;> first | rfl | exact absurd rfl h
end
def bl (b : Bool) : AV := .ex (.bool b)
/-- == -/
def aEq (a b : AV) : Option (List AV) := match a, b with
  | .ex x, .ex y => (eqD x y).map fun z => [bl z]
  | a, b => match iv a, iv b with
    | some p, some q => if p.2 < q.1 ∨ q.2 < p.1 then some [bl false] else some [.bool]
    | _, _ => match kdA a, kdA b with
      | some k, some k' => if okA a && okA b then (if k = k' then (match tv a, tv b with
          | some p, some q => if p.2.2 < q.2.1 ∨ q.2.2 < p.2.1 then some [bl false] else some [.bool]
          | _, _ => match lv a, lv b with
            | some p, some q => if p.2.2 < q.2.1 ∨ q.2.2 < p.2.1 then some [bl false] else some [.bool]
            | _, _ => some [.bool]) else some [bl false])
        else (match b with | .ex (.tuple []) => (match tv a with | some p => if 0 < p.2.1 then some [bl false] else some [.bool] | none => none) | _ => none)
      | _, _ => if okA a && okA b then some [.bool] else none
def notB : AV → AV
  | .ex (.bool b) => bl (!b)
  | _ => .bool
def aLt (a b : AV) : Option (List AV) := match a, b with
  | .ex x, .ex y => (cmpD .lt x y).map fun z => [bl z]
  | a, b => match iv a, iv b with
    | some p, some q => if p.2 < q.1 then some [bl true] else if q.2 ≤ p.1 then some [bl false] else some [.bool]
    | _, _ => match sv a, sv b with
      | some _, some _ => some [.bool]
      | _, _ => none
def aLe (a b : AV) : Option (List AV) := match a, b with
  | .ex x, .ex y => (cmpD .le x y).map fun z => [bl z]
  | a, b => match iv a, iv b with
    | some p, some q => if p.2 ≤ q.1 then some [bl true] else if q.2 < p.1 then some [bl false] else some [.bool]
    | _, _ => match sv a, sv b with
      | some _, some _ => some [.bool]
      | _, _ => none
def aIn (a b : AV) : Option (List AV) := match a, b with
  | .ex x, .ex y => (isIn x y).map fun z => [bl z]
  | a, b => match sv a, sv b with
    | some _, some _ => some [.bool]
    | _, _ => if okA a && okA b && (kdA b == some .lst || kdA b == some .tup) then some [.bool] else none
def aIs (a b : AV) : Option (List AV) := match b with
  | .ex .none => (match kdA a with | some k => some [bl (k == .non)] | none => some [.bool])
  | .ex (.bool c) => (match a with | .ex x => some [bl (isBoolD c x)] | _ => some [.bool])
  | _ => none
def aCmp (o : Cm) (a b : AV) : Option (List AV) := match o with
  | .eq => aEq a b
  | .ne => (aEq a b).map (List.map notB)
  | .lt => aLt a b
  | .gt => aLt b a
  | .le => aLe a b
  | .ge => aLe b a
  | .isIn => aIn a b
  | .notIn => (aIn a b).map (List.map notB)
  | .is => aIs a b
  | .isNot => (aIs a b).map (List.map notB)
def cB (f : D → D → Option Bool) : D → D → Option D := fun a b => (f a b).map .bool
section
variable {P : Nat → D → Prop} {B : Nat}
theorem g_bl (b : Bool) : G P B (bl b) (.bool b) := by unfold bl; rw [G]
theorem g_b (b : Bool) : G P B .bool (.bool b) := by rw [G]; exact ⟨b, rfl⟩
theorem res_b {b : Bool} : ∃ r ∈ [AV.bool], G P B r (.bool b) := ⟨_, List.mem_singleton.mpr rfl, g_b b⟩
theorem res_bl {b : Bool} : ∃ r ∈ [bl b], G P B r (.bool b) := ⟨_, List.mem_singleton.mpr rfl, g_bl b⟩
theorem eqD_ok {a b : D} (h1 : okd a = true) (h2 : okd b = true) : eqD a b = some (PyData.eqv a b) := by
  unfold eqD; rw [h1, h2]; rfl
theorem okd_flat {d : D} (h : ∀ xs, d ≠ .list xs) (h2 : ∀ xs, d ≠ .tuple xs) (h3 : ∀ xs, d ≠ .dict xs) : okd d = true := by
  cases d <;> first | rfl | exact absurd rfl (h _) | exact absurd rfl (h2 _) | exact absurd rfl (h3 _)
theorem okd_int (i : Int) : okd (.int i) = true := by unfold okd; simp [PyData.plain, PyData.depth]
theorem eqvAll_len : ∀ {xs ys : List D}, xs.length ≠ ys.length → PyData.eqvAll xs ys = false
  | [], [], h => absurd rfl h
  | [], _ :: _, _ => by simp [PyData.eqvAll]
  | _ :: _, [], _ => by simp [PyData.eqvAll]
  | x :: xs, y :: ys, h => by
    rw [PyData.eqvAll, eqvAll_len (xs := xs) (ys := ys) (fun e => h (by simp [e])), Bool.and_false]
theorem aEq_ok : S2 P B aEq (cB eqD) := by
  intro a b d e l h g k
  unfold cB
  unfold aEq at h
  split at h
  · rw [G] at g k
    subst g; subst k
    cases hz : eqD d e with
    | none => rw [hz] at h; cases h
    | some z => rw [hz] at h; cases h; exact ⟨_, rfl, res_bl⟩
  split at h
  · rename_i p q e1 e2
    obtain ⟨i, rfl, i1, i2⟩ := iv_ok e1 g
    obtain ⟨j, rfl, j1, j2⟩ := iv_ok e2 k
    rw [eqD_ok (okd_int i) (okd_int j)]
    refine ⟨_, rfl, ?_⟩
    split at h
    · rename_i hc
      cases h
      have : PyData.eqv (.int i) (.int j) = false := by
        simp only [PyData.eqv, beq_eq_false_iff_ne]; omega
      rw [this]; exact res_bl
    · cases h; exact res_b
  split at h
  · rename_i kk kk' e1 e2
    have q1 := kdA_ok e1 g
    have q2 := kdA_ok e2 k
    split at h
    · rename_i ho
      rw [Bool.and_eq_true] at ho
      have o1 := okA_ok ho.1 g
      have o2 := okA_ok ho.2 k
      rw [eqD_ok o1 o2]
      refine ⟨_, rfl, ?_⟩
      split at h
      · split at h
        · rename_i p q f1 f2
          obtain ⟨ds, rfl, g1, g2, g3⟩ := tv_ok f1 g
          obtain ⟨es, rfl, k1, k2, k3⟩ := tv_ok f2 k
          split at h
          · rename_i hc
            cases h
            have : PyData.eqv (.tuple ds) (.tuple es) = false := by simp only [PyData.eqv]; exact eqvAll_len (by omega)
            rw [this]; exact res_bl
          · cases h; exact res_b
        · split at h
          · rename_i p q f1 f2
            obtain ⟨ds, rfl, g1, g2, g3⟩ := lv_ok f1 g
            obtain ⟨es, rfl, k1, k2, k3⟩ := lv_ok f2 k
            split at h
            · rename_i hc
              cases h
              have : PyData.eqv (.list ds) (.list es) = false := by simp only [PyData.eqv]; exact eqvAll_len (by omega)
              rw [this]; exact res_bl
            · cases h; exact res_b
          · cases h; exact res_b
      · rename_i hc
        cases h
        rw [eqv_kd (by rw [q1, q2]; exact hc)]; exact res_bl
    · split at h
      · rw [G] at k
        subst k
        split at h
        · rename_i p f1
          obtain ⟨ds, rfl, g1, g2, g3⟩ := tv_ok f1 g
          have hn : eqD (.tuple ds) (.tuple []) = some ds.isEmpty := by
            unfold eqD
            split
            · cases ds <;> simp [PyData.eqv, PyData.eqvAll]
            · rfl
          rw [hn]
          refine ⟨_, rfl, ?_⟩
          split at h
          · rename_i hc
            cases h
            have : ds.isEmpty = false := by
              cases ds with
              | nil => simp at g1; omega
              | cons _ _ => rfl
            rw [this]; exact res_bl
          · cases h; exact res_b
        · cases h
      · cases h
  · split at h
    · rename_i ho
      cases h
      rw [Bool.and_eq_true] at ho
      rw [eqD_ok (okA_ok ho.1 g) (okA_ok ho.2 k)]
      exact ⟨_, rfl, res_b⟩
    · cases h
theorem notB_ok {a : AV} {b : Bool} (g : G P B a (.bool b)) : G P B (notB a) (.bool (!b)) := by
  unfold notB
  split
  · rw [G] at g; cases g; exact g_bl _
  · exact g_b _
theorem s2_not {f : U2} {r : D → D → Option Bool} (h : S2 P B f (cB r)) : S2 P B (fun a b => (f a b).map (List.map notB)) (cB fun a b => (r a b).map (!·)) := by
  intro a b d e l hl g k
  cases q : f a b with
  | none => simp only [q] at hl; cases hl
  | some l' =>
    simp only [q] at hl
    cases hl
    obtain ⟨z, h1, x, h2, h3⟩ := h a b d e l' q g k
    unfold cB at h1 ⊢
    cases w : r d e with
    | none => rw [w] at h1; cases h1
    | some bb =>
      rw [w] at h1
      cases h1
      refine ⟨.bool (!bb), ?_, notB x, List.mem_map_of_mem h2, notB_ok h3⟩
      show ((r d e).map (!·)).map PyData.bool = _
      rw [w]; rfl
theorem aLt_ok : S2 P B aLt (cB (cmpD .lt)) := by
  intro a b d e l h g k
  unfold cB
  unfold aLt at h
  split at h
  · rw [G] at g k
    subst g; subst k
    cases hz : cmpD .lt d e with
    | none => rw [hz] at h; cases h
    | some z => rw [hz] at h; cases h; exact ⟨_, rfl, res_bl⟩
  split at h
  · rename_i p q e1 e2
    obtain ⟨i, rfl, i1, i2⟩ := iv_ok e1 g
    obtain ⟨j, rfl, j1, j2⟩ := iv_ok e2 k
    refine ⟨_, rfl, ?_⟩
    split at h
    · cases h; rw [decide_eq_true (show i < j by omega)]; exact res_bl
    split at h
    · cases h; rw [decide_eq_false (show ¬ i < j by omega)]; exact res_bl
    · cases h; exact res_b
  split at h
  · rename_i p q e1 e2
    obtain ⟨x, rfl, _⟩ := sv_ok e1 g
    obtain ⟨y, rfl, _⟩ := sv_ok e2 k
    cases h
    exact ⟨_, rfl, res_b⟩
  · cases h
theorem aLe_ok : S2 P B aLe (cB (cmpD .le)) := by
  intro a b d e l h g k
  unfold cB
  unfold aLe at h
  split at h
  · rw [G] at g k
    subst g; subst k
    cases hz : cmpD .le d e with
    | none => rw [hz] at h; cases h
    | some z => rw [hz] at h; cases h; exact ⟨_, rfl, res_bl⟩
  split at h
  · rename_i p q e1 e2
    obtain ⟨i, rfl, i1, i2⟩ := iv_ok e1 g
    obtain ⟨j, rfl, j1, j2⟩ := iv_ok e2 k
    refine ⟨_, rfl, ?_⟩
    split at h
    · cases h; rw [decide_eq_true (show i ≤ j by omega)]; exact res_bl
    split at h
    · cases h; rw [decide_eq_false (show ¬ i ≤ j by omega)]; exact res_bl
    · cases h; exact res_b
  split at h
  · rename_i p q e1 e2
    obtain ⟨x, rfl, _⟩ := sv_ok e1 g
    obtain ⟨y, rfl, _⟩ := sv_ok e2 k
    cases h
    exact ⟨_, rfl, res_b⟩
  · cases h
theorem s2_swap {f : U2} {r r' : D → D → Option Bool} (h : S2 P B f (cB r)) (hr : ∀ a b, r a b = r' b a) : S2 P B (fun a b => f b a) (cB r') := by
  intro a b d e l hl g k
  obtain ⟨z, h1, h2⟩ := h b a e d l hl k g
  refine ⟨z, ?_, h2⟩
  unfold cB at h1 ⊢
  rw [← hr]; exact h1
theorem gt_lt (a b : D) : cmpD .lt a b = cmpD .gt b a := by cases a <;> cases b <;> rfl
theorem ge_le (a b : D) : cmpD .le a b = cmpD .ge b a := by cases a <;> cases b <;> rfl
theorem aIn_ok : S2 P B aIn (cB isIn) := by
  intro a b d e l h g k
  unfold cB
  unfold aIn at h
  split at h
  · rw [G] at g k
    subst g; subst k
    cases hz : isIn d e with
    | none => rw [hz] at h; cases h
    | some z => rw [hz] at h; cases h; exact ⟨_, rfl, res_bl⟩
  split at h
  · rename_i p q e1 e2
    obtain ⟨x, rfl, _⟩ := sv_ok e1 g
    obtain ⟨y, rfl, _⟩ := sv_ok e2 k
    cases h
    exact ⟨_, rfl, res_b⟩
  · split at h
    · rename_i hc
      cases h
      simp only [Bool.and_eq_true, Bool.or_eq_true, beq_iff_eq] at hc
      have o1 := okA_ok hc.1.1 g
      have o2 := okA_ok hc.1.2 k
      have hk : ∃ b, isIn d e = some b := by
        rcases hc.2 with q | q
        · have := kdA_ok q k
          cases e <;> first | (cases this; done) | skip
          rename_i ys
          exact ⟨ys.any fun y => PyData.eqv y d, by cases d <;> first | (show (if (okd _ && okd _) = true then _ else none) = _; rw [o1, o2]; rfl) | exact absurd o1 (by simp [okd, PyData.plain])⟩
        · have := kdA_ok q k
          cases e <;> first | (cases this; done) | skip
          rename_i ys
          exact ⟨ys.any fun y => PyData.eqv y d, by cases d <;> first | (show (if (okd _ && okd _) = true then _ else none) = _; rw [o1, o2]; rfl) | exact absurd o1 (by simp [okd, PyData.plain])⟩
      obtain ⟨b, hb⟩ := hk
      rw [hb]
      exact ⟨_, rfl, res_b⟩
    · cases h
theorem kd_none (d : D) : isNoneD d = (kd d == .non) := by cases d <;> rfl
theorem aIs_ok : S2 P B aIs (cB isD) := by
  intro a b d e l h g k
  unfold cB
  unfold aIs at h
  split at h
  · rw [G] at k
    subst k
    have e1 : isD d .none = some (isNoneD d) := by cases d <;> rfl
    rw [e1]
    refine ⟨_, rfl, ?_⟩
    split at h
    · rename_i kk q
      cases h
      rw [kd_none, kdA_ok q g]; exact res_bl
    · cases h; exact res_b
  · rename_i c
    rw [G] at k
    subst k
    have e1 : isD d (.bool c) = some (isBoolD c d) := by cases d <;> rfl
    rw [e1]
    refine ⟨_, rfl, ?_⟩
    split at h
    · rw [G] at g; subst g
      cases h; exact res_bl
    · cases h; exact res_b
  · cases h
theorem aCmp_ok (o : Cm) : S2 P B (aCmp o) (cB (cmpD o)) := by
  cases o with
  | eq => exact aEq_ok
  | ne => exact s2_not aEq_ok
  | lt => exact aLt_ok
  | le => exact aLe_ok
  | gt => exact s2_swap aLt_ok gt_lt
  | ge => exact s2_swap aLe_ok ge_le
  | isIn => exact aIn_ok
  | notIn => exact s2_not aIn_ok
  | is => exact aIs_ok
  | isNot => exact s2_not aIs_ok
end
/-! isinstance -/
def aIsi (t : Ty) (a : AV) : AV := match a with
  | .ex d => bl (isiD t d)
  | .int _ _ => bl (t == .int)
  | .bool => bl (t == .int || t == .bool)
  | .str _ _ _ _ => bl (t == .str)
  | .tup _ => bl (t == .tuple || t == .seq)
  | .tupN _ _ _ => bl (t == .tuple || t == .seq)
  | .lst _ => bl (t == .list || t == .seq)
  | .lstN _ _ _ => bl (t == .list || t == .seq)
  | .well _ => bl (t == .list || t == .seq)
  | _ => .bool
/-! built-ins -/
def toTup (a : AV) : Option (List AV) := match opn a with
  | .tup xs => some [.tup xs]
  | .lst xs => some [.tup xs]
  | .tupN a l h => some [.tupN a l h]
  | .lstN a l h => some [.tupN a l h]
  | _ => none
def toLst (a : AV) : Option (List AV) := match opn a with
  | .tup xs => some [.lst xs]
  | .lst xs => some [.lst xs]
  | .tupN a l h => some [.lstN a l h]
  | .lstN a l h => some [.lstN a l h]
  | _ => none
def aRev (a : AV) : Option (List AV) := match opn a with
  | .tup xs => some [.tup xs.reverse]
  | .lst xs => some [.lst xs.reverse]
  | .tupN a l h => some [.tupN a l h]
  | .lstN a l h => some [.lstN a l h]
  | _ => none
def mkInt (l h : Nat) : AV := if l = h then .ex (.int l) else .int l h
def aLen (a : AV) : Option (List AV) := match tv a with
  | some p => some [mkInt p.2.1 p.2.2]
  | none => match lv a with
    | some p => some [mkInt p.2.1 p.2.2]
    | none => match sv a with
      | some p => if p.2.2.2 ≤ lim then some [mkInt p.2.2.1 p.2.2.2] else none
      | none => none
def allTrue : AV → Bool
  | .ex (.bool b) => b
  | _ => false
def isBl : AV → Bool
  | .ex (.bool _) => true
  | .bool => true
  | _ => false
def aAll (a : AV) : Option (List AV) := match opn a with
  | .lst xs => if xs.all fun x => (spl x).all allTrue then some [bl true] else if xs.all fun x => (spl x).all isBl then some [.bool] else none
  | .lstN x _ _ => if (spl x).all allTrue then some [bl true] else if (spl x).all isBl then some [.bool] else none
  | _ => none
def aMax (a b : AV) : Option (List AV) := match iv a, iv b with
  | some p, some q => some [.int (max p.1 q.1) (max p.2 q.2)]
  | _, _ => none
def aMin (a b : AV) : Option (List AV) := match iv a, iv b with
  | some p, some q => some [.int (min p.1 q.1) (min p.2 q.2)]
  | _, _ => none
def aInt (a : AV) : Option (List AV) := match a with
  | .bool => some [.int 0 1]
  | a => (match iv a with | some p => some [.int p.1 p.2] | none => none)
def ex1 (f : D → Option D) (g : U1) : U1 := fun a => match a with
  | .ex d => (match f d with | some z => some [.ex z] | none => g (.ex d))
  | a => g a
def ex2 (f : D → D → Option D) (g : U2) : U2 := fun a b => match a, b with
  | .ex x, .ex y => (match f x y with | some z => some [.ex z] | none => none)
  | a, b => g a b
def aRng (a : AV) : Option (List AV) := match a with
  | .ex (.int n) => if 0 ≤ n ∧ n ≤ 64 then some [.lst ((rangeD 0 n).map .ex)] else none
  | a => match iv a with
    | some p => if 0 ≤ p.1 ∧ p.2 < 2 ^ 62 then some [.lstN (.int 0 (p.2 - 1)) p.1.toNat p.2.toNat] else none
    | none => none
def aRng2 (a b : AV) : Option (List AV) := match iv a, iv b with
  | some p, some q => if -(2 ^ 62) ≤ p.1 ∧ p.2 < 2 ^ 62 ∧ -(2 ^ 62) ≤ q.1 ∧ q.2 < 2 ^ 62 then some [.lstN (.int p.1 (q.2 - 1)) (q.1 - p.2).toNat (q.2 - p.1).toNat] else none
  | _, _ => none
def aBi (b : Bi) (as : List AV) : Option (List AV) := match b, as with
  | .len, [a] => lift1 aLen a
  | .int, [a] => lift1 (ex1 bInt aInt) a
  | .tuple, [a] => lift1 toTup a
  | .list, [a] => lift1 toLst a
  | .all, [a] => lift1 aAll a
  | .rev, [a] => lift1 aRev a
  | .range, [a] => lift1 aRng a
  | .range, [a, b] => lift2 aRng2 a b
  | .max, [a, b] => lift2 (ex2 bMax2 aMax) a b
  | .min, [a, b] => lift2 (ex2 bMin2 aMin) a b
  | _, _ => none
section
variable {P : Nat → D → Prop} {B : Nat}
theorem aIsi_ok (t : Ty) {a : AV} {d : D} (g : G P B a d) : G P B (aIsi t a) (.bool (isiD t d)) := by
  cases a <;> rw [G] at g
  case ex => subst g; exact g_bl _
  case int => obtain ⟨i, rfl, _⟩ := g; cases t <;> exact g_bl _
  case bool => obtain ⟨i, rfl⟩ := g; cases t <;> exact g_bl _
  case str => obtain ⟨i, rfl, _⟩ := g; cases t <;> exact g_bl _
  case tup => obtain ⟨i, rfl, _⟩ := g; cases t <;> exact g_bl _
  case lst => obtain ⟨i, rfl, _⟩ := g; cases t <;> exact g_bl _
  case tupN => obtain ⟨i, rfl, _⟩ := g; cases t <;> exact g_bl _
  case lstN => obtain ⟨i, rfl, _⟩ := g; cases t <;> exact g_bl _
  case well => obtain ⟨_, _, _, rfl, _⟩ := g; cases t <;> exact g_bl _
  all_goals exact g_b _
theorem one1 {z r : D} {a : AV} (h : G P B a z) : ∃ r ∈ [a], G P B r z := ⟨_, List.mem_singleton.mpr rfl, h⟩
theorem toTup_ok : S1 P B toTup bTup := by
  intro a d l h g
  replace g := opn_ok g
  unfold toTup at h
  split at h <;> rename_i e <;> first | (cases h; done) | (rw [e, G] at g; cases h; obtain ⟨ds, rfl, g⟩ := g; exact ⟨.tuple ds, rfl, _, List.mem_singleton.mpr rfl, by rw [G]; exact ⟨ds, rfl, g⟩⟩)
theorem gs_rev : ∀ {as : List AV} {ds : List D}, Gs P B as ds → Gs P B as.reverse ds.reverse
  | [], _, g => by cases gs_nil g; exact g
  | a :: as, _, g => by
    obtain ⟨d, r, rfl, g1, g2⟩ := gs_cons g
    rw [List.reverse_cons, List.reverse_cons]
    exact gs_app (gs_rev g2) (by rw [Gs, Gs]; first | exact ⟨g1, trivial⟩ | exact ⟨g1, rfl⟩)
theorem aRev_ok : S1 P B aRev bRev := by
  intro a d l h g
  replace g := opn_ok g
  unfold aRev at h
  split at h <;> rename_i e
  · cases h
    rw [e, G] at g
    obtain ⟨ds, rfl, g⟩ := g
    exact ⟨_, rfl, _, List.mem_singleton.mpr rfl, by rw [G]; exact ⟨_, rfl, gs_rev g⟩⟩
  · cases h
    rw [e, G] at g
    obtain ⟨ds, rfl, g⟩ := g
    exact ⟨_, rfl, _, List.mem_singleton.mpr rfl, by rw [G]; exact ⟨_, rfl, gs_rev g⟩⟩
  · cases h
    rw [e, G] at g
    obtain ⟨ds, rfl, g1, g2, g3⟩ := g
    exact ⟨_, rfl, _, List.mem_singleton.mpr rfl, by rw [G]; exact ⟨_, rfl, by rw [List.length_reverse]; exact g1, by rw [List.length_reverse]; exact g2, fun x hx => g3 x (List.mem_reverse.mp hx)⟩⟩
  · cases h
    rw [e, G] at g
    obtain ⟨ds, rfl, g1, g2, g3⟩ := g
    exact ⟨_, rfl, _, List.mem_singleton.mpr rfl, by rw [G]; exact ⟨_, rfl, by rw [List.length_reverse]; exact g1, by rw [List.length_reverse]; exact g2, fun x hx => g3 x (List.mem_reverse.mp hx)⟩⟩
  · cases h
theorem toLst_ok : S1 P B toLst bLst := by
  intro a d l h g
  replace g := opn_ok g
  unfold toLst at h
  split at h <;> rename_i e <;> first | (cases h; done) | (rw [e, G] at g; cases h; obtain ⟨ds, rfl, g⟩ := g; exact ⟨.list ds, rfl, _, List.mem_singleton.mpr rfl, by rw [G]; exact ⟨ds, rfl, g⟩⟩)
theorem mkInt_ok {l h n : Nat} (h1 : l ≤ n) (h2 : n ≤ h) : G P B (mkInt l h) (.int (n : Nat)) := by
  unfold mkInt
  split
  · rw [G]; congr 1; omega
  · rw [G]; exact ⟨_, rfl, by omega, by omega⟩
theorem aLen_ok : S1 P B aLen bLen := by
  intro a d l h g
  unfold aLen at h
  split at h
  · rename_i p e
    cases h
    obtain ⟨ds, rfl, g1, g2, _⟩ := tv_ok e g
    exact ⟨_, rfl, _, List.mem_singleton.mpr rfl, mkInt_ok g1 g2⟩
  split at h
  · rename_i p e
    cases h
    obtain ⟨ds, rfl, g1, g2, _⟩ := lv_ok e g
    exact ⟨_, rfl, _, List.mem_singleton.mpr rfl, mkInt_ok g1 g2⟩
  split at h
  · rename_i p e
    split at h
    · rename_i k
      cases h
      obtain ⟨x, rfl, g1⟩ := sv_ok e g
      simp only [strB, Bool.and_eq_true, decide_eq_true_eq] at g1
      exact ⟨.int (x.length : Nat), if_pos (lim_ok (by omega)), _, List.mem_singleton.mpr rfl, mkInt_ok g1.1.1 g1.1.2⟩
    · cases h
  · cases h
theorem allTrue_ok {x : AV} {d : D} (h : (spl x).all allTrue = true) (g : G P B x d) : d = .bool true := by
  obtain ⟨b, h1, h2⟩ := spl_ok g
  rw [List.all_eq_true] at h
  have := h b h1
  unfold allTrue at this
  split at this
  · rw [G] at h2; rw [h2, this]
  · cases this
theorem isBl_ok {x : AV} {d : D} (h : (spl x).all isBl = true) (g : G P B x d) : ∃ b, d = .bool b := by
  obtain ⟨b, h1, h2⟩ := spl_ok g
  rw [List.all_eq_true] at h
  have := h b h1
  unfold isBl at this
  split at this
  · rw [G] at h2; exact ⟨_, h2⟩
  · rw [G] at h2; exact h2
  · cases this
theorem bools_t : ∀ {ds : List D}, (∀ d ∈ ds, d = .bool true) → ∃ bs, boolsOf ds = some bs ∧ bs.all id = true
  | [], _ => ⟨[], rfl, rfl⟩
  | d :: ds, h => by
    obtain ⟨bs, h1, h2⟩ := bools_t fun x hx => h x (List.mem_cons_of_mem _ hx)
    have := h d List.mem_cons_self
    subst this
    exact ⟨true :: bs, by rw [boolsOf, h1]; rfl, by rw [List.all_cons, h2]; rfl⟩
theorem bools_b : ∀ {ds : List D}, (∀ d ∈ ds, ∃ b, d = .bool b) → ∃ bs, boolsOf ds = some bs
  | [], _ => ⟨[], rfl⟩
  | d :: ds, h => by
    obtain ⟨bs, h1⟩ := bools_b fun x hx => h x (List.mem_cons_of_mem _ hx)
    obtain ⟨b, hb⟩ := h d List.mem_cons_self
    subst hb
    exact ⟨b :: bs, by rw [boolsOf, h1]; rfl⟩
theorem aAll_ok : S1 P B aAll bAll := by
  intro a d l h g
  replace g := opn_ok g
  unfold aAll at h
  have t : ∀ {ds : List D}, (∀ d ∈ ds, d = .bool true) → ∃ z, bAll (.list ds) = some z ∧ ∃ r ∈ [bl true], G P B r z := fun {ds} q => by
    obtain ⟨bs, h1, h2⟩ := bools_t q
    refine ⟨.bool (bs.all id), by show (boolsOf ds).map _ = _; rw [h1]; rfl, ?_⟩
    rw [h2]; exact res_bl
  have f : ∀ {ds : List D}, (∀ d ∈ ds, ∃ b, d = .bool b) → ∃ z, bAll (.list ds) = some z ∧ ∃ r ∈ [AV.bool], G P B r z := fun {ds} q => by
    obtain ⟨bs, h1⟩ := bools_b q
    exact ⟨.bool (bs.all id), by show (boolsOf ds).map _ = _; rw [h1]; rfl, res_b⟩
  split at h
  · rename_i xs e
    rw [e, G] at g
    obtain ⟨ds, rfl, g⟩ := g
    split at h
    · rename_i c
      cases h
      rw [List.all_eq_true] at c
      exact t fun d hd => by
        obtain ⟨a, h1, h2⟩ := gs_mem g hd
        exact allTrue_ok (c a h1) h2
    split at h
    · rename_i c
      cases h
      rw [List.all_eq_true] at c
      exact f fun d hd => by
        obtain ⟨a, h1, h2⟩ := gs_mem g hd
        exact isBl_ok (c a h1) h2
    · cases h
  · rename_i x l' h' e
    rw [e, G] at g
    obtain ⟨ds, rfl, g1, g2, g3⟩ := g
    split at h
    · rename_i c
      cases h
      exact t fun d hd => allTrue_ok c (g3 d hd)
    split at h
    · rename_i c
      cases h
      exact f fun d hd => isBl_ok c (g3 d hd)
    · cases h
  · cases h
theorem aMax_ok : S2 P B aMax bMax2 := by
  intro a b d e l h g k
  unfold aMax at h
  split at h
  · rename_i p q e1 e2
    obtain ⟨i, rfl, i1, i2⟩ := iv_ok e1 g
    obtain ⟨j, rfl, j1, j2⟩ := iv_ok e2 k
    cases h
    exact ⟨_, rfl, _, List.mem_singleton.mpr rfl, by rw [G]; refine ⟨_, rfl, ?_, ?_⟩ <;> split <;> omega⟩
  · cases h
theorem aMin_ok : S2 P B aMin bMin2 := by
  intro a b d e l h g k
  unfold aMin at h
  split at h
  · rename_i p q e1 e2
    obtain ⟨i, rfl, i1, i2⟩ := iv_ok e1 g
    obtain ⟨j, rfl, j1, j2⟩ := iv_ok e2 k
    cases h
    exact ⟨_, rfl, _, List.mem_singleton.mpr rfl, by rw [G]; refine ⟨_, rfl, ?_, ?_⟩ <;> split <;> omega⟩
  · cases h
theorem aInt_ok : S1 P B aInt bInt := by
  intro a d l h g
  unfold aInt at h
  split at h
  · rw [G] at g
    obtain ⟨b, rfl⟩ := g
    cases h
    exact ⟨_, rfl, _, List.mem_singleton.mpr rfl, by rw [G]; refine ⟨_, rfl, ?_, ?_⟩ <;> cases b <;> decide⟩
  · split at h
    · rename_i p e
      obtain ⟨i, rfl, i1, i2⟩ := iv_ok e g
      cases h
      exact ⟨_, rfl, _, List.mem_singleton.mpr rfl, by rw [G]; exact ⟨_, rfl, i1, i2⟩⟩
    · cases h
theorem ex1_ok {f : D → Option D} {u : U1} (h : S1 P B u f) : S1 P B (ex1 f u) f := by
  intro a d l hl g
  unfold ex1 at hl
  split at hl
  · split at hl
    · rename_i z e
      rw [G] at g; subst g
      cases hl
      exact ⟨z, e, _, List.mem_singleton.mpr rfl, by rw [G]⟩
    · exact h _ _ _ hl g
  · exact h _ _ _ hl g
theorem ex2_ok {f : D → D → Option D} {u : U2} (h : S2 P B u f) : S2 P B (ex2 f u) f := by
  intro a b d e l hl g k
  unfold ex2 at hl
  split at hl
  · rw [G] at g k
    subst g; subst k
    split at hl
    · rename_i z e'
      cases hl
      exact ⟨z, e', _, List.mem_singleton.mpr rfl, by rw [G]⟩
    · cases hl
  · exact h _ _ _ _ _ hl g k
theorem rng_len (i j : Int) : (rangeD i j).length = (j - i).toNat := by unfold rangeD; simp
theorem rng62 (i j : Int) (h1 : -(2 ^ 62) ≤ i) (h2 : i < 2 ^ 62) (h3 : -(2 ^ 62) ≤ j) (h4 : j < 2 ^ 62) : (in62 i && in62 j) = true := by
  unfold in62
  simp only [Bool.and_eq_true, decide_eq_true_eq]
  omega
theorem aRng_ok : S1 P B aRng bRng1 := by
  intro a d l h g
  have r62 : ∀ i : Int, 0 ≤ i → i < 2 ^ 62 → bRng1 (.int i) = some (.list (rangeD 0 i)) := fun i h0 h1 => by
    show (if in62 i then some (PyData.list (rangeD 0 i)) else none) = _
    rw [if_pos]
    unfold in62
    rw [Bool.and_eq_true, decide_eq_true_eq, decide_eq_true_eq]
    omega
  unfold aRng at h
  split at h
  · rename_i n
    rw [G] at g; subst g
    split at h
    · rename_i c
      cases h
      exact ⟨_, r62 n c.1 (by omega), _, List.mem_singleton.mpr rfl, by rw [G]; exact ⟨_, rfl, gs_ex _⟩⟩
    · cases h
  · split at h
    · rename_i p e
      obtain ⟨i, rfl, i1, i2⟩ := iv_ok e g
      split at h
      · rename_i c
        cases h
        refine ⟨_, r62 i (by omega) (by omega), _, List.mem_singleton.mpr rfl, ?_⟩
        rw [G]
        refine ⟨_, rfl, by rw [rng_len]; omega, by rw [rng_len]; omega, fun x hx => ?_⟩
        unfold rangeD at hx
        obtain ⟨k, hk, rfl⟩ := List.mem_map.mp hx
        rw [List.mem_range] at hk
        rw [G]
        exact ⟨_, rfl, by omega, by omega⟩
      · cases h
    · cases h
theorem aRng2_ok : S2 P B aRng2 bRng2 := by
  intro a b d d' l h g g'
  unfold aRng2 at h
  split at h
  · rename_i p q e1 e2
    obtain ⟨i, rfl, i1, i2⟩ := iv_ok e1 g
    obtain ⟨j, rfl, j1, j2⟩ := iv_ok e2 g'
    split at h
    · rename_i c
      cases h
      have e : bRng2 (.int i) (.int j) = some (.list (rangeD i j)) := if_pos (rng62 i j (by omega) (by omega) (by omega) (by omega))
      refine ⟨_, e, _, List.mem_singleton.mpr rfl, ?_⟩
      rw [G]
      refine ⟨_, rfl, by rw [rng_len]; omega, by rw [rng_len]; omega, fun x hx => ?_⟩
      unfold rangeD at hx
      obtain ⟨k, hk, rfl⟩ := List.mem_map.mp hx
      rw [List.mem_range] at hk
      rw [G]
      exact ⟨_, rfl, by omega, by omega⟩
    · cases h
  · cases h
theorem aBi_ok {b : Bi} {as : List AV} {ds : List D} {l : List AV} (h : aBi b as = some l) (g : Gs P B as ds) : ∃ z, biD b ds = some z ∧ ∃ r ∈ l, G P B r z := by
  unfold aBi at h
  have s1 : ∀ {f : D → Option D} {u : U1} {a : AV}, S1 P B u f → lift1 u a = some l → Gs P B [a] ds → ∃ z, one f ds = some z ∧ ∃ r ∈ l, G P B r z := fun {f u a} hs e g => by
    obtain ⟨d, r, rfl, g1, g2⟩ := gs_cons g
    cases gs_nil g2
    exact lift1_ok hs a d l e g1
  have s1' : ∀ {f : D → Option D} {f2 : D → D → Option D} {u : U1} {a : AV}, S1 P B u f → lift1 u a = some l → Gs P B [a] ds → ∃ z, oneTwo f f2 ds = some z ∧ ∃ r ∈ l, G P B r z := fun {f f2 u a} hs e g => by
    obtain ⟨d, r, rfl, g1, g2⟩ := gs_cons g
    cases gs_nil g2
    exact lift1_ok hs a d l e g1
  have s2 : ∀ {f0 : D → Option D} {f : D → D → Option D} {u : U2} {a b : AV}, S2 P B u f → lift2 u a b = some l → Gs P B [a, b] ds → ∃ z, oneTwo f0 f ds = some z ∧ ∃ r ∈ l, G P B r z := fun {f0 f u a b} hs e g => by
    obtain ⟨d, r, rfl, g1, g2⟩ := gs_cons g
    obtain ⟨d', r', rfl, g3, g4⟩ := gs_cons g2
    cases gs_nil g4
    exact lift2_ok hs a b d d' l e g1 g3
  split at h
  · exact s1 aLen_ok h g
  · exact s1 (ex1_ok aInt_ok) h g
  · exact s1 toTup_ok h g
  · exact s1 toLst_ok h g
  · exact s1 aAll_ok h g
  · exact s1 aRev_ok h g
  · exact s1' aRng_ok h g
  · exact s2 aRng2_ok h g
  · exact s2 (ex2_ok aMax_ok) h g
  · exact s2 (ex2_ok aMin_ok) h g
  · cases h
end
end A

set_option Elab.async false
set_option linter.all false
set_option maxRecDepth 100000
set_option maxHeartbeats 1000000
/-! A5: states, outcomes, how they are joined -/
namespace A
open PySem Z
def seqLen : D → Option Nat
  | .list xs => some xs.length
  | .tuple xs => some xs.length
  | .str x => some x.length
  | _ => none
def hiLen (a : AV) : Option Nat := match tv a with
  | some p => some p.2.2
  | none => match lv a with
    | some p => some p.2.2
    | none => match sv a with
      | some p => some p.2.2.2
      | none => none
def loLen (a : AV) : Nat := match tv a with
  | some p => p.2.1
  | none => match lv a with
    | some p => p.2.1
    | none => match sv a with
      | some p => p.2.2.1
      | none => 0
def deg (s : AS) : AV → AV
  | .idx j => match (s[j]?).bind hiLen with
    | some h => .int 0 ((h : Int) - 1)
    | none => .top
  | a => a
def GSl (P : Nat → D → Prop) (B : Nat) (ρ : Slots) : AV → Option D → Prop
  | .top, _ => True
  | .idx j, x => ∃ (n : Int) (m : Nat), x = some (.int n) ∧ (Z.get ρ j).bind seqLen = some m ∧ 0 ≤ n ∧ n < m
  | a, x => ∃ d, x = some d ∧ G P B a d
structure Gam (P : Nat → D → Prop) (B : Nat) (s : AS) (ρ : Slots) : Prop where
  len : s.length = ρ.length
  at' : ∀ i a, s[i]? = some a → GSl P B ρ a (Z.get ρ i)
section
variable {P : Nat → D → Prop} {B : Nat} {s s1 s2 : AS} {ρ : Slots}
theorem hiLen_ok {a : AV} {n : Nat} {d : D} (h : hiLen a = some n) (g : G P B a d) : ∃ m, seqLen d = some m ∧ m ≤ n := by
  unfold hiLen at h
  split at h
  · rename_i p e
    cases h
    obtain ⟨ds, rfl, g1, g2, _⟩ := tv_ok e g
    exact ⟨_, rfl, g2⟩
  split at h
  · rename_i p e
    cases h
    obtain ⟨ds, rfl, g1, g2, _⟩ := lv_ok e g
    exact ⟨_, rfl, g2⟩
  split at h
  · rename_i p e
    cases h
    obtain ⟨x, rfl, g1⟩ := sv_ok e g
    simp only [strB, Bool.and_eq_true, decide_eq_true_eq] at g1
    exact ⟨_, rfl, g1.1.2⟩
  · cases h
theorem loLen_ok {a : AV} {d : D} (h : 0 < loLen a) (g : G P B a d) : ∃ m, seqLen d = some m ∧ loLen a ≤ m := by
  cases e : tv a with
  | some p =>
    obtain ⟨ds, rfl, g1, g2, _⟩ := tv_ok e g
    exact ⟨_, rfl, by unfold loLen; rw [e]; exact g1⟩
  | none =>
    cases e' : lv a with
    | some p =>
      obtain ⟨ds, rfl, g1, g2, _⟩ := lv_ok e' g
      exact ⟨_, rfl, by unfold loLen; rw [e, e']; exact g1⟩
    | none =>
      cases e'' : sv a with
      | some p =>
        obtain ⟨x, rfl, g1⟩ := sv_ok e'' g
        simp only [strB, Bool.and_eq_true, decide_eq_true_eq] at g1
        exact ⟨_, rfl, by unfold loLen; rw [e, e', e'']; exact g1.1.1⟩
      | none => unfold loLen at h; rw [e, e', e''] at h; cases h
/-- what a slot holds where its value is told -/
theorem gsl_g {a : AV} {x : Option D} (h : GSl P B ρ a x) (hi : ∀ j, a ≠ .idx j) (ht : a ≠ .top) : ∃ d, x = some d ∧ G P B a d := by
  cases a <;> first | exact h | exact absurd rfl (hi _) | exact absurd rfl ht
theorem g_gsl {a : AV} {d : D} (g : G P B a d) : GSl P B ρ a (some d) := by
  cases a <;> first | exact ⟨d, rfl, g⟩ | trivial | (rw [G] at g; exact g.elim)
theorem deg_ok {a : AV} {d : D} (Γ : Gam P B s ρ) (h : GSl P B ρ a (some d)) : G P B (deg s a) d := by
  cases a with
  | idx j =>
    obtain ⟨n, m, e1, e2, e3, e4⟩ := h
    cases e1
    simp only [deg]
    split
    · rename_i hh e
      cases hs : s[j]? with
      | none => rw [hs] at e; cases e
      | some b =>
        rw [hs] at e
        have e : hiLen b = some hh := e
        have gb := Γ.at' j b hs
        cases hg : Z.get ρ j with
        | none => rw [hg] at e2; cases e2
        | some x =>
          rw [hg] at e2 gb
          have nt : b ≠ .top := fun z => by rw [z] at e; simp [hiLen, tv, lv, sv, opn] at e
          have ni : ∀ k, b ≠ .idx k := fun k z => by rw [z] at e; simp [hiLen, tv, lv, sv, opn] at e
          obtain ⟨x', hx, gx⟩ := gsl_g gb ni nt
          cases hx
          obtain ⟨m', q1, q2⟩ := hiLen_ok e gx
          have e2 : seqLen x = some m := e2
          rw [q1] at e2; cases e2
          rw [G]
          exact ⟨n, rfl, e3, by omega⟩
    · simp [G]
  | top => simp [deg, G]
  | _ =>
    obtain ⟨d', e, g⟩ := h
    cases e
    exact g
/-- a slot that is no longer told -/
def clrS (s : AS) (i : Nat) : AS := (s.map fun b => match b with | .idx j => if j = i then deg s b else b | b => b).set i .top
theorem get_set_ne {ρ : Slots} {i j : Nat} {x : Option D} (h : j ≠ i) : Z.get (ρ.set i x) j = Z.get ρ j := by
  unfold Z.get
  rw [List.getElem?_set_ne (by omega)]
theorem clrS_ok (Γ : Gam P B s ρ) (i : Nat) (x : Option D) : Gam P B (clrS s i) (ρ.set i x) := by
  refine ⟨by simp [clrS, Γ.len], fun k a hk => ?_⟩
  unfold clrS at hk
  by_cases hki : k = i
  · subst hki
    rw [List.getElem?_set] at hk
    split at hk
    · split at hk
      · cases hk; trivial
      · cases hk
    · rename_i c; exact absurd rfl c
  · rw [List.getElem?_set_ne (by omega), List.getElem?_map] at hk
    cases hs : s[k]? with
    | none => rw [hs] at hk; cases hk
    | some b =>
      rw [hs] at hk
      have g := Γ.at' k b hs
      simp only [Option.map_some, Option.some.injEq] at hk
      rw [get_set_ne hki]
      split at hk
      · rename_i j
        split at hk
        · subst hk
          obtain ⟨n, m, e1, e2, e3, e4⟩ := g
          have := deg_ok (a := .idx j) (d := .int n) Γ ⟨n, m, rfl, e2, e3, e4⟩
          rw [e1]
          exact g_gsl this
        · rename_i hj
          subst hk
          obtain ⟨n, m, e1, e2, e3, e4⟩ := g
          exact ⟨n, m, e1, by rw [get_set_ne hj]; exact e2, e3, e4⟩
      · rename_i hb
        subst hk
        cases b <;> first | exact g | exact absurd rfl (hb _)
def setS (s : AS) (i : Nat) (a : AV) : AS := (clrS s i).set i (match a with | .idx j => if j = i then .top else a | a => a)
theorem gam_set (Γ : Gam P B s ρ) {i : Nat} {a : AV} (h : i < ρ.length → GSl P B ρ a (Z.get ρ i)) : Gam P B (s.set i a) ρ := by
  refine ⟨by simp [Γ.len], fun k b hk => ?_⟩
  rw [List.getElem?_set] at hk
  split at hk
  · rename_i e
    subst e
    split at hk
    · rename_i hl
      cases hk; exact h (by rw [← Γ.len]; exact hl)
    · cases hk
  · exact Γ.at' k b hk
theorem get_put {ρ : Slots} {i : Nat} {d : D} (h : i < ρ.length) : Z.get (Z.put ρ i d) i = some d := by
  unfold Z.get Z.put
  rw [List.getElem?_set_self h]; rfl
theorem setS_ok {i : Nat} {a : AV} {d : D} (Γ : Gam P B s ρ) (h : GSl P B ρ a (some d)) : Gam P B (setS s i a) (Z.put ρ i d) := by
  unfold setS
  refine gam_set (clrS_ok Γ i (some d)) fun hl => ?_
  have hl : i < ρ.length := by simpa using hl
  rw [show Z.get (ρ.set i (some d)) i = some d from get_put hl]
  split
  · rename_i j
    split
    · trivial
    · rename_i hj
      obtain ⟨n, m, e1, e2, e3, e4⟩ := h
      exact ⟨n, m, e1, by rw [get_set_ne hj]; exact e2, e3, e4⟩
  · rename_i a' hb
    cases a <;> first | exact h | exact absurd rfl (hb _)
/-! joins -/
def isIdx : AV → Bool
  | .idx _ => true
  | _ => false
def joinL (x y : AV × Nat × Nat) : AV := .lstN (if le x.1 y.1 then y.1 else if le y.1 x.1 then x.1 else mkAlt [x.1, y.1]) (min x.2.1 y.2.1) (max x.2.2 y.2.2)
def joinB (a b : AV) : AV :=
  if le a b then b else if le b a then a else match iv a, iv b with
    | some p, some q => .int (min p.1 q.1) (max p.2 q.2)
    | _, _ => match lv a, lv b with
      | some p, some q => joinL p q
      | _, _ => mkAlt [a, b]
def isTop : AV → Bool
  | .top => true
  | _ => false
def sameIdx : AV → AV → Bool
  | .idx i, .idx j => i == j
  | _, _ => false
def joinA (a b : AV) : AV := if isIdx a || isIdx b then (if sameIdx a b then a else .top) else if isTop a || isTop b then .top else joinB a b
theorem sameIdx_ok {a b : AV} (h : sameIdx a b = true) : a = b := by
  unfold sameIdx at h
  split at h
  · rw [eq_of_beq h]
  · cases h
theorem not_idx {a : AV} (h : isIdx a = false) (j : Nat) : a ≠ .idx j := fun e => by subst e; cases h
theorem not_top {a : AV} (h : isTop a = false) : a ≠ .top := fun e => by subst e; cases h
theorem joinL_l {x y : AV × Nat × Nat} {ds : List D} (h1 : x.2.1 ≤ ds.length) (h2 : ds.length ≤ x.2.2) (h3 : ∀ d ∈ ds, G P B x.1 d) : G P B (joinL x y) (.list ds) := by
  unfold joinL
  rw [G]
  refine ⟨ds, rfl, by omega, by omega, fun d hd => ?_⟩
  split
  · rename_i c; exact le_ok _ _ _ _ c (h3 d hd)
  split
  · exact h3 d hd
  · exact mkAlt_ok List.mem_cons_self (h3 d hd)
theorem joinL_r {x y : AV × Nat × Nat} {ds : List D} (h1 : y.2.1 ≤ ds.length) (h2 : ds.length ≤ y.2.2) (h3 : ∀ d ∈ ds, G P B y.1 d) : G P B (joinL x y) (.list ds) := by
  unfold joinL
  rw [G]
  refine ⟨ds, rfl, by omega, by omega, fun d hd => ?_⟩
  split
  · exact h3 d hd
  split
  · rename_i c; exact le_ok _ _ _ _ c (h3 d hd)
  · exact mkAlt_ok (List.mem_cons_of_mem _ List.mem_cons_self) (h3 d hd)
theorem joinB_l {a b : AV} {d : D} (g : G P B a d) : G P B (joinB a b) d := by
  unfold joinB
  split
  · rename_i c; exact le_ok _ _ _ _ c g
  split
  · exact g
  split
  · rename_i p q e1 e2
    obtain ⟨i, rfl, i1, i2⟩ := iv_ok e1 g
    rw [G]; exact ⟨i, rfl, by omega, by omega⟩
  split
  · rename_i p q e1 e2
    obtain ⟨ds, rfl, h1, h2, h3⟩ := lv_ok e1 g
    exact joinL_l h1 h2 h3
  · exact mkAlt_ok List.mem_cons_self g
theorem joinB_r {a b : AV} {d : D} (g : G P B b d) : G P B (joinB a b) d := by
  unfold joinB
  split
  · exact g
  split
  · rename_i c; exact le_ok _ _ _ _ c g
  split
  · rename_i p q e1 e2
    obtain ⟨i, rfl, i1, i2⟩ := iv_ok e2 g
    rw [G]; exact ⟨i, rfl, by omega, by omega⟩
  split
  · rename_i p q e1 e2
    obtain ⟨ds, rfl, h1, h2, h3⟩ := lv_ok e2 g
    exact joinL_r h1 h2 h3
  · exact mkAlt_ok (List.mem_cons_of_mem _ List.mem_cons_self) g
theorem joinA_l {a b : AV} {x : Option D} (g : GSl P B ρ a x) : GSl P B ρ (joinA a b) x := by
  unfold joinA
  split
  · split
    · exact g
    · trivial
  · rename_i h1
    split
    · trivial
    · rename_i h2
      simp only [Bool.not_eq_true, Bool.or_eq_false_iff] at h1 h2
      obtain ⟨d, e, g'⟩ := gsl_g g (not_idx h1.1) (not_top h2.1)
      rw [e]
      exact g_gsl (joinB_l g')
theorem joinA_r {a b : AV} {x : Option D} (g : GSl P B ρ b x) : GSl P B ρ (joinA a b) x := by
  unfold joinA
  split
  · split
    · rename_i h; rw [sameIdx_ok h]; exact g
    · trivial
  · rename_i h1
    split
    · trivial
    · rename_i h2
      simp only [Bool.not_eq_true, Bool.or_eq_false_iff] at h1 h2
      obtain ⟨d, e, g'⟩ := gsl_g g (not_idx h1.2) (not_top h2.2)
      rw [e]
      exact g_gsl (joinB_r g')
def joinS (s t : AS) : AS := List.zipWith joinA s t
theorem joinS_l {t : AS} (h : s.length = t.length) (Γ : Gam P B s ρ) : Gam P B (joinS s t) ρ := by
  refine ⟨by unfold joinS; rw [List.length_zipWith, ← h, Nat.min_self]; exact Γ.len, fun i a hi => ?_⟩
  unfold joinS at hi
  rw [List.getElem?_zipWith] at hi
  split at hi
  · rename_i a' b' e1 e2
    cases hi
    exact joinA_l (Γ.at' i a' e1)
  · cases hi
theorem joinS_r {t : AS} (h : s.length = t.length) (Γ : Gam P B t ρ) : Gam P B (joinS s t) ρ := by
  refine ⟨by unfold joinS; rw [List.length_zipWith, h, Nat.min_self]; exact Γ.len, fun i a hi => ?_⟩
  unfold joinS at hi
  rw [List.getElem?_zipWith] at hi
  split at hi
  · rename_i a' b' e1 e2
    cases hi
    exact joinA_r (Γ.at' i b' e2)
  · cases hi
/-- many states told as few -/
def mrg : List AS → List AS
  | [] => []
  | s :: r => match mrg r with
    | [] => [s]
    | t :: r' => if s.length = t.length then joinS s t :: r' else s :: t :: r'
theorem mrg_ok : ∀ {l : List AS} {s : AS}, s ∈ l → Gam P B s ρ → ∃ t ∈ mrg l, Gam P B t ρ
  | a :: r, s, h, Γ => by
    rw [mrg]
    rcases List.mem_cons.mp h with rfl | h
    · split
      · exact ⟨_, List.mem_cons_self, Γ⟩
      · split
        · rename_i c; exact ⟨_, List.mem_cons_self, joinS_l c Γ⟩
        · exact ⟨_, List.mem_cons_self, Γ⟩
    · obtain ⟨t, h1, h2⟩ := mrg_ok h Γ
      split
      · rename_i e; rw [e] at h1; cases h1
      · rename_i t' r' e
        rw [e] at h1
        split
        · rename_i c
          rcases List.mem_cons.mp h1 with rfl | h1
          · exact ⟨_, List.mem_cons_self, joinS_r c h2⟩
          · exact ⟨_, List.mem_cons_of_mem _ h1, h2⟩
        · exact ⟨_, List.mem_cons_of_mem _ h1, h2⟩
/-- the values of some slots told apart -/
def splitS : List Nat → AS → List AS
  | [], s => [s]
  | i :: is, s => (match s[i]? with
    | some (.alt xs) => xs.map fun x => s.set i x
    | _ => [s]).flatMap (splitS is)
theorem splitS_ok : ∀ {is : List Nat} {s : AS}, Gam P B s ρ → ∃ t ∈ splitS is s, Gam P B t ρ
  | [], s, Γ => ⟨s, List.mem_singleton.mpr rfl, Γ⟩
  | i :: is, s, Γ => by
    have key : ∃ t ∈ (match s[i]? with
      | some (.alt xs) => xs.map fun x => s.set i x
      | _ => [s]), Gam P B t ρ := by
      split
      · rename_i xs e
        obtain ⟨d, hd, g⟩ := Γ.at' i _ e
        rw [G, go_iff] at g
        obtain ⟨a, h1, h2⟩ := g
        exact ⟨_, List.mem_map_of_mem h1, gam_set Γ fun _ => by rw [hd]; exact g_gsl h2⟩
      · exact ⟨s, List.mem_singleton.mpr rfl, Γ⟩
    obtain ⟨t, h1, h2⟩ := key
    obtain ⟨u, h3, h4⟩ := splitS_ok (is := is) h2
    exact ⟨u, by rw [splitS, List.mem_flatMap]; exact ⟨t, h1, h3⟩, h4⟩
end
end A

set_option Elab.async false
set_option linter.all false
set_option maxRecDepth 100000
set_option maxHeartbeats 1000000
/-! A6: contracts of defs; calls -/
namespace A
open PySem Z
inductive AO (α : Type) where
  | ok (a : α) (s : AS)
  | exn (c : Nat) (s : AS)
abbrev AR (α : Type) := Option (List (AO α))
def obind {α β : Type} (f : α → AS → AR β) : List (AO α) → AR β
  | [] => some []
  | .ok a s :: r => (f a s).bind fun x => (obind f r).map (x ++ ·)
  | .exn c s :: r => (obind f r).map (.exn c s :: ·)
def abind {α β : Type} (x : AR α) (f : α → AS → AR β) : AR β := x.bind fun l => obind f l
def aok {α : Type} (a : α) (s : AS) : AR α := some [.ok a s]
def many (o : Option (List AV)) (s : AS) : AR AV := o.map fun l => [.ok (mkAlt l) s]
section
variable {P : Nat → D → Prop} {B : Nat} {α α' β β' : Type}
def SatL (P : Nat → D → Prop) (B : Nat) (V : Slots → α → β → Prop) (l : List (AO α)) : R β → Prop
  | .ok d ρ => ∃ a s, AO.ok a s ∈ l ∧ V ρ a d ∧ Gam P B s ρ
  | .exn c ρ => ∃ s, AO.exn c s ∈ l ∧ Gam P B s ρ
  | .bad => False
def Sat (P : Nat → D → Prop) (B : Nat) (V : Slots → α → β → Prop) (x : AR α) (r : R β) : Prop := ∀ l, x = some l → SatL P B V l r
theorem obind_ok {f : α → AS → AR α'} {a : α} {s : AS} : ∀ {l : List (AO α)} {l' : List (AO α')}, obind f l = some l' → AO.ok a s ∈ l → ∃ q, f a s = some q ∧ ∀ x ∈ q, x ∈ l'
  | o :: r, l', h, m => by
    cases o with
    | ok b t =>
      simp only [obind] at h
      cases e : f b t with
      | none => rw [e] at h; cases h
      | some q =>
        cases e' : obind f r with
        | none => rw [e, e'] at h; cases h
        | some q' =>
          rw [e, e'] at h; cases h
          rcases List.mem_cons.mp m with k | k
          · cases k; exact ⟨q, e, fun x hx => List.mem_append_left _ hx⟩
          · obtain ⟨z, h1, h2⟩ := obind_ok e' k
            exact ⟨z, h1, fun x hx => List.mem_append_right _ (h2 x hx)⟩
    | exn c t =>
      simp only [obind] at h
      cases e' : obind f r with
      | none => rw [e'] at h; cases h
      | some q' =>
        rw [e'] at h; cases h
        rcases List.mem_cons.mp m with k | k
        · cases k
        · obtain ⟨z, h1, h2⟩ := obind_ok e' k
          exact ⟨z, h1, fun x hx => List.mem_cons_of_mem _ (h2 x hx)⟩
theorem obind_exn {f : α → AS → AR α'} {c : Nat} {s : AS} : ∀ {l : List (AO α)} {l' : List (AO α')}, obind f l = some l' → AO.exn c s ∈ l → AO.exn c s ∈ l'
  | o :: r, l', h, m => by
    cases o with
    | ok b t =>
      simp only [obind] at h
      cases e : f b t with
      | none => rw [e] at h; cases h
      | some q =>
        cases e' : obind f r with
        | none => rw [e, e'] at h; cases h
        | some q' =>
          rw [e, e'] at h; cases h
          rcases List.mem_cons.mp m with k | k
          · cases k
          · exact List.mem_append_right _ (obind_exn e' k)
    | exn c' t =>
      simp only [obind] at h
      cases e' : obind f r with
      | none => rw [e'] at h; cases h
      | some q' =>
        rw [e'] at h; cases h
        rcases List.mem_cons.mp m with k | k
        · cases k; exact List.mem_cons_self
        · exact List.mem_cons_of_mem _ (obind_exn e' k)
theorem sat_bind {V : Slots → α → β → Prop} {V' : Slots → α' → β' → Prop} {x : AR α} {r : R β} {f : α → AS → AR α'} {k : β → Slots → R β'} (h : Sat P B V x r) (hk : ∀ a s d ρ, V ρ a d → Gam P B s ρ → Sat P B V' (f a s) (k d ρ)) : Sat P B V' (abind x f) (r.bind k) := by
  intro l hl
  unfold abind at hl
  cases hx : x with
  | none => rw [hx] at hl; cases hl
  | some q =>
    rw [hx] at hl
    have hl : obind f q = some l := hl
    have hq := h q hx
    cases r with
    | ok d ρ =>
      obtain ⟨a, s, m, v, g⟩ := hq
      obtain ⟨z, h1, h2⟩ := obind_ok hl m
      have := hk a s d ρ v g z h1
      show SatL P B V' l (k d ρ)
      cases hkd : k d ρ with
      | ok d' ρ' => rw [hkd] at this; obtain ⟨a', s', m', r'⟩ := this; exact ⟨a', s', h2 _ m', r'⟩
      | exn c ρ' => rw [hkd] at this; obtain ⟨s', m', r'⟩ := this; exact ⟨s', h2 _ m', r'⟩
      | bad => rw [hkd] at this; exact this
    | exn c ρ =>
      obtain ⟨s, m, g⟩ := hq
      exact ⟨s, obind_exn hl m, g⟩
    | bad => exact hq
theorem sat_ok {V : Slots → α → β → Prop} {a : α} {d : β} {s : AS} {ρ : Slots} (v : V ρ a d) (g : Gam P B s ρ) : Sat P B V (aok a s) (.ok d ρ) := by
  intro l hl
  cases hl
  exact ⟨a, s, List.mem_singleton.mpr rfl, v, g⟩
theorem sat_none {V : Slots → α → β → Prop} {r : R β} : Sat P B V none r := fun l hl => by cases hl
end
/-- the values' relations -/
def VE (P : Nat → D → Prop) (B : Nat) : Slots → AV → D → Prop := fun ρ a d => GSl P B ρ a (some d)
def VD (P : Nat → D → Prop) (B : Nat) : Slots → AV → D → Prop := fun _ a d => G P B a d
def VL (P : Nat → D → Prop) (B : Nat) : Slots → List AV → List D → Prop := fun _ as ds => Gs P B as ds
def VT : Slots → Bool → Bool → Prop := fun _ a d => a = d
section
variable {P : Nat → D → Prop} {B : Nat} {s : AS} {ρ : Slots}
theorem many_ok {o : Option (List AV)} {z : Option D} (g : Gam P B s ρ) (h : ∀ l, o = some l → ∃ y, z = some y ∧ ∃ r ∈ l, G P B r y) : Sat P B (VE P B) (many o s) (opt z ρ) := by
  intro l hl
  unfold many at hl
  cases e : o with
  | none => rw [e] at hl; cases hl
  | some q =>
    rw [e] at hl
    cases hl
    obtain ⟨y, rfl, r, h1, h2⟩ := h q e
    exact ⟨mkAlt q, s, List.mem_singleton.mpr rfl, g_gsl (mkAlt_ok h1 h2), g⟩
/-! no well within -/
mutual
def noW : AV → Bool
  | .well _ => false
  | .tup xs => noWs xs
  | .lst xs => noWs xs
  | .tupN a _ _ => noW a
  | .lstN a _ _ => noW a
  | .alt xs => noWs xs
  | _ => true
def noWs : List AV → Bool
  | [] => true
  | a :: r => noW a && noWs r
end
mutual
theorem noW_ok {B' : Nat} : ∀ (a : AV) (d : D), noW a = true → G P B a d → G P B' a d
  | .top, d, _, g => by simp [G]
  | .ex e, d, _, g => by rw [G] at g ⊢; exact g
  | .int _ _, d, _, g => by rw [G] at g ⊢; exact g
  | .bool, d, _, g => by rw [G] at g ⊢; exact g
  | .str _ _ _ _, d, _, g => by rw [G] at g ⊢; exact g
  | .any _ _ _ _, d, _, g => by rw [G] at g ⊢; exact g
  | .pr _, d, _, g => by rw [G] at g ⊢; exact g
  | .idx _, d, _, g => by rw [G] at g; exact g.elim
  | .well _, d, h, g => by simp [noW] at h
  | .tup xs, d, h, g => by
    simp only [G] at g ⊢
    obtain ⟨ds, rfl, g⟩ := g
    exact ⟨ds, rfl, noWs_ok xs ds (by simpa [noW] using h) g⟩
  | .lst xs, d, h, g => by
    simp only [G] at g ⊢
    obtain ⟨ds, rfl, g⟩ := g
    exact ⟨ds, rfl, noWs_ok xs ds (by simpa [noW] using h) g⟩
  | .tupN a l u, d, h, g => by
    simp only [G] at g ⊢
    obtain ⟨ds, rfl, g1, g2, g3⟩ := g
    exact ⟨ds, rfl, g1, g2, fun x hx => noW_ok a x (by simpa [noW] using h) (g3 x hx)⟩
  | .lstN a l u, d, h, g => by
    simp only [G] at g ⊢
    obtain ⟨ds, rfl, g1, g2, g3⟩ := g
    exact ⟨ds, rfl, g1, g2, fun x hx => noW_ok a x (by simpa [noW] using h) (g3 x hx)⟩
  | .alt xs, d, h, g => by
    rw [G] at g ⊢
    exact noWo_ok xs d (by simpa [noW] using h) g
theorem noWs_ok {B' : Nat} : ∀ (as : List AV) (ds : List D), noWs as = true → Gs P B as ds → Gs P B' as ds
  | [], ds, _, g => by rw [gs_nil g]; simp [Gs]
  | a :: as, ds, h, g => by
    obtain ⟨d, r, rfl, g1, g2⟩ := gs_cons g
    simp only [noWs, Bool.and_eq_true] at h
    rw [Gs]
    exact ⟨noW_ok a d h.1 g1, noWs_ok as r h.2 g2⟩
theorem noWo_ok {B' : Nat} : ∀ (as : List AV) (d : D), noWs as = true → Go P B as d → Go P B' as d
  | [], d, _, g => by rw [Go] at g; exact g.elim
  | a :: as, d, h, g => by
    simp only [noWs, Bool.and_eq_true] at h
    rw [Go] at g ⊢
    rcases g with g | g
    · exact .inl (noW_ok a d h.1 g)
    · exact .inr (noWo_ok as d h.2 g)
end
end
/-- a def's contract: its arguments, what comes back, what may be raised, the in/out lists behind, how many draws -/
structure Ctr where
  f : Nat
  args : List AV
  ok : List AV
  exs : List Nat
  outs : List AV
  cost : Nat
/-- a statement's contract: what its slots must be, what they are behind it -/
structure SCtr where
  c : C
  n : Nat
  ins : List (Nat × AV)
  clr : List Nat
  outs : List (Nat × AV)
  cost : Nat
structure ACx where
  tbl : List Ctr
  draw : Nat
  T : Tab
  cost : Nat
  orc : List SCtr
def LIM : Nat := 1000000000
def sh (u : Nat) : AV → AV
  | .well v => .well (u + v)
  | a => a
def isW : AV → Bool
  | .well _ => true
  | a => noW a
def CSat (P : Nat → D → Prop) (B : Nat) (C : Ctr) : CRes → Prop
  | .ok d outs => (∃ a ∈ C.ok, G P B a d) ∧ Gs P B C.outs outs
  | .exn c outs => c ∈ C.exs ∧ Gs P B C.outs outs
  | .bad => False
def CtrOk (P : Nat → D → Prop) (ct : CT) (C : Ctr) : Prop := ∀ B ds, B + C.cost ≤ LIM → Gs P B C.args ds → CSat P B C (ct C.f ds)
def Ctr.wf (C : Ctr) : Bool := C.args.all isW && C.ok.all isW && C.outs.all isW
def wellOf : List AV → Nat
  | [] => 0
  | .well u :: _ => u
  | _ :: r => wellOf r
section
variable {P : Nat → D → Prop} {B : Nat} {s : AS} {ρ : Slots}
theorem sh_in {u : Nat} {a : AV} {d : D} (h : isW a = true) (g : G P B (sh u a) d) : G P (B + u) a d := by
  cases a with
  | well v =>
    simp only [sh, G] at g ⊢
    obtain ⟨w0, w1, w2, e, a, b, c, k, m⟩ := g
    exact ⟨w0, w1, w2, e, a, b, c, k, by omega⟩
  | _ => exact noW_ok _ _ h g
theorem sh_out {u : Nat} {a : AV} {d : D} (h : isW a = true) (g : G P (B + u) a d) : G P B (sh u a) d := by
  cases a with
  | well v =>
    simp only [sh, G] at g ⊢
    obtain ⟨w0, w1, w2, e, a, b, c, k, m⟩ := g
    exact ⟨w0, w1, w2, e, a, b, c, k, by omega⟩
  | _ => exact noW_ok _ _ h g
theorem shs_in {u : Nat} : ∀ {as : List AV} {ds : List D}, as.all isW = true → Gs P B (as.map (sh u)) ds → Gs P (B + u) as ds
  | [], ds, _, g => by rw [gs_nil g]; simp [Gs]
  | a :: as, ds, h, g => by
    obtain ⟨d, r, rfl, g1, g2⟩ := gs_cons g
    simp only [List.all_cons, Bool.and_eq_true] at h
    rw [Gs]
    exact ⟨sh_in h.1 g1, shs_in h.2 g2⟩
theorem shs_out {u : Nat} : ∀ {as : List AV} {ds : List D}, as.all isW = true → Gs P (B + u) as ds → Gs P B (as.map (sh u)) ds
  | [], ds, _, g => by rw [gs_nil g]; simp [Gs]
  | a :: as, ds, h, g => by
    obtain ⟨d, r, rfl, g1, g2⟩ := gs_cons g
    simp only [List.all_cons, Bool.and_eq_true] at h
    rw [List.map_cons, Gs]
    exact ⟨sh_out h.1 g1, shs_out h.2 g2⟩
end
/-- a contract that serves -/
def useC (K : ACx) (as : List AV) (C : Ctr) : Bool := decide (as.length = C.args.length) && ((as.zip (C.args.map (sh (wellOf as)))).all fun q => le q.1 q.2) && C.wf && decide (wellOf as + C.cost ≤ K.cost)
def setAll : AS → List Nat → List AV → AS
  | s, i :: is, a :: as => setAll (setS s i a) is as
  | s, _, _ => s
def outC (as : List AV) (s : AS) (owns : List Nat) (C : Ctr) : List (AO AV) :=
  let s' := setAll s owns (C.outs.map (sh (wellOf as)))
  C.ok.map (fun a => .ok (sh (wellOf as) a) s') ++ C.exs.map fun c => .exn c s'
def drawC (K : ACx) (b : AV) : Option Ctr := match b with
  | .ex (.int n) => if 1 ≤ n ∧ n ≤ 12 then some ⟨K.draw, [.well 0, b], [mkAlt ((List.range n.toNat).map fun k => .ex (.int (k : Nat)))], [], [.well 1], 1⟩
      else if 12 < n ∧ n ≤ 10 ^ 60 then some ⟨K.draw, [.well 0, b], [.int 0 (n - 1)], [], [.well 1], 1⟩ else none
  | b => match iv b with
    | some q => if 1 ≤ q.1 ∧ q.2 ≤ 10 ^ 60 then some ⟨K.draw, [.well 0, b], [.int 0 (q.2 - 1)], [], [.well 1], 1⟩ else none
    | none => none
def findC (K : ACx) (f : Nat) (as : List AV) : Option Ctr :=
  if f = K.draw then (match as with
    | [_, b] => (drawC K b).bind fun C => if useC K as C then some C else none
    | _ => none)
  else K.tbl.find? fun C => C.f == f && useC K as C
def oneC (K : ACx) (f : Nat) (owns : List Nat) (s : AS) (as : List AV) : AR AV := (findC K f as).bind fun C => if C.outs.length = owns.length then some (outC as s owns C) else none
def prodA : List AV → List (List AV)
  | [] => [[]]
  | a :: r => (spl a).flatMap fun x => (prodA r).map (x :: ·)
/-- a call: the arguments as they are, or told apart -/
def callA (K : ACx) (f : Nat) (owns : List Nat) (s : AS) (as : List AV) : AR AV := match oneC K f owns s as with
  | some l => some l
  | none => allM (oneC K f owns s) (prodA as)
def DrawOk (ct : CT) (f : Nat) : Prop := ∀ (w0 w1 w2 b : Int) (C : Nat), 0 ≤ w0 → 0 ≤ w1 → w1 ≤ w1Max → 0 ≤ w2 → w2 ≤ (C : Int) → C + 1 ≤ LIM → 0 < b → b ≤ 10 ^ 60 →
  ∃ d w0' w2' : Int, 0 ≤ d ∧ d < b ∧ 0 ≤ w0' ∧ 0 ≤ w2' ∧ w2' ≤ (C : Int) + 1 ∧ ct f [wl w0 w1 w2, .int b] = .ok (.int d) [wl w0' w1 w2']
section
variable {P : Nat → D → Prop} {B : Nat} {s : AS} {ρ : Slots} {K : ACx} {ct : CT}
theorem setAll_ok : ∀ {is : List Nat} {as : List AV} {ds : List D} {s : AS} {ρ : Slots}, Gam P B s ρ → Gs P B as ds → is.length = as.length → Gam P B (setAll s is as) (Z.putAll ρ is ds)
  | [], [], ds, s, ρ, Γ, g, _ => by rw [gs_nil g]; exact Γ
  | i :: is, a :: as, ds, s, ρ, Γ, g, h => by
    obtain ⟨d, r, rfl, g1, g2⟩ := gs_cons g
    have := setAll_ok (is := is) (as := as) (setS_ok (i := i) Γ (g_gsl g1)) g2 (by simpa using h)
    exact this
  | [], _ :: _, _, _, _, _, _, h => by cases h
  | _ :: _, [], _, _, _, _, _, h => by cases h
theorem drawC_ok (hd : DrawOk ct K.draw) {b : AV} {C : Ctr} (h : drawC K b = some C) : CtrOk P ct C := by
  have key : ∀ (b a : AV), (∀ d, G P 0 b d → True) → ∀ B ds, B + 1 ≤ LIM → Gs P B [.well 0, b] ds → (∀ d, G P B b d → ∃ n : Int, d = .int n ∧ 0 < n ∧ n ≤ 10 ^ 60 ∧ ∀ k : Int, 0 ≤ k → k < n → G P B a (.int k)) →
      CSat P B ⟨K.draw, [.well 0, b], [a], [], [.well 1], 1⟩ (ct K.draw ds) := by
    intro b a _ B ds hB g hb
    obtain ⟨w, r, rfl, g1, g2⟩ := gs_cons g
    obtain ⟨x, r', rfl, g3, g4⟩ := gs_cons g2
    cases gs_nil g4
    rw [G] at g1
    obtain ⟨w0, w1, w2, rfl, a0, a1, a2, a3, a4⟩ := g1
    obtain ⟨n, rfl, n0, n1, hn⟩ := hb x g3
    obtain ⟨d, w0', w2', d0, d1, b0, b2, b3, e⟩ := hd w0 w1 w2 n B a0 a1 a2 a3 (by simpa using a4) hB n0 n1
    rw [e]
    refine ⟨⟨a, List.mem_singleton.mpr rfl, hn d d0 d1⟩, ?_⟩
    rw [Gs, Gs]
    refine ⟨?_, trivial⟩
    rw [G]
    exact ⟨w0', w1, w2', rfl, b0, a1, a2, b2, by omega⟩
  unfold drawC at h
  split at h
  · rename_i n
    split at h
    · rename_i c
      cases h
      intro B ds hB g
      refine key _ _ (fun _ _ => trivial) B ds hB g fun d gd => ?_
      rw [G] at gd
      refine ⟨n, gd, by omega, by omega, fun k k0 k1 => ?_⟩
      exact mkAlt_ok (List.mem_map_of_mem (List.mem_range.mpr (show k.toNat < n.toNat by omega))) (by rw [G]; congr 1; omega)
    · split at h
      · rename_i c
        cases h
        intro B ds hB g
        refine key _ _ (fun _ _ => trivial) B ds hB g fun d gd => ?_
        rw [G] at gd
        exact ⟨n, gd, by omega, by omega, fun k k0 k1 => by rw [G]; exact ⟨k, rfl, k0, by omega⟩⟩
      · cases h
  · split at h
    · rename_i q e
      split at h
      · rename_i c
        cases h
        intro B ds hB g
        refine key _ _ (fun _ _ => trivial) B ds hB g fun d gd => ?_
        obtain ⟨i, rfl, i1, i2⟩ := iv_ok e gd
        exact ⟨i, rfl, by omega, by omega, fun k k0 k1 => by rw [G]; exact ⟨k, rfl, k0, by omega⟩⟩
      · cases h
    · cases h
theorem drawC_f {b : AV} {C : Ctr} (h : drawC K b = some C) : C.f = K.draw := by
  unfold drawC at h
  repeat' split at h
  all_goals first | (cases h; rfl) | cases h
theorem findC_ok (hd : DrawOk ct K.draw) (ht : ∀ C ∈ K.tbl, CtrOk P ct C) {f : Nat} {as : List AV} {C : Ctr} (h : findC K f as = some C) : C.f = f ∧ CtrOk P ct C ∧ useC K as C = true := by
  unfold findC at h
  split at h
  · rename_i hf
    split at h
    · rename_i b
      cases e : drawC K b with
      | none => rw [e] at h; cases h
      | some C' =>
        rw [e] at h
        have h : (if useC K _ C' = true then some C' else none) = some C := h
        split at h
        · rename_i c
          cases h
          exact ⟨by rw [drawC_f e, hf], drawC_ok hd e, c⟩
        · cases h
    · cases h
  · have h1 := List.find?_some h
    have h2 := List.mem_of_find?_eq_some h
    simp only [Bool.and_eq_true, beq_iff_eq] at h1
    exact ⟨h1.1, ht C h2, h1.2⟩
/-- what a call comes to, with the slots behind -/
def callO (ct : CT) (f : Nat) (owns : List Nat) (ds : List D) (ρ : Slots) : R D := match ct f ds with
  | .ok d outs => if outs.length = owns.length then .ok d (Z.putAll ρ owns outs) else .bad
  | .exn c outs => if outs.length = owns.length then .exn c (Z.putAll ρ owns outs) else .bad
  | .bad => .bad
theorem oneC_ok (hB : B + K.cost ≤ LIM) (hd : DrawOk ct K.draw) (ht : ∀ C ∈ K.tbl, CtrOk P ct C) {f : Nat} {owns : List Nat} {as : List AV} {ds : List D} (Γ : Gam P B s ρ) (g : Gs P B as ds) : Sat P B (VE P B) (oneC K f owns s as) (callO ct f owns ds ρ) := by
  intro l hl
  unfold oneC at hl
  cases e : findC K f as with
  | none => rw [e] at hl; cases hl
  | some C =>
    rw [e] at hl
    have hl : (if C.outs.length = owns.length then some (outC as s owns C) else none) = some l := hl
    split at hl
    · rename_i hlen
      cases hl
      obtain ⟨hf, hc, hu⟩ := findC_ok hd ht e
      unfold useC at hu
      simp only [Bool.and_eq_true, decide_eq_true_eq] at hu
      obtain ⟨⟨⟨u1, u2⟩, u3⟩, u4⟩ := hu
      unfold Ctr.wf at u3
      simp only [Bool.and_eq_true] at u3
      have g' := gs_zip2 (P := P) (B := B) (rec := le) (fun a b d => le_ok 30 a b d) (by rw [List.length_map]; exact u1) u2 g
      have g2 := shs_in u3.1.1 g'
      have h := hc (B + wellOf as) ds (by omega) g2
      rw [hf] at h
      unfold callO
      cases hr : ct f ds with
      | ok d outs =>
        rw [hr] at h
        obtain ⟨⟨a, h1, h2⟩, h3⟩ := h
        have h4 := shs_out u3.2 h3
        have hl2 : outs.length = owns.length := by rw [← gs_len h3]; exact hlen
        show SatL P B (VE P B) _ (if outs.length = owns.length then R.ok d (Z.putAll ρ owns outs) else .bad)
        rw [if_pos hl2]
        refine ⟨sh (wellOf as) a, _, List.mem_append_left _ (List.mem_map_of_mem h1), g_gsl (sh_out (List.all_eq_true.mp u3.1.2 a h1) h2), setAll_ok Γ h4 (by rw [List.length_map]; exact hlen.symm)⟩
      | exn c outs =>
        rw [hr] at h
        obtain ⟨h1, h3⟩ := h
        have h4 := shs_out u3.2 h3
        have hl2 : outs.length = owns.length := by rw [← gs_len h3]; exact hlen
        show SatL P B (VE P B) _ (if outs.length = owns.length then R.exn c (Z.putAll ρ owns outs) else .bad)
        rw [if_pos hl2]
        exact ⟨_, List.mem_append_right _ (List.mem_map_of_mem h1), setAll_ok Γ h4 (by rw [List.length_map]; exact hlen.symm)⟩
      | bad => rw [hr] at h; exact h
    · cases hl
theorem prodA_ok : ∀ {as : List AV} {ds : List D}, Gs P B as ds → ∃ bs ∈ prodA as, Gs P B bs ds
  | [], ds, g => ⟨[], List.mem_singleton.mpr rfl, g⟩
  | a :: as, ds, g => by
    obtain ⟨d, r, rfl, g1, g2⟩ := gs_cons g
    obtain ⟨b, h1, h2⟩ := spl_ok g1
    obtain ⟨bs, h3, h4⟩ := prodA_ok g2
    refine ⟨b :: bs, ?_, by rw [Gs]; exact ⟨h2, h4⟩⟩
    rw [prodA, List.mem_flatMap]
    exact ⟨b, h1, List.mem_map_of_mem h3⟩
theorem satL_mono {α β : Type} {V : Slots → α → β → Prop} {l l' : List (AO α)} {r : R β} (h : SatL P B V l r) (hm : ∀ x ∈ l, x ∈ l') : SatL P B V l' r := by
  cases r with
  | ok d ρ => obtain ⟨a, s, m, v⟩ := h; exact ⟨a, s, hm _ m, v⟩
  | exn c ρ => obtain ⟨s, m, v⟩ := h; exact ⟨s, hm _ m, v⟩
  | bad => exact h
theorem callA_ok (hB : B + K.cost ≤ LIM) (hd : DrawOk ct K.draw) (ht : ∀ C ∈ K.tbl, CtrOk P ct C) {f : Nat} {owns : List Nat} {as : List AV} {ds : List D} (Γ : Gam P B s ρ) (g : Gs P B as ds) : Sat P B (VE P B) (callA K f owns s as) (callO ct f owns ds ρ) := by
  intro l hl
  unfold callA at hl
  split at hl
  · rename_i l' e
    cases hl
    exact oneC_ok hB hd ht Γ g _ e
  · obtain ⟨bs, h1, h2⟩ := prodA_ok g
    obtain ⟨r, h3, h4⟩ := allM_ok hl h1
    exact satL_mono (oneC_ok hB hd ht Γ h2 r h3) h4
end
end A

set_option Elab.async false
set_option linter.all false
set_option maxRecDepth 100000
set_option maxHeartbeats 1000000
/-! A7: arguments, targets, comprehensions -/
namespace A
open PySem Z
def fixA (c : C) (a : AV) (s : AS) : AV := match isOwn c with
  | some i => deg s ((s[i]?).getD .top)
  | none => a
def fixAs : C → List AV → AS → List AV
  | .cons a r, d :: ds, s => fixA a d s :: fixAs r ds s
  | _, ds, _ => ds
def fillA (s : AS) : C → List AV → Option (List AV)
  | .cons c r, a :: as => (match isOwn c with
    | some i => (match s[i]? with
      | some b => if isIdx b || isTop b then none else (fillA s r as).map (b :: ·)
      | none => none)
    | none => (fillA s r as).map (a :: ·))
  | .nil, [] => some []
  | _, _ => none
def viewQ (a : AV) : Option (AV × Nat × Nat) := match tv a with
  | some p => some p
  | none => lv a
section
variable {P : Nat → D → Prop} {B : Nat} {s : AS} {ρ : Slots}
theorem fix_ok {c : C} {a : AV} {d : D} (Γ : Gam P B s ρ) (g : G P B a d) : G P B (fixA c a s) (fixD c d ρ) := by
  unfold fixA fixD
  cases e : isOwn c with
  | some i =>
    show G P B (deg s ((s[i]?).getD .top)) ((Z.get ρ i).getD d)
    cases hs : s[i]? with
    | none => simp [deg, G]
    | some b =>
      have gb := Γ.at' i b hs
      show G P B (deg s b) _
      cases hg : Z.get ρ i with
      | some x => rw [hg] at gb; exact deg_ok Γ gb
      | none =>
        rw [hg] at gb
        cases b with
        | top => simp [deg, G]
        | idx j => obtain ⟨_, _, e, _⟩ := gb; cases e
        | _ => obtain ⟨_, e, _⟩ := gb; cases e
  | none => exact g
theorem fixL_ok : ∀ {l : C} {as : List AV} {ds : List D}, Gam P B s ρ → Gs P B as ds → Gs P B (fixAs l as s) (fixL l ds ρ) := by
  intro l
  induction l with
  | cons c r _ ih =>
    intro as ds Γ g
    cases as with
    | nil => rw [gs_nil g]; simp [fixAs, fixL, Gs]
    | cons a as =>
      obtain ⟨d, ds', rfl, g1, g2⟩ := gs_cons g
      simp only [fixAs, fixL]
      rw [Gs]
      exact ⟨fix_ok Γ g1, ih Γ g2⟩
  | _ => intro as ds Γ g; exact g
theorem fill_ok : ∀ {l : C} {as bs : List AV} {ds : List D}, Gam P B s ρ → Gs P B as ds → fillA s l as = some bs → ∃ vs, fillD ρ l ds = some vs ∧ Gs P B bs vs := by
  intro l
  induction l with
  | nil =>
    intro as bs ds Γ g h
    cases as with
    | nil => cases h; rw [gs_nil g]; exact ⟨[], rfl, by simp [Gs]⟩
    | cons _ _ => cases h
  | cons c r _ ih =>
    intro as bs ds Γ g h
    cases as with
    | nil => cases h
    | cons a as =>
      obtain ⟨d, ds', rfl, g1, g2⟩ := gs_cons g
      simp only [fillA] at h
      simp only [fillD]
      split at h
      · rename_i i e
        try rw [e]
        split at h
        · rename_i b hs
          split at h
          · cases h
          · rename_i hc
            simp only [Bool.not_eq_true, Bool.or_eq_false_iff] at hc
            cases hr : fillA s r as with
            | none => rw [hr] at h; cases h
            | some q =>
              rw [hr] at h; cases h
              obtain ⟨vs, h1, h2⟩ := ih Γ g2 hr
              obtain ⟨x, hx, gx⟩ := gsl_g (Γ.at' i b hs) (not_idx hc.1) (not_top hc.2)
              refine ⟨x :: vs, ?_, by rw [Gs]; exact ⟨gx, h2⟩⟩
              show (Z.get ρ i).bind _ = _
              rw [hx]
              show (fillD ρ r ds').map _ = _
              rw [h1]; rfl
        · cases h
      · rename_i e
        try rw [e]
        cases hr : fillA s r as with
        | none => rw [hr] at h; cases h
        | some q =>
          rw [hr] at h; cases h
          obtain ⟨vs, h1, h2⟩ := ih Γ g2 hr
          refine ⟨d :: vs, ?_, by rw [Gs]; exact ⟨g1, h2⟩⟩
          show (fillD ρ r ds').map _ = _
          rw [h1]; rfl
  | _ => intro as bs ds Γ g h; cases as <;> cases h
theorem viewQ_ok {a : AV} {p : AV × Nat × Nat} {d : D} (h : viewQ a = some p) (g : G P B a d) : ∃ m, seqLen d = some m ∧ p.2.1 ≤ m ∧ m ≤ p.2.2 ∧ bLen d = some (.int (m : Nat)) ∧ ∀ n : Int, 0 ≤ n → n < m → ∃ z, ixD d (.int n) = some z ∧ G P B p.1 z := by
  have hix : ∀ (ds : List D) (n : Int), 0 ≤ n → n < ds.length → ∃ h : n.toNat < ds.length, ((ixOf n ds.length).bind fun k => ds[k]?) = some ds[n.toNat] := fun ds n h0 h1 => by
    refine ⟨by omega, ?_⟩
    unfold ixOf
    rw [if_pos h0, if_pos h1]
    exact List.getElem?_eq_getElem _
  unfold viewQ at h
  split at h
  · rename_i p' e
    cases h
    obtain ⟨ds, rfl, g1, g2, g3⟩ := tv_ok e g
    refine ⟨ds.length, rfl, g1, g2, rfl, fun n h0 h1 => ?_⟩
    obtain ⟨hl, he⟩ := hix ds n h0 h1
    exact ⟨_, he, g3 _ (List.getElem_mem hl)⟩
  · obtain ⟨ds, rfl, g1, g2, g3⟩ := lv_ok h g
    refine ⟨ds.length, rfl, g1, g2, rfl, fun n h0 h1 => ?_⟩
    obtain ⟨hl, he⟩ := hix ds n h0 h1
    exact ⟨_, he, g3 _ (List.getElem_mem hl)⟩
end
/-! targets -/
def zipAlt : List AV → List AV → List AV
  | a :: as, b :: bs => mkAlt [a, b] :: zipAlt as bs
  | _, _ => []
def parts1 (n : Nat) (a : AV) : Option (List AV) := match opn a with
  | .tup xs => if xs.length = n then some xs else none
  | .tupN a l h => if l = n ∧ h = n then some (List.replicate n a) else none
  | _ => none
def partsO (n : Nat) : List AV → Option (List AV)
  | [] => none
  | [a] => parts1 n a
  | a :: r => (parts1 n a).bind fun xs => (partsO n r).map (zipAlt xs)
def partsN (n : Nat) (a : AV) : Option (List AV) := partsO n (spl a)
def lenP : C → Nat
  | .cons _ r => lenP r + 1
  | _ => 0
def bindAs : C → List AV → AS → Option AS
  | .nil, [], s => some s
  | .cons (.var i) r, a :: as, s => bindAs r as (setS s i a)
  | .cons (.tup l) r, a :: as, s => (partsN (lenP l) a).bind fun xs => (bindAs l xs s).bind fun s' => bindAs r as s'
  | _, _, _ => none
def bindA : C → AV → AS → Option AS
  | .var i, a, s => some (setS s i a)
  | .tup l, a, s => (partsN (lenP l) a).bind fun xs => bindAs l xs s
  | _, _, _ => none
section
variable {P : Nat → D → Prop} {B : Nat} {s s' : AS} {ρ : Slots}
theorem gs_rep {a : AV} : ∀ {ds : List D}, (∀ d ∈ ds, G P B a d) → Gs P B (List.replicate ds.length a) ds
  | [], _ => by simp [Gs]
  | d :: ds, h => by
    rw [List.length_cons, List.replicate_succ, Gs]
    exact ⟨h d List.mem_cons_self, gs_rep fun x hx => h x (List.mem_cons_of_mem _ hx)⟩
theorem parts1_ok {n : Nat} {a : AV} {xs : List AV} {d : D} (h : parts1 n a = some xs) (g : G P B a d) : ∃ ds, d = .tuple ds ∧ Gs P B xs ds := by
  replace g := opn_ok g
  unfold parts1 at h
  split at h
  · rename_i ys e
    rw [e, G] at g
    obtain ⟨ds, rfl, g⟩ := g
    split at h
    · cases h; exact ⟨ds, rfl, g⟩
    · cases h
  · rename_i b l hh e
    rw [e, G] at g
    obtain ⟨ds, rfl, g1, g2, g3⟩ := g
    split at h
    · rename_i c
      cases h
      have : ds.length = n := by omega
      exact ⟨ds, rfl, by rw [← this]; exact gs_rep g3⟩
    · cases h
  · cases h
theorem parts1_len {n : Nat} {a : AV} {xs : List AV} (h : parts1 n a = some xs) : xs.length = n := by
  unfold parts1 at h
  split at h
  · split at h
    · rename_i c; cases h; exact c
    · cases h
  · split at h
    · cases h; exact List.length_replicate
    · cases h
  · cases h
theorem zipAlt_l : ∀ {xs ys : List AV} {ds : List D}, xs.length = ys.length → Gs P B xs ds → Gs P B (zipAlt xs ys) ds
  | [], _, ds, _, g => by rw [gs_nil g]; simp [zipAlt, Gs]
  | a :: as, b :: bs, ds, h, g => by
    obtain ⟨d, r, rfl, g1, g2⟩ := gs_cons g
    rw [zipAlt, Gs]
    exact ⟨mkAlt_ok List.mem_cons_self g1, zipAlt_l (by simpa using h) g2⟩
  | _ :: _, [], _, h, _ => by cases h
theorem zipAlt_r : ∀ {xs ys : List AV} {ds : List D}, xs.length = ys.length → Gs P B ys ds → Gs P B (zipAlt xs ys) ds
  | [], [], ds, _, g => by rw [gs_nil g]; simp [zipAlt, Gs]
  | a :: as, b :: bs, ds, h, g => by
    obtain ⟨d, r, rfl, g1, g2⟩ := gs_cons g
    rw [zipAlt, Gs]
    exact ⟨mkAlt_ok (List.mem_cons_of_mem _ List.mem_cons_self) g1, zipAlt_r (by simpa using h) g2⟩
  | [], _ :: _, _, h, _ => by cases h
  | _ :: _, [], _, h, _ => by cases h
theorem zipAlt_len : ∀ {xs ys : List AV}, xs.length = ys.length → (zipAlt xs ys).length = xs.length
  | [], [], _ => rfl
  | _ :: as, _ :: bs, h => congrArg (· + 1) (zipAlt_len (by simpa using h))
  | [], _ :: _, h => by cases h
  | _ :: _, [], h => by cases h
theorem partsO_len {n : Nat} : ∀ {as : List AV} {xs : List AV}, partsO n as = some xs → xs.length = n
  | [], _, h => by cases h
  | [a], _, h => parts1_len h
  | a :: b :: r, xs, h => by
    have h : (parts1 n a).bind (fun q => (partsO n (b :: r)).map (zipAlt q)) = some xs := h
    cases e : parts1 n a with
    | none => rw [e] at h; cases h
    | some q =>
      cases e' : partsO n (b :: r) with
      | none => rw [e, e'] at h; cases h
      | some q' =>
        rw [e, e'] at h; cases h
        rw [zipAlt_len ((parts1_len e).trans (partsO_len e').symm)]
        exact parts1_len e
theorem partsO_ok {n : Nat} {d : D} : ∀ {as : List AV} {xs : List AV} {a : AV}, partsO n as = some xs → a ∈ as → G P B a d → ∃ ds, d = .tuple ds ∧ Gs P B xs ds
  | [], _, _, h, _, _ => by cases h
  | [b], xs, a, h, m, g => by
    rw [List.mem_singleton] at m
    subst m
    exact parts1_ok h g
  | b :: c :: r, xs, a, h, m, g => by
    have h : (parts1 n b).bind (fun q => (partsO n (c :: r)).map (zipAlt q)) = some xs := h
    cases e : parts1 n b with
    | none => rw [e] at h; cases h
    | some q =>
      cases e' : partsO n (c :: r) with
      | none => rw [e, e'] at h; cases h
      | some q' =>
        rw [e, e'] at h
        cases h
        have hl := (parts1_len e).trans (partsO_len e').symm
        rcases List.mem_cons.mp m with rfl | m
        · obtain ⟨ds, h1, h2⟩ := parts1_ok e g
          exact ⟨ds, h1, zipAlt_l hl h2⟩
        · obtain ⟨ds, h1, h2⟩ := partsO_ok e' m g
          exact ⟨ds, h1, zipAlt_r hl h2⟩
theorem partsN_ok {n : Nat} {a : AV} {xs : List AV} {d : D} (h : partsN n a = some xs) (g : G P B a d) : ∃ ds, d = .tuple ds ∧ Gs P B xs ds := by
  obtain ⟨b, h1, h2⟩ := spl_ok g
  exact partsO_ok h h1 h2
def BQ (P : Nat → D → Prop) (B : Nat) (l : C) : Prop := ∀ {as : List AV} {ds : List D} {s s' : AS} {ρ : Slots}, Gam P B s ρ → Gs P B as ds → bindAs l as s = some s' → ∃ ρ', bindP.bindPs l ds ρ = some ρ' ∧ Gam P B s' ρ'
theorem bindAs_all : ∀ (l : C), BQ P B l ∧ ∀ l', l = .tup l' → BQ P B l' := by
  intro l
  induction l with
  | nil =>
    refine ⟨?_, fun l' e => by cases e⟩
    intro as ds s s' ρ Γ g h
    cases as with
    | nil => cases h; rw [gs_nil g]; exact ⟨ρ, rfl, Γ⟩
    | cons _ _ => cases h
  | tup l ih => exact ⟨fun {as ds s s' ρ} Γ g h => by (cases as <;> cases h), fun l' e => by cases e; exact ih.1⟩
  | cons c r ihc ih =>
    refine ⟨?_, fun l' e => by cases e⟩
    intro as ds s s' ρ Γ g h
    cases as with
    | nil => cases c <;> cases h
    | cons a as =>
      obtain ⟨d, ds', rfl, g1, g2⟩ := gs_cons g
      cases c with
      | var i => exact ih.1 (setS_ok (i := i) Γ (g_gsl g1)) g2 h
      | tup l' =>
        have h : (partsN (lenP l') a).bind (fun xs => (bindAs l' xs s).bind fun s' => bindAs r as s') = some s' := h
        cases e : partsN (lenP l') a with
        | none => rw [e] at h; cases h
        | some xs =>
          rw [e] at h
          obtain ⟨es, rfl, ge⟩ := partsN_ok e g1
          have h : (bindAs l' xs s).bind (fun s' => bindAs r as s') = some s' := h
          cases e' : bindAs l' xs s with
          | none => rw [e'] at h; cases h
          | some s1 =>
            rw [e'] at h
            obtain ⟨ρ1, k1, k2⟩ := ihc.2 l' rfl Γ ge e'
            obtain ⟨ρ2, k3, k4⟩ := ih.1 k2 g2 h
            refine ⟨ρ2, ?_, k4⟩
            show (bindP.bindPs l' es ρ).bind _ = _
            rw [k1]
            exact k3
      | _ => cases h
  | _ => exact ⟨fun {as ds s s' ρ} Γ g h => by (cases as <;> cases h), fun l' e => by cases e⟩
theorem bindA_ok {p : C} {a : AV} {d : D} (Γ : Gam P B s ρ) (g : G P B a d) (h : bindA p a s = some s') : ∃ ρ', bindP p d ρ = some ρ' ∧ Gam P B s' ρ' := by
  cases p with
  | var i => cases h; exact ⟨_, rfl, setS_ok Γ (g_gsl g)⟩
  | tup l =>
    have h : (partsN (lenP l) a).bind (fun xs => bindAs l xs s) = some s' := h
    cases e : partsN (lenP l) a with
    | none => rw [e] at h; cases h
    | some xs =>
      rw [e] at h
      obtain ⟨es, rfl, ge⟩ := partsN_ok e g
      exact (bindAs_all l).1 Γ ge h
  | _ => cases h
/-- a value with its place: an index stays one -/
theorem bindV_ok {i : Nat} {a : AV} {d : D} (Γ : Gam P B s ρ) (g : GSl P B ρ a (some d)) : Gam P B (setS s i a) (Z.put ρ i d) := setS_ok Γ g
end
/-! slots of a comprehension -/
def wipeS (s : AS) : List Nat → AS
  | [] => s
  | v :: vs => clrS (wipeS s vs) v
def stab : Option AV → AV
  | some a => if isIdx a then .top else a
  | none => .top
def backS (s0 s : AS) : List Nat → AS
  | [] => s
  | v :: vs => (clrS (backS s0 s vs) v).set v (stab (s0[v]?))
def itemsA (a : AV) : Option (List AV ⊕ (AV × Nat × Nat)) := match a with
  | .ex (.str x) => some (.inl (x.cps.toList.map fun c => .ex (.str ⟨#[c]⟩)))
  | .str c0 c1 l h => some (.inr (.str c0 c1 1 1, l, h))
  | a => match opn a with
    | .tup xs => some (.inl xs)
    | .lst xs => some (.inl xs)
    | .tupN a l h => some (.inr (a, l, h))
    | .lstN a l h => some (.inr (a, l, h))
    | _ => none
def push (acc v : AV) : AV := match acc with
  | .lst xs => .lst (xs ++ [v])
  | .lstN a l h => .lstN (if le v a then a else mkAlt [a, v]) (l + 1) (h + 1)
  | _ => .top
abbrev QC := AV × AS
def stepC (f : AV → AS → Option (List (Option AV × AS))) (x : AV) (q : QC) : Option (List QC) := (f x q.2).map (List.map fun o => match o.1 with
  | some v => (push q.1 v, o.2)
  | none => (q.1, o.2))
def mrgC : List QC → List QC
  | [] => []
  | q :: r => match mrgC r with
    | [] => [q]
    | t :: r' => if q.2.length = t.2.length then (joinB q.1 t.1, joinS q.2 t.2) :: r' else q :: t :: r'
def compL (f : AV → AS → Option (List (Option AV × AS))) : List AV → List QC → Option (List QC)
  | [], qs => some qs
  | x :: xs, qs => (allM (stepC f x) qs).bind fun qs' => compL f xs (mrgC qs')
def compU (f : AV → AS → Option (List (Option AV × AS))) (a : AV) : Nat → Nat → List QC → Option (List QC)
  | _, 0, qs => some qs
  | lo, n + 1, qs => (allM (stepC f a) qs).bind fun qs' => (compU f a (lo - 1) n (mrgC qs')).map fun r => if lo = 0 then qs ++ r else r
section
variable {P : Nat → D → Prop} {B : Nat} {s s' s0 : AS} {ρ ρ0 : Slots}
theorem wipe_ok (Γ : Gam P B s ρ) : ∀ vs : List Nat, Gam P B (wipeS s vs) (wipeD ρ vs)
  | [] => Γ
  | v :: vs => clrS_ok (wipe_ok Γ vs) v none
theorem setX_ok {i : Nat} {a : AV} {x : Option D} (Γ : Gam P B s ρ) (h : ∀ ρ', GSl P B ρ' a x) : Gam P B ((clrS s i).set i a) (ρ.set i x) := by
  refine gam_set (clrS_ok Γ i x) fun hl => ?_
  have hl : i < ρ.length := by simpa using hl
  have : Z.get (ρ.set i x) i = x := by unfold Z.get; rw [List.getElem?_set_self hl]; cases x <;> rfl
  rw [this]
  exact h _
theorem back_ok (Γ0 : Gam P B s0 ρ0) (Γ : Gam P B s ρ) : ∀ vs : List Nat, Gam P B (backS s0 s vs) (backD ρ0 ρ vs)
  | [] => Γ
  | v :: vs => by
    refine setX_ok (back_ok Γ0 Γ vs) fun ρ' => ?_
    show GSl P B ρ' (stab s0[v]?) (Z.get ρ0 v)
    cases e : s0[v]? with
    | none => trivial
    | some a =>
      show GSl P B ρ' (if isIdx a then .top else a) _
      have g := Γ0.at' v a e
      cases a <;> first | exact g | trivial
theorem items_ok {a : AV} {d : D} (g : G P B a d) : (∀ xs, itemsA a = some (.inl xs) → ∃ ds, items d = some ds ∧ Gs P B xs ds) ∧ ∀ q, itemsA a = some (.inr q) → ∃ ds, items d = some ds ∧ q.2.1 ≤ ds.length ∧ ds.length ≤ q.2.2 ∧ ∀ x ∈ ds, G P B q.1 x := by
  unfold itemsA
  split
  · rename_i x
    rw [G] at g; subst g
    refine ⟨fun xs h => ?_, fun q h => (by cases h)⟩
    cases h
    refine ⟨_, rfl, ?_⟩
    have := gs_ex (P := P) (B := B) (x.cps.toList.map fun c => PyData.str ⟨#[c]⟩)
    rw [List.map_map] at this
    exact this
  · rename_i c0 c1 l h
    rw [G] at g
    obtain ⟨x, rfl, g⟩ := g
    simp only [strB, Bool.and_eq_true, decide_eq_true_eq, List.all_eq_true] at g
    refine ⟨fun xs h => (by cases h), fun q hq => ?_⟩
    cases hq
    have hl : x.cps.toList.length = x.length := by simp; rfl
    refine ⟨_, rfl, by rw [List.length_map, hl]; exact g.1.1, by rw [List.length_map, hl]; exact g.1.2, fun y hy => ?_⟩
    obtain ⟨c, hc, rfl⟩ := List.mem_map.mp hy
    rw [G]
    refine ⟨_, rfl, ?_⟩
    simp only [strB, Bool.and_eq_true, decide_eq_true_eq, List.all_eq_true]
    exact ⟨⟨Nat.le_refl _, Nat.le_refl _⟩, fun c' hc' => by
      simp only [List.mem_cons, List.not_mem_nil, or_false] at hc'
      rw [hc']; exact g.2 c hc⟩
  · replace g := opn_ok g
    split
    · rename_i e
      rw [e, G] at g
      obtain ⟨ds, rfl, g⟩ := g
      exact ⟨fun xs h => by (cases h; exact ⟨ds, rfl, g⟩), fun q h => (by cases h)⟩
    · rename_i e
      rw [e, G] at g
      obtain ⟨ds, rfl, g⟩ := g
      exact ⟨fun xs h => by (cases h; exact ⟨ds, rfl, g⟩), fun q h => (by cases h)⟩
    · rename_i e
      rw [e, G] at g
      obtain ⟨ds, rfl, g⟩ := g
      exact ⟨fun xs h => (by cases h), fun q h => by (cases h; exact ⟨ds, rfl, g⟩)⟩
    · rename_i e
      rw [e, G] at g
      obtain ⟨ds, rfl, g⟩ := g
      exact ⟨fun xs h => (by cases h), fun q h => by (cases h; exact ⟨ds, rfl, g⟩)⟩
    · exact ⟨fun xs h => (by cases h), fun q h => (by cases h)⟩
theorem push_ok {acc v : AV} {pre : List D} {y : D} (g : G P B acc (.list pre)) (h : G P B v y) : G P B (push acc v) (.list (pre ++ [y])) := by
  unfold push
  split
  · rw [G] at g ⊢
    obtain ⟨ds, e, g⟩ := g
    cases e
    exact ⟨_, rfl, gs_app g (by rw [Gs, Gs]; exact ⟨h, trivial⟩)⟩
  · rw [G] at g ⊢
    obtain ⟨ds, e, g1, g2, g3⟩ := g
    cases e
    refine ⟨_, rfl, by simp; omega, by simp; omega, fun x hx => ?_⟩
    rcases List.mem_append.mp hx with hx | hx
    · split
      · exact g3 x hx
      · exact mkAlt_ok List.mem_cons_self (g3 x hx)
    · rw [List.mem_singleton] at hx
      subst hx
      split
      · rename_i c; exact le_ok _ _ _ _ c h
      · exact mkAlt_ok (List.mem_cons_of_mem _ List.mem_cons_self) h
  · simp [G]
theorem mrgC_ok {pre : List D} : ∀ {l : List QC} {q : QC}, q ∈ l → G P B q.1 (.list pre) → Gam P B q.2 ρ → ∃ t ∈ mrgC l, G P B t.1 (.list pre) ∧ Gam P B t.2 ρ
  | a :: r, q, h, g, Γ => by
    rw [mrgC]
    rcases List.mem_cons.mp h with rfl | h
    · split
      · exact ⟨_, List.mem_cons_self, g, Γ⟩
      · split
        · rename_i c; exact ⟨_, List.mem_cons_self, joinB_l g, joinS_l c Γ⟩
        · exact ⟨_, List.mem_cons_self, g, Γ⟩
    · obtain ⟨t, h1, h2, h3⟩ := mrgC_ok h g Γ
      split
      · rename_i e; rw [e] at h1; cases h1
      · rename_i t' r' e
        rw [e] at h1
        split
        · rename_i c
          rcases List.mem_cons.mp h1 with rfl | h1
          · exact ⟨_, List.mem_cons_self, joinB_r h2, joinS_r c h3⟩
          · exact ⟨_, List.mem_cons_of_mem _ h1, h2, h3⟩
        · exact ⟨_, List.mem_cons_of_mem _ h1, h2, h3⟩
/-- a turn is told -/
def TurnOk (P : Nat → D → Prop) (B : Nat) (f : AV → AS → Option (List (Option AV × AS))) (fc : D → Slots → R (Option D)) : Prop := ∀ x d s ρ out, G P B x d → Gam P B s ρ → f x s = some out →
  (∃ y ρ', fc d ρ = .ok (some y) ρ' ∧ ∃ v s', (some v, s') ∈ out ∧ G P B v y ∧ Gam P B s' ρ') ∨ ∃ ρ', fc d ρ = .ok none ρ' ∧ ∃ s', (none, s') ∈ out ∧ Gam P B s' ρ'
theorem step_ok {f : AV → AS → Option (List (Option AV × AS))} {fc : D → Slots → R (Option D)} (hf : TurnOk P B f fc) {x : AV} {d : D} {qs qs' : List QC} {q : QC} {pre : List D} (h : allM (stepC f x) qs = some qs') (m : q ∈ qs) (gx : G P B x d) (g : G P B q.1 (.list pre)) (Γ : Gam P B q.2 ρ) :
    (∃ y ρ', fc d ρ = .ok (some y) ρ' ∧ ∃ t ∈ mrgC qs', G P B t.1 (.list (pre ++ [y])) ∧ Gam P B t.2 ρ') ∨ ∃ ρ', fc d ρ = .ok none ρ' ∧ ∃ t ∈ mrgC qs', G P B t.1 (.list pre) ∧ Gam P B t.2 ρ' := by
  obtain ⟨r, h1, h2⟩ := allM_ok h m
  unfold stepC at h1
  cases e : f x q.2 with
  | none => rw [e] at h1; cases h1
  | some out =>
    rw [e] at h1
    cases h1
    rcases hf x d q.2 ρ out gx Γ e with ⟨y, ρ', k1, v, s', k2, k3, k4⟩ | ⟨ρ', k1, s', k2, k4⟩
    · refine .inl ⟨y, ρ', k1, ?_⟩
      exact mrgC_ok (q := (push q.1 v, s')) (h2 _ (List.mem_map.mpr ⟨_, k2, rfl⟩)) (push_ok g k3) k4
    · refine .inr ⟨ρ', k1, ?_⟩
      exact mrgC_ok (q := (q.1, s')) (h2 _ (List.mem_map.mpr ⟨_, k2, rfl⟩)) g k4
theorem comps_cons {f : D → Slots → R (Option D)} {d : D} {ds : List D} {ρ : Slots} : comps (fun _ => true) f (d :: ds) ρ = (match f d ρ with
    | .ok none ρ' => comps (fun _ => true) f ds ρ'
    | .ok (some y) ρ' => (match comps (fun _ => true) f ds ρ' with
      | .ok ys ρ'' => .ok (y :: ys) ρ''
      | _ => .bad)
    | _ => .bad) := by
  rw [comps, if_pos rfl]
  try rfl
theorem compL_ok {f : AV → AS → Option (List (Option AV × AS))} {fc : D → Slots → R (Option D)} (hf : TurnOk P B f fc) : ∀ {xs : List AV} {ds : List D} {qs out : List QC} {q : QC} {pre : List D} {ρ : Slots}, compL f xs qs = some out → Gs P B xs ds → q ∈ qs → G P B q.1 (.list pre) → Gam P B q.2 ρ →
    ∃ ys ρ', comps (fun _ => true) fc ds ρ = .ok ys ρ' ∧ ∃ t ∈ out, G P B t.1 (.list (pre ++ ys)) ∧ Gam P B t.2 ρ'
  | [], ds, qs, out, q, pre, ρ, h, g, m, ga, Γ => by
    rw [gs_nil g]
    cases h
    exact ⟨[], ρ, rfl, q, m, by rw [List.append_nil]; exact ga, Γ⟩
  | x :: xs, ds, qs, out, q, pre, ρ, h, g, m, ga, Γ => by
    obtain ⟨d, r, rfl, g1, g2⟩ := gs_cons g
    simp only [compL] at h
    cases e : allM (stepC f x) qs with
    | none => rw [e] at h; cases h
    | some qs' =>
      rw [e] at h
      have h : compL f xs (mrgC qs') = some out := h
      rw [comps_cons]
      rcases step_ok hf e m g1 ga Γ with ⟨y, ρ', k1, t, k2, k3, k4⟩ | ⟨ρ', k1, t, k2, k3, k4⟩
      · obtain ⟨ys, ρ2, z1, u, z2, z3, z4⟩ := compL_ok hf h g2 k2 k3 k4
        refine ⟨y :: ys, ρ2, by rw [k1]; simp only [z1], u, z2, ?_, z4⟩
        rw [List.append_assoc] at z3
        exact z3
      · obtain ⟨ys, ρ2, z1, u, z2, z3, z4⟩ := compL_ok hf h g2 k2 k3 k4
        exact ⟨ys, ρ2, by rw [k1]; exact z1, u, z2, z3, z4⟩
theorem compU_ok {f : AV → AS → Option (List (Option AV × AS))} {fc : D → Slots → R (Option D)} (hf : TurnOk P B f fc) {a : AV} : ∀ {n lo : Nat} {ds : List D} {qs out : List QC} {q : QC} {pre : List D} {ρ : Slots}, compU f a lo n qs = some out → lo ≤ ds.length → ds.length ≤ n → (∀ x ∈ ds, G P B a x) → q ∈ qs → G P B q.1 (.list pre) → Gam P B q.2 ρ →
    ∃ ys ρ', comps (fun _ => true) fc ds ρ = .ok ys ρ' ∧ ∃ t ∈ out, G P B t.1 (.list (pre ++ ys)) ∧ Gam P B t.2 ρ'
  | 0, lo, ds, qs, out, q, pre, ρ, h, h1, h2, g, m, ga, Γ => by
    cases ds with
    | cons _ _ => simp at h2
    | nil =>
      simp only [compU] at h
      cases h
      exact ⟨[], ρ, rfl, q, m, by rw [List.append_nil]; exact ga, Γ⟩
  | n + 1, lo, ds, qs, out, q, pre, ρ, h, h1, h2, g, m, ga, Γ => by
    simp only [compU] at h
    cases e : allM (stepC f a) qs with
    | none => rw [e] at h; cases h
    | some qs' =>
      rw [e] at h
      have h : (compU f a (lo - 1) n (mrgC qs')).map (fun r => if lo = 0 then qs ++ r else r) = some out := h
      cases e' : compU f a (lo - 1) n (mrgC qs') with
      | none => rw [e'] at h; cases h
      | some r' =>
        rw [e'] at h
        have h : (if lo = 0 then qs ++ r' else r') = out := by simpa using h
        cases ds with
        | nil =>
          have : lo = 0 := by simpa using h1
          rw [if_pos this] at h
          subst h
          exact ⟨[], ρ, rfl, q, List.mem_append_left _ m, by rw [List.append_nil]; exact ga, Γ⟩
        | cons d ds =>
          have mem : ∀ t ∈ r', t ∈ out := fun t ht => by
            subst h
            split
            · exact List.mem_append_right _ ht
            · exact ht
          rw [comps_cons]
          rw [List.length_cons] at h1 h2
          have g2 : ∀ x ∈ ds, G P B a x := fun x hx => g x (List.mem_cons_of_mem _ hx)
          rcases step_ok hf e m (g d List.mem_cons_self) ga Γ with ⟨y, ρ', k1, t, k2, k3, k4⟩ | ⟨ρ', k1, t, k2, k3, k4⟩
          · obtain ⟨ys, ρ2, z1, u, z2, z3, z4⟩ := compU_ok hf e' (by omega) (by omega) g2 k2 k3 k4
            refine ⟨y :: ys, ρ2, by rw [k1]; simp only [z1], u, mem u z2, ?_, z4⟩
            rw [List.append_assoc] at z3
            exact z3
          · obtain ⟨ys, ρ2, z1, u, z2, z3, z4⟩ := compU_ok hf e' (by omega) (by omega) g2 k2 k3 k4
            exact ⟨ys, ρ2, by rw [k1]; exact z1, u, mem u z2, z3, z4⟩
end
end A

set_option Elab.async false
set_option linter.all false
set_option maxRecDepth 100000
set_option maxHeartbeats 1000000
/-! A8: expressions on what values can be -/
namespace A
open PySem Z
def rdA (s : AS) (i : Nat) : AR AV := match s[i]? with
  | some a => if isTop a then none else aok a s
  | none => none
def boolsA1 : AV → Option (List Bool)
  | .ex (.bool b) => some [b]
  | .bool => some [true, false]
  | _ => none
def boolsA (a : AV) : Option (List Bool) := allM boolsA1 (spl a)
def brM {β : Type} (k : AV) (f : Bool → AR β) : AR β := (boolsA k).bind fun l => allM f l
def truthA1 (a : AV) : Option (List Bool) := match a with
  | .ex d => (truthD d).map fun b => [b]
  | .bool => some [true, false]
  | .int l h => if 0 < l ∨ h < 0 then some [true] else some [true, false]
  | a => match viewQ a with
    | some p => if 0 < p.2.1 then some [true] else some [true, false]
    | none => match sv a with
      | some p => if p.2.2.2 ≤ lim then (if 0 < p.2.2.1 then some [true] else some [true, false]) else none
      | none => none
def truthA (a : AV) : Option (List Bool) := allM truthA1 (spl a)
def manyB (o : Option (List Bool)) (s : AS) : AR Bool := o.map (List.map fun a => .ok a s)
def aNeg (a : AV) : Option (List AV) := match a with
  | .ex (.int i) => some [.ex (.int (-i))]
  | a => match iv a with
    | some p => some [.int (-p.2) (-p.1)]
    | none => none
def aNot (a : AV) : Option (List AV) := (boolsA1 a).map (List.map fun b => bl (!b))
def vj : C → Option Nat
  | .var j => some j
  | .own j => some j
  | _ => none
def isLen : C → Option Nat
  | .bi .len (.cons (.var j) .nil) => some j
  | .bi .len (.cons (.own j) .nil) => some j
  | _ => none
def pickC (K : ACx) (f : Nat) : C → Option (Nat × Nat)
  | .cons (.own w) (.cons e .nil) => if f = K.draw then (isLen e).bind fun j => if j = w then none else some (w, j) else none
  | _ => none
def pickA (K : ACx) (q : Nat × Nat) (s : AS) : Option (AV × AS) := match s[q.1]?, s[q.2]? with
  | some (.well u), some a => (viewQ a).bind fun p => if 1 ≤ p.2.1 ∧ p.2.2 ≤ lim ∧ u + 1 ≤ K.cost ∧ isIdx a = false ∧ isTop a = false then some (p.1, setS s q.1 (.well (u + 1))) else none
  | _, _ => none
def callSpec (K : ACx) (f : Nat) (l : C) (s : AS) : Option (AR AV) := (pickC K f l).bind fun q => (pickA K q s).map fun r => aok (.idx q.2) r.2
def ixVar (j k : Nat) (s : AS) : Option (AR AV) := match s[k]?, s[j]? with
  | some (.idx j'), some a => if j = j' ∧ isIdx a = false ∧ isTop a = false then (viewQ a).map fun p => aok p.1 s else none
  | _, _ => none
def ixSpec (K : ACx) (a i : C) (s : AS) : Option (AR AV) := (vj a).bind fun j => match i with
  | .var k => ixVar j k s
  | .call f l => (pickC K f l).bind fun q => if q.2 = j then (pickA K q s).map fun r => aok r.1 r.2 else none
  | _ => none
def isStar : C → Bool
  | .star _ => true
  | _ => false
def turnE (vs : List Nat) : AO AV → Option (List (Option AV × AS))
  | .ok y s5 => some [(some (deg s5 y), wipeS s5 vs)]
  | .exn _ _ => none
def turnT (vs : List Nat) (f : AS → AR AV) : AO Bool → Option (List (Option AV × AS))
  | .ok true s4 => (f s4).bind fun l => allM (turnE vs) l
  | .ok false s4 => some [(none, wipeS s4 vs)]
  | .exn _ _ => none
def turnA (vs : List Nat) (p : C) (t : AS → AR Bool) (f : AS → AR AV) (x : AV) (s : AS) : Option (List (Option AV × AS)) := (bindA p x s).bind fun s3 => (t s3).bind fun l => allM (turnT vs f) l
def finC (s1 : AS) (vs : List Nat) (q : QC) : AR AV := match lv q.1 with
  | some p => if p.2.2 ≤ lim then aok q.1 (backS s1 q.2 vs) else none
  | none => none
def lcA (f : AV → AS → Option (List (Option AV × AS))) (vs : List Nat) (s1 : AS) (x : AV) : AR AV := match itemsA x with
  | some (.inl xs) => (compL f xs [(.lst [], wipeS s1 vs)]).bind fun l => allM (finC s1 vs) l
  | some (.inr q) => (compU f q.1 q.2.1 q.2.2 [(.lst [], wipeS s1 vs)]).bind fun l => allM (finC s1 vs) l
  | none => none
/-! own.pop(i), x.join(ys) -/
def told (s : AS) (i : Nat) : Bool := match s[i]? with
  | some b => !isTop b
  | none => false
/-- an index into the list at slot i -/
def ixInto (i : Nat) (k : AV) (p : AV × Nat × Nat) : Bool := match k with
  | .idx j => decide (j = i)
  | k => match iv k with | some q => ixOkB q.1 q.2 p.2.1 | none => false
def popA (i : Nat) (k : AV) (s : AS) : AR AV := match s[i]? with
  | some b => match lv b with
    | some p => if ixInto i k p = true ∧ isIdx b = false ∧ isTop b = false then some [.ok p.1 (setS s i (.lstN p.1 (p.2.1 - 1) (p.2.2 - 1)))] else none
    | none => none
  | none => none
def sv1 (a : AV) : Option (List (Nat × Nat)) := (sv a).map fun q => [(q.2.1, q.2.2.2)]
/-- texts: their greatest sign and length -/
def svs (a : AV) : Option (List (Nat × Nat)) := allM sv1 (spl a)
def mx1 (l : List (Nat × Nat)) : Nat := maxC (l.map (·.1))
def mx2 (l : List (Nat × Nat)) : Nat := maxC (l.map (·.2))
def aJoin (a y : AV) : Option (List AV) := match sv a with
  | some q => match (match tv y with | some p => some p | none => lv y) with
    | some p => match svs p.1 with
      | some l => if q.2.1 < 1114112 ∧ mx1 l < 1114112 ∧ p.2.2 * mx2 l + p.2.2 * q.2.2.2 ≤ 100000 then some [.any false false 0 (10 * (p.2.2 * mx2 l + p.2.2 * q.2.2.2) + 2)] else none
      | none => none
    | none => none
  | none => none
def aMe (m : Me) (a : AV) (as : List AV) : Option (List AV) := match m, as with
  | .join, [y] => lift2 aJoin a y
  | _, _ => none
mutual
def aE (K : ACx) : C → AS → AR AV
  | .non, s => aok (.ex .none) s
  | .bl b, s => aok (bl b) s
  | .int i, s => aok (.ex (.int i)) s
  | .str x, s => aok (.ex (.str x)) s
  | .dic0, s => aok (.ex (.dict [])) s
  | .glob x, s => (K.T.gv x).bind fun d => aok (.ex d) s
  | .var i, s => rdA s i
  | .own i, s => rdA s i
  | .op o a b, s => abind (aE K a s) fun x s1 => abind (aE K b s1) fun y s2 => many (lift2 (aOp o) (fixA a (deg s1 x) s2) (fixA b (deg s2 y) s2)) s2
  | .neg a, s => abind (aE K a s) fun x s1 => many (lift1 aNeg (deg s1 x)) s1
  | .cmp o a b, s => abind (aE K a s) fun x s1 => abind (aE K b s1) fun y s2 => many (lift2 (aCmp o) (fixA a (deg s1 x) s2) (fixA b (deg s2 y) s2)) s2
  | .chain o o' a b c, s => abind (aE K a s) fun x s1 => abind (aE K b s1) fun y s2 => abind (many (lift2 (aCmp o) (deg s1 x) (deg s2 y)) s2) fun k s3 =>
      brM k fun t => if t then abind (aE K c s3) fun z s4 => many (lift2 (aCmp o') (deg s2 y) (deg s4 z)) s4 else aok (bl false) s3
  | .not a, s => abind (aE K a s) fun x s1 => many (lift1 aNot (deg s1 x)) s1
  | .and a b, s => abind (aE K a s) fun x s1 => brM (deg s1 x) fun t => if t then aE K b s1 else aok (bl false) s1
  | .or a b, s => abind (aE K a s) fun x s1 => brM (deg s1 x) fun t => if t then aok (bl true) s1 else aE K b s1
  | .ite c a b, s => abind (aT K c s) fun k s1 => if k then aE K a s1 else aE K b s1
  | .tup l, s => abind (aL K l s) fun xs s1 => if xs.length ≤ lim then aok (.tup xs) s1 else none
  | .lst l, s => abind (aL K l s) fun xs s1 => if xs.length ≤ lim then aok (.lst xs) s1 else none
  | .ix a i, s => (match ixSpec K a i s with
    | some r => r
    | none => abind (aE K a s) fun x s1 => abind (aE K i s1) fun y s2 => many (lift2 aIx (fixA a (deg s1 x) s2) (deg s2 y)) s2)
  | .sl a lo hi, s => abind (aE K a s) fun x s1 => abind (aE K lo s1) fun y s2 => abind (aE K hi s2) fun z s3 => many (allM (fun c => allM (fun b => allM (fun d => aSl c b d) (spl (deg s3 z))) (spl (deg s2 y))) (spl (fixA a (deg s1 x) s3))) s3
  | .call f l, s => (match callSpec K f l s with
    | some r => r
    | none => abind (aL K l s) fun xs s1 => (fillA s1 l xs).bind fun vs => callA K f (ownsOf l) s1 vs)
  | .bi b l, s => abind (aL K l s) fun xs s1 => many (aBi b (fixAs l xs s1)) s1
  | .me m a l, s => abind (aE K a s) fun x s1 => if m = .join ∧ (spl (fixA a (deg s1 x) s1)).all (fun y => kdA y == some .str) = true then abind (aL K l s1) fun xs s2 => many (aMe m (fixA a (deg s1 x) s2) (fixAs l xs s2)) s2 else none
  | .pop i e, s => if told s i then abind (aE K e s) fun k s1 => popA i k s1 else none
  | .isi t a, s => abind (aE K a s) fun x s1 => many (some ((spl (fixA a (deg s1 x) s1)).map (aIsi t))) s1
  | .isE _ c, s => (K.T.cur.bind fun x => K.T.sub x c).bind fun b => aok (bl b) s
  | .lc vs p it c e, s => if (isOwn it).isSome then none else abind (aE K it s) fun x s1 => allM (lcA (turnA vs p (aT K c) (aE K e)) vs s1) (spl (deg s1 x))
  | _, _ => none
def aT (K : ACx) : C → AS → AR Bool
  | .not a, s => abind (aT K a s) fun k s1 => aok (!k) s1
  | .and a b, s => abind (aT K a s) fun k s1 => if k then aT K b s1 else aok false s1
  | .or a b, s => abind (aT K a s) fun k s1 => if k then aok true s1 else aT K b s1
  | .tv a, s => abind (aE K a s) fun x s1 => manyB (truthA (fixA a (deg s1 x) s1)) s1
  | _, _ => none
def aL (K : ACx) : C → AS → AR (List AV)
  | .nil, s => aok [] s
  | .cons a r, s => if isStar a then none else abind (aE K a s) fun x s1 => abind (aL K r s1) fun xs s2 => aok (deg s1 x :: xs) s2
  | _, _ => none
end
section
variable {P : Nat → D → Prop} {B : Nat} {s : AS} {ρ : Slots} {K : ACx} {ct : CT}
theorem told_ok {i : Nat} (Γ : Gam P B s ρ) (h : told s i = true) : ∃ d, Z.get ρ i = some d := by
  unfold told at h
  split at h
  · rename_i b e
    have g := Γ.at' i b e
    cases b with
    | top => cases h
    | idx j => obtain ⟨n, _, e, _⟩ := g; exact ⟨_, e⟩
    | _ => obtain ⟨d, e, _⟩ := g; exact ⟨d, e⟩
  · cases h
theorem into_ok {i : Nat} {k : AV} {p : AV × Nat × Nat} {d : D} {ds : List D} (h : ixInto i k p = true) (v : VE P B ρ k d) (hx : Z.get ρ i = some (.list ds)) (hl : p.2.1 ≤ ds.length) : ∃ n j, d = .int n ∧ ixOf n ds.length = some j ∧ j < ds.length := by
  have gen : ∀ {k : AV}, (∀ j, k ≠ .idx j) → (match iv k with | some q => ixOkB q.1 q.2 p.2.1 | none => false) = true → VE P B ρ k d → ∃ n j, d = .int n ∧ ixOf n ds.length = some j ∧ j < ds.length := fun {k} hk h v => by
    cases e : iv k with
    | none => rw [e] at h; cases h
    | some q =>
      rw [e] at h
      have ht : k ≠ .top := fun z => by subst z; cases e
      obtain ⟨d', e1, g⟩ := gsl_g v hk ht
      cases e1
      obtain ⟨n, rfl, h1, h2⟩ := iv_ok e g
      obtain ⟨j, j1, j2⟩ := ixOk h h1 h2 hl
      exact ⟨n, j, rfl, j1, j2⟩
  cases k with
  | idx j =>
    obtain ⟨n, m, e1, e2, h1, h2⟩ := v
    cases e1
    have ej : j = i := of_decide_eq_true h
    subst ej
    rw [hx] at e2
    have e2 : some ds.length = some m := e2
    cases e2
    refine ⟨n, n.toNat, rfl, ?_, by omega⟩
    unfold ixOf
    rw [if_pos h1, if_pos h2]
  | _ => exact gen (fun j e => by cases e) (by exact h) v
theorem mem_erase {α : Type} : ∀ {xs : List α} {j : Nat} {x : α}, x ∈ xs.eraseIdx j → x ∈ xs
  | [], _, _, h => h
  | _ :: _, 0, _, h => List.mem_cons_of_mem _ h
  | y :: ys, j + 1, x, h => by
    rcases List.mem_cons.mp h with e | h
    · rw [e]; exact List.mem_cons_self
    · exact List.mem_cons_of_mem _ (mem_erase h)
def popD (i : Nat) (ρ : Slots) (d : D) (o : Option D) : R D := match d, o with
    | .int n, some (.list xs) => match ixOf n xs.length with
      | some j => match xs[j]? with | some y => .ok y (Z.put ρ i (.list (xs.eraseIdx j))) | none => .bad
      | none => .bad
    | _, _ => .bad
theorem pop_ok {i : Nat} {k : AV} {d : D} (Γ : Gam P B s ρ) (v : VE P B ρ k d) : Sat P B (VE P B) (popA i k s) (popD i ρ d (Z.get ρ i)) := by
  intro l hl
  unfold popA at hl
  split at hl
  · rename_i b e
    split at hl
    · rename_i p ep
      split at hl
      · rename_i c
        cases hl
        obtain ⟨c1, c2, c3⟩ := c
        obtain ⟨x, hx, gx⟩ := gsl_g (Γ.at' i b e) (not_idx c2) (not_top c3)
        obtain ⟨ds, rfl, k1, k2, k3⟩ := lv_ok ep gx
        obtain ⟨n, j, rfl, j1, j2⟩ := into_ok c1 v hx k1
        have hj := List.getElem?_eq_getElem j2
        rw [hx]
        show SatL P B (VE P B) _ (match ixOf n ds.length with
          | some j => match ds[j]? with | some y => R.ok y (Z.put ρ i (.list (ds.eraseIdx j))) | none => .bad
          | none => .bad)
        rw [j1]
        show SatL P B (VE P B) _ (match ds[j]? with | some y => R.ok y (Z.put ρ i (.list (ds.eraseIdx j))) | none => .bad)
        rw [hj]
        refine ⟨_, _, List.mem_singleton.mpr rfl, g_gsl (k3 _ (List.getElem_mem j2)), setS_ok Γ (g_gsl ?_)⟩
        rw [G]
        have hlen : (ds.eraseIdx j).length = ds.length - 1 := by rw [List.length_eraseIdx, if_pos j2]
        exact ⟨_, rfl, by rw [hlen]; omega, by rw [hlen]; omega, fun y hy => k3 y (mem_erase hy)⟩
      · cases hl
    · cases hl
  · cases hl
theorem strs_ok {a : AV} {l : List (Nat × Nat)} (h : svs a = some l) : ∀ {ds : List D}, (∀ y ∈ ds, G P B a y) → ∃ zs, strsOf ds = some zs ∧ zs.length = ds.length ∧ ∀ z ∈ zs, z.length ≤ mx2 l ∧ ∀ c ∈ z.cps.toList, c ≤ mx1 l
  | [], _ => ⟨[], rfl, rfl, fun z hz => nomatch hz⟩
  | d :: ds, hd => by
    obtain ⟨zs, e1, e2, e3⟩ := strs_ok h (fun y hy => hd y (List.mem_cons_of_mem _ hy))
    obtain ⟨c, c1, c2⟩ := spl_ok (hd d List.mem_cons_self)
    obtain ⟨r, h1, h2⟩ := allM_ok h c1
    unfold sv1 at h1
    cases e : sv c with
    | none => rw [e] at h1; cases h1
    | some q =>
      rw [e] at h1
      cases h1
      obtain ⟨x, rfl, hx⟩ := sv_ok e c2
      have hm := h2 _ (List.mem_singleton.mpr rfl)
      unfold strB at hx
      simp only [Bool.and_eq_true, decide_eq_true_eq, List.all_eq_true] at hx
      refine ⟨x :: zs, by simp only [strsOf, e1]; rfl, by simp only [List.length_cons, e2], fun z hz => ?_⟩
      rcases List.mem_cons.mp hz with rfl | hz
      · exact ⟨Nat.le_trans hx.1.2 (le_maxC (List.mem_map.mpr ⟨_, hm, rfl⟩)), fun c hc => Nat.le_trans (hx.2 c hc).2 (le_maxC (List.mem_map.mpr ⟨_, hm, rfl⟩))⟩
      · exact e3 z hz
theorem sum_le {zs : List Str} {m : Nat} (h : ∀ z ∈ zs, z.length ≤ m) : (zs.map (·.length)).sum ≤ zs.length * m := by
  induction zs with
  | nil => simp
  | cons z zs ih =>
    rw [List.map_cons, List.sum_cons, List.length_cons, Nat.succ_mul]
    have := h z List.mem_cons_self
    have := ih fun y hy => h y (List.mem_cons_of_mem _ hy)
    omega
theorem joinL_mem {S : List Nat} {c : Nat} : ∀ {ps : List (List Nat)}, c ∈ TL.joinL S ps → c ∈ S ∨ ∃ p ∈ ps, c ∈ p
  | [], h => by cases h
  | [p], h => .inr ⟨p, List.mem_singleton.mpr rfl, h⟩
  | p :: q :: r, h => by
    have h : c ∈ p ++ (S ++ TL.joinL S (q :: r)) := h
    rcases List.mem_append.mp h with h | h
    · exact .inr ⟨p, List.mem_cons_self, h⟩
    · rcases List.mem_append.mp h with h | h
      · exact .inl h
      · rcases joinL_mem h with h | ⟨x, h1, h2⟩
        · exact .inl h
        · exact .inr ⟨x, List.mem_cons_of_mem _ h1, h2⟩
theorem aJoin_ok : S2 P B aJoin mJoin := by
  intro a b d e l h ga gb
  unfold aJoin at h
  split at h
  · rename_i q hq
    obtain ⟨x, rfl, hx⟩ := sv_ok hq ga
    unfold strB at hx
    simp only [Bool.and_eq_true, decide_eq_true_eq, List.all_eq_true] at hx
    split at h
    · rename_i p hp
      have fin : ∀ {ds : List D}, p.2.1 ≤ ds.length → ds.length ≤ p.2.2 → (∀ y ∈ ds, G P B p.1 y) → ∃ z, joinAll x (strsOf ds) = some z ∧ ∃ r ∈ l, G P B r z := fun {ds} k1 k2 k3 => by
        split at h
        · rename_i ll hll
          split at h
          · rename_i c
            cases h
            obtain ⟨c1, c2, c3⟩ := c
            obtain ⟨zs, e1, e2, e3⟩ := strs_ok hll k3
            have s1 := sum_le fun z hz => (e3 z hz).1
            have s2 : zs.length * mx2 ll ≤ p.2.2 * mx2 ll := Nat.mul_le_mul_right _ (by omega)
            have s3 : zs.length * x.length ≤ p.2.2 * q.2.2.2 := Nat.mul_le_mul (by omega) hx.1.2
            have hle : (zs.map (·.length)).sum + zs.length * x.length ≤ p.2.2 * mx2 ll + p.2.2 * q.2.2.2 := by omega
            have ej : Txt.join x zs = Str.join x zs := TL.join_eq x zs
            have hlen : (Txt.join x zs).length ≤ p.2.2 * mx2 ll + p.2.2 * q.2.2.2 := by
              rw [ej]
              exact Nat.le_trans (StrLaws.join_length_le x zs) hle
            have hcs : (Txt.join x zs).cps.toList.all (fun c => decide (c < 1114112)) = true := by
              rw [List.all_eq_true]
              intro c hc
              rw [ej] at hc
              have hc : c ∈ TL.tl (Str.join x zs) := hc
              rw [TL.tl_join] at hc
              refine decide_eq_true ?_
              rcases joinL_mem hc with hc | ⟨p', h1, h2⟩
              · have := (hx.2 c hc).2
                omega
              · obtain ⟨z, h3, rfl⟩ := List.mem_map.mp h1
                have := (e3 z h3).2 c h2
                omega
            refine ⟨_, by rw [e1]; show (if _ then _ else _) = _; rw [if_pos (by omega)], _, List.mem_singleton.mpr rfl, ?_⟩
            rw [G]
            unfold anyB
            simp only [wt, hcs, if_true, PyData.depth, PyData.hasDict, hasLst, Bool.and_eq_true, decide_eq_true_eq, Bool.not_false, Bool.or_true, and_true]
            exact ⟨by omega, by first | rfl | decide⟩
          · cases h
        · cases h
      cases e1 : tv b with
      | some p' =>
        rw [e1] at hp
        have hp : some p' = some p := hp
        cases hp
        obtain ⟨ds, rfl, k1, k2, k3⟩ := tv_ok e1 gb
        exact fin k1 k2 k3
      | none =>
        rw [e1] at hp
        have hp : lv b = some p := hp
        obtain ⟨ds, rfl, k1, k2, k3⟩ := lv_ok hp gb
        exact fin k1 k2 k3
    · cases h
  · cases h
theorem aMe_ok {m : Me} {a : AV} {as : List AV} {d : D} {ds : List D} {l : List AV} (h : aMe m a as = some l) (ga : G P B a d) (g : Gs P B as ds) : ∃ z, meD m d ds = some z ∧ ∃ r ∈ l, G P B r z := by
  unfold aMe at h
  split at h
  · obtain ⟨e, r, rfl, g1, g2⟩ := gs_cons g
    cases gs_nil g2
    exact lift2_ok aJoin_ok _ _ d e l h ga g1
  · cases h
theorem rd_ok (Γ : Gam P B s ρ) (i : Nat) : Sat P B (VE P B) (rdA s i) (opt (Z.get ρ i) ρ) := by
  intro l hl
  unfold rdA at hl
  split at hl
  · rename_i a e
    split at hl
    · cases hl
    · rename_i ht
      cases hl
      have g := Γ.at' i a e
      have : ∃ d, Z.get ρ i = some d := by
        cases a with
        | top => exact absurd rfl ht
        | idx j => obtain ⟨n, _, e, _⟩ := g; exact ⟨_, e⟩
        | _ => obtain ⟨d, e, _⟩ := g; exact ⟨d, e⟩
      obtain ⟨d, hd⟩ := this
      rw [hd] at g ⊢
      exact ⟨a, s, List.mem_singleton.mpr rfl, g, Γ⟩
  · cases hl
theorem bools_ok {k : AV} {l : List Bool} {d : D} (h : boolsA k = some l) (g : G P B k d) : ∃ b, d = .bool b ∧ b ∈ l := by
  obtain ⟨a, h1, h2⟩ := spl_ok g
  obtain ⟨r, h3, h4⟩ := allM_ok h h1
  unfold boolsA1 at h3
  split at h3
  · cases h3; rw [G] at h2; exact ⟨_, h2, h4 _ (List.mem_singleton.mpr rfl)⟩
  · cases h3; rw [G] at h2; obtain ⟨b, rfl⟩ := h2; exact ⟨b, rfl, h4 _ (by cases b <;> simp)⟩
  · cases h3
theorem br_ok {α β : Type} {V : Slots → α → β → Prop} {k : AV} {f : Bool → AR α} {d : D} {r : R β} (g : G P B k d) (h : ∀ b, d = .bool b → Sat P B V (f b) r) : Sat P B V (brM k f) r := by
  intro l hl
  unfold brM at hl
  cases e : boolsA k with
  | none => rw [e] at hl; cases hl
  | some q =>
    rw [e] at hl
    obtain ⟨b, rfl, m⟩ := bools_ok e g
    obtain ⟨z, h1, h2⟩ := allM_ok hl m
    exact satL_mono (h b rfl z h1) h2
theorem truth1_ok {a : AV} {l : List Bool} {d : D} (h : truthA1 a = some l) (g : G P B a d) : ∃ b, truthD d = some b ∧ b ∈ l := by
  have two : ∀ b : Bool, b ∈ [true, false] := fun b => by cases b <;> simp
  have sq : ∀ {m : Nat}, (∀ x, d ≠ .str x) → seqLen d = some m → truthD d = some (m != 0) := fun {m} hs e => by
    cases d with
    | list xs => cases e; cases xs <;> rfl
    | tuple xs => cases e; cases xs <;> rfl
    | str x => exact absurd rfl (hs x)
    | _ => cases e
  unfold truthA1 at h
  split at h
  · rw [G] at g; subst g
    cases e : truthD d with
    | none => rw [e] at h; cases h
    | some b => rw [e] at h; cases h; exact ⟨b, rfl, List.mem_singleton.mpr rfl⟩
  · cases h; rw [G] at g; obtain ⟨b, rfl⟩ := g; exact ⟨b, rfl, two b⟩
  · rw [G] at g
    obtain ⟨i, rfl, i1, i2⟩ := g
    refine ⟨i != 0, rfl, ?_⟩
    split at h
    · rename_i c
      cases h
      have : (i != 0) = true := by simp; omega
      rw [this]; exact List.mem_singleton.mpr rfl
    · cases h; exact two _
  · split at h
    · rename_i p e
      obtain ⟨m, m1, m2, m3, _⟩ := viewQ_ok e g
      have hs : ∀ x, d ≠ .str x := fun x hx => by
        subst hx
        unfold viewQ at e
        split at e
        · rename_i e'; obtain ⟨_, z, _⟩ := tv_ok e' g; cases z
        · obtain ⟨_, z, _⟩ := lv_ok e g; cases z
      refine ⟨m != 0, sq hs m1, ?_⟩
      split at h
      · rename_i c
        cases h
        have : (m != 0) = true := by simp; omega
        rw [this]; exact List.mem_singleton.mpr rfl
      · cases h; exact two _
    · split at h
      · rename_i p e
        split at h
        · rename_i hl
          obtain ⟨x, rfl, g1⟩ := sv_ok e g
          simp only [strB, Bool.and_eq_true, decide_eq_true_eq] at g1
          refine ⟨x.length != 0, if_pos (lim_ok (by omega)), ?_⟩
          split at h
          · rename_i c
            cases h
            have : (x.length != 0) = true := by simp; omega
            rw [this]; exact List.mem_singleton.mpr rfl
          · cases h; exact two _
        · cases h
      · cases h
theorem manyB_ok {a : AV} {d : D} (Γ : Gam P B s ρ) (g : G P B a d) : Sat P B VT (manyB (truthA a) s) (opt (truthD d) ρ) := by
  intro l hl
  unfold manyB at hl
  cases e : truthA a with
  | none => rw [e] at hl; cases hl
  | some q =>
    rw [e] at hl
    cases hl
    obtain ⟨x, h1, h2⟩ := spl_ok g
    obtain ⟨r, h3, h4⟩ := allM_ok e h1
    obtain ⟨b, h5, h6⟩ := truth1_ok h3 h2
    rw [h5]
    exact ⟨b, s, List.mem_map_of_mem (h4 _ h6), rfl, Γ⟩
theorem neg_ok : S1 P B aNeg (fun x => match x with | .int i => some (.int (-i)) | _ => none) := by
  intro a d l h g
  unfold aNeg at h
  split at h
  · rw [G] at g; subst g; cases h; exact ⟨_, rfl, _, List.mem_singleton.mpr rfl, by rw [G]⟩
  · split at h
    · rename_i p e
      obtain ⟨i, rfl, i1, i2⟩ := iv_ok e g
      cases h
      exact ⟨_, rfl, _, List.mem_singleton.mpr rfl, by rw [G]; exact ⟨_, rfl, by omega, by omega⟩⟩
    · cases h
theorem not_ok : S1 P B aNot (fun x => match x with | .bool b => some (.bool (!b)) | _ => none) := by
  intro a d l h g
  unfold aNot at h
  cases e : boolsA1 a with
  | none => rw [e] at h; cases h
  | some q =>
    rw [e] at h; cases h
    unfold boolsA1 at e
    split at e
    · rw [G] at g; subst g; cases e; exact ⟨_, rfl, _, List.mem_singleton.mpr rfl, g_bl _⟩
    · rw [G] at g; obtain ⟨b, rfl⟩ := g; cases e
      exact ⟨_, rfl, bl (!b), by cases b <;> simp, g_bl _⟩
    · cases e
theorem vj_ok {a : C} {j : Nat} (h : vj a = some j) : (a = .var j ∨ a = .own j) := by
  cases a <;> first | (cases h; done) | (cases h; first | exact .inl rfl | exact .inr rfl)
theorem vj_den {T : Tab} {a : C} {j : Nat} (h : vj a = some j) : denE T ct a ρ = opt (Z.get ρ j) ρ := by
  rcases vj_ok h with rfl | rfl <;> rw [denE]
theorem vj_fix {a : C} {j : Nat} {d : D} (h : vj a = some j) (hg : Z.get ρ j = some d) : fixD a d ρ = d := by
  rcases vj_ok h with rfl | rfl
  · rfl
  · show (Z.get ρ j).getD d = d
    rw [hg]; rfl
theorem isLen_den {T : Tab} {e : C} {j : Nat} {d : D} (h : isLen e = some j) (hg : Z.get ρ j = some d) : denE T ct e ρ = opt (bLen d) ρ ∧ isOwn e = none ∧ ∀ z, e ≠ .star z := by
  unfold isLen at h
  split at h
  · cases h
    refine ⟨?_, rfl, fun z hz => by cases hz⟩
    rw [denE]
    have : denL T ct (.cons (.var j) .nil) ρ = .ok [d] ρ := by
      rw [denL_cons (by intro a h; cases h)]
      simp only [denE, hg, opt, R.bind, denL]
    rw [this]; rfl
  · cases h
    refine ⟨?_, rfl, fun z hz => by cases hz⟩
    rw [denE]
    have : denL T ct (.cons (.own j) .nil) ρ = .ok [d] ρ := by
      rw [denL_cons (by intro a h; cases h)]
      simp only [denE, hg, opt, R.bind, denL]
    rw [this]
    show opt (bLen ((Z.get ρ j).getD d)) ρ = _
    rw [hg]; rfl
  · cases h
theorem pick_ok (hB : B + K.cost ≤ LIM) (hd : DrawOk ct K.draw) (Γ : Gam P B s ρ) {f : Nat} {l : C} {q : Nat × Nat} {r : AV × AS} (h1 : pickC K f l = some q) (h2 : pickA K q s = some r) :
    ∃ (n : Int) (m : Nat) (d : D) (ρ' : Slots), denE K.T ct (.call f l) ρ = .ok (.int n) ρ' ∧ Gam P B r.2 ρ' ∧ Z.get ρ q.2 = some d ∧ Z.get ρ' q.2 = some d ∧ seqLen d = some m ∧ 0 ≤ n ∧ n < m ∧ ∃ z, ixD d (.int n) = some z ∧ G P B r.1 z := by
  unfold pickC at h1
  split at h1
  · rename_i w e
    split at h1
    · rename_i hf
      subst hf
      cases ej : isLen e with
      | none => rw [ej] at h1; cases h1
      | some j =>
        rw [ej] at h1
        have h1 : (if j = w then none else some (w, j)) = some q := h1
        split at h1
        · cases h1
        · rename_i hjw
          cases h1
          unfold pickA at h2
          split at h2
          · rename_i u a hw ha
            cases ev : viewQ a with
            | none => rw [ev] at h2; cases h2
            | some p =>
              rw [ev] at h2
              have h2 : (if 1 ≤ p.2.1 ∧ p.2.2 ≤ lim ∧ u + 1 ≤ K.cost ∧ isIdx a = false ∧ isTop a = false then some (p.1, setS s w (.well (u + 1))) else none) = some r := h2
              split at h2
              · rename_i hc
                cases h2
                obtain ⟨c1, c2, c3, c4, c5⟩ := hc
                obtain ⟨d, hgd, ga⟩ := gsl_g (Γ.at' j a ha) (not_idx c4) (not_top c5)
                obtain ⟨wd, hgw, gw⟩ := Γ.at' w _ hw
                rw [G] at gw
                obtain ⟨w0, w1, w2, rfl, a0, a1, a2, a3, a4⟩ := gw
                obtain ⟨m, m1, m2, m3, m4, m5⟩ := viewQ_ok ev ga
                have hm : (m : Int) ≤ 10 ^ 60 := by
                  have : m ≤ 1000000 := Nat.le_trans m3 c2
                  omega
                obtain ⟨n, w0', w2', n0, n1, b0, b2, b3, hct⟩ := hd w0 w1 w2 m (B + u) a0 a1 a2 a3 (by simpa using a4) (by omega) (by omega) hm
                obtain ⟨i1, i2, i3⟩ := isLen_den (ct := ct) (T := K.T) ej hgd
                have hl : denL K.T ct (.cons (.own w) (.cons e .nil)) ρ = .ok [wl w0 w1 w2, .int (m : Nat)] ρ := by
                  rw [denL_cons (by intro a h; cases h)]
                  have : denL K.T ct (.cons e .nil) ρ = .ok [.int (m : Nat)] ρ := by
                    rw [denL_cons i3]
                    simp only [i1, m4, opt, R.bind, denL]
                  simp only [denE, hgw, opt, R.bind, this]
                have hfill : fillD ρ (.cons (.own w) (.cons e .nil)) [wl w0 w1 w2, .int (m : Nat)] = some [wl w0 w1 w2, .int (m : Nat)] := by
                  simp [fillD, show isOwn (.own w) = some w from rfl, i2, hgw]
                have how : Z.ownsOf (.cons (.own w) (.cons e .nil)) = [w] := by
                  simp [Z.ownsOf, show isOwn (.own w) = some w from rfl, i2]
                have hden : denE K.T ct (.call K.draw (.cons (.own w) (.cons e .nil))) ρ = .ok (.int n) (Z.put ρ w (wl w0' w1 w2')) := by
                  rw [denE, hl]
                  show callR ct K.draw _ _ ρ = _
                  unfold callR
                  rw [hfill]
                  simp only [hct, how]
                  rfl
                obtain ⟨z, z1, z2⟩ := m5 n n0 n1
                refine ⟨n, m, d, _, hden, ?_, hgd, ?_, m1, n0, n1, z, z1, z2⟩
                · show Gam P B (setS s w (.well (u + 1))) (Z.put ρ w (wl w0' w1 w2'))
                  refine setS_ok Γ (g_gsl ?_)
                  rw [G]
                  exact ⟨w0', w1, w2', rfl, b0, a1, a2, b2, by omega⟩
                · show Z.get (ρ.set w _) j = _
                  rw [get_set_ne hjw]; exact hgd
              · cases h2
          · cases h2
    · cases h1
  · cases h1
theorem callSpec_ok (hB : B + K.cost ≤ LIM) (hd : DrawOk ct K.draw) (Γ : Gam P B s ρ) {f : Nat} {l : C} {r : AR AV} (h : callSpec K f l s = some r) : Sat P B (VE P B) r (denE K.T ct (.call f l) ρ) := by
  unfold callSpec at h
  cases e1 : pickC K f l with
  | none => rw [e1] at h; cases h
  | some q =>
    rw [e1] at h
    cases e2 : pickA K q s with
    | none => simp only [Option.bind_some, e2] at h; cases h
    | some t =>
      simp only [Option.bind_some, e2] at h
      cases h
      obtain ⟨n, m, d, ρ', h1, h2, h3, h4, h5, h6, h7, _⟩ := pick_ok hB hd Γ e1 e2
      rw [h1]
      exact sat_ok ⟨n, m, rfl, by rw [h4]; exact h5, h6, h7⟩ h2
theorem ixSpec_ok (hB : B + K.cost ≤ LIM) (hd : DrawOk ct K.draw) (Γ : Gam P B s ρ) {a i : C} {r : AR AV} (h : ixSpec K a i s = some r) : Sat P B (VE P B) r (denE K.T ct (.ix a i) ρ) := by
  unfold ixSpec at h
  cases e0 : vj a with
  | none => rw [e0] at h; cases h
  | some j =>
    rw [e0] at h
    simp only [Option.bind_some] at h
    split at h
    · rename_i k
      unfold ixVar at h
      split at h
      · rename_i j' b hk hb
        split at h
        · rename_i hc
          obtain ⟨rfl, c1, c2⟩ := hc
          cases ev : viewQ b with
          | none => rw [ev] at h; cases h
          | some p =>
            rw [ev] at h
            cases h
            obtain ⟨d, hgd, gb⟩ := gsl_g (Γ.at' j b hb) (not_idx c1) (not_top c2)
            obtain ⟨n, m, hgk, hm, n0, n1⟩ := Γ.at' k _ hk
            rw [hgd] at hm
            obtain ⟨m', q1, q2, q3, q4, q5⟩ := viewQ_ok ev gb
            rw [show (some d).bind seqLen = seqLen d from rfl, q1] at hm
            cases hm
            obtain ⟨z, z1, z2⟩ := q5 n n0 n1
            rw [denE, vj_den e0, hgd]
            show Sat P B (VE P B) _ ((denE K.T ct (.var k) ρ).bind _)
            rw [denE, hgk]
            show Sat P B (VE P B) _ (opt (ixD (fixD a d ρ) (.int n)) ρ)
            rw [vj_fix e0 hgd, z1]
            exact sat_ok (g_gsl z2) Γ
        · cases h
      · cases h
    · rename_i f l
      cases e1 : pickC K f l with
      | none => rw [e1] at h; cases h
      | some q =>
        rw [e1] at h
        simp only [Option.bind_some] at h
        split at h
        · rename_i hq
          cases e2 : pickA K q s with
          | none => rw [e2] at h; cases h
          | some t =>
            rw [e2] at h
            cases h
            obtain ⟨n, m, d, ρ', h1, h2, h3, h4, h5, h6, h7, z, z1, z2⟩ := pick_ok hB hd Γ e1 e2
            rw [hq] at h3 h4
            rw [denE, vj_den e0, h3]
            show Sat P B (VE P B) _ ((denE K.T ct (.call f l) ρ).bind _)
            rw [h1]
            show Sat P B (VE P B) _ (opt (ixD (fixD a d ρ') (.int n)) ρ')
            rw [vj_fix e0 h4, z1]
            exact sat_ok (g_gsl z2) h2
        · cases h
    · cases h
end
end A

set_option Elab.async false
set_option linter.all false
set_option maxRecDepth 100000
set_option maxHeartbeats 1000000
/-! A9: expressions are told rightly -/
namespace A
open PySem Z
section
variable {P : Nat → D → Prop} {B : Nat} {s : AS} {ρ : Slots} {K : ACx} {ct : CT}
def EOk (P : Nat → D → Prop) (B : Nat) (K : ACx) (ct : CT) (e : C) : Prop := ∀ s ρ, Gam P B s ρ → Sat P B (VE P B) (aE K e s) (denE K.T ct e ρ)
def TOk (P : Nat → D → Prop) (B : Nat) (K : ACx) (ct : CT) (e : C) : Prop := ∀ s ρ, Gam P B s ρ → Sat P B VT (aT K e s) (denT K.T ct e ρ)
def LOk (P : Nat → D → Prop) (B : Nat) (K : ACx) (ct : CT) (e : C) : Prop := ∀ s ρ, Gam P B s ρ → Sat P B (VL P B) (aL K e s) (denL K.T ct e ρ)
theorem sat_iff {α β : Type} {V : Slots → α → β → Prop} {x : AR α} {r : R β} {c : Prop} [Decidable c] (h : c → Sat P B V x r) : Sat P B V (if c then x else none) r := by
  split
  · rename_i k; exact h k
  · exact sat_none
theorem lim_if {α β : Type} {V : Slots → α → β → Prop} {x : AR α} {n m : Nat} {d : β} {ρ : Slots} (hm : m = n) (h : Sat P B V x (.ok d ρ)) : Sat P B V (if n ≤ lim then x else none) (if m ≤ sizeLine then R.ok d ρ else .bad) := by
  split
  · rename_i k; rw [if_pos (by rw [hm]; exact lim_ok k)]; exact h
  · exact sat_none
theorem turn_ok {vs : List Nat} {p c e : C} (ht : TOk P B K ct c) (he : EOk P B K ct e) : TurnOk P B (turnA vs p (aT K c) (aE K e)) (turnD vs p (denT K.T ct c) (denE K.T ct e)) := by
  intro x d s ρ out gx Γ h
  unfold turnA at h
  cases e1 : bindA p x s with
  | none => rw [e1] at h; cases h
  | some s3 =>
    rw [e1] at h
    have h : (aT K c s3).bind (fun l => allM (turnT vs (aE K e)) l) = some out := h
    obtain ⟨ρ3, b1, b2⟩ := bindA_ok Γ gx e1
    unfold turnD
    rw [b1]
    cases e2 : aT K c s3 with
    | none => rw [e2] at h; cases h
    | some l =>
      rw [e2] at h
      have h : allM (turnT vs (aE K e)) l = some out := h
      have t := ht s3 ρ3 b2 l e2
      dsimp only
      cases e3 : denT K.T ct c ρ3 with
      | bad => rw [e3] at t; exact t.elim
      | exn c' ρ4 =>
        rw [e3] at t
        obtain ⟨s4, m, _⟩ := t
        obtain ⟨r, h1, _⟩ := allM_ok h m
        cases h1
      | ok k ρ4 =>
        rw [e3] at t
        obtain ⟨k', s4, m, rfl, g4⟩ := t
        obtain ⟨r, h1, h2⟩ := allM_ok h m
        cases k' with
        | false =>
          cases h1
          exact .inr ⟨_, rfl, _, h2 _ (List.mem_singleton.mpr rfl), wipe_ok g4 vs⟩
        | true =>
          have h1 : (aE K e s4).bind (fun l => allM (turnE vs) l) = some r := h1
          cases e4 : aE K e s4 with
          | none => rw [e4] at h1; cases h1
          | some l2 =>
            rw [e4] at h1
            have h1 : allM (turnE vs) l2 = some r := h1
            have u := he s4 ρ4 g4 l2 e4
            simp only [if_pos]
            cases e5 : denE K.T ct e ρ4 with
            | bad => rw [e5] at u; exact u.elim
            | exn c' ρ5 =>
              rw [e5] at u
              obtain ⟨s5, m5, _⟩ := u
              obtain ⟨r', q1, _⟩ := allM_ok h1 m5
              cases q1
            | ok y ρ5 =>
              rw [e5] at u
              obtain ⟨v, s5, m5, gv, g5⟩ := u
              obtain ⟨r', q1, q2⟩ := allM_ok h1 m5
              cases q1
              exact .inl ⟨y, _, rfl, _, _, h2 _ (q2 _ (List.mem_singleton.mpr rfl)), deg_ok g5 gv, wipe_ok g5 vs⟩
theorem lcA_ok {f : AV → AS → Option (List (Option AV × AS))} {fc : D → Slots → R (Option D)} (hf : TurnOk P B f fc) {vs : List Nat} {s1 : AS} {ρ1 : Slots} {x : AV} {d : D} (Γ : Gam P B s1 ρ1) (g : G P B x d) :
    Sat P B (VE P B) (lcA f vs s1 x) ((opt (items d) ρ1).bind fun xs ρ2 => match comps (fun _ => true) fc xs (wipeD ρ2 vs) with
      | .ok ys ρ6 => if ys.length ≤ sizeLine then .ok (.list ys) (backD ρ2 ρ6 vs) else .bad
      | _ => .bad) := by
  intro l hl
  have w := wipe_ok Γ vs
  have g0 : G P B (.lst []) (.list []) := by rw [G]; exact ⟨[], rfl, by simp [Gs]⟩
  have fin : ∀ {out : List QC} {q : QC} {ys : List D} {ρ6 : Slots}, allM (finC s1 vs) out = some l → q ∈ out → G P B q.1 (.list ([] ++ ys)) → Gam P B q.2 ρ6 →
      SatL P B (VE P B) l (if ys.length ≤ sizeLine then R.ok (PyData.list ys) (backD ρ1 ρ6 vs) else .bad) := fun {out q ys ρ6} h m gq Γq => by
    obtain ⟨r, h1, h2⟩ := allM_ok h m
    unfold finC at h1
    split at h1
    · rename_i p e
      split at h1
      · rename_i c
        cases h1
        obtain ⟨ds, hds, _, k2, _⟩ := lv_ok e gq
        rw [List.nil_append] at hds gq
        cases hds
        rw [if_pos (lim_ok (by omega))]
        exact ⟨_, _, h2 _ (List.mem_singleton.mpr rfl), g_gsl gq, back_ok Γ Γq vs⟩
      · cases h1
    · cases h1
  unfold lcA at hl
  split at hl
  · rename_i xs e
    obtain ⟨ds, hi, gi⟩ := (items_ok g).1 xs e
    rw [hi]
    cases e1 : compL f xs [(.lst [], wipeS s1 vs)] with
    | none => rw [e1] at hl; cases hl
    | some out =>
      rw [e1] at hl
      obtain ⟨ys, ρ6, c1, q, c2, c3, c4⟩ := compL_ok hf e1 gi (List.mem_singleton.mpr rfl) g0 w
      show SatL P B (VE P B) l (match comps (fun _ => true) fc ds (wipeD ρ1 vs) with | .ok ys ρ6 => _ | _ => R.bad)
      rw [c1]
      exact fin hl c2 c3 c4
  · rename_i q e
    obtain ⟨ds, hi, i1, i2, gi⟩ := (items_ok g).2 q e
    rw [hi]
    cases e1 : compU f q.1 q.2.1 q.2.2 [(.lst [], wipeS s1 vs)] with
    | none => rw [e1] at hl; cases hl
    | some out =>
      rw [e1] at hl
      obtain ⟨ys, ρ6, c1, t, c2, c3, c4⟩ := compU_ok hf e1 i1 i2 gi (List.mem_singleton.mpr rfl) g0 w
      show SatL P B (VE P B) l (match comps (fun _ => true) fc ds (wipeD ρ1 vs) with | .ok ys ρ6 => _ | _ => R.bad)
      rw [c1]
      exact fin hl c2 c3 c4
  · cases hl
/-- behind a truth value -/
def onB (F : Bool → Slots → R D) : D → Slots → R D
  | .bool k, ρ => F k ρ
  | _, _ => .bad
theorem r_assoc {α β γ : Type} {x : R α} {f : α → Slots → R β} {g : β → Slots → R γ} : (x.bind f).bind g = x.bind fun a ρ => (f a ρ).bind g := by cases x <;> rfl
theorem permA_none {a : C} (h : isStar a = false) : ∀ z, a ≠ .star z := fun z e => by subst e; cases h
theorem a_ok (hB : B + K.cost ≤ LIM) (hd : DrawOk ct K.draw) (ht : ∀ C ∈ K.tbl, CtrOk P ct C) : ∀ e : C, EOk P B K ct e ∧ TOk P B K ct e ∧ LOk P B K ct e := by
  have dV : ∀ {s : AS} {ρ : Slots} {x : AV} {d : D}, Gam P B s ρ → VE P B ρ x d → G P B (deg s x) d := fun Γ v => deg_ok Γ v
  have br : ∀ {α : Type} {b : Bool} {d : D}, (PyData.bool b = d) → True := fun _ => trivial
  intro e
  induction e with
  | non => exact ⟨fun s ρ Γ => sat_ok (g_gsl (by rw [G])) Γ, fun s ρ Γ => sat_none, fun s ρ Γ => sat_none⟩
  | bl b => exact ⟨fun s ρ Γ => sat_ok (g_gsl (g_bl b)) Γ, fun s ρ Γ => sat_none, fun s ρ Γ => sat_none⟩
  | int i => exact ⟨fun s ρ Γ => sat_ok (g_gsl (by rw [G])) Γ, fun s ρ Γ => sat_none, fun s ρ Γ => sat_none⟩
  | str x => exact ⟨fun s ρ Γ => sat_ok (g_gsl (by rw [G])) Γ, fun s ρ Γ => sat_none, fun s ρ Γ => sat_none⟩
  | dic0 => exact ⟨fun s ρ Γ => sat_ok (g_gsl (by rw [G])) Γ, fun s ρ Γ => sat_none, fun s ρ Γ => sat_none⟩
  | nil => exact ⟨fun s ρ Γ => sat_none, fun s ρ Γ => sat_none, fun s ρ Γ => sat_ok (by show Gs P B [] []; simp [Gs]) Γ⟩
  | glob x =>
    refine ⟨fun s ρ Γ => ?_, fun s ρ Γ => sat_none, fun s ρ Γ => sat_none⟩
    rw [aE, denE]
    cases K.T.gv x with
    | none => exact sat_none
    | some d => exact sat_ok (g_gsl (by rw [G])) Γ
  | var i => exact ⟨fun s ρ Γ => by rw [aE, denE]; exact rd_ok Γ i, fun s ρ Γ => sat_none, fun s ρ Γ => sat_none⟩
  | own i => exact ⟨fun s ρ Γ => by rw [aE, denE]; exact rd_ok Γ i, fun s ρ Γ => sat_none, fun s ρ Γ => sat_none⟩
  | op o a b ia ib =>
    refine ⟨fun s ρ Γ => ?_, fun s ρ Γ => sat_none, fun s ρ Γ => sat_none⟩
    rw [aE, denE]
    refine sat_bind (ia.1 s ρ Γ) fun x s1 d ρ1 v1 Γ1 => sat_bind (ib.1 s1 ρ1 Γ1) fun y s2 e ρ2 v2 Γ2 => ?_
    exact many_ok Γ2 fun l h => lift2_ok (aOp_ok o) _ _ _ _ l h (fix_ok Γ2 (deg_ok Γ1 v1)) (fix_ok Γ2 (deg_ok Γ2 v2))
  | neg a ia =>
    refine ⟨fun s ρ Γ => ?_, fun s ρ Γ => sat_none, fun s ρ Γ => sat_none⟩
    rw [aE, denE]
    exact sat_bind (ia.1 s ρ Γ) fun x s1 d ρ1 v1 Γ1 => many_ok Γ1 fun l h => lift1_ok neg_ok _ _ l h (deg_ok Γ1 v1)
  | cmp o a b ia ib =>
    refine ⟨fun s ρ Γ => ?_, fun s ρ Γ => sat_none, fun s ρ Γ => sat_none⟩
    rw [aE, denE]
    refine sat_bind (ia.1 s ρ Γ) fun x s1 d ρ1 v1 Γ1 => sat_bind (ib.1 s1 ρ1 Γ1) fun y s2 e ρ2 v2 Γ2 => ?_
    exact many_ok Γ2 fun l h => lift2_ok (aCmp_ok o) _ _ _ _ l h (fix_ok Γ2 (deg_ok Γ1 v1)) (fix_ok Γ2 (deg_ok Γ2 v2))
  | chain o o' a b c ia ib ic =>
    refine ⟨fun s ρ Γ => ?_, fun s ρ Γ => sat_none, fun s ρ Γ => sat_none⟩
    rw [aE, denE]
    refine sat_bind (ia.1 s ρ Γ) fun x s1 d ρ1 v1 Γ1 => sat_bind (ib.1 s1 ρ1 Γ1) fun y s2 e ρ2 v2 Γ2 => ?_
    have gx := deg_ok Γ1 v1
    have gy := deg_ok Γ2 v2
    have h1 : Sat P B (VE P B) (many (lift2 (aCmp o) (deg s1 x) (deg s2 y)) s2) (opt (cB (cmpD o) d e) ρ2) := many_ok Γ2 fun l h => lift2_ok (aCmp_ok o) _ _ _ _ l h gx gy
    have h2 : ∀ (F : Bool → Slots → R D), (opt (cmpD o d e) ρ2).bind F = (opt (cB (cmpD o) d e) ρ2).bind (onB F) := fun F => by
      unfold cB
      cases cmpD o d e <;> rfl
    rw [h2]
    refine sat_bind h1 fun k s3 kd ρ3 v3 Γ3 => ?_
    have gk : G P B (deg s3 k) kd := deg_ok Γ3 v3
    cases hkk : k with
    | idx j => exact fun l hl => by simp [brM, boolsA, spl, boolsA1, allM] at hl
    | top => exact fun l hl => by simp [brM, boolsA, spl, boolsA1, allM] at hl
    | _ =>
      rw [← hkk]
      have ek : deg s3 k = k := by rw [hkk]; rfl
      rw [ek] at gk
      refine br_ok gk fun b hb => ?_
      subst hb
      cases b with
      | true => exact sat_bind (ic.1 s3 ρ3 Γ3) fun z s4 f ρ4 v4 Γ4 => many_ok Γ4 fun l h => lift2_ok (aCmp_ok o') _ _ _ _ l h gy (deg_ok Γ4 v4)
      | false => exact sat_ok (g_gsl (g_bl _)) Γ3
  | not a ia =>
    refine ⟨fun s ρ Γ => ?_, fun s ρ Γ => ?_, fun s ρ Γ => sat_none⟩
    · rw [aE, denE]
      exact sat_bind (ia.1 s ρ Γ) fun x s1 d ρ1 v1 Γ1 => many_ok Γ1 fun l h => lift1_ok not_ok _ _ l h (deg_ok Γ1 v1)
    · rw [aT, denT]
      exact sat_bind (ia.2.1 s ρ Γ) fun k s1 d ρ1 v1 Γ1 => by cases v1; exact sat_ok rfl Γ1
  | and a b ia ib =>
    refine ⟨fun s ρ Γ => ?_, fun s ρ Γ => ?_, fun s ρ Γ => sat_none⟩
    · rw [aE, denE]
      refine sat_bind (ia.1 s ρ Γ) fun x s1 d ρ1 v1 Γ1 => br_ok (deg_ok Γ1 v1) fun t ht => ?_
      subst ht
      cases t with
      | true => exact ib.1 s1 ρ1 Γ1
      | false => exact sat_ok (g_gsl (g_bl _)) Γ1
    · rw [aT, denT]
      refine sat_bind (ia.2.1 s ρ Γ) fun k s1 d ρ1 v1 Γ1 => ?_
      cases v1
      cases k with
      | true => exact ib.2.1 s1 ρ1 Γ1
      | false => exact sat_ok rfl Γ1
  | or a b ia ib =>
    refine ⟨fun s ρ Γ => ?_, fun s ρ Γ => ?_, fun s ρ Γ => sat_none⟩
    · rw [aE, denE]
      refine sat_bind (ia.1 s ρ Γ) fun x s1 d ρ1 v1 Γ1 => br_ok (deg_ok Γ1 v1) fun t ht => ?_
      subst ht
      cases t with
      | false => exact ib.1 s1 ρ1 Γ1
      | true => exact sat_ok (g_gsl (g_bl _)) Γ1
    · rw [aT, denT]
      refine sat_bind (ia.2.1 s ρ Γ) fun k s1 d ρ1 v1 Γ1 => ?_
      cases v1
      cases k with
      | false => exact ib.2.1 s1 ρ1 Γ1
      | true => exact sat_ok rfl Γ1
  | ite c a b ic ia ib =>
    refine ⟨fun s ρ Γ => ?_, fun s ρ Γ => sat_none, fun s ρ Γ => sat_none⟩
    rw [aE, denE]
    refine sat_bind (ic.2.1 s ρ Γ) fun k s1 d ρ1 v1 Γ1 => ?_
    cases v1
    cases k with
    | true => exact ia.1 s1 ρ1 Γ1
    | false => exact ib.1 s1 ρ1 Γ1
  | tup l il =>
    refine ⟨fun s ρ Γ => ?_, fun s ρ Γ => sat_none, fun s ρ Γ => sat_none⟩
    rw [aE, denE]
    exact sat_bind (il.2.2 s ρ Γ) fun xs s1 ds ρ1 v1 Γ1 => lim_if (gs_len v1).symm (sat_ok (g_gsl (by rw [G]; exact ⟨ds, rfl, v1⟩)) Γ1)
  | lst l il =>
    refine ⟨fun s ρ Γ => ?_, fun s ρ Γ => sat_none, fun s ρ Γ => sat_none⟩
    rw [aE, denE]
    exact sat_bind (il.2.2 s ρ Γ) fun xs s1 ds ρ1 v1 Γ1 => lim_if (gs_len v1).symm (sat_ok (g_gsl (by rw [G]; exact ⟨ds, rfl, v1⟩)) Γ1)
  | cons a r ia ir =>
    refine ⟨fun s ρ Γ => sat_none, fun s ρ Γ => sat_none, fun s ρ Γ => ?_⟩
    rw [aL]
    cases hs : isStar a with
    | true => exact sat_none
    | false =>
      rw [denL_cons (permA_none hs), if_neg Bool.false_ne_true]
      exact sat_bind (ia.1 s ρ Γ) fun x s1 d ρ1 v1 Γ1 => sat_bind (ir.2.2 s1 ρ1 Γ1) fun xs s2 ds ρ2 v2 Γ2 => sat_ok (by show Gs P B (deg s1 x :: xs) (d :: ds); rw [Gs]; exact ⟨deg_ok Γ1 v1, v2⟩) Γ2
  | ix a i ia ii =>
    refine ⟨fun s ρ Γ => ?_, fun s ρ Γ => sat_none, fun s ρ Γ => sat_none⟩
    rw [aE]
    split
    · rename_i r e; exact ixSpec_ok hB hd Γ e
    · rw [denE]
      refine sat_bind (ia.1 s ρ Γ) fun x s1 d ρ1 v1 Γ1 => sat_bind (ii.1 s1 ρ1 Γ1) fun y s2 e ρ2 v2 Γ2 => ?_
      exact many_ok Γ2 fun l h => lift2_ok aIx_ok _ _ _ _ l h (fix_ok Γ2 (deg_ok Γ1 v1)) (deg_ok Γ2 v2)
  | sl a lo hi ia il ih =>
    refine ⟨fun s ρ Γ => ?_, fun s ρ Γ => sat_none, fun s ρ Γ => sat_none⟩
    rw [aE, denE]
    refine sat_bind (ia.1 s ρ Γ) fun x s1 d ρ1 v1 Γ1 => sat_bind (il.1 s1 ρ1 Γ1) fun y s2 e ρ2 v2 Γ2 => sat_bind (ih.1 s2 ρ2 Γ2) fun z s3 f ρ3 v3 Γ3 => ?_
    refine many_ok Γ3 fun l h => ?_
    obtain ⟨c, c1, c2⟩ := spl_ok (fix_ok (c := a) Γ3 (deg_ok Γ1 v1))
    obtain ⟨b, b1, b2⟩ := spl_ok (deg_ok Γ2 v2)
    obtain ⟨t, t1, t2⟩ := spl_ok (deg_ok Γ3 v3)
    obtain ⟨r, h1, h2⟩ := allM_ok h c1
    obtain ⟨r', h3, h4⟩ := allM_ok h1 b1
    obtain ⟨r'', h5, h6⟩ := allM_ok h3 t1
    obtain ⟨w, w1, u, w2, w3⟩ := aSl_ok h5 c2 b2 t2
    exact ⟨w, w1, u, h2 _ (h4 _ (h6 _ w2)), w3⟩
  | call f l il =>
    refine ⟨fun s ρ Γ => ?_, fun s ρ Γ => sat_none, fun s ρ Γ => sat_none⟩
    rw [aE]
    split
    · rename_i r e; exact callSpec_ok hB hd Γ e
    · rw [denE]
      refine sat_bind (il.2.2 s ρ Γ) fun xs s1 ds ρ1 v1 Γ1 => ?_
      intro q hq
      cases e : fillA s1 l xs with
      | none => rw [e] at hq; cases hq
      | some vs =>
        rw [e] at hq
        obtain ⟨ws, f1, f2⟩ := fill_ok Γ1 v1 e
        have := callA_ok hB hd ht (f := f) (owns := Z.ownsOf l) Γ1 f2 q hq
        unfold callR
        rw [f1]
        exact this
  | bi b l il =>
    refine ⟨fun s ρ Γ => ?_, fun s ρ Γ => sat_none, fun s ρ Γ => sat_none⟩
    rw [aE, denE]
    exact sat_bind (il.2.2 s ρ Γ) fun xs s1 ds ρ1 v1 Γ1 => many_ok Γ1 fun q h => aBi_ok h (fixL_ok Γ1 v1)
  | me m a l ia il =>
    refine ⟨fun s ρ Γ => ?_, fun s ρ Γ => sat_none, fun s ρ Γ => sat_none⟩
    rw [aE, denE]
    refine sat_bind (ia.1 s ρ Γ) fun x s1 d ρ1 v1 Γ1 => ?_
    refine sat_iff fun hc => ?_
    obtain ⟨rfl, hc⟩ := hc
    obtain ⟨c, c1, c2⟩ := spl_ok (fix_ok (c := a) Γ1 (deg_ok Γ1 v1))
    have hk := kdA_ok (eq_of_beq (List.all_eq_true.mp hc c c1)) c2
    have hm : meTy .join (fixD a d ρ1) = true := by
      cases hf : fixD a d ρ1 <;> rw [hf] at hk <;> first | (cases hk; done) | rfl
    rw [if_pos hm]
    exact sat_bind (il.2.2 s1 ρ1 Γ1) fun xs s2 ds ρ2 v2 Γ2 => many_ok Γ2 fun q h => aMe_ok h (fix_ok Γ2 (deg_ok Γ1 v1)) (fixL_ok Γ2 v2)
  | pop i e ie =>
    refine ⟨fun s ρ Γ => ?_, fun s ρ Γ => sat_none, fun s ρ Γ => sat_none⟩
    rw [aE, denE]
    split
    · rename_i ht
      obtain ⟨d0, hd0⟩ := told_ok Γ ht
      rw [hd0]
      show Sat P B (VE P B) _ (if true = true then _ else _)
      rw [if_pos rfl]
      exact sat_bind (k := fun d ρ1 => popD i ρ1 d (Z.get ρ1 i)) (ie.1 s ρ Γ) fun k s1 d ρ1 v1 Γ1 => pop_ok Γ1 v1
    · exact sat_none
  | isi t a ia =>
    refine ⟨fun s ρ Γ => ?_, fun s ρ Γ => sat_none, fun s ρ Γ => sat_none⟩
    rw [aE, denE]
    refine sat_bind (ia.1 s ρ Γ) fun x s1 d ρ1 v1 Γ1 => many_ok Γ1 fun q h => ?_
    cases h
    obtain ⟨c, c1, c2⟩ := spl_ok (fix_ok (c := a) Γ1 (deg_ok Γ1 v1))
    exact ⟨_, rfl, _, List.mem_map_of_mem c1, aIsi_ok t c2⟩
  | isE i c =>
    refine ⟨fun s ρ Γ => ?_, fun s ρ Γ => sat_none, fun s ρ Γ => sat_none⟩
    rw [aE, denE]
    cases K.T.cur with
    | none => exact sat_none
    | some x =>
      cases h : K.T.sub x c with
      | none => simp only [Option.bind_some, h]; exact sat_none
      | some b => simp only [Option.bind_some, h]; exact sat_ok (g_gsl (g_bl b)) Γ
  | lc vs p it c e ip ii ic ie =>
    refine ⟨fun s ρ Γ => ?_, fun s ρ Γ => sat_none, fun s ρ Γ => sat_none⟩
    rw [aE]
    split
    · exact sat_none
    · rename_i ho
      have ho : isOwn it = none := by
        cases h : isOwn it with
        | none => rfl
        | some _ => rw [h] at ho; exact absurd rfl ho
      rw [denE_lc]
      unfold lcD itsD
      rw [keeps_plain ho]
      rw [r_assoc]
      refine sat_bind (ii.1 s ρ Γ) fun x s1 d ρ1 v1 Γ1 => ?_
      intro q hq
      obtain ⟨y, y1, y2⟩ := spl_ok (deg_ok Γ1 v1)
      obtain ⟨r, h1, h2⟩ := allM_ok hq y1
      exact satL_mono (lcA_ok (turn_ok ic.2.1 ie.1) Γ1 y2 r h1) h2
  | tv a ia =>
    refine ⟨fun s ρ Γ => sat_none, fun s ρ Γ => ?_, fun s ρ Γ => sat_none⟩
    rw [aT, denT]
    exact sat_bind (ia.1 s ρ Γ) fun x s1 d ρ1 v1 Γ1 => manyB_ok Γ1 (fix_ok Γ1 (deg_ok Γ1 v1))
  | _ => exact ⟨fun s ρ Γ => sat_none, fun s ρ Γ => sat_none, fun s ρ Γ => sat_none⟩
end
end A

set_option Elab.async false
set_option linter.all false
set_option maxRecDepth 100000
set_option maxHeartbeats 1000000
/-! Aa: statements and defs on what values can be -/
namespace A
open PySem Z
inductive AOS where
  | nx (s : AS)
  | ret (a : AV) (s : AS)
  | brk (s : AS)
  | cnt (s : AS)
  | exn (c : Nat) (s : AS)
abbrev AOL := Option (List AOS)
def ofO {α : Type} (f : α → AS → AOL) : AO α → AOL
  | .ok a s => f a s
  | .exn c s => some [.exn c s]
def ofR {α : Type} (x : AR α) (f : α → AS → AOL) : AOL := x.bind fun l => allM (ofO f) l
def nxs : List AOS → List AS
  | [] => []
  | .nx s :: r => s :: nxs r
  | _ :: r => nxs r
def restN : List AOS → List AOS
  | [] => []
  | .nx _ :: r => restN r
  | o :: r => o :: restN r
def mergeN (l : List AOS) : List AOS := (mrg (nxs l)).map .nx ++ restN l
def thenO (f : AS → AOL) : AOS → AOL
  | .nx s => f s
  | o => some [o]
def thenS (x : AOL) (f : AS → AOL) : AOL := x.bind fun l => allM (thenO f) (mergeN l)
def nxcs : List AOS → List AS
  | [] => []
  | .nx s :: r => s :: nxcs r
  | .cnt s :: r => s :: nxcs r
  | _ :: r => nxcs r
def outsL : List AOS → List AOS
  | [] => []
  | .brk s :: r => .nx s :: outsL r
  | .ret a s :: r => .ret a s :: outsL r
  | .exn c s :: r => .exn c s :: outsL r
  | _ :: r => outsL r
def loopL (f : AV → AS → AOL) : List AV → AS → AOL
  | [], s => some [.nx s]
  | x :: xs, s => (f x s).bind fun l => (allM (loopL f xs) (mrg (nxcs l))).map fun r => r ++ outsL l
def loopU (f : AV → AS → AOL) (a : AV) : Nat → Nat → AS → AOL
  | _, 0, s => some [.nx s]
  | lo, n + 1, s => (f a s).bind fun l => (allM (loopU f a (lo - 1) n) (mrg (nxcs l))).map fun r => (if lo = 0 then [AOS.nx s] else []) ++ (r ++ outsL l)
def varsC : C → List Nat
  | .var i => [i]
  | .tv a => varsC a
  | .not a => varsC a
  | .and a b => varsC a ++ varsC b
  | .or a b => varsC a ++ varsC b
  | .cmp _ a b => varsC a ++ varsC b
  | .op _ a b => varsC a ++ varsC b
  | .isi _ a => varsC a
  | _ => []
def isLstA (a : AV) : Bool := (spl a).all fun x => kdA x == some .lst
def rngA (a : AV) : Option (List AV ⊕ (AV × Nat × Nat)) := match a with
  | .ex (.int n) => if 0 ≤ n ∧ n ≤ 64 then some (.inl ((rangeD 0 n).map .ex)) else none
  | a => match iv a with
    | some p => if 0 ≤ p.1 ∧ p.2 < 2 ^ 62 then some (.inr (.int 0 (p.2 - 1), p.1.toNat, p.2.toNat)) else none
    | none => none
/-- range(e) -/
def isRng : C → Option C
  | .bi .range (.cons e .nil) => if isStar e || (isOwn e).isSome then none else some e
  | _ => none
def forA (f : AV → AS → AOL) (s : AS) : Option (List AV ⊕ (AV × Nat × Nat)) → AOL
  | some (.inl xs) => loopL f xs s
  | some (.inr q) => loopU f q.1 q.2.1 q.2.2 s
  | none => none
def appA (i : Nat) (s : AS) (a : AV) : AOL := match s[i]? with
  | some b => (match lv b with
    | some p => if p.2.2 < lim ∧ isIdx b = false ∧ isTop b = false then some [.nx (setS s i (push (opn b) a))] else none
    | none => none)
  | none => none
def clrO (i : Nat) : AOS → AOL
  | .nx s => some [.nx (clrS s i)]
  | .ret a s => some [.ret a (clrS s i)]
  | .brk s => some [.brk (clrS s i)]
  | .cnt s => some [.cnt (clrS s i)]
  | .exn _ _ => none
def ACx.at (K : ACx) (x : Nat) : ACx := { K with T := K.T.at x, orc := [] }
def tryO (K : ACx) (c i : Nat) (f : Nat → AS → AOL) : AOS → AOL
  | .exn x s => (match K.T.sub x c with
    | some true => if i < s.length then (f x (clrS s i)).bind fun l => allM (clrO i) l else none
    | some false => some [.exn x s]
    | none => none)
  | o => some [o]
def insA (s : AS) (S : SCtr) : List AV := S.ins.map fun q => (s[q.1]?).getD .top
def clrAll : AS → List Nat → AS
  | s, [] => s
  | s, i :: is => clrAll (clrS s i) is
def wild : Slots → List Nat → List (Option D) → Slots
  | ρ, i :: is, x :: xs => wild (ρ.set i x) is xs
  | ρ, _, _ => ρ
def useS (K : ACx) (s : AS) (S : SCtr) : Bool := decide (s.length = S.n) && (insA s S).all (fun a => !isIdx a && !isTop a) && (((insA s S).zip ((S.ins.map (·.2)).map (sh (wellOf (insA s S))))).all fun q => le q.1 q.2) && (S.ins.map (·.2)).all isW && (S.outs.map (·.2)).all isW && decide (wellOf (insA s S) + S.cost ≤ K.cost)
def stmA (K : ACx) (c : C) (s : AS) : Option AOL := (K.orc.find? fun S => decide (S.c = c) && useS K s S).map fun S => some [.nx (setAll (clrAll s S.clr) (S.outs.map (·.1)) ((S.outs.map (·.2)).map (sh (wellOf (insA s S)))))]
def aS : C → ACx → AS → AOL
  | .nil, _, s => some [.nx s]
  | .cons a r, K, s => thenS (match stmA K a s with | some o => o | none => aS a K s) fun s1 => aS r K s1
  | .sSet i e, K, s => ofR (aE K e s) fun a s1 => some [.nx (setS s1 i a)]
  | .sOwn i e, K, s => ofR (aE K e s) fun a s1 => if isLstA a then some [.nx (setS s1 i a)] else none
  | .sPat p e, K, s => ofR (aE K e s) fun a s1 => (bindA p (deg s1 a) s1).map fun s2 => [.nx s2]
  | .sPar ps l, K, s => ofR (aL K l s) fun xs s1 => if xs.length = ps.length then some [.nx (setAll s1 ps xs)] else none
  | .sApp i e, K, s => if told s i then ofR (aE K e s) fun a s1 => appA i s1 (deg s1 a) else none
  | .sExp e, K, s => ofR (aE K e s) fun _ s1 => some [.nx s1]
  | .sIf c a b, K, s => allM (fun s0 => ofR (aT K c s0) fun k s1 => if k then aS a K s1 else aS b K s1) (splitS (varsC c) s)
  | .sFor p it b, K, s => if (isOwn it).isSome then none else match isRng it with
    | some e => ofR (aE K e s) fun x s1 => allM (fun y => forA (fun x s2 => (bindA p x s2).bind fun s3 => aS b K s3) s1 (rngA y)) (spl (deg s1 x))
    | none => ofR (aE K it s) fun x s1 => allM (fun y => forA (fun x s2 => (bindA p x s2).bind fun s3 => aS b K s3) s1 (itemsA y)) (spl (deg s1 x))
  | .sRet e, K, s => ofR (aE K e s) fun a s1 => some [.ret (deg s1 a) s1]
  | .sRetZ e, K, s => ofR (aE K e s) fun a s1 => if isLstA a then some [.ret a s1] else none
  | .sRetN, _, s => some [.ret (.ex .none) s]
  | .sBrk, _, s => some [.brk s]
  | .sCnt, _, s => some [.cnt s]
  | .sPass, _, s => some [.nx s]
  | .sRaise c, _, s => some [.exn c s]
  | .sTry b c i h, K, s => (aS b K s).bind fun l => allM (tryO K c i fun x s1 => aS h (K.at x) s1) l
  | _, _, _ => none
section
variable {P : Nat → D → Prop} {B : Nat} {s : AS} {ρ : Slots} {K : ACx} {ct : CT}
def SatO (P : Nat → D → Prop) (B : Nat) (l : List AOS) : O → Prop
  | .nx ρ => ∃ s, AOS.nx s ∈ l ∧ Gam P B s ρ
  | .ret d ρ => ∃ a s, AOS.ret a s ∈ l ∧ G P B a d ∧ Gam P B s ρ
  | .brk ρ => ∃ s, AOS.brk s ∈ l ∧ Gam P B s ρ
  | .cnt ρ => ∃ s, AOS.cnt s ∈ l ∧ Gam P B s ρ
  | .exn c ρ => ∃ s, AOS.exn c s ∈ l ∧ Gam P B s ρ
  | .bad => False
def SatS (P : Nat → D → Prop) (B : Nat) (x : AOL) (o : O) : Prop := ∀ l, x = some l → SatO P B l o
theorem satO_mono {l l' : List AOS} {o : O} (h : SatO P B l o) (hm : ∀ x ∈ l, x ∈ l') : SatO P B l' o := by
  cases o with
  | nx ρ => obtain ⟨s, m, v⟩ := h; exact ⟨s, hm _ m, v⟩
  | ret d ρ => obtain ⟨a, s, m, v⟩ := h; exact ⟨a, s, hm _ m, v⟩
  | brk ρ => obtain ⟨s, m, v⟩ := h; exact ⟨s, hm _ m, v⟩
  | cnt ρ => obtain ⟨s, m, v⟩ := h; exact ⟨s, hm _ m, v⟩
  | exn c ρ => obtain ⟨s, m, v⟩ := h; exact ⟨s, hm _ m, v⟩
  | bad => exact h
theorem satS_none {o : O} : SatS P B none o := fun l hl => by cases hl
theorem satS_nx {s : AS} {ρ : Slots} (g : Gam P B s ρ) : SatS P B (some [.nx s]) (.nx ρ) := fun l hl => by cases hl; exact ⟨s, List.mem_singleton.mpr rfl, g⟩
theorem satS_ret {a : AV} {d : D} {s : AS} {ρ : Slots} (v : G P B a d) (g : Gam P B s ρ) : SatS P B (some [.ret a s]) (.ret d ρ) := fun l hl => by cases hl; exact ⟨a, s, List.mem_singleton.mpr rfl, v, g⟩
def r2o {β : Type} (x : R β) (f : β → Slots → O) : O := match x with
  | .ok d ρ => f d ρ
  | .exn c ρ => .exn c ρ
  | .bad => .bad
theorem sat_of {α β : Type} {V : Slots → α → β → Prop} {x : AR α} {r : R β} {f : α → AS → AOL} {k : β → Slots → O} (h : Sat P B V x r) (hk : ∀ a s d ρ, V ρ a d → Gam P B s ρ → SatS P B (f a s) (k d ρ)) : SatS P B (ofR x f) (r2o r k) := by
  intro l hl
  unfold ofR at hl
  cases hx : x with
  | none => rw [hx] at hl; cases hl
  | some q =>
    rw [hx] at hl
    have hl : allM (ofO f) q = some l := hl
    have hq := h q hx
    cases r with
    | ok d ρ =>
      obtain ⟨a, s, m, v, g⟩ := hq
      obtain ⟨z, h1, h2⟩ := allM_ok hl m
      exact satO_mono (hk a s d ρ v g z h1) h2
    | exn c ρ =>
      obtain ⟨s, m, g⟩ := hq
      obtain ⟨z, h1, h2⟩ := allM_ok hl m
      cases h1
      exact ⟨s, h2 _ (List.mem_singleton.mpr rfl), g⟩
    | bad => exact hq
theorem mem_nxs {s : AS} : ∀ {l : List AOS}, AOS.nx s ∈ l → s ∈ nxs l
  | o :: r, h => by
    rcases List.mem_cons.mp h with rfl | h
    · exact List.mem_cons_self
    · have ih := mem_nxs h
      cases o <;> first | exact List.mem_cons_of_mem _ ih | exact ih
theorem mem_rest {o : AOS} (ho : ∀ s, o ≠ .nx s) : ∀ {l : List AOS}, o ∈ l → o ∈ restN l
  | p :: r, h => by
    rcases List.mem_cons.mp h with rfl | h
    · cases o <;> first | exact List.mem_cons_self | exact absurd rfl (ho _)
    · have ih := mem_rest ho h
      cases p <;> first | exact List.mem_cons_of_mem _ ih | exact ih
theorem mergeN_ok {l : List AOS} {o : O} (h : SatO P B l o) : SatO P B (mergeN l) o := by
  unfold mergeN
  cases o with
  | nx ρ =>
    obtain ⟨s, m, g⟩ := h
    obtain ⟨t, h1, h2⟩ := mrg_ok (mem_nxs m) g
    exact ⟨t, List.mem_append_left _ (List.mem_map_of_mem h1), h2⟩
  | ret d ρ => obtain ⟨a, s, m, v⟩ := h; exact ⟨a, s, List.mem_append_right _ (mem_rest (fun s e => by cases e) m), v⟩
  | brk ρ => obtain ⟨s, m, v⟩ := h; exact ⟨s, List.mem_append_right _ (mem_rest (fun s e => by cases e) m), v⟩
  | cnt ρ => obtain ⟨s, m, v⟩ := h; exact ⟨s, List.mem_append_right _ (mem_rest (fun s e => by cases e) m), v⟩
  | exn c ρ => obtain ⟨s, m, v⟩ := h; exact ⟨s, List.mem_append_right _ (mem_rest (fun s e => by cases e) m), v⟩
  | bad => exact h
theorem sat_then {x : AOL} {o : O} {f : AS → AOL} {k : Slots → O} (h : SatS P B x o) (hk : ∀ s ρ, Gam P B s ρ → SatS P B (f s) (k ρ)) : SatS P B (thenS x f) (o.then k) := by
  intro l hl
  unfold thenS at hl
  cases hx : x with
  | none => rw [hx] at hl; cases hl
  | some q =>
    rw [hx] at hl
    have hl : allM (thenO f) (mergeN q) = some l := hl
    have hq := mergeN_ok (h q hx)
    cases o with
    | nx ρ =>
      obtain ⟨s, m, g⟩ := hq
      obtain ⟨z, h1, h2⟩ := allM_ok hl m
      exact satO_mono (hk s ρ g z h1) h2
    | ret d ρ =>
      obtain ⟨a, s, m, v⟩ := hq
      obtain ⟨z, h1, h2⟩ := allM_ok hl m
      cases h1
      exact ⟨a, s, h2 _ (List.mem_singleton.mpr rfl), v⟩
    | brk ρ =>
      obtain ⟨s, m, v⟩ := hq
      obtain ⟨z, h1, h2⟩ := allM_ok hl m
      cases h1
      exact ⟨s, h2 _ (List.mem_singleton.mpr rfl), v⟩
    | cnt ρ =>
      obtain ⟨s, m, v⟩ := hq
      obtain ⟨z, h1, h2⟩ := allM_ok hl m
      cases h1
      exact ⟨s, h2 _ (List.mem_singleton.mpr rfl), v⟩
    | exn c ρ =>
      obtain ⟨s, m, v⟩ := hq
      obtain ⟨z, h1, h2⟩ := allM_ok hl m
      cases h1
      exact ⟨s, h2 _ (List.mem_singleton.mpr rfl), v⟩
    | bad => exact hq
/-! walks -/
theorem mem_nxcs {s : AS} : ∀ {l : List AOS}, (AOS.nx s ∈ l ∨ AOS.cnt s ∈ l) → s ∈ nxcs l
  | [], h => by rcases h with h | h <;> cases h
  | o :: r, h => by
    have : (o = .nx s ∨ o = .cnt s) ∨ (AOS.nx s ∈ r ∨ AOS.cnt s ∈ r) := by
      rcases h with h | h
      · rcases List.mem_cons.mp h with e | h
        · exact .inl (.inl e.symm)
        · exact .inr (.inl h)
      · rcases List.mem_cons.mp h with e | h
        · exact .inl (.inr e.symm)
        · exact .inr (.inr h)
    rcases this with (rfl | rfl) | h
    · exact List.mem_cons_self
    · exact List.mem_cons_self
    · have ih := mem_nxcs h
      cases o <;> first | exact List.mem_cons_of_mem _ ih | exact ih
theorem mem_brk {s : AS} : ∀ {l : List AOS}, AOS.brk s ∈ l → AOS.nx s ∈ outsL l
  | o :: r, h => by
    rcases List.mem_cons.mp h with rfl | h
    · exact List.mem_cons_self
    · have ih := mem_brk h
      cases o <;> first | exact List.mem_cons_of_mem _ ih | exact ih
theorem mem_ret {a : AV} {s : AS} : ∀ {l : List AOS}, AOS.ret a s ∈ l → AOS.ret a s ∈ outsL l
  | o :: r, h => by
    rcases List.mem_cons.mp h with rfl | h
    · exact List.mem_cons_self
    · have ih := mem_ret h
      cases o <;> first | exact List.mem_cons_of_mem _ ih | exact ih
theorem mem_exn {c : Nat} {s : AS} : ∀ {l : List AOS}, AOS.exn c s ∈ l → AOS.exn c s ∈ outsL l
  | o :: r, h => by
    rcases List.mem_cons.mp h with rfl | h
    · exact List.mem_cons_self
    · have ih := mem_exn h
      cases o <;> first | exact List.mem_cons_of_mem _ ih | exact ih
theorem turns_cons {f : D → Slots → O} {d : D} {ds : List D} {ρ : Slots} : turns (fun _ => true) f (d :: ds) ρ = (match f d ρ with
    | .nx ρ' => turns (fun _ => true) f ds ρ'
    | .cnt ρ' => turns (fun _ => true) f ds ρ'
    | .brk ρ' => .nx ρ'
    | y => y) := by
  rw [turns, if_pos rfl]
  try (cases f d ρ <;> rfl)
/-- one turn, then the rest -/
theorem turn_step {f : D → Slots → O} {d : D} {ds : List D} {ρ : Slots} {l out : List AOS} {g : AS → AOL} {r : List AOS} (h : SatO P B l (f d ρ)) (hr : allM g (mrg (nxcs l)) = some r) (hm : ∀ x ∈ r ++ outsL l, x ∈ out)
    (ih : ∀ s ρ', Gam P B s ρ' → SatS P B (g s) (turns (fun _ => true) f ds ρ')) : SatO P B out (turns (fun _ => true) f (d :: ds) ρ) := by
  rw [turns_cons]
  have go : ∀ {s : AS} {ρ' : Slots}, s ∈ nxcs l → Gam P B s ρ' → SatO P B out (turns (fun _ => true) f ds ρ') := fun {s ρ'} m g' => by
    obtain ⟨t, h1, h2⟩ := mrg_ok m g'
    obtain ⟨q, h3, h4⟩ := allM_ok hr h1
    exact satO_mono (ih t ρ' h2 q h3) fun x hx => hm x (List.mem_append_left _ (h4 x hx))
  cases e : f d ρ with
  | nx ρ' => rw [e] at h; obtain ⟨s, m, g'⟩ := h; exact go (mem_nxcs (.inl m)) g'
  | cnt ρ' => rw [e] at h; obtain ⟨s, m, g'⟩ := h; exact go (mem_nxcs (.inr m)) g'
  | brk ρ' => rw [e] at h; obtain ⟨s, m, g'⟩ := h; exact ⟨s, hm _ (List.mem_append_right _ (mem_brk m)), g'⟩
  | ret d' ρ' => rw [e] at h; obtain ⟨a, s, m, g'⟩ := h; exact ⟨a, s, hm _ (List.mem_append_right _ (mem_ret m)), g'⟩
  | exn c ρ' => rw [e] at h; obtain ⟨s, m, g'⟩ := h; exact ⟨s, hm _ (List.mem_append_right _ (mem_exn m)), g'⟩
  | bad => rw [e] at h; exact h
theorem loopL_ok {f : AV → AS → AOL} {fc : D → Slots → O} (hf : ∀ x d s ρ, G P B x d → Gam P B s ρ → SatS P B (f x s) (fc d ρ)) : ∀ {xs : List AV} {ds : List D}, Gs P B xs ds → ∀ s ρ, Gam P B s ρ → SatS P B (loopL f xs s) (turns (fun _ => true) fc ds ρ)
  | [], ds, g, s, ρ, Γ => by rw [gs_nil g]; exact satS_nx Γ
  | x :: xs, ds, g, s, ρ, Γ => by
    obtain ⟨d, r, rfl, g1, g2⟩ := gs_cons g
    intro out h
    simp only [loopL] at h
    cases e : f x s with
    | none => rw [e] at h; cases h
    | some l =>
      rw [e] at h
      have h : (allM (loopL f xs) (mrg (nxcs l))).map (fun r => r ++ outsL l) = some out := h
      cases e' : allM (loopL f xs) (mrg (nxcs l)) with
      | none => rw [e'] at h; cases h
      | some q =>
        rw [e'] at h; cases h
        exact turn_step (hf x d s ρ g1 Γ l e) e' (fun x hx => hx) (loopL_ok hf g2)
theorem loopU_ok {f : AV → AS → AOL} {fc : D → Slots → O} {a : AV} (hf : ∀ d s ρ, G P B a d → Gam P B s ρ → SatS P B (f a s) (fc d ρ)) : ∀ {n lo : Nat} {ds : List D}, lo ≤ ds.length → ds.length ≤ n → (∀ x ∈ ds, G P B a x) → ∀ s ρ, Gam P B s ρ → SatS P B (loopU f a lo n s) (turns (fun _ => true) fc ds ρ)
  | 0, lo, ds, h1, h2, g, s, ρ, Γ => by
    cases ds with
    | cons _ _ => simp at h2
    | nil => intro l hl; simp only [loopU] at hl; cases hl; exact ⟨s, List.mem_singleton.mpr rfl, Γ⟩
  | n + 1, lo, ds, h1, h2, g, s, ρ, Γ => by
    intro out h
    simp only [loopU] at h
    cases e : f a s with
    | none => rw [e] at h; cases h
    | some l =>
      rw [e] at h
      have h : (allM (loopU f a (lo - 1) n) (mrg (nxcs l))).map (fun r => (if lo = 0 then [AOS.nx s] else []) ++ (r ++ outsL l)) = some out := h
      cases e' : allM (loopU f a (lo - 1) n) (mrg (nxcs l)) with
      | none => rw [e'] at h; cases h
      | some q =>
        rw [e'] at h
        cases ds with
        | nil =>
          have : lo = 0 := by simpa using h1
          rw [if_pos this] at h
          cases h
          exact ⟨s, List.mem_append_left _ (List.mem_singleton.mpr rfl), Γ⟩
        | cons d ds =>
          cases h
          rw [List.length_cons] at h1 h2
          exact turn_step (hf d s ρ (g d List.mem_cons_self) Γ l e) e' (fun x hx => List.mem_append_right _ hx) (loopU_ok hf (by omega) (by omega) fun x hx => g x (List.mem_cons_of_mem _ hx))
theorem rng_ok {a : AV} {d : D} (g : G P B a d) : (∀ xs, rngA a = some (.inl xs) → ∃ ds, biD .range [d] = some (.list ds) ∧ Gs P B xs ds) ∧ ∀ q, rngA a = some (.inr q) → ∃ ds, biD .range [d] = some (.list ds) ∧ q.2.1 ≤ ds.length ∧ ds.length ≤ q.2.2 ∧ ∀ x ∈ ds, G P B q.1 x := by
  have rl : ∀ i : Int, (rangeD 0 i).length = (i - 0).toNat := fun i => by unfold rangeD; simp
  have r62 : ∀ i : Int, 0 ≤ i → i < 2 ^ 62 → biD .range [.int i] = some (.list (rangeD 0 i)) := fun i h0 h1 => by
    show (if in62 i then some (PyData.list (rangeD 0 i)) else none) = _
    rw [if_pos]
    unfold in62
    rw [Bool.and_eq_true, decide_eq_true_eq, decide_eq_true_eq]
    omega
  unfold rngA
  split
  · rename_i n
    rw [G] at g; subst g
    refine ⟨fun xs h => ?_, fun q h => ?_⟩
    · split at h
      · rename_i c
        cases h
        exact ⟨_, r62 n c.1 (by omega), gs_ex _⟩
      · cases h
    · split at h <;> cases h
  · split
    · rename_i p e
      obtain ⟨i, rfl, i1, i2⟩ := iv_ok e g
      refine ⟨fun xs h => ?_, fun q h => ?_⟩
      · split at h <;> cases h
      · split at h
        · rename_i c
          cases h
          refine ⟨_, r62 i (by omega) (by omega), by rw [rl]; show p.1.toNat ≤ _; omega, by rw [rl]; show _ ≤ p.2.toNat; omega, fun x hx => ?_⟩
          unfold rangeD at hx
          obtain ⟨k, hk, rfl⟩ := List.mem_map.mp hx
          rw [List.mem_range] at hk
          rw [G]
          exact ⟨_, rfl, by omega, by omega⟩
        · cases h
    · exact ⟨fun xs h => (by cases h), fun q h => (by cases h)⟩
theorem forA_ok {f : AV → AS → AOL} {fc : D → Slots → O} (hf : ∀ x d s ρ, G P B x d → Gam P B s ρ → SatS P B (f x s) (fc d ρ)) {o : Option (List AV ⊕ (AV × Nat × Nat))} {ds : List D} (h1 : ∀ xs, o = some (.inl xs) → Gs P B xs ds) (h2 : ∀ q, o = some (.inr q) → q.2.1 ≤ ds.length ∧ ds.length ≤ q.2.2 ∧ ∀ x ∈ ds, G P B q.1 x) (Γ : Gam P B s ρ) : SatS P B (forA f s o) (turns (fun _ => true) fc ds ρ) := by
  unfold forA
  split
  · rename_i xs; exact loopL_ok hf (h1 xs rfl) s ρ Γ
  · rename_i q
    obtain ⟨k1, k2, k3⟩ := h2 q rfl
    exact loopU_ok (fun d s ρ g Γ => hf _ d s ρ g Γ) k1 k2 k3 s ρ Γ
  · exact satS_none
theorem lstA_ok {a : AV} {d : D} (h : isLstA a = true) (g : GSl P B ρ a (some d)) : (∃ ds, d = .list ds) ∧ G P B a d := by
  have hi : ∀ j, a ≠ .idx j := fun j e => by subst e; cases h
  have ht : a ≠ .top := fun e => by subst e; cases h
  obtain ⟨d', e, g'⟩ := gsl_g g hi ht
  cases e
  obtain ⟨b, h1, h2⟩ := spl_ok g'
  unfold isLstA at h
  rw [List.all_eq_true] at h
  have := kdA_ok (eq_of_beq (h b h1)) h2
  cases d <;> first | (cases this; done) | exact ⟨⟨_, rfl⟩, g'⟩
theorem app_ok {i : Nat} {a : AV} {d : D} (Γ : Gam P B s ρ) (g : G P B a d) : SatS P B (appA i s a) (match Z.get ρ i with
    | some (.list xs) => if xs.length < sizeLine then .nx (Z.put ρ i (.list (xs ++ [d]))) else .bad
    | _ => .bad) := by
  intro l hl
  unfold appA at hl
  split at hl
  · rename_i b e
    split at hl
    · rename_i p ep
      split at hl
      · rename_i c
        cases hl
        obtain ⟨x, hx, gx⟩ := gsl_g (Γ.at' i b e) (not_idx c.2.1) (not_top c.2.2)
        obtain ⟨ds, rfl, k1, k2, k3⟩ := lv_ok ep gx
        rw [hx]
        have hs : ds.length < sizeLine := by
          have := lim_ok (n := p.2.2 + 1) (by omega)
          omega
        show SatO P B _ (if ds.length < sizeLine then O.nx (Z.put ρ i (.list (ds ++ [d]))) else .bad)
        rw [if_pos hs]
        exact ⟨_, List.mem_singleton.mpr rfl, setS_ok Γ (g_gsl (push_ok (opn_ok gx) g))⟩
      · cases hl
    · cases hl
  · cases hl
theorem clr_ok {i : Nat} {l q : List AOS} {o : O} (h : SatO P B l o) (hq : allM (clrO i) l = some q) : SatO P B q (o.clr i) := by
  cases o with
  | nx ρ => obtain ⟨s, m, g⟩ := h; obtain ⟨r, h1, h2⟩ := allM_ok hq m; cases h1; exact ⟨_, h2 _ (List.mem_singleton.mpr rfl), clrS_ok g i none⟩
  | ret d ρ => obtain ⟨a, s, m, v, g⟩ := h; obtain ⟨r, h1, h2⟩ := allM_ok hq m; cases h1; exact ⟨a, _, h2 _ (List.mem_singleton.mpr rfl), v, clrS_ok g i none⟩
  | brk ρ => obtain ⟨s, m, g⟩ := h; obtain ⟨r, h1, h2⟩ := allM_ok hq m; cases h1; exact ⟨_, h2 _ (List.mem_singleton.mpr rfl), clrS_ok g i none⟩
  | cnt ρ => obtain ⟨s, m, g⟩ := h; obtain ⟨r, h1, h2⟩ := allM_ok hq m; cases h1; exact ⟨_, h2 _ (List.mem_singleton.mpr rfl), clrS_ok g i none⟩
  | exn c ρ => obtain ⟨s, m, g⟩ := h; obtain ⟨r, h1, h2⟩ := allM_ok hq m; cases h1
  | bad => exact h
theorem o_r2o {x : R D} {f : D → Slots → O} : x.o f = r2o x f := by cases x <;> rfl
theorem t_r2o {x : R Bool} {f : Bool → Slots → O} : x.t f = r2o x f := by cases x <;> rfl
end
end A

set_option Elab.async false
set_option linter.all false
set_option maxRecDepth 100000
set_option maxHeartbeats 1000000
/-! Ab: statements are told rightly; the check of a contract -/
namespace A
open PySem Z
section
variable {P : Nat → D → Prop} {B : Nat} {s : AS} {ρ : Slots} {K : ACx} {ct : CT}
/-- what the statement's contract says -/
def SCtrOk (P : Nat → D → Prop) (ct : CT) (T : Tab) (S : SCtr) : Prop := ∀ B ρ ds, ρ.length = S.n → B + S.cost ≤ LIM → Gs P B (S.ins.map (·.2)) ds → S.ins.map (fun q => Z.get ρ q.1) = ds.map some →
  ∃ xs es, xs.length = S.clr.length ∧ denS ct T S.c ρ = .nx (Z.putAll (wild ρ S.clr xs) (S.outs.map (·.1)) es) ∧ Gs P B (S.outs.map (·.2)) es
structure KOk (P : Nat → D → Prop) (B : Nat) (K : ACx) (ct : CT) : Prop where
  lim : B + K.cost ≤ LIM
  draw : DrawOk ct K.draw
  tbl : ∀ C ∈ K.tbl, CtrOk P ct C
  orc : ∀ S ∈ K.orc, SCtrOk P ct K.T S
theorem KOk.at (k : KOk P B K ct) (x : Nat) : KOk P B (K.at x) ct := ⟨k.lim, k.draw, k.tbl, fun S hS => by cases hS⟩
theorem gs_zipL : ∀ {as bs : List AV} {ds : List D}, as.length = bs.length → ((as.zip bs).all fun q => le q.1 q.2) = true → Gs P B as ds → Gs P B bs ds
  | [], [], _, _, _, g => g
  | a :: as, b :: bs, _, hl, h, g => by
    obtain ⟨d, r, rfl, g1, g2⟩ := gs_cons g
    rw [List.zip_cons_cons, List.all_cons, Bool.and_eq_true] at h
    rw [Gs]
    exact ⟨le_ok _ _ _ _ h.1 g1, gs_zipL (by simpa using hl) h.2 g2⟩
  | [], _ :: _, _, hl, _, _ => by cases hl
  | _ :: _, [], _, hl, _, _ => by cases hl
theorem ins_ok (Γ : Gam P B s ρ) : ∀ (l : List (Nat × AV)), (l.map fun q => (s[q.1]?).getD AV.top).all (fun a => !isIdx a && !isTop a) = true → ∃ ds, l.map (fun q => Z.get ρ q.1) = ds.map some ∧ Gs P B (l.map fun q => (s[q.1]?).getD AV.top) ds
  | [], _ => ⟨[], rfl, by simp [Gs]⟩
  | q :: l, h => by
    rw [List.map_cons, List.all_cons, Bool.and_eq_true, Bool.and_eq_true, Bool.not_eq_true', Bool.not_eq_true'] at h
    obtain ⟨ds, e1, e2⟩ := ins_ok Γ l h.2
    cases e : s[q.1]? with
    | none => rw [e] at h; exact absurd h.1.2 (by simp [isTop])
    | some b =>
      rw [e] at h
      obtain ⟨d, hd, gd⟩ := gsl_g (Γ.at' _ b e) (not_idx h.1.1) (not_top h.1.2)
      refine ⟨d :: ds, by rw [List.map_cons, List.map_cons, hd, e1], ?_⟩
      rw [List.map_cons, Gs, e]
      exact ⟨gd, e2⟩
theorem clrAll_ok : ∀ {is : List Nat} {xs : List (Option D)} {s : AS} {ρ : Slots}, Gam P B s ρ → xs.length = is.length → Gam P B (clrAll s is) (wild ρ is xs)
  | [], [], _, _, Γ, _ => Γ
  | i :: is, x :: xs, _, _, Γ, h => clrAll_ok (is := is) (xs := xs) (clrS_ok Γ i x) (by simpa using h)
  | [], _ :: _, _, _, _, h => by cases h
  | _ :: _, [], _, _, _, h => by cases h
theorem stm_ok (k : KOk P B K ct) (Γ : Gam P B s ρ) {c : C} {o : AOL} (h : stmA K c s = some o) : SatS P B o (denS ct K.T c ρ) := by
  unfold stmA at h
  cases hf : K.orc.find? fun S => decide (S.c = c) && useS K s S with
  | none => rw [hf] at h; cases h
  | some S =>
    rw [hf] at h
    cases h
    have hm := List.mem_of_find?_eq_some hf
    have hp := List.find?_some hf
    rw [Bool.and_eq_true] at hp
    have hc : S.c = c := of_decide_eq_true hp.1
    subst hc
    have hu := hp.2
    unfold useS at hu
    simp only [Bool.and_eq_true, decide_eq_true_eq] at hu
    obtain ⟨⟨⟨⟨⟨u0, u1⟩, u2⟩, u3⟩, u4⟩, u5⟩ := hu
    obtain ⟨ds, e1, e2⟩ := ins_ok Γ S.ins u1
    have e3 := gs_zipL (by unfold insA; simp only [List.length_map]) u2 e2
    have e4 := shs_in u3 e3
    obtain ⟨xs, es, r0, r1, r2⟩ := k.orc S hm (B + wellOf (insA s S)) ρ ds (Γ.len.symm.trans u0) (by have := k.lim; omega) e4 e1
    rw [r1]
    refine satS_nx (setAll_ok (clrAll_ok Γ r0) (shs_out u4 r2) (by simp only [List.length_map]))
theorem KOk.e (k : KOk P B K ct) (e : C) (Γ : Gam P B s ρ) : Sat P B (VE P B) (aE K e s) (denE K.T ct e ρ) := (a_ok k.lim k.draw k.tbl e).1 s ρ Γ
theorem KOk.t (k : KOk P B K ct) (e : C) (Γ : Gam P B s ρ) : Sat P B VT (aT K e s) (denT K.T ct e ρ) := (a_ok k.lim k.draw k.tbl e).2.1 s ρ Γ
theorem KOk.l (k : KOk P B K ct) (e : C) (Γ : Gam P B s ρ) : Sat P B (VL P B) (aL K e s) (denL K.T ct e ρ) := (a_ok k.lim k.draw k.tbl e).2.2 s ρ Γ
def SOk (P : Nat → D → Prop) (B : Nat) (ct : CT) (c : C) : Prop := ∀ K s ρ, KOk P B K ct → Gam P B s ρ → SatS P B (aS c K s) (denS ct K.T c ρ)
theorem body_ok {p b : C} (hb : SOk P B ct b) (k : KOk P B K ct) : ∀ x d s ρ, G P B x d → Gam P B s ρ → SatS P B ((bindA p x s).bind fun s3 => aS b K s3) (match bindP p d ρ with | none => .bad | some ρ3 => denS ct K.T b ρ3) := by
  intro x d s ρ g Γ l hl
  cases e : bindA p x s with
  | none => rw [e] at hl; cases hl
  | some s3 =>
    rw [e] at hl
    obtain ⟨ρ3, b1, b2⟩ := bindA_ok Γ g e
    rw [b1]
    exact hb K s3 ρ3 k b2 l hl
theorem isRng_ok {it e : C} (h : isRng it = some e) : it = .bi .range (.cons e .nil) ∧ isOwn e = none ∧ ∀ z, e ≠ .star z := by
  unfold isRng at h
  split at h
  · split at h
    · cases h
    · rename_i hc
      cases h
      simp only [Bool.or_eq_true, not_or, Bool.not_eq_true] at hc
      refine ⟨rfl, ?_, fun z hz => by rw [hz] at hc; exact absurd hc.1 (by simp [isStar])⟩
      cases hh : isOwn e with
      | none => rfl
      | some _ => rw [hh] at hc; exact absurd hc.2 (by simp)
  · cases h
theorem s_all : ∀ c : C, SOk P B ct c := by
  intro c
  induction c with
  | nil => intro K s ρ k Γ; exact satS_nx Γ
  | cons a r ia ir =>
    intro K s ρ k Γ
    rw [aS, denS]
    refine sat_then ?_ fun s1 ρ1 Γ1 => ir K s1 ρ1 k Γ1
    split
    · rename_i o e; exact stm_ok k Γ e
    · exact ia K s ρ k Γ
  | sSet i e _ =>
    intro K s ρ k Γ
    rw [aS, denS, o_r2o]
    exact sat_of (k.e e Γ) fun a s1 d ρ1 v Γ1 => satS_nx (setS_ok Γ1 v)
  | sOwn i e _ =>
    intro K s ρ k Γ
    rw [aS, denS, o_r2o]
    refine sat_of (k.e e Γ) fun a s1 d ρ1 v Γ1 => ?_
    intro l hl
    split at hl
    · rename_i c
      cases hl
      obtain ⟨⟨ds, rfl⟩, g⟩ := lstA_ok c v
      exact ⟨_, List.mem_singleton.mpr rfl, setS_ok Γ1 v⟩
    · cases hl
  | sPat p e _ _ =>
    intro K s ρ k Γ
    rw [aS, denS, o_r2o]
    refine sat_of (k.e e Γ) fun a s1 d ρ1 v Γ1 => ?_
    intro l hl
    cases h : bindA p (deg s1 a) s1 with
    | none => rw [h] at hl; cases hl
    | some s2 =>
      rw [h] at hl
      cases hl
      obtain ⟨ρ', b1, b2⟩ := bindA_ok Γ1 (deg_ok Γ1 v) h
      rw [b1]
      exact ⟨_, List.mem_singleton.mpr rfl, b2⟩
  | sPar ps e _ =>
    intro K s ρ k Γ
    rw [aS, denS]
    have h := sat_of (k := fun ds ρ1 => if ds.length = ps.length then O.nx (Z.putAll ρ1 ps ds) else .bad) (f := fun xs s1 => if xs.length = ps.length then some [AOS.nx (setAll s1 ps xs)] else none) (k.l e Γ) fun xs s1 ds ρ1 v Γ1 => by
      intro l hl
      split at hl
      · rename_i c
        cases hl
        have : ds.length = ps.length := by rw [← gs_len v]; exact c
        rw [if_pos this]
        exact ⟨_, List.mem_singleton.mpr rfl, setAll_ok Γ1 v c.symm⟩
      · cases hl
    intro l hl
    have := h l hl
    cases e' : denL K.T ct e ρ <;> rw [e'] at this <;> exact this
  | sApp i e _ =>
    intro K s ρ k Γ
    rw [aS, denS]
    split
    · rename_i ht
      obtain ⟨d0, h0⟩ := told_ok Γ ht
      rw [h0, if_pos (by rfl), o_r2o]
      exact sat_of (k.e e Γ) fun a s1 d ρ1 v Γ1 => app_ok Γ1 (deg_ok Γ1 v)
    · exact satS_none
  | sExp e _ =>
    intro K s ρ k Γ
    rw [aS, denS, o_r2o]
    exact sat_of (k.e e Γ) fun a s1 d ρ1 v Γ1 => satS_nx Γ1
  | sIf c a b _ ia ib =>
    intro K s ρ k Γ
    rw [aS, denS, t_r2o]
    intro l hl
    obtain ⟨s0, h1, Γ0⟩ := splitS_ok (is := varsC c) Γ
    obtain ⟨q, h2, h3⟩ := allM_ok hl h1
    refine satO_mono (sat_of (k.t c Γ0) (fun x s1 d ρ1 v Γ1 => ?_) q h2) h3
    cases v
    cases x with
    | true => exact ia K s1 ρ1 k Γ1
    | false => exact ib K s1 ρ1 k Γ1
  | sFor p it b _ _ ib =>
    intro K s ρ k Γ
    rw [aS]
    split
    · exact satS_none
    · rename_i ho
      have ho : isOwn it = none := by
        cases h : isOwn it with
        | none => rfl
        | some _ => rw [h] at ho; exact absurd rfl ho
      have walk : ∀ {x : AV} {d : D} {s1 : AS} {ρ1 : Slots} {ds : List D} {o : Option (List AV ⊕ (AV × Nat × Nat))}, items d = some ds → (∀ xs, o = some (.inl xs) → Gs P B xs ds) → (∀ q, o = some (.inr q) → q.2.1 ≤ ds.length ∧ ds.length ≤ q.2.2 ∧ ∀ x ∈ ds, G P B q.1 x) → Gam P B s1 ρ1 →
          SatS P B (forA (fun x s2 => (bindA p x s2).bind fun s3 => aS b K s3) s1 o) (match items d with
            | none => .bad
            | some xs => turns (keeps it xs) (fun d ρ2 => match bindP p d ρ2 with | none => .bad | some ρ3 => denS ct K.T b ρ3) xs ρ1) := fun {x d s1 ρ1 ds o} hi h1 h2 Γ1 => by
        rw [hi]
        show SatS P B _ (turns (keeps it ds) _ ds ρ1)
        rw [keeps_plain ho]
        exact forA_ok (body_ok ib k) h1 h2 Γ1
      split
      · rename_i e he
        obtain ⟨rfl, i1, i2⟩ := isRng_ok he
        rw [denS, o_r2o]
        have hden : denE K.T ct (.bi .range (.cons e .nil)) ρ = (denE K.T ct e ρ).bind fun x ρ1 => opt (biD .range [x]) ρ1 := by
          rw [denE, denL_cons i2]
          show ((denE K.T ct e ρ).bind fun x ρ1 => (denL K.T ct C.nil ρ1).bind fun xs ρ2 => R.ok (x :: xs) ρ2).bind _ = _
          cases h : denE K.T ct e ρ with
          | ok x ρ1 =>
            show opt (biD .range [fixD e x ρ1]) ρ1 = opt (biD .range [x]) ρ1
            unfold fixD
            rw [i1]
          | exn _ _ => rfl
          | bad => rfl
        rw [hden]
        have hr : ∀ (F : D → Slots → O), r2o ((denE K.T ct e ρ).bind fun x ρ1 => opt (biD .range [x]) ρ1) F = r2o (denE K.T ct e ρ) fun x ρ1 => r2o (opt (biD .range [x]) ρ1) F := fun F => by cases denE K.T ct e ρ <;> rfl
        rw [hr]
        refine sat_of (k.e e Γ) fun x s1 d ρ1 v Γ1 => ?_
        intro l hl
        obtain ⟨y, y1, y2⟩ := spl_ok (deg_ok Γ1 v)
        obtain ⟨q, h2, h3⟩ := allM_ok hl y1
        obtain ⟨r1, r2⟩ := rng_ok y2
        refine satO_mono ?_ h3
        cases hra : rngA y with
        | none => rw [hra] at h2; cases h2
        | some z =>
          cases z with
          | inl xs =>
            obtain ⟨ds, d1, d2⟩ := r1 xs hra
            rw [d1]
            exact walk (x := x) (d := .list ds) rfl (fun xs' e' => by rw [hra] at e'; cases e'; exact d2) (fun q' e' => by rw [hra] at e'; cases e') Γ1 q h2
          | inr q' =>
            obtain ⟨ds, d1, d2⟩ := r2 q' hra
            rw [d1]
            exact walk (x := x) (d := .list ds) rfl (fun xs' e' => by rw [hra] at e'; cases e') (fun q'' e' => by rw [hra] at e'; cases e'; exact d2) Γ1 q h2
      · rw [denS, o_r2o]
        refine sat_of (k.e it Γ) fun x s1 d ρ1 v Γ1 => ?_
        intro l hl
        obtain ⟨y, y1, y2⟩ := spl_ok (deg_ok Γ1 v)
        obtain ⟨q, h2, h3⟩ := allM_ok hl y1
        obtain ⟨r1, r2⟩ := items_ok y2
        refine satO_mono ?_ h3
        cases hra : itemsA y with
        | none => rw [hra] at h2; cases h2
        | some z =>
          cases z with
          | inl xs =>
            obtain ⟨ds, d1, d2⟩ := r1 xs hra
            exact walk (x := x) d1 (fun xs' e' => by rw [hra] at e'; cases e'; exact d2) (fun q' e' => by rw [hra] at e'; cases e') Γ1 q h2
          | inr q' =>
            obtain ⟨ds, d1, d2⟩ := r2 q' hra
            exact walk (x := x) d1 (fun xs' e' => by rw [hra] at e'; cases e') (fun q'' e' => by rw [hra] at e'; cases e'; exact d2) Γ1 q h2
  | sRet e _ =>
    intro K s ρ k Γ
    rw [aS, denS, o_r2o]
    exact sat_of (k.e e Γ) fun a s1 d ρ1 v Γ1 => satS_ret (deg_ok Γ1 v) Γ1
  | sRetZ e _ =>
    intro K s ρ k Γ
    rw [aS, denS, o_r2o]
    refine sat_of (k.e e Γ) fun a s1 d ρ1 v Γ1 => ?_
    intro l hl
    split at hl
    · rename_i c
      cases hl
      obtain ⟨⟨ds, rfl⟩, g⟩ := lstA_ok c v
      exact ⟨_, _, List.mem_singleton.mpr rfl, g, Γ1⟩
    · cases hl
  | sRetN => intro K s ρ k Γ; rw [aS, denS]; exact satS_ret (by rw [G]) Γ
  | sBrk => intro K s ρ k Γ; rw [aS, denS]; exact fun l hl => by cases hl; exact ⟨s, List.mem_singleton.mpr rfl, Γ⟩
  | sCnt => intro K s ρ k Γ; rw [aS, denS]; exact fun l hl => by cases hl; exact ⟨s, List.mem_singleton.mpr rfl, Γ⟩
  | sPass => intro K s ρ k Γ; rw [aS, denS]; exact satS_nx Γ
  | sRaise c => intro K s ρ k Γ; rw [aS, denS]; exact fun l hl => by cases hl; exact ⟨s, List.mem_singleton.mpr rfl, Γ⟩
  | sTry b c i h ib ih =>
    intro K s ρ k Γ
    rw [aS, denS]
    intro q hq
    cases e : aS b K s with
    | none => rw [e] at hq; cases hq
    | some l =>
      rw [e] at hq
      have hq : allM (tryO K c i fun x s1 => aS h (K.at x) s1) l = some q := hq
      have hb := ib K s ρ k Γ l e
      cases hd : denS ct K.T b ρ with
      | nx ρ1 => rw [hd] at hb; obtain ⟨s1, m, g⟩ := hb; obtain ⟨r, h1, h2⟩ := allM_ok hq m; cases h1; exact ⟨s1, h2 _ (List.mem_singleton.mpr rfl), g⟩
      | ret d ρ1 => rw [hd] at hb; obtain ⟨a, s1, m, v, g⟩ := hb; obtain ⟨r, h1, h2⟩ := allM_ok hq m; cases h1; exact ⟨a, s1, h2 _ (List.mem_singleton.mpr rfl), v, g⟩
      | brk ρ1 => rw [hd] at hb; obtain ⟨s1, m, g⟩ := hb; obtain ⟨r, h1, h2⟩ := allM_ok hq m; cases h1; exact ⟨s1, h2 _ (List.mem_singleton.mpr rfl), g⟩
      | cnt ρ1 => rw [hd] at hb; obtain ⟨s1, m, g⟩ := hb; obtain ⟨r, h1, h2⟩ := allM_ok hq m; cases h1; exact ⟨s1, h2 _ (List.mem_singleton.mpr rfl), g⟩
      | bad => rw [hd] at hb; exact hb
      | exn x ρ1 =>
        rw [hd] at hb
        obtain ⟨s1, m, g⟩ := hb
        obtain ⟨r, h1, h2⟩ := allM_ok hq m
        simp only [tryO] at h1
        show SatO P B q (match K.T.sub x c with | some true => _ | some false => _ | none => O.bad)
        cases hs : K.T.sub x c with
        | none => rw [hs] at h1; cases h1
        | some bb =>
          rw [hs] at h1
          cases bb with
          | false => cases h1; exact ⟨s1, h2 _ (List.mem_singleton.mpr rfl), g⟩
          | true =>
            have h1 : (if i < s1.length then (aS h (K.at x) (clrS s1 i)).bind fun l => allM (clrO i) l else none) = some r := h1
            split at h1
            · rename_i hl
              have hl : i < ρ1.length := by rw [← g.len]; exact hl
              show SatO P B q (if i < ρ1.length then (denS ct (K.T.at x) h (ρ1.set i none)).clr i else .bad)
              rw [if_pos hl]
              cases e2 : aS h (K.at x) (clrS s1 i) with
              | none => rw [e2] at h1; cases h1
              | some l2 =>
                rw [e2] at h1
                exact satO_mono (clr_ok (ih (K.at x) _ _ (k.at x) (clrS_ok g i none) l2 e2) h1) h2
            · cases h1
  | _ => intro K s ρ k Γ; exact satS_none
end
/-! the check of a contract -/
def outOk (s : AS) (io : List Nat) (outs : List AV) : Bool := decide (io.length = outs.length) && (io.zip outs).all fun q => match s[q.1]? with
  | some b => !isTop b && !isIdx b && le b q.2
  | none => false
/-- a row with one place told apart -/
def expS : List AV → List (List AV)
  | [] => [[]]
  | .alt ys :: r => ys.map (· :: r)
  | a :: r => (expS r).map (a :: ·)
def exp1 : AV → List AV
  | .tup xs => (expS xs).map .tup
  | a => [a]
def inSome (l : List AV) (x : AV) : Bool := l.any fun y => le x y
def endOk (C : Ctr) (io : List Nat) : AOS → Bool
  | .nx s => (C.ok.any fun y => le (.ex .none) y) && outOk s io C.outs
  | .ret a s => ((spl a).all fun x => inSome C.ok x || (exp1 x).all (inSome C.ok)) && outOk s io C.outs
  | .exn c s => C.exs.contains c && outOk s io C.outs
  | _ => false
def startA (n : Nat) (args : List AV) : AS := args ++ List.replicate (n - args.length) .top
def check (K : ACx) (F : Fn) (C : Ctr) : Bool := decide (C.args.length = F.np) && decide (C.args.length ≤ F.n) && C.args.all (fun a => !isIdx a) && match aS F.body { K with cost := C.cost } (startA F.n C.args) with
  | some l => l.all (endOk C F.io)
  | none => false
section
variable {P : Nat → D → Prop} {B : Nat} {s : AS} {ρ : Slots} {K : ACx} {ct : CT}
theorem start_ok {n : Nat} {args : List AV} {ds : List D} (g : Gs P B args ds) : Gam P B (startA n args) (startD n ds) := by
  unfold startA startD
  have hl := gs_len g
  refine ⟨by simp [hl], fun i a hi => ?_⟩
  by_cases hlt : i < args.length
  · rw [List.getElem?_append_left hlt] at hi
    obtain ⟨d, h1, h2⟩ := gs_get g hi
    have : Z.get (ds.map some ++ List.replicate (n - ds.length) none) i = some d := by
      unfold Z.get
      rw [List.getElem?_append_left (by rw [List.length_map, ← hl]; exact hlt), List.getElem?_map, h1]
      rfl
    rw [this]
    exact g_gsl h2
  · rw [List.getElem?_append_right (by omega), List.getElem?_replicate] at hi
    split at hi
    · cases hi; trivial
    · cases hi
theorem expS_ok : ∀ {as : List AV} {ds : List D}, Gs P B as ds → ∃ bs ∈ expS as, Gs P B bs ds
  | [], ds, g => ⟨[], List.mem_singleton.mpr rfl, g⟩
  | a :: r, ds, g => by
    obtain ⟨d, ds', rfl, g1, g2⟩ := gs_cons g
    obtain ⟨bs, h1, h2⟩ := expS_ok g2
    cases a with
    | alt ys =>
      rw [G, go_iff] at g1
      obtain ⟨y, y1, y2⟩ := g1
      exact ⟨y :: r, List.mem_map_of_mem y1, by rw [Gs]; exact ⟨y2, g2⟩⟩
    | _ => exact ⟨_ :: bs, List.mem_map_of_mem h1, by rw [Gs]; exact ⟨g1, h2⟩⟩
theorem exp1_ok {a : AV} {d : D} (g : G P B a d) : ∃ b ∈ exp1 a, G P B b d := by
  cases a with
  | tup xs =>
    rw [G] at g
    obtain ⟨ds, rfl, g⟩ := g
    obtain ⟨bs, h1, h2⟩ := expS_ok g
    exact ⟨.tup bs, List.mem_map_of_mem h1, by rw [G]; exact ⟨ds, rfl, h2⟩⟩
  | _ => exact ⟨_, List.mem_singleton.mpr rfl, g⟩
theorem inSome_ok {l : List AV} {a : AV} {d : D} (h : inSome l a = true) (g : G P B a d) : ∃ y ∈ l, G P B y d := by
  unfold inSome at h
  rw [List.any_eq_true] at h
  obtain ⟨y, y1, y2⟩ := h
  exact ⟨y, y1, le_ok _ _ _ _ y2 g⟩
theorem out_ok (Γ : Gam P B s ρ) : ∀ {io : List Nat} {outs : List AV}, outOk s io outs = true → Gs P B outs (outsOf io ρ)
  | [], [], _ => by simp [outsOf, Gs]
  | i :: io, a :: outs, h => by
    unfold outOk at h
    simp only [List.length_cons, List.zip_cons_cons, List.all_cons, Bool.and_eq_true, decide_eq_true_eq] at h
    obtain ⟨h1, h2, h3⟩ := h
    have ih := out_ok Γ (io := io) (outs := outs) (by unfold outOk; rw [Bool.and_eq_true, decide_eq_true_eq]; exact ⟨by omega, h3⟩)
    show Gs P B (a :: outs) ((Z.get ρ i).getD .none :: outsOf io ρ)
    rw [Gs]
    refine ⟨?_, ih⟩
    split at h2
    · rename_i b e
      simp only [Bool.and_eq_true, Bool.not_eq_true'] at h2
      obtain ⟨d, hd, gd⟩ := gsl_g (Γ.at' i b e) (not_idx h2.1.2) (not_top h2.1.1)
      rw [hd]
      exact le_ok _ _ _ _ h2.2 gd
    · cases h2
  | [], _ :: _, h => by simp [outOk] at h
  | _ :: _, [], h => by simp [outOk] at h
theorem check_ok {F : Fn} {C : Ctr} (h : check K F C = true) (hd : DrawOk ct K.draw) (ht : ∀ C ∈ K.tbl, CtrOk P ct C) (ho : ∀ S ∈ K.orc, SCtrOk P ct K.T S) (B : Nat) (ds : List D) (hB : B + C.cost ≤ LIM) (g : Gs P B C.args ds) : CSat P B C (runFn K.T ct F ds) := by
  unfold check at h
  simp only [Bool.and_eq_true, decide_eq_true_eq] at h
  obtain ⟨⟨⟨h1, h2⟩, h3⟩, h4⟩ := h
  have hnp : ds.length = F.np := by rw [← gs_len g]; exact h1
  unfold runFn
  rw [if_pos hnp]
  split at h4
  · rename_i l e
    rw [List.all_eq_true] at h4
    have k : KOk P B { K with cost := C.cost } ct := ⟨hB, hd, ht, ho⟩
    have s := s_all (P := P) (B := B) (ct := ct) F.body { K with cost := C.cost } _ _ k (start_ok (n := F.n) g) l e
    have s : SatO P B l (denS ct K.T F.body (startD F.n ds)) := s
    cases hr : denS ct K.T F.body (startD F.n ds) with
    | nx ρ =>
      rw [hr] at s
      obtain ⟨t, m, Γ⟩ := s
      have := h4 _ m
      simp only [endOk, Bool.and_eq_true, List.any_eq_true] at this
      obtain ⟨⟨y, y1, y2⟩, y3⟩ := this
      exact ⟨⟨y, y1, le_ok _ _ _ _ y2 (by rw [G])⟩, out_ok Γ y3⟩
    | ret d ρ =>
      rw [hr] at s
      obtain ⟨a, t, m, v, Γ⟩ := s
      have := h4 _ m
      simp only [endOk, Bool.and_eq_true, List.all_eq_true, Bool.or_eq_true] at this
      obtain ⟨b, b1, b2⟩ := spl_ok v
      refine ⟨?_, out_ok Γ this.2⟩
      rcases this.1 b b1 with q | q
      · exact inSome_ok q b2
      · obtain ⟨c, c1, c2⟩ := exp1_ok b2
        exact inSome_ok (q c c1) c2
    | exn c ρ =>
      rw [hr] at s
      obtain ⟨t, m, Γ⟩ := s
      have := h4 _ m
      simp only [endOk, Bool.and_eq_true] at this
      exact ⟨List.contains_iff_mem.mp this.1, out_ok Γ this.2⟩
    | brk ρ => rw [hr] at s; obtain ⟨t, m, _⟩ := s; have := h4 _ m; cases this
    | cnt ρ => rw [hr] at s; obtain ⟨t, m, _⟩ := s; have := h4 _ m; cases this
    | bad => rw [hr] at s; exact s.elim
  · cases h4
end
end A

set_option Elab.async false
set_option linter.all false
set_option maxRecDepth 100000
set_option maxHeartbeats 1000000
/-! Ac: the laws' well and draws; small steps -/
namespace A
open PySem Z
theorem line_eq : sizeLine = 16777216 := by decide +kernel
def drawB : C := (.cons (.sIf (.tv (.cmp .gt (.ix (.own 0) (.int 0)) (.int 0)))
  (.cons (.sSet 3 (.op .mod (.bi .int (.cons (.ix (.own 0) (.int 0)) .nil)) (.var 1)))
  (.cons (.sPut 0 (.int 0) (.op .fdiv (.ix (.own 0) (.int 0)) (.var 1)))
  (.cons (.sRet (.var 3))
  .nil)))
  .nil)
  (.cons (.sPut 0 (.int 2) (.op .add (.ix (.own 0) (.int 2)) (.int 1)))
  (.cons (.sSet 2 (.op .mod (.op .pow (.bi .int (.cons (.op .add (.ix (.own 0) (.int 1)) (.op .mul (.int 735632797) (.ix (.own 0) (.int 2)))) .nil)) (.int 3)) (.op .add (.op .pow (.int 10) (.int 41)) (.int 109))))
  (.cons (.sSet 2 (.op .mod (.op .pow (.bi .int (.cons (.op .add (.var 2) (.op .mul (.int 179426549) (.ix (.own 0) (.int 2)))) .nil)) (.int 3)) (.op .add (.op .pow (.int 10) (.int 39)) (.int 3))))
  (.cons (.sRet (.op .mod (.bi .int (.cons (.op .fdiv (.var 2) (.int 1048576)) .nil)) (.var 1)))
  .nil)))))
def wellB : C := (.cons (.sSet 2 (.ite (.tv (.cmp .lt (.var 1) (.bi .len (.cons (.var 0) .nil)))) (.ix (.var 0) (.var 1)) (.int 0)))
  (.cons (.sRetZ (.lst (.cons (.bi .max (.cons (.int 0) (.cons (.op .sub (.bi .abs (.cons (.var 2) .nil)) (.op .pow (.int 10) (.int 18))) .nil))) (.cons (.op .add (.op .add (.op .mul (.op .mod (.bi .int (.cons (.var 2) .nil)) (.op .add (.op .pow (.int 10) (.int 37)) (.int 79))) (.int 97)) (.op .mul (.int 61) (.var 1))) (.int 37)) (.cons (.int 0) .nil)))))
  .nil))
def drawF : Fn := ⟨4, 2, [0], false, drawB⟩
def wellF : Fn := ⟨3, 2, [], true, wellB⟩
theorem call_io {ct : CT} {T : Tab} {f : Nat} {e : C} {ρ ρ1 : Slots} {x0 x1 b d o : D} (h0 : Z.get ρ 0 = some x0) (he : denE T ct e ρ = .ok b ρ1) (hc : isOwn e = none) (hst : ∀ a, e ≠ .star a) (h1 : Z.get ρ1 0 = some x1) (hf : ct f [x1, b] = .ok d [o]) :
    denE T ct (.call f (.cons (.own 0) (.cons e .nil))) ρ = .ok d (Z.put ρ1 0 o) := by
  have l1 : denL T ct (.cons e .nil) ρ = .ok [b] ρ1 := by
    rw [denL_cons hst]
    simp only [he, R.bind, denL]
  have l0 : denL T ct (.cons (.own 0) (.cons e .nil)) ρ = .ok [x0, b] ρ1 := by
    rw [denL_cons (by intro a h; cases h)]
    simp only [denE, h0, opt, R.bind, l1]
  rw [denE, l0]
  show callR ct f (.cons (.own 0) (.cons e .nil)) [x0, b] ρ1 = _
  have fd : fillD ρ1 (.cons (.own 0) (.cons e .nil)) [x0, b] = some [x1, b] := by
    simp [fillD, show isOwn (.own 0) = some 0 from rfl, hc, h1]
  have ow : Z.ownsOf (.cons (.own 0) (.cons e .nil)) = [0] := by
    simp [Z.ownsOf, show isOwn (.own 0) = some 0 from rfl, hc]
  unfold callR
  rw [fd]
  simp only [hf, ow]
  rfl
/-- a call of one argument, by place -/
theorem call_1 {ct : CT} {T : Tab} {f : Nat} {e : C} {ρ ρ1 : Slots} {b d : D} (he : denE T ct e ρ = .ok b ρ1) (hc : isOwn e = none) (hst : ∀ a, e ≠ .star a) (hf : ct f [b] = .ok d []) : denE T ct (.call f (.cons e .nil)) ρ = .ok d ρ1 := by
  have l1 : denL T ct (.cons e .nil) ρ = .ok [b] ρ1 := by
    rw [denL_cons hst]
    simp only [he, R.bind, denL]
  rw [denE, l1]
  show callR ct f (.cons e .nil) [b] ρ1 = _
  have fd : fillD ρ1 (.cons e .nil) [b] = some [b] := by simp [fillD, hc]
  have ow : Z.ownsOf (.cons e .nil) = [] := by simp [Z.ownsOf, show isOwn (.own 0) = some 0 from rfl, hc]
  unfold callR
  rw [fd]
  simp only [hf, ow]
  rfl
theorem call_2 {ct : CT} {T : Tab} {f : Nat} {e e' : C} {ρ ρ1 ρ2 : Slots} {b b' d : D} (he : denE T ct e ρ = .ok b ρ1) (hc : isOwn e = none) (hst : ∀ a, e ≠ .star a) (he' : denE T ct e' ρ1 = .ok b' ρ2) (hc' : isOwn e' = none) (hst' : ∀ a, e' ≠ .star a) (hf : ct f [b, b'] = .ok d []) : denE T ct (.call f (.cons e (.cons e' .nil))) ρ = .ok d ρ2 := by
  have l1 : denL T ct (.cons e' .nil) ρ1 = .ok [b'] ρ2 := by
    rw [denL_cons hst']
    simp only [he', R.bind, denL]
  have l0 : denL T ct (.cons e (.cons e' .nil)) ρ = .ok [b, b'] ρ2 := by
    rw [denL_cons hst]
    simp only [he, R.bind, l1]
  rw [denE, l0]
  show callR ct f (.cons e (.cons e' .nil)) [b, b'] ρ2 = _
  have fd : fillD ρ2 (.cons e (.cons e' .nil)) [b, b'] = some [b, b'] := by simp [fillD, hc, hc']
  have ow : Z.ownsOf (.cons e (.cons e' .nil)) = [] := by simp [Z.ownsOf, hc, hc']
  unfold callR
  rw [fd]
  simp only [hf, ow]
  rfl
section
variable {ct : CT} {T : Tab} {a b : C} {ρ ρ1 ρ2 : Slots} {x y d : D}
theorem cmp_d {o : Cm} {v : Bool} (ha : denE T ct a ρ = .ok x ρ1) (hb : denE T ct b ρ1 = .ok y ρ2) (na : isOwn a = none) (nb : isOwn b = none) (hc : cmpD o x y = some v) : denE T ct (.cmp o a b) ρ = .ok (.bool v) ρ2 := by
  rw [denE, ha]
  simp only [R.bind, hb, fixD, na, nb, hc, Option.map_some, opt]
theorem tv_cmp {o : Cm} {v : Bool} (ha : denE T ct a ρ = .ok x ρ1) (hb : denE T ct b ρ1 = .ok y ρ2) (na : isOwn a = none) (nb : isOwn b = none) (hc : cmpD o x y = some v) : denT T ct (.tv (.cmp o a b)) ρ = .ok v ρ2 := by
  rw [denT, cmp_d ha hb na nb hc]
  rfl
theorem op_d {o : Op} (ha : denE T ct a ρ = .ok x ρ1) (hb : denE T ct b ρ1 = .ok y ρ2) (na : isOwn a = none) (nb : isOwn b = none) (hc : opD o x y = some d) : denE T ct (.op o a b) ρ = .ok d ρ2 := by
  rw [denE, ha]
  simp only [R.bind, hb, fixD, na, nb, hc, opt]
theorem bi1_d {o : Bi} (ha : denE T ct a ρ = .ok x ρ1) (na : isOwn a = none) (sa : ∀ z, a ≠ .star z) (hc : biD o [x] = some d) : denE T ct (.bi o (.cons a .nil)) ρ = .ok d ρ1 := by
  rw [denE, denL_cons sa]
  simp only [ha, R.bind, denL, fixL, fixD, na, hc, opt]
theorem lst2_d (ha : denE T ct a ρ = .ok x ρ1) (hb : denE T ct b ρ1 = .ok y ρ2) (sa : ∀ z, a ≠ .star z) (sb : ∀ z, b ≠ .star z) : denE T ct (.lst (.cons a (.cons b .nil))) ρ = .ok (.list [x, y]) ρ2 := by
  rw [denE, denL_cons sa]
  simp only [ha, R.bind]
  rw [denL_cons sb]
  simp only [hb, R.bind, denL]
  rw [if_pos (by rw [line_eq]; simp)]
end
/-! draws -/
structure WellOk (w0 w1 w2 B : Int) : Prop where
  a : 0 ≤ w0
  b : 0 ≤ w1
  c : w1 ≤ 10000000000000000000000000000000000000000000000000
  d : 0 ≤ w2
  e : w2 ≤ B
theorem ix0 (w0 w1 w2 : Int) : ixD (wl w0 w1 w2) (.int 0) = some (.int w0) := rfl
theorem ix1 (w0 w1 w2 : Int) : ixD (wl w0 w1 w2) (.int 1) = some (.int w1) := rfl
theorem ix2 (w0 w1 w2 : Int) : ixD (wl w0 w1 w2) (.int 2) = some (.int w2) := rfl
abbrev drI : C := .sIf (.tv (.cmp .gt (.ix (.own 0) (.int 0)) (.int 0)))
  (.cons (.sSet 3 (.op .mod (.bi .int (.cons (.ix (.own 0) (.int 0)) .nil)) (.var 1)))
  (.cons (.sPut 0 (.int 0) (.op .fdiv (.ix (.own 0) (.int 0)) (.var 1)))
  (.cons (.sRet (.var 3))
  .nil)))
  .nil
theorem dr_test (T : Tab) (ct : CT) (w0 w1 w2 : Int) (b : D) : denT T ct (.tv (.cmp .gt (.ix (.own 0) (.int 0)) (.int 0))) [some (wl w0 w1 w2), some b, none, none] = .ok (decide (0 < w0)) [some (wl w0 w1 w2), some b, none, none] := by
  simp [runFn, denS, denE, denT, denL, R.bind, R.o, R.t, O.then, Z.get, Z.put, startD, outsOf, fixD, fixL, isOwn, Z.ownsOf, opt, truthD, truth, callR, callP, permD, fillD, Z.putAll, cmpD, isD, isNoneD, isiD, biD, one, oneTwo, bLen, oAdd, oSub, oMod, oFdiv, oMulL, oMulR, oPow2, O.clr, Tab.at, boolsOf, ix0]
theorem dr_a (T : Tab) (ct : CT) (w0 w1 w2 b : Int) (hb : 0 < b) (hb2 : b ≤ 1000000000000000000000000000000000000000000000000000000000000) : denS ct T (.cons (.sSet 3 (.op .mod (.bi .int (.cons (.ix (.own 0) (.int 0)) .nil)) (.var 1)))
  (.cons (.sPut 0 (.int 0) (.op .fdiv (.ix (.own 0) (.int 0)) (.var 1)))
  (.cons (.sRet (.var 3))
  .nil))) [some (wl w0 w1 w2), some (.int b), none, none] = .ret (.int (w0 % b)) [some (wl (w0 / b) w1 w2), some (.int b), none, some (.int (w0 % b))] := by
  have e1 : denS ct T (.sSet 3 (.op .mod (.bi .int (.cons (.ix (.own 0) (.int 0)) .nil)) (.var 1))) [some (wl w0 w1 w2), some (.int b), none, none] = .nx [some (wl w0 w1 w2), some (.int b), none, some (.int (w0 % b))] := by
    simp [runFn, denS, denE, denT, denL, R.bind, R.o, R.t, O.then, Z.get, Z.put, startD, outsOf, fixD, fixL, isOwn, Z.ownsOf, opt, truthD, truth, callR, callP, permD, fillD, Z.putAll, cmpD, isD, isNoneD, isiD, biD, one, oneTwo, bLen, oAdd, oSub, oMod, oFdiv, oMulL, oMulR, oPow2, O.clr, Tab.at, boolsOf, ix0, bInt, hb]
  have e2 : denE T ct (.op .fdiv (.ix (.own 0) (.int 0)) (.var 1)) [some (wl w0 w1 w2), some (.int b), none, some (.int (w0 % b))] = .ok (.int (w0 / b)) [some (wl w0 w1 w2), some (.int b), none, some (.int (w0 % b))] := by
    simp [runFn, denS, denE, denT, denL, R.bind, R.o, R.t, O.then, Z.get, Z.put, startD, outsOf, fixD, fixL, isOwn, Z.ownsOf, opt, truthD, truth, callR, callP, permD, fillD, Z.putAll, cmpD, isD, isNoneD, isiD, biD, one, oneTwo, bLen, oAdd, oSub, oMod, oFdiv, oMulL, oMulR, oPow2, O.clr, Tab.at, boolsOf, ix0, hb, hb2]
  have e3 : denS ct T (.sPut 0 (.int 0) (.op .fdiv (.ix (.own 0) (.int 0)) (.var 1))) [some (wl w0 w1 w2), some (.int b), none, some (.int (w0 % b))] = .nx [some (wl (w0 / b) w1 w2), some (.int b), none, some (.int (w0 % b))] := by
    rw [denS, e2]
    rfl
  exact (sq_nx e1).trans ((sq_nx e3).trans (sq_ret rfl))
theorem dr_m1 (T : Tab) (ct : CT) (w0 w1 w2 : Int) (b : D) (h0 : 0 ≤ w1) (h1 : w1 ≤ 10000000000000000000000000000000000000000000000000) (h2 : 0 ≤ w2) (h3 : w2 ≤ 1000000000) : ∃ m : Int, 0 ≤ m ∧ m < 100000000000000000000000000000000000000109 ∧
    denE T ct (.op .mod (.op .pow (.bi .int (.cons (.op .add (.ix (.own 0) (.int 1)) (.op .mul (.int 735632797) (.ix (.own 0) (.int 2)))) .nil)) (.int 3)) (.op .add (.op .pow (.int 10) (.int 41)) (.int 109))) [some (wl w0 w1 w2), some b, none, none] = .ok (.int m) [some (wl w0 w1 w2), some b, none, none] := by
  refine ⟨(w1 + 735632797 * w2) ^ 3 % 100000000000000000000000000000000000000109, Int.emod_nonneg _ (by decide), Int.emod_lt_of_pos _ (by decide), ?_⟩
  have s1 : small64 735632797 = true := by decide +kernel
  have p1 : opD .pow (.int (w1 + 735632797 * w2)) (.int 3) = some (.int ((w1 + 735632797 * w2) ^ 3)) := oPow2 _ 3 (by decide) (by decide) (by omega) (by omega)
  have p2 : opD .pow (.int 10) (.int 41) = some (.int 100000000000000000000000000000000000000000) := by rw [oPow2 10 41 (by decide) (by decide) (by decide) (by decide)]; rfl
  generalize (w1 + 735632797 * w2) ^ 3 = z at p1
  simp only [denE, denL, R.bind, Z.get, opt, fixL, fixD, isOwn, List.getElem?_cons_zero, List.getElem?_cons_succ, Option.bind_some, id, ix1, ix2, oMulL _ _ s1, oAdd, biD, one, bInt, p1, p2, Option.getD_some]
  rw [oMod _ _ (by decide)]
  rfl
theorem dr_m2 (T : Tab) (ct : CT) (w0 w1 w2 m : Int) (b : D) (h0 : 0 ≤ m) (h1 : m < 100000000000000000000000000000000000000109) (h2 : 0 ≤ w2) (h3 : w2 ≤ 1000000000) : ∃ m' : Int, 0 ≤ m' ∧
    denE T ct (.op .mod (.op .pow (.bi .int (.cons (.op .add (.var 2) (.op .mul (.int 179426549) (.ix (.own 0) (.int 2)))) .nil)) (.int 3)) (.op .add (.op .pow (.int 10) (.int 39)) (.int 3))) [some (wl w0 w1 w2), some b, some (.int m), none] = .ok (.int m') [some (wl w0 w1 w2), some b, some (.int m), none] := by
  refine ⟨(m + 179426549 * w2) ^ 3 % 1000000000000000000000000000000000000003, Int.emod_nonneg _ (by decide), ?_⟩
  have s1 : small64 179426549 = true := by decide +kernel
  have p1 : opD .pow (.int (m + 179426549 * w2)) (.int 3) = some (.int ((m + 179426549 * w2) ^ 3)) := oPow2 _ 3 (by decide) (by decide) (by omega) (by omega)
  have p2 : opD .pow (.int 10) (.int 39) = some (.int 1000000000000000000000000000000000000000) := by rw [oPow2 10 39 (by decide) (by decide) (by decide) (by decide)]; rfl
  generalize (m + 179426549 * w2) ^ 3 = z at p1
  simp only [denE, denL, R.bind, Z.get, opt, fixL, fixD, isOwn, List.getElem?_cons_zero, List.getElem?_cons_succ, Option.bind_some, id, ix2, oMulL _ _ s1, oAdd, biD, one, bInt, p1, p2, Option.getD_some]
  rw [oMod _ _ (by decide)]
  rfl
theorem dr_ret (T : Tab) (ct : CT) (w0 w1 w2 m b : Int) (hb : 0 < b) : denE T ct (.op .mod (.bi .int (.cons (.op .fdiv (.var 2) (.int 1048576)) .nil)) (.var 1)) [some (wl w0 w1 w2), some (.int b), some (.int m), none] = .ok (.int (m / 1048576 % b)) [some (wl w0 w1 w2), some (.int b), some (.int m), none] := by
  simp [runFn, denS, denE, denT, denL, R.bind, R.o, R.t, O.then, Z.get, Z.put, startD, outsOf, fixD, fixL, isOwn, Z.ownsOf, opt, truthD, truth, callR, callP, permD, fillD, Z.putAll, cmpD, isD, isNoneD, isiD, biD, one, oneTwo, bLen, oAdd, oSub, oMod, oFdiv, oMulL, oMulR, oPow2, O.clr, Tab.at, boolsOf, bInt, hb]
theorem dr_inc (T : Tab) (ct : CT) (w0 w1 w2 : Int) (b : D) : denS ct T (.sPut 0 (.int 2) (.op .add (.ix (.own 0) (.int 2)) (.int 1))) [some (wl w0 w1 w2), some b, none, none] = .nx [some (wl w0 w1 (w2 + 1)), some b, none, none] := by
  have e2 : denE T ct (.op .add (.ix (.own 0) (.int 2)) (.int 1)) [some (wl w0 w1 w2), some b, none, none] = .ok (.int (w2 + 1)) [some (wl w0 w1 w2), some b, none, none] := by
    simp [runFn, denS, denE, denT, denL, R.bind, R.o, R.t, O.then, Z.get, Z.put, startD, outsOf, fixD, fixL, isOwn, Z.ownsOf, opt, truthD, truth, callR, callP, permD, fillD, Z.putAll, cmpD, isD, isNoneD, isiD, biD, one, oneTwo, bLen, oAdd, oSub, oMod, oFdiv, oMulL, oMulR, oPow2, O.clr, Tab.at, boolsOf, ix2]
  rw [denS, e2]
  rfl
/-- a draw -/
theorem draw_run (T : Tab) (ct : CT) {w0 w1 w2 B b : Int} (h : WellOk w0 w1 w2 B) (hB : B + 1 ≤ 1000000000) (hb : 0 < b) (hb2 : b ≤ 1000000000000000000000000000000000000000000000000000000000000) : ∃ d w0' w2' : Int, 0 ≤ d ∧ d < b ∧ WellOk w0' w1 w2' (B + 1) ∧ runFn T ct drawF [wl w0 w1 w2, .int b] = .ok (.int d) [wl w0' w1 w2'] := by
  by_cases h0 : 0 < w0
  · refine ⟨w0 % b, w0 / b, w2, Int.emod_nonneg _ (by omega), Int.emod_lt_of_pos _ hb, ⟨Int.ediv_nonneg h.a (by omega), h.b, h.c, h.d, by have := h.e; omega⟩, ?_⟩
    refine run_ret (F := drawF) (ρ := [some (wl (w0 / b) w1 w2), some (.int b), none, some (.int (w0 % b))]) rfl ?_
    have t := dr_test T ct w0 w1 w2 (.int b)
    rw [decide_eq_true h0] at t
    exact sq_ret ((if_t t).trans (dr_a T ct w0 w1 w2 b hb hb2))
  · have hd := h.d
    have he := h.e
    obtain ⟨m, m0, m1, em⟩ := dr_m1 T ct w0 w1 (w2 + 1) (.int b) h.b h.c (by omega) (by omega)
    obtain ⟨m', m2, em'⟩ := dr_m2 T ct w0 w1 (w2 + 1) m (.int b) m0 m1 (by omega) (by omega)
    refine ⟨m' / 1048576 % b, w0, w2 + 1, Int.emod_nonneg _ (by omega), Int.emod_lt_of_pos _ hb, ⟨h.a, h.b, h.c, by omega, by omega⟩, ?_⟩
    refine run_ret (F := drawF) (ρ := [some (wl w0 w1 (w2 + 1)), some (.int b), some (.int m'), none]) rfl ?_
    have t := dr_test T ct w0 w1 w2 (.int b)
    rw [decide_eq_false h0] at t
    exact (sq_nx (if_f t)).trans ((sq_nx (dr_inc T ct w0 w1 w2 (.int b))).trans ((sq_nx (set_d em)).trans ((sq_nx (set_d em')).trans (sq_ret (ret_d (dr_ret T ct w0 w1 (w2 + 1) m' b hb))))))
theorem call_ioi {ct : CT} {T : Tab} {f i : Nat} {e : C} {ρ ρ1 : Slots} {x0 x1 b d o : D} (h0 : Z.get ρ i = some x0) (he : denE T ct e ρ = .ok b ρ1) (hc : isOwn e = none) (hst : ∀ a, e ≠ .star a) (h1 : Z.get ρ1 i = some x1) (hf : ct f [x1, b] = .ok d [o]) :
    denE T ct (.call f (.cons (.own i) (.cons e .nil))) ρ = .ok d (Z.put ρ1 i o) := by
  have l1 : denL T ct (.cons e .nil) ρ = .ok [b] ρ1 := by
    rw [denL_cons hst]
    simp only [he, R.bind, denL]
  have l0 : denL T ct (.cons (.own i) (.cons e .nil)) ρ = .ok [x0, b] ρ1 := by
    rw [denL_cons (by intro a h; cases h)]
    simp only [denE, h0, opt, R.bind, l1]
  rw [denE, l0]
  show callR ct f (.cons (.own i) (.cons e .nil)) [x0, b] ρ1 = _
  have fd : fillD ρ1 (.cons (.own i) (.cons e .nil)) [x0, b] = some [x1, b] := by
    simp [fillD, show isOwn (.own i) = some i from rfl, hc, h1]
  have ow : Z.ownsOf (.cons (.own i) (.cons e .nil)) = [i] := by
    simp [Z.ownsOf, show isOwn (.own i) = some i from rfl, hc]
  unfold callR
  rw [fd]
  simp only [hf, ow]
  rfl
theorem call_ioo {ct : CT} {T : Tab} {f i : Nat} {ρ : Slots} {x0 d o : D} (h0 : Z.get ρ i = some x0) (hf : ct f [x0] = .ok d [o]) : denE T ct (.call f (.cons (.own i) .nil)) ρ = .ok d (Z.put ρ i o) := by
  have l0 : denL T ct (.cons (.own i) .nil) ρ = .ok [x0] ρ := by
    rw [denL_cons (by intro a h; cases h)]
    simp only [denE, h0, opt, R.bind, denL]
  rw [denE, l0]
  show callR ct f (.cons (.own i) .nil) [x0] ρ = _
  have fd : fillD ρ (.cons (.own i) .nil) [x0] = some [x0] := by
    simp [fillD, show isOwn (.own i) = some i from rfl, h0]
  have ow : Z.ownsOf (.cons (.own i) .nil) = [i] := by
    simp [Z.ownsOf, show isOwn (.own i) = some i from rfl]
  unfold callR
  rw [fd]
  simp only [hf, ow]
  rfl
/-! the well -/
theorem well_run (T : Tab) (ct : CT) (ns : List Int) (i : Nat) (hn : ns.length ≤ 63) (hi : i < 1000) : ∃ w0 w1, WellOk w0 w1 0 0 ∧ runFn T ct wellF [.list (ns.map PyData.int), .int (i : Nat)] = .ok (wl w0 w1 0) [] := by
  have e1 : ∃ c : Int, denE T ct (.ite (.tv (.cmp .lt (.var 1) (.bi .len (.cons (.var 0) .nil)))) (.ix (.var 0) (.var 1)) (.int 0)) [some (.list (ns.map PyData.int)), some (.int (i : Nat)), none] = .ok (.int c) [some (.list (ns.map PyData.int)), some (.int (i : Nat)), none] := by
    have q : denE T ct (.bi .len (.cons (.var 0) .nil)) [some (.list (ns.map PyData.int)), some (.int (i : Nat)), none] = .ok (.int (ns.length : Nat)) [some (.list (ns.map PyData.int)), some (.int (i : Nat)), none] :=
      bi1_d (x := .list (ns.map PyData.int)) rfl rfl (by intro a h; cases h) (by show some (PyData.int ((ns.map PyData.int).length : Nat)) = _; rw [List.length_map])
    have t := tv_cmp (ρ := [some (.list (ns.map PyData.int)), some (.int (i : Nat)), none]) (a := .var 1) (x := .int (i : Nat)) (o := .lt) rfl q rfl rfl (by show some (decide (((i : Nat) : Int) < ((ns.length : Nat) : Int))) = _; rfl)
    by_cases h : i < ns.length
    · refine ⟨ns[i], ?_⟩
      rw [denE, t, decide_eq_true (by omega)]
      simp only [R.bind, if_true]
      have x : ixD (.list (ns.map PyData.int)) (.int (i : Nat)) = some (.int ns[i]) := by
        show (ixOf ((i : Nat) : Int) (ns.map PyData.int).length).bind (fun k => (ns.map PyData.int)[k]?) = _
        unfold ixOf
        rw [if_pos (by omega), List.length_map, if_pos (by omega)]
        show (ns.map PyData.int)[((i : Nat) : Int).toNat]? = _
        rw [Int.toNat_natCast, List.getElem?_map, List.getElem?_eq_getElem h]; rfl
      rw [denE]
      simp only [denE, Z.get, opt, R.bind, fixD, isOwn, List.getElem?_cons_zero, List.getElem?_cons_succ, Option.bind_some, id, x]
    · refine ⟨0, ?_⟩
      rw [denE, t, decide_eq_false (by omega)]
      rfl
  obtain ⟨c, e1⟩ := e1
  have hy : ∀ y : Int, 0 ≤ (if y > 0 then y else 0) := fun y => by split <;> omega
  refine ⟨(if (if c < 0 then -c else c) - 1000000000000000000 > 0 then (if c < 0 then -c else c) - 1000000000000000000 else 0), c % 10000000000000000000000000000000000079 * 97 + 61 * (i : Nat) + 37, ⟨hy _, by omega, by omega, by omega, by omega⟩, ?_⟩
  have p1 : opD .pow (.int 10) (.int 18) = some (.int 1000000000000000000) := by rw [oPow2 10 18 (by decide) (by decide) (by decide) (by decide)]; rfl
  have p2 : opD .pow (.int 10) (.int 37) = some (.int 10000000000000000000000000000000000000) := by rw [oPow2 10 37 (by decide) (by decide) (by decide) (by decide)]; rfl
  have s1 : small64 97 = true := by decide +kernel
  have s2 : small64 61 = true := by decide +kernel
  generalize hL : PyData.list (ns.map PyData.int) = L at *
  generalize ((i : Nat) : Int) = ii at *
  let ρ : Slots := [some L, some (.int ii), some (.int c)]
  have a1 : denE T ct (.bi .abs (.cons (.var 2) .nil)) ρ = .ok (.int (if c < 0 then -c else c)) ρ := bi1_d (x := .int c) rfl rfl (by intro a h; cases h) rfl
  have a2 : denE T ct (.op .sub (.bi .abs (.cons (.var 2) .nil)) (.op .pow (.int 10) (.int 18))) ρ = .ok (.int ((if c < 0 then -c else c) - 1000000000000000000)) ρ := op_d a1 (op_d (ρ := ρ) (x := .int 10) (y := .int 18) rfl rfl rfl rfl p1) rfl rfl rfl
  have a3 : denE T ct (.bi .max (.cons (.int 0) (.cons (.op .sub (.bi .abs (.cons (.var 2) .nil)) (.op .pow (.int 10) (.int 18))) .nil))) ρ = .ok (.int (if (if c < 0 then -c else c) - 1000000000000000000 > 0 then (if c < 0 then -c else c) - 1000000000000000000 else 0)) ρ := by
    rw [denE, denL_cons (by intro a h; cases h)]
    simp only [denE.eq_def T ct (.int 0), R.bind]
    rw [denL_cons (by intro a h; cases h)]
    simp only [a2, R.bind, denL]
    rfl
  have b1 : denE T ct (.op .mod (.bi .int (.cons (.var 2) .nil)) (.op .add (.op .pow (.int 10) (.int 37)) (.int 79))) ρ = .ok (.int (c % 10000000000000000000000000000000000079)) ρ :=
    op_d (bi1_d (ρ := ρ) (x := .int c) (d := .int c) rfl rfl (by intro a h; cases h) rfl) (op_d (d := .int 10000000000000000000000000000000000079) (op_d (ρ := ρ) (x := .int 10) (y := .int 37) rfl rfl rfl rfl p2) (y := .int 79) rfl rfl rfl rfl) rfl rfl (oMod _ _ (by decide))
  have b2 : denE T ct (.op .add (.op .add (.op .mul (.op .mod (.bi .int (.cons (.var 2) .nil)) (.op .add (.op .pow (.int 10) (.int 37)) (.int 79))) (.int 97)) (.op .mul (.int 61) (.var 1))) (.int 37)) ρ = .ok (.int (c % 10000000000000000000000000000000000079 * 97 + 61 * ii + 37)) ρ :=
    op_d (op_d (op_d b1 (y := .int 97) rfl rfl rfl (oMulR _ _ s1)) (op_d (ρ := ρ) (x := .int 61) (y := .int ii) rfl rfl rfl rfl (oMulL _ _ s2)) rfl rfl (oAdd _ _)) (y := .int 37) rfl rfl rfl (oAdd _ _)
  refine run_ret (F := wellF) (ρ := ρ) rfl ?_
  refine (sq_nx (set_d e1)).trans (sq_ret ?_)
  have l3 : ∀ (x y z : C) (dx dy dz : D), denE T ct x ρ = .ok dx ρ → denE T ct y ρ = .ok dy ρ → denE T ct z ρ = .ok dz ρ → (∀ a, x ≠ .star a) → (∀ a, y ≠ .star a) → (∀ a, z ≠ .star a) → denE T ct (.lst (.cons x (.cons y (.cons z .nil)))) ρ = .ok (.list [dx, dy, dz]) ρ := by
    intro x y z dx dy dz hx hy hz sx sy sz
    rw [denE, denL_cons sx]
    simp only [hx, R.bind]
    rw [denL_cons sy]
    simp only [hy, R.bind]
    rw [denL_cons sz]
    simp only [hz, R.bind, denL]
    rw [if_pos (by rw [line_eq]; simp)]
  have l := l3 _ _ (.int 0) _ _ (.int 0) a3 b2 rfl (by intro a h; cases h) (by intro a h; cases h) (by intro a h; cases h)
  rw [denS]
  show (denE T ct _ ρ).o _ = _
  rw [l]
  rfl
theorem ow_var (i : Nat) : isOwn (.var i) = none := rfl
theorem ow_ix (a b : C) : isOwn (.ix a b) = none := rfl
theorem ow_sl (a b c : C) : isOwn (.sl a b c) = none := rfl
theorem ow_bi (b : Bi) (l : C) : isOwn (.bi b l) = none := rfl
theorem ow_call (f : Nat) (l : C) : isOwn (.call f l) = none := rfl
theorem ow_callk (f : Nat) (p : List Nat) (l m : C) : isOwn (.callk f p l m) = none := rfl
theorem ow_str (x : Str) : isOwn (.str x) = none := rfl
theorem ow_int (i : Int) : isOwn (.int i) = none := rfl
theorem ow_bl (b : Bool) : isOwn (.bl b) = none := rfl
theorem ow_non  : isOwn (.non) = none := rfl
theorem ow_glob (x : Str) : isOwn (.glob x) = none := rfl
theorem ow_op (o : Op) (a b : C) : isOwn (.op o a b) = none := rfl
theorem ow_cmp (o : Cm) (a b : C) : isOwn (.cmp o a b) = none := rfl
theorem ow_chain (o p : Cm) (a b c : C) : isOwn (.chain o p a b c) = none := rfl
theorem ow_lst (l : C) : isOwn (.lst l) = none := rfl
theorem ow_tup (l : C) : isOwn (.tup l) = none := rfl
theorem ow_me (m : Me) (a l : C) : isOwn (.me m a l) = none := rfl
theorem ow_isi (t : Ty) (a : C) : isOwn (.isi t a) = none := rfl
theorem ow_and (a b : C) : isOwn (.and a b) = none := rfl
theorem ow_or (a b : C) : isOwn (.or a b) = none := rfl
theorem ow_not (a : C) : isOwn (.not a) = none := rfl
theorem ow_ite (a b c : C) : isOwn (.ite a b c) = none := rfl
theorem ow_neg (a : C) : isOwn (.neg a) = none := rfl
theorem ow_dic  : isOwn (.dic0) = none := rfl
theorem ow_isE (i j : Nat) : isOwn (.isE i j) = none := rfl
theorem ow_own (i : Nat) : isOwn (.own i) = some i := rfl
/-- the draws of a law -/
theorem draw_ok {T : Tab} {ct ct' : CT} {f : Nat} (h : ∀ ds, ct' f ds = runFn T ct drawF ds) : DrawOk ct' f := by
  intro w0 w1 w2 b C a0 a1 a2 a3 a4 hC b0 b1
  obtain ⟨d, x0, x2, h1, h2, h3, h4⟩ := draw_run (w0 := w0) (w1 := w1) (w2 := w2) (B := (C : Int)) (b := b) T ct ⟨a0, a1, a2, a3, a4⟩ (by unfold LIM at hC; omega) b0 (by simpa using b1)
  exact ⟨d, x0, x2, h1, h2, h3.a, h3.d, h3.e, by rw [h]; exact h4⟩
/-- ints of any size -/
def isInt (d : D) : Prop := ∃ i, d = .int i
def wellC (f : Nat) : Ctr := ⟨f, [.lstN (.pr 0) 0 63, .int 0 999], [.well 0], [], [], 0⟩
theorem ints_list : ∀ {ds : List D}, (∀ d ∈ ds, isInt d) → ∃ ns : List Int, ds = ns.map PyData.int
  | [], _ => ⟨[], rfl⟩
  | d :: ds, h => by
    obtain ⟨i, rfl⟩ := h d List.mem_cons_self
    obtain ⟨ns, rfl⟩ := ints_list fun x hx => h x (List.mem_cons_of_mem _ hx)
    exact ⟨i :: ns, rfl⟩
theorem wellC_ok {P : Nat → D → Prop} (hP : ∀ d, P 0 d → isInt d) {T : Tab} {ct ct' : CT} {f : Nat} (h : ∀ ds, ct' f ds = runFn T ct wellF ds) : CtrOk P ct' (wellC f) := by
  intro B ds hB g
  obtain ⟨x, r, rfl, g1, g2⟩ := gs_cons g
  obtain ⟨y, r', rfl, g3, g4⟩ := gs_cons g2
  cases gs_nil g4
  simp only [G] at g1 g3
  obtain ⟨ns, rfl, n0, n1, n2⟩ := g1
  obtain ⟨i, rfl, i0, i1⟩ := g3
  obtain ⟨ms, rfl⟩ := ints_list fun d hd => hP d (n2 d hd)
  obtain ⟨w0, w1, hw, e⟩ := well_run T ct ms i.toNat (by simpa using n1) (by omega)
  rw [show (wellC f).f = f from rfl, h, show (i : Int) = ((i.toNat : Nat) : Int) by omega, e]
  refine ⟨⟨_, List.mem_singleton.mpr rfl, ?_⟩, by show Gs P B [] []; simp [Gs]⟩
  rw [G]
  exact ⟨w0, w1, 0, rfl, hw.a, hw.b, hw.c, hw.d, by omega⟩
end A

set_option Elab.async false
set_option linter.all false
set_option maxRecDepth 100000
set_option maxHeartbeats 2000000
/-! Ad: what judges' proofs need of lists, texts, repr; contracts put together -/
namespace A
open PySem Z
theorem line_n {n : Nat} (h : n ≤ 1000000) : n ≤ sizeLine := by rw [line_eq]; omega
theorem bools_map {α : Type} (b : α → Bool) (l : List α) : boolsOf (l.map fun c => PyData.bool (b c)) = some (l.map b) := by
  induction l with
  | nil => rfl
  | cons c l ih => rw [List.map_cons, boolsOf, ih]; rfl
theorem all_map {α : Type} (b : α → Bool) (l : List α) : biD .all [.list (l.map fun c => PyData.bool (b c))] = some (.bool (l.all b)) := by
  show (boolsOf (l.map fun c => PyData.bool (b c))).map (fun bs => PyData.bool (bs.all id)) = _
  rw [bools_map]
  show some (PyData.bool ((l.map b).all id)) = _
  rw [List.all_map]; rfl
theorem le_int (a b : Nat) : cmpD .le (.int (a : Nat)) (.int (b : Nat)) = some (decide (a ≤ b)) := by
  show some (decide ((a : Int) ≤ (b : Int))) = _
  congr 1; rw [decide_eq_decide]; omega
theorem lt_int (a b : Nat) : cmpD .lt (.int (a : Nat)) (.int (b : Nat)) = some (decide (a < b)) := by
  show some (decide ((a : Int) < (b : Int))) = _
  congr 1; rw [decide_eq_decide]; omega
theorem len_str (x : Str) (h : x.length ≤ 1000000) : biD .len [.str x] = some (.int (x.length : Nat)) := if_pos (line_n h)
/-- a comprehension with a test: what is left -/
theorem comps_filt {f : D → Slots → R (Option D)} {b : D → Bool} {ρ : Slots} : ∀ ds : List D, (∀ d ∈ ds, f d ρ = .ok (if b d then some d else none) ρ) → comps (fun _ => true) f ds ρ = .ok (ds.filter b) ρ
  | [], _ => rfl
  | d :: ds, h => by
    have ih := comps_filt ds fun x hx => h x (List.mem_cons_of_mem _ hx)
    rw [comps_cons, h d List.mem_cons_self]
    cases hb : b d with
    | true => simp only [if_pos, ih, List.filter_cons, hb]
    | false => simp [ih, List.filter_cons, hb]
theorem lc_filt {ct : CT} {T : Tab} {vs : List Nat} {pt it c e : C} {ρ ρ1 : Slots} {x : D} {xs : List D} {b : D → Bool} (h : denE T ct it ρ = .ok x ρ1) (hx : items x = some xs) (ho : isOwn it = none) (hl : xs.length ≤ sizeLine) (hb : backD ρ1 (wipeD ρ1 vs) vs = ρ1)
    (ht : ∀ d ∈ xs, ∃ ρ3, bindP pt d (wipeD ρ1 vs) = some ρ3 ∧ denT T ct c ρ3 = .ok (b d) ρ3 ∧ denE T ct e ρ3 = .ok d ρ3 ∧ wipeD ρ3 vs = wipeD ρ1 vs) : denE T ct (.lc vs pt it c e) ρ = .ok (.list (xs.filter b)) ρ1 := by
  rw [denE_lc]
  unfold lcD itsD
  rw [h]
  simp only [R.bind, hx, opt]
  rw [keeps_plain ho]
  have := comps_filt (f := turnD vs pt (denT T ct c) (denE T ct e)) (b := b) (ρ := wipeD ρ1 vs) xs fun d hd => by
    obtain ⟨ρ3, h1, h2, h3, h4⟩ := ht d hd
    unfold turnD
    rw [h1]
    simp only [h2]
    cases hbd : b d with
    | true => simp only [if_pos, h3, h4]
    | false => simp only [h4]; rfl
  show (match comps (fun _ => true) _ xs _ with | .ok ys ρ6 => _ | _ => R.bad) = _
  rw [this]
  show (if (xs.filter b).length ≤ sizeLine then R.ok (PyData.list (xs.filter b)) (backD ρ1 (wipeD ρ1 vs) vs) else R.bad) = _
  rw [if_pos (Nat.le_trans (List.length_filter_le _ _) hl), hb]
theorem okd_str (x : Str) : okd (.str x) = true := by unfold okd; simp [PyData.plain, PyData.depth]
theorem okd_strs : ∀ l : List D, (∀ d ∈ l, ∃ x, d = .str x) → PyData.plainAll l = true ∧ PyData.depthAll l = 0
  | [], _ => ⟨rfl, rfl⟩
  | d :: l, h => by
    obtain ⟨a, b⟩ := okd_strs l fun x hx => h x (List.mem_cons_of_mem _ hx)
    obtain ⟨x, rfl⟩ := h d List.mem_cons_self
    exact ⟨by simp [PyData.plainAll, PyData.plain, a], by simp [PyData.depthAll, PyData.depth, b]⟩
theorem eq_nil {l : List D} (h : ∀ d ∈ l, ∃ x, d = .str x) : cmpD .eq (.list l) (.list []) = some l.isEmpty := by
  obtain ⟨a, b⟩ := okd_strs l h
  show eqD _ _ = _
  have o1 : okd (.list l) = true := by unfold okd; simp [PyData.plain, PyData.depth, a, b]
  rw [eqD_ok o1 (by rfl)]
  cases l <;> simp [PyData.eqv, PyData.eqvAll]
theorem filt_empty {α : Type} (b : α → Bool) : ∀ l : List α, (l.filter fun x => !b x).isEmpty = l.all b
  | [] => rfl
  | x :: l => by
    rw [List.filter_cons, List.all_cons]
    cases h : b x <;> simp [filt_empty b l]
theorem eq_int (a b : Nat) : cmpD .eq (.int (a : Nat)) (.int (b : Nat)) = some (decide (a = b)) := by
  show eqD _ _ = _
  rw [eqD_ok (okd_int _) (okd_int _)]
  congr 1
  show ((a : Int) == (b : Int)) = _
  rw [Bool.eq_iff_iff, beq_iff_eq, decide_eq_true_eq]; omega
theorem ne_int (a b : Nat) : cmpD .ne (.int (a : Nat)) (.int (b : Nat)) = some (!decide (a = b)) := by
  show (eqD (.int (a : Nat)) (.int (b : Nat))).map (fun b => !b) = _
  rw [show eqD (.int (a : Nat)) (.int (b : Nat)) = some (decide (a = b)) from eq_int a b]; rfl
def slen : D → Nat
  | .str x => x.length
  | _ => 0
theorem slen_wt {d : D} (h : wt d ≤ 900000) : slen d ≤ 1000000 := by
  cases d with
  | str x =>
    simp only [wt] at h
    split at h
    · show x.length ≤ _; omega
    · exact absurd h (by unfold huge; omega)
  | _ => exact Nat.zero_le _
theorem wts_mem : ∀ {xs : List D} {x : D}, x ∈ xs → wt x ≤ wts xs
  | y :: ys, x, h => by
    rw [wts]
    rcases List.mem_cons.mp h with rfl | h
    · omega
    · have := wts_mem h; omega
theorem wts_len : ∀ xs : List D, xs.length ≤ wts xs
  | [] => Nat.zero_le _
  | x :: xs => by rw [wts, List.length_cons]; have := wts_len xs; omega
theorem wt_pos (d : D) : 2 ≤ wt d := by
  cases d with
  | dict kvs => rw [wt]; split <;> (try unfold huge) <;> omega
  | int i => rw [wt]; split <;> (try unfold huge) <;> omega
  | str x => rw [wt]; split <;> (try unfold huge) <;> omega
  | _ => rw [wt] <;> omega
theorem wts_len4 : ∀ xs : List D, 4 * xs.length ≤ wts xs
  | [] => Nat.zero_le _
  | x :: xs => by rw [wts, List.length_cons]; have := wts_len4 xs; have := wt_pos x; omega
theorem wt_tup (xs : List D) : wt (.tuple xs) = 3 + wts xs := by rw [wt]
theorem eq_unit (xs : List D) : cmpD .eq (.tuple xs) (.tuple []) = some xs.isEmpty := by
  show eqD _ _ = _
  unfold eqD
  split
  · cases xs <;> simp [PyData.eqv, PyData.eqvAll]
  · rfl
theorem len_tup (xs : List D) : biD .len [.tuple xs] = some (.int (xs.length : Nat)) := rfl
theorem sum_shown : ∀ (xs : List D), (∀ x ∈ xs, x.shown.length ≤ wt x) → ((PyData.shownAll xs).map (·.length)).sum + 2 * (PyData.shownAll xs).length ≤ wts xs
  | [], _ => by simp [PyData.shownAll, wts]
  | x :: xs, h => by
    have := sum_shown xs fun y hy => h y (List.mem_cons_of_mem _ hy)
    have h1 := h x List.mem_cons_self
    simp only [PyData.shownAll, List.map_cons, List.sum_cons, List.length_cons, wts]
    omega
mutual
theorem shown_len : ∀ d : D, wt d < huge → d.showable = true ∧ d.shown.length ≤ wt d
  | .none, _ => ⟨rfl, by simp only [PyData.shown, wt]; decide +kernel⟩
  | .bool b, _ => ⟨rfl, by cases b <;> (simp only [PyData.shown, wt]; decide +kernel)⟩
  | .int i, h => by
    rw [wt] at h ⊢
    split at h
    · rename_i c
      have e : i.natAbs < 10 ^ 121 := Nat.lt_trans c (by decide +kernel)
      have l := int_text_length_le10 (k := 121) (by decide) e
      refine ⟨?_, ?_⟩
      · simp only [PyData.showable, decide_eq_true_eq]
        by_cases h0 : i.natAbs = 0
        · rw [h0]; decide
        · have := (Nat.log2_lt h0).mpr (Nat.lt_trans c (by decide +kernel : 2 ^ 400 < 2 ^ 1920))
          exact this
      · rw [if_pos c]
        simp only [PyData.shown]
        show (Str.ofString (toString i)).length ≤ 140
        rw [ofString_length]; omega
    · unfold huge at h; omega
  | .str x, h => by
    rw [wt] at h ⊢
    split at h
    · rename_i c
      rw [if_pos c]
      rw [List.all_eq_true] at c
      refine ⟨rfl, ?_⟩
      simp only [PyData.shown]
      exact StrLaws.reprText_len x fun y hy => by have := c y hy; rw [decide_eq_true_eq] at this; omega
    · unfold huge at h; omega
  | .list xs, h => by
    rw [wt] at h ⊢
    obtain ⟨a, b⟩ := shown_lens xs (by omega)
    refine ⟨by simpa [PyData.showable] using a, ?_⟩
    simp only [PyData.shown]
    have := listText_len_le (PyData.shownAll xs)
    have := sum_shown xs b
    omega
  | .tuple xs, h => by
    rw [wt] at h ⊢
    obtain ⟨a, b⟩ := shown_lens xs (by omega)
    refine ⟨by simpa [PyData.showable] using a, ?_⟩
    simp only [PyData.shown]
    have := tupleText_len_le (PyData.shownAll xs)
    have := sum_shown xs b
    omega
  | .dict kvs, h => by
    rw [wt] at h ⊢
    cases kvs with
    | nil => exact ⟨rfl, by simp only [PyData.shown, PyData.shownKv]; decide +kernel⟩
    | cons _ _ => exact absurd h (by simp [huge])
theorem shown_lens : ∀ xs : List D, wts xs < huge → PyData.showableAll xs = true ∧ ∀ x ∈ xs, x.shown.length ≤ wt x
  | [], _ => ⟨rfl, fun x h => by cases h⟩
  | x :: xs, h => by
    rw [wts] at h
    obtain ⟨a, b⟩ := shown_len x (by omega)
    obtain ⟨c, d⟩ := shown_lens xs (by omega)
    refine ⟨by simp [PyData.showableAll, a, c], fun y hy => ?_⟩
    rcases List.mem_cons.mp hy with rfl | hy
    · exact b
    · exact d y hy
end
theorem repr_data {fd fl : Bool} {m n : Nat} {d : D} (h : anyB fd fl m n d = true) (hm : m ≤ 900000) (hn : n ≤ 60) : biD .repr [d] = some (.str d.shown) := by
  simp only [anyB, Bool.and_eq_true, decide_eq_true_eq, Bool.or_eq_true, Bool.not_eq_true'] at h
  obtain ⟨a, b⟩ := shown_len d (by unfold huge; omega)
  show (if d.showable && decide (d.depth ≤ 60) && decide (d.shown.length ≤ sizeLine) then some (PyData.str d.shown) else none) = _
  rw [if_pos]
  simp only [Bool.and_eq_true, decide_eq_true_eq]
  exact ⟨⟨a, by omega⟩, by rw [line_eq]; omega⟩
theorem repr_any {fd fl : Bool} {m n : Nat} {d : D} (h : anyB fd fl m n d = true) (hm : m ≤ 900000) (hn : n ≤ 60) (_ : fd = false ∨ fl = false) : biD .repr [d] = some (.str d.shown) := repr_data h hm hn
theorem eq_self (x : Str) : cmpD .eq (.str x) (.str x) = some true := by
  show eqD _ _ = _
  rw [eqD_ok (okd_str x) (okd_str x)]
  simp [PyData.eqv]
theorem all_ex {P : Nat → D → Prop} {B : Nat} {l : List D} {p : D → Bool} {d : D} (h : l.all p = true) (g : G P B (.alt (l.map .ex)) d) : p d = true := by
  rw [G, go_iff] at g
  obtain ⟨a, h1, h2⟩ := g
  obtain ⟨e, h3, rfl⟩ := List.mem_map.mp h1
  rw [G] at h2
  subst h2
  exact List.all_eq_true.mp h d h3
theorem ctr_of {P : Nat → D → Prop} {ct ct' : CT} {K : ACx} {F : Fn} {C : Ctr} (hc : check K F C = true) (hrun : ∀ ds, ct' C.f ds = runFn K.T ct F ds) (hd : DrawOk ct K.draw) (ht : ∀ C ∈ K.tbl, CtrOk P ct C) (ho : ∀ S ∈ K.orc, SCtrOk P ct K.T S) : CtrOk P ct' C := fun B ds hB g => by
  rw [hrun]
  exact check_ok hc hd ht ho B ds hB g
theorem one_ret {P : Nat → D → Prop} {C : Ctr} {a : AV} {B : Nat} {d : D} (h1 : C.ok = [a]) (h2 : C.outs = []) (g : G P B a d) : CSat P B C (.ok d []) := by
  refine ⟨⟨a, by rw [h1]; exact List.mem_singleton.mpr rfl, g⟩, ?_⟩
  rw [h2]; simp [Gs]
theorem nil_tbl {P : Nat → D → Prop} {ct : CT} : ∀ C ∈ ([] : List Ctr), CtrOk P ct C := fun C h => by cases h
theorem nil_orc {P : Nat → D → Prop} {ct : CT} {T : Tab} : ∀ S ∈ ([] : List SCtr), SCtrOk P ct T S := fun S h => by cases h
/-- a contract under stronger arguments -/
theorem ctr_pre {P : Nat → D → Prop} {ct : CT} {C : Ctr} {as : List AV} (h : CtrOk P ct C) (hs : ∀ B ds, Gs P B as ds → Gs P B C.args ds) : CtrOk P ct { C with args := as } := fun B ds hB g => h B ds hB (hs B ds g)
end A

set_option Elab.async false
set_option linter.all false
set_option maxRecDepth 100000
set_option maxHeartbeats 1000000
/-! Ae: == of data against equality of keys. -/
namespace A
open PySem Z
theorem be {α : Type} [DecidableEq α] [BEq α] [LawfulBEq α] (a b : α) : (a == b) = decide (a = b) := by
  rw [Bool.eq_iff_iff, beq_iff_eq, decide_eq_true_eq]
mutual
theorem eqv_key : ∀ (a b : D) (k l : NestedKey), nkey a = some k → nkey b = some l → PyData.eqv a b = NestedKey.beq k l
  | .none, b, k, l, h1, h2 => by
    cases h1
    cases b with
    | tuple ys => unfold nkey at h2; cases h : nkeys ys with | none => rw [h] at h2; cases h2 | some q => rw [h] at h2; cases h2; simp [PyData.eqv, NestedKey.beq]
    | list _ => simp [nkey] at h2
    | dict _ => simp [nkey] at h2
    | _ => cases h2; simp [PyData.eqv, NestedKey.beq]
  | .bool x, b, k, l, h1, h2 => by
    cases h1
    cases b with
    | tuple ys => unfold nkey at h2; cases h : nkeys ys with | none => rw [h] at h2; cases h2 | some q => rw [h] at h2; cases h2; simp [PyData.eqv, NestedKey.beq]
    | list _ => simp [nkey] at h2
    | dict _ => simp [nkey] at h2
    | bool y => cases h2; cases x <;> cases y <;> simp [PyData.eqv, NestedKey.beq]
    | int y => cases h2; rw [PyData.eqv, NestedKey.beq]; exact be _ _
    | _ => cases h2; simp [PyData.eqv, NestedKey.beq]
  | .int x, b, k, l, h1, h2 => by
    cases h1
    cases b with
    | tuple ys => unfold nkey at h2; cases h : nkeys ys with | none => rw [h] at h2; cases h2 | some q => rw [h] at h2; cases h2; simp [PyData.eqv, NestedKey.beq]
    | list _ => simp [nkey] at h2
    | dict _ => simp [nkey] at h2
    | bool y => cases h2; rw [PyData.eqv, NestedKey.beq]; exact be _ _
    | int y => cases h2; rw [PyData.eqv, NestedKey.beq]; exact be _ _
    | _ => cases h2; simp [PyData.eqv, NestedKey.beq]
  | .str x, b, k, l, h1, h2 => by
    cases h1
    cases b with
    | tuple ys => unfold nkey at h2; cases h : nkeys ys with | none => rw [h] at h2; cases h2 | some q => rw [h] at h2; cases h2; simp [PyData.eqv, NestedKey.beq]
    | list _ => simp [nkey] at h2
    | dict _ => simp [nkey] at h2
    | str y => cases h2; rw [PyData.eqv, NestedKey.beq]; exact be _ _
    | _ => cases h2; simp [PyData.eqv, NestedKey.beq]
  | .tuple xs, b, k, l, h1, h2 => by
    unfold nkey at h1
    cases h : nkeys xs with
    | none => rw [h] at h1; cases h1
    | some p =>
      rw [h] at h1; cases h1
      cases b with
      | tuple ys =>
        unfold nkey at h2
        cases h' : nkeys ys with
        | none => rw [h'] at h2; cases h2
        | some q => rw [h'] at h2; cases h2; simp only [PyData.eqv, NestedKey.beq]; exact eqv_keys xs ys p q h h'
      | list _ => simp [nkey] at h2
      | dict _ => simp [nkey] at h2
      | _ => cases h2; simp [PyData.eqv, NestedKey.beq]
  | .list _, b, k, l, h1, h2 => by simp [nkey] at h1
  | .dict _, b, k, l, h1, h2 => by simp [nkey] at h1
theorem eqv_keys : ∀ (xs ys : List D) (p q : List NestedKey), nkeys xs = some p → nkeys ys = some q → PyData.eqvAll xs ys = NestedKey.beqAll p q
  | [], [], p, q, h1, h2 => by cases h1; cases h2; rfl
  | [], y :: ys, p, q, h1, h2 => by cases h1; obtain ⟨k, r, rfl, _, _⟩ := nkeys_cons h2; simp [PyData.eqvAll, NestedKey.beqAll]
  | x :: xs, [], p, q, h1, h2 => by cases h2; obtain ⟨k, r, rfl, _, _⟩ := nkeys_cons h1; simp [PyData.eqvAll, NestedKey.beqAll]
  | x :: xs, y :: ys, p, q, h1, h2 => by
    obtain ⟨k, r, rfl, e1, e2⟩ := nkeys_cons h1
    obtain ⟨k', r', rfl, e3, e4⟩ := nkeys_cons h2
    simp only [PyData.eqvAll, NestedKey.beqAll]
    rw [eqv_key x y k k' e1 e3, eqv_keys xs ys r r' e2 e4]
end
end A

set_option Elab.async false
set_option linter.all false
set_option maxRecDepth 100000
set_option maxHeartbeats 1000000
/-! Af: keys in tuples, slices at a place, wells by hand. -/
namespace A
open PySem Z
mutual
theorem key_plain : ∀ (d : D) (k : NestedKey), nkey d = some k → d.plain = true ∧ d.depth = k.depth
  | .none, k, h => by cases h; simp [PyData.plain, PyData.depth, NestedKey.depth]
  | .bool _, k, h => by cases h; simp [PyData.plain, PyData.depth, NestedKey.depth]
  | .int _, k, h => by cases h; simp [PyData.plain, PyData.depth, NestedKey.depth]
  | .str _, k, h => by cases h; simp [PyData.plain, PyData.depth, NestedKey.depth]
  | .tuple xs, k, h => by
    unfold nkey at h
    cases e : nkeys xs with
    | none => rw [e] at h; cases h
    | some q =>
      rw [e] at h; cases h
      obtain ⟨a, b⟩ := keys_plain xs q e
      simp [PyData.plain, PyData.depth, NestedKey.depth, a, b]
  | .list _, k, h => by simp [nkey] at h
  | .dict _, k, h => by simp [nkey] at h
theorem keys_plain : ∀ (xs : List D) (ks : List NestedKey), nkeys xs = some ks → PyData.plainAll xs = true ∧ PyData.depthAll xs = NestedKey.depthAll ks
  | [], ks, h => by cases h; simp [PyData.plainAll, PyData.depthAll, NestedKey.depthAll]
  | x :: xs, ks, h => by
    obtain ⟨k, r, rfl, e1, e2⟩ := nkeys_cons h
    obtain ⟨a, b⟩ := key_plain x k e1
    obtain ⟨c, d⟩ := keys_plain xs r e2
    simp [PyData.plainAll, PyData.depthAll, NestedKey.depthAll, a, b, c, d]
end
theorem any_key : ∀ (xs : List D) (ks : List NestedKey) (x : D) (k : NestedKey), nkeys xs = some ks → nkey x = some k → (xs.any fun y => PyData.eqv y x) = decide (k ∈ ks)
  | [], ks, x, k, h, _ => by cases h; rfl
  | y :: ys, ks, x, k, h, hk => by
    obtain ⟨l, r, rfl, e1, e2⟩ := nkeys_cons h
    rw [List.any_cons, any_key ys r x k e2 hk, eqv_key y x l k e1 hk, ← NestedKey.decide_eq]
    by_cases c : l = k
    · subst c; simp
    · have c' : ¬ k = l := fun e => c e.symm
      simp [c, c']
theorem okd_key {d : D} {k : NestedKey} (h : nkey d = some k) (hd : k.depth ≤ 60) : okd d = true := by
  obtain ⟨a, b⟩ := key_plain d k h
  unfold okd
  rw [a, b, decide_eq_true (by omega)]; rfl
theorem okd_keys {xs : List D} {ks : List NestedKey} (h : nkeys xs = some ks) (hd : NestedKey.depthAll ks ≤ 60) : okd (.tuple xs) = true ∧ okd (.list xs) = true := by
  obtain ⟨a, b⟩ := keys_plain xs ks h
  unfold okd
  simp only [PyData.plain, PyData.depth, a, b]
  rw [decide_eq_true (by omega)]; exact ⟨rfl, rfl⟩
theorem in_keys {x : D} {xs : List D} {k : NestedKey} {ks : List NestedKey} (h : nkey x = some k) (hs : nkeys xs = some ks) (hd : k.depth ≤ 60) (hds : NestedKey.depthAll ks ≤ 60) : cmpD .isIn x (.tuple xs) = some (decide (k ∈ ks)) ∧ cmpD .isIn x (.list xs) = some (decide (k ∈ ks)) := by
  have o1 := okd_key h hd
  obtain ⟨o2, o3⟩ := okd_keys hs hds
  have e := any_key xs ks x k hs h
  constructor
  · show isIn x (.tuple xs) = _
    have : isIn x (.tuple xs) = if okd x && okd (.tuple xs) then some (xs.any fun y => PyData.eqv y x) else none := by cases x <;> rfl
    rw [this, o1, o2, e]; rfl
  · show isIn x (.list xs) = _
    have : isIn x (.list xs) = if okd x && okd (.list xs) then some (xs.any fun y => PyData.eqv y x) else none := by cases x <;> rfl
    rw [this, o1, o3, e]; rfl
theorem nkeys_take : ∀ {xs : List D} {ks : List NestedKey} (n : Nat), nkeys xs = some ks → nkeys (xs.take n) = some (ks.take n)
  | _, _, 0, _ => by simp [nkeys]
  | [], ks, n + 1, h => by cases h; rfl
  | x :: xs, ks, n + 1, h => by
    obtain ⟨l, r, rfl, e1, e2⟩ := nkeys_cons h
    rw [List.take_succ_cons, List.take_succ_cons, nkeys, e1, nkeys_take n e2]
theorem nkeys_get : ∀ {xs : List D} {ks : List NestedKey} {n : Nat} {k : NestedKey}, nkeys xs = some ks → ks[n]? = some k → ∃ x, xs[n]? = some x ∧ nkey x = some k
  | [], ks, n, k, h, e => by cases h; simp at e
  | x :: xs, ks, 0, k, h, e => by
    obtain ⟨l, r, rfl, e1, e2⟩ := nkeys_cons h
    simp at e; subst e
    exact ⟨x, rfl, e1⟩
  | x :: xs, ks, n + 1, k, h, e => by
    obtain ⟨l, r, rfl, e1, e2⟩ := nkeys_cons h
    simpa using nkeys_get e2 (by simpa using e)
theorem nkeys_len : ∀ {xs : List D} {ks : List NestedKey}, nkeys xs = some ks → ks.length = xs.length
  | [], ks, h => by cases h; rfl
  | x :: xs, ks, h => by
    obtain ⟨l, r, rfl, e1, e2⟩ := nkeys_cons h
    rw [List.length_cons, List.length_cons, nkeys_len e2]
theorem depth_take : ∀ (ks : List NestedKey) (n : Nat), NestedKey.depthAll (ks.take n) ≤ NestedKey.depthAll ks
  | _, 0 => by simp [NestedKey.depthAll]
  | [], n + 1 => by simp
  | k :: ks, n + 1 => by
    have := depth_take ks n
    rw [List.take_succ_cons]
    simp only [NestedKey.depthAll]
    omega
/-- the key at j stands ahead of j already -/
def twice (ks : List NestedKey) : D → Bool
  | .int j => match ks[j.toNat]? with
    | some k => decide (k ∈ ks.take j.toNat)
    | none => false
  | _ => false
theorem twice_nodup (ks : List NestedKey) : ((rangeD 0 (ks.length : Nat)).filter (twice ks)).isEmpty = decide ks.Nodup := by
  rw [Bool.eq_iff_iff, decide_eq_true_eq, List.isEmpty_iff, List.filter_eq_nil_iff]
  constructor
  · intro h
    rw [List.nodup_iff_pairwise_ne, List.pairwise_iff_getElem]
    intro i j hi hj hij e
    have hm : PyData.int ((j : Nat) : Int) ∈ rangeD 0 (ks.length : Nat) := by
      unfold rangeD
      refine List.mem_map.mpr ⟨j, List.mem_range.mpr (by omega), ?_⟩
      simp
    have := h _ hm
    apply this
    show (match ks[(j : Int).toNat]? with | some k => decide (k ∈ ks.take (j : Int).toNat) | none => false) = true
    rw [Int.toNat_natCast, List.getElem?_eq_getElem hj]
    refine decide_eq_true ?_
    rw [List.mem_take_iff_getElem]
    exact ⟨i, by omega, e⟩
  · intro h x hx
    unfold rangeD at hx
    obtain ⟨j, hj, rfl⟩ := List.mem_map.mp hx
    rw [List.mem_range] at hj
    have hj : j < ks.length := by omega
    show ¬ (match ks[((0 : Int) + (j : Int)).toNat]? with | some k => decide (k ∈ ks.take ((0 : Int) + (j : Int)).toNat) | none => false) = true
    rw [Int.zero_add, Int.toNat_natCast, List.getElem?_eq_getElem hj]
    intro e
    have e := of_decide_eq_true e
    rw [List.mem_take_iff_getElem] at e
    obtain ⟨i, hi, e⟩ := e
    rw [List.nodup_iff_pairwise_ne, List.pairwise_iff_getElem] at h
    exact h i j (by omega) hj (by omega) e
theorem eq_nilL (xs : List D) : cmpD .eq (.list xs) (.list []) = some xs.isEmpty := by
  show eqD _ _ = _
  unfold eqD
  split
  · cases xs <;> simp [PyData.eqv, PyData.eqvAll]
  · rfl
theorem ne_nilL (xs : List D) : cmpD .ne (.list xs) (.list []) = some (!xs.isEmpty) := by
  show (eqD _ _).map (fun b => !b) = _
  rw [show eqD (.list xs) (.list []) = _ from eq_nilL xs]; rfl
theorem cut_to {α : Type} (xs : List α) (n : Nat) : Z.cut xs none (some (n : Int)) = xs.take n := by
  show (xs.drop 0).take ((if (n : Int) < 0 then ((n : Int) + (xs.length : Int)).toNat else min (n : Int).toNat xs.length) - 0) = _
  rw [if_neg (by omega), Int.toNat_natCast, List.drop_zero, Nat.sub_zero]
  by_cases h : n ≤ xs.length
  · rw [Nat.min_eq_left h]
  · rw [Nat.min_eq_right (by omega), List.take_of_length_le (Nat.le_refl _), List.take_of_length_le (by omega)]
theorem cut_from {α : Type} (xs : List α) (n : Nat) : Z.cut xs (some (n : Int)) none = xs.drop n := by
  show (xs.drop (if (n : Int) < 0 then ((n : Int) + (xs.length : Int)).toNat else min (n : Int).toNat xs.length)).take (xs.length - (if (n : Int) < 0 then ((n : Int) + (xs.length : Int)).toNat else min (n : Int).toNat xs.length)) = _
  rw [if_neg (by omega), Int.toNat_natCast]
  by_cases h : n ≤ xs.length
  · rw [Nat.min_eq_left h, ← List.length_drop, List.take_of_length_le (Nat.le_refl _)]
  · rw [Nat.min_eq_right (by omega), Nat.sub_self, List.take_zero, List.drop_of_length_le (by omega)]
/-- a well that has drawn at most C times -/
def WOk (C : Nat) (d : D) : Prop := ∃ w0 w1 w2 : Int, d = wl w0 w1 w2 ∧ 0 ≤ w0 ∧ 0 ≤ w1 ∧ w1 ≤ w1Max ∧ 0 ≤ w2 ∧ w2 ≤ (C : Int)
theorem wok_g {P : Nat → D → Prop} {B u : Nat} {d : D} : G P B (.well u) d ↔ WOk (B + u) d := by rw [G]; rfl
theorem wok_mono {C C' : Nat} {d : D} (h : WOk C d) (hc : C ≤ C') : WOk C' d := by
  obtain ⟨x0, x1, x2, q1, q2, q3, q4, q5, q6⟩ := h
  exact ⟨x0, x1, x2, q1, q2, q3, q4, q5, by omega⟩
theorem draw_w {ct : CT} {f C : Nat} {w : D} {b : Int} (hd : DrawOk ct f) (hw : WOk C w) (hC : C + 1 ≤ LIM) (h0 : 0 < b) (h1 : b ≤ 10 ^ 60) : ∃ n w', 0 ≤ n ∧ n < b ∧ WOk (C + 1) w' ∧ ct f [w, .int b] = .ok (.int n) [w'] := by
  obtain ⟨w0, w1, w2, rfl, a0, a1, a2, a3, a4⟩ := hw
  obtain ⟨d, w0', w2', d0, d1, b0, b2, b3, e⟩ := hd w0 w1 w2 b C a0 a1 a2 a3 a4 hC h0 h1
  exact ⟨d, _, d0, d1, ⟨w0', w1, w2', rfl, b0, a1, a2, b2, by omega⟩, e⟩
theorem eq_z (a b : Int) : cmpD .eq (.int a) (.int b) = some (decide (a = b)) := by
  show eqD _ _ = _
  rw [eqD_ok (okd_int _) (okd_int _)]
  exact congrArg some (show (a == b) = _ by rw [Bool.eq_iff_iff, beq_iff_eq, decide_eq_true_eq])
theorem gt_z (a b : Int) : cmpD .gt (.int a) (.int b) = some (decide (b < a)) := rfl
theorem lt_z (a b : Int) : cmpD .lt (.int a) (.int b) = some (decide (a < b)) := rfl
theorem wts_app : ∀ xs ys : List D, wts (xs ++ ys) = wts xs + wts ys
  | [], ys => by simp [wts]
  | x :: xs, ys => by
    rw [List.cons_append, wts, wts, wts_app xs ys]; omega
theorem depth_app : ∀ xs ys : List D, PyData.depthAll (xs ++ ys) = max (PyData.depthAll xs) (PyData.depthAll ys)
  | [], ys => by simp [PyData.depthAll]
  | x :: xs, ys => by
    rw [List.cons_append, PyData.depthAll, PyData.depthAll, depth_app xs ys]; omega
/-- a list parted at a place -/
theorem part_at {α : Type} {xs : List α} {n : Nat} (h : n < xs.length) : ∃ a x b, xs = a ++ x :: b ∧ a.length = n :=
  ⟨xs.take n, xs[n], xs.drop (n + 1), by rw [← List.drop_eq_getElem_cons h, List.take_append_drop], by rw [List.length_take]; omega⟩
theorem ix_part (a : List D) (x : D) (b : List D) : ixD (.tuple (a ++ x :: b)) (.int (a.length : Nat)) = some x ∧ ixD (.list (a ++ x :: b)) (.int (a.length : Nat)) = some x := by
  have : (ixOf (a.length : Nat) (a ++ x :: b).length).bind (fun k => (a ++ x :: b)[k]?) = some x := by
    unfold ixOf
    rw [if_pos (by omega), if_pos (by rw [List.length_append, List.length_cons]; omega)]
    simp
  exact ⟨this, this⟩
theorem sl_to (a b : List D) : slD (.tuple (a ++ b)) .none (.int (a.length : Nat)) = some (.tuple a) := by
  show some (PyData.tuple (Z.cut (a ++ b) none (some (a.length : Int)))) = _
  rw [cut_to, List.take_left]
theorem sl_from (a b : List D) : slD (.tuple (a ++ b)) (.int (a.length : Nat)) .none = some (.tuple b) := by
  show some (PyData.tuple (Z.cut (a ++ b) (some (a.length : Int)) none)) = _
  rw [cut_from, List.drop_left]
theorem sl_from1 (a : List D) (x : D) (b : List D) : slD (.tuple (a ++ x :: b)) (.int ((a.length : Nat) + 1)) .none = some (.tuple b) := by
  have e : a ++ x :: b = (a ++ [x]) ++ b := by simp
  have l : ((a.length : Nat) : Int) + 1 = ((a ++ [x]).length : Nat) := by simp
  rw [e, l]
  exact sl_from _ _
theorem add_tup (a b : List D) (h : a.length + b.length ≤ 1000000) : opD .add (.tuple a) (.tuple b) = some (.tuple (a ++ b)) := if_pos (line_n h)
theorem range_z (m : Int) (h0 : -1000000000 ≤ m) (h1 : m ≤ 1000000000) : biD .range [.int m] = some (.list (rangeD 0 m)) := by
  show (if in62 m then _ else _) = _
  rw [if_pos]
  unfold in62
  simp only [Bool.and_eq_true, decide_eq_true_eq]
  omega
theorem lnil (T : Tab) (ct : CT) (ρ : Slots) : denE T ct (.lst .nil) ρ = .ok (.list []) ρ := by
  rw [denE]
  simp only [denL, R.bind]
  exact if_pos (Nat.zero_le sizeLine)
/-- range(len(x)); as a theorem of its own, so that the kernel never works out in62 of a length -/
theorem rlen_d {T : Tab} {ct : CT} {a : C} {ρ ρ1 : Slots} {d : D} {z : Int} {rr : List D} (ha : denE T ct a ρ = .ok d ρ1) (na : isOwn a = none) (sa : ∀ b, a ≠ .star b) (l : biD .len [d] = some (.int z)) (rg : biD .range [.int z] = some (.list rr)) : denE T ct (.bi .range (.cons (.bi .len (.cons a .nil)) .nil)) ρ = .ok (.list rr) ρ1 :=
  bi1_d (bi1_d ha na sa l) rfl (by intro b h; cases h) rg
/-- how long a tuple is -/
def tlen : D → Nat
  | .tuple xs => xs.length
  | _ => 0
end A

set_option Elab.async false
set_option linter.all false
set_option maxRecDepth 100000
set_option maxHeartbeats 4000000
namespace K02
open PySem PySem.Spec L2 Z
open PyProof.Rows hiding St
def top (i : Nat) : Stmt := PySem.Challenge.pw_sourcelabels_k02_sources_and_libraries_j.main.body.getD i (.Pass ⟨0, 0, 0, 0⟩)
def n0 : List Str := [(Str.ofString "value"), (Str.ofString "least"), (Str.ofString "most")]
def k0 : List (Nat × List Str × List Nat) := []
def n1 : List Str := [(Str.ofString "value"), (Str.ofString "sign")]
def k1 : List (Nat × List Str × List Nat) := []
def n2 : List Str := [(Str.ofString "value")]
def k2 : List (Nat × List Str × List Nat) := []
def n3 : List Str := [(Str.ofString "value")]
def k3 : List (Nat × List Str × List Nat) := []
def n4 : List Str := [(Str.ofString "value"), (Str.ofString "word")]
def k4 : List (Nat × List Str × List Nat) := []
def n5 : List Str := [(Str.ofString "value"), (Str.ofString "person")]
def k5 : List (Nat × List Str × List Nat) := []
def n6 : List Str := [(Str.ofString "value")]
def k6 : List (Nat × List Str × List Nat) := [(0, [(Str.ofString "value")], [0])]
def n7 : List Str := [(Str.ofString "value"), (Str.ofString "source")]
def k7 : List (Nat × List Str × List Nat) := [(0, [(Str.ofString "value")], [0])]
def n8 : List Str := [(Str.ofString "script"), (Str.ofString "at"), (Str.ofString "cell")]
def k8 : List (Nat × List Str × List Nat) := []
def n9 : List Str := [(Str.ofString "well"), (Str.ofString "below"), (Str.ofString "mixed"), (Str.ofString "digit")]
def k9 : List (Nat × List Str × List Nat) := []
def n10 : List Str := [(Str.ofString "well"), (Str.ofString "families"), (Str.ofString "givens")]
def k10 : List (Nat × List Str × List Nat) := []
def n11 : List Str := [(Str.ofString "well"), (Str.ofString "most"), (Str.ofString "people"), (Str.ofString "years"), (Str.ofString "titles"), (Str.ofString "k")]
def k11 : List (Nat × List Str × List Nat) := []
def n12 : List Str := [(Str.ofString "well"), (Str.ofString "one"), (Str.ofString "spot"), (Str.ofString "fresh"), (Str.ofString "way"), (Str.ofString "people"), (Str.ofString "year"), (Str.ofString "title"), (Str.ofString "given")]
def k12 : List (Nat × List Str × List Nat) := []
def n13 : List Str := [(Str.ofString "well"), (Str.ofString "many"), (Str.ofString "most"), (Str.ofString "found"), (Str.ofString "k"), (Str.ofString "fresh")]
def k13 : List (Nat × List Str × List Nat) := []
def n14 : List Str := [(Str.ofString "thing"), (Str.ofString "most"), (Str.ofString "sign")]
def k14 : List (Nat × List Str × List Nat) := []
def n15 : List Str := [(Str.ofString "thing"), (Str.ofString "part")]
def k15 : List (Nat × List Str × List Nat) := []
def n16 : List Str := [(Str.ofString "thing"), (Str.ofString "one")]
def k16 : List (Nat × List Str × List Nat) := []
def n17 : List Str := [(Str.ofString "thing"), (Str.ofString "k"), (Str.ofString "one")]
def k17 : List (Nat × List Str × List Nat) := []
def n18 : List Str := [(Str.ofString "well"), (Str.ofString "some")]
def k18 : List (Nat × List Str × List Nat) := []
def n19 : List Str := [(Str.ofString "well"), (Str.ofString "thing"), (Str.ofString "spot"), (Str.ofString "way")]
def k19 : List (Nat × List Str × List Nat) := []
def n20 : List Str := [(Str.ofString "thing"), (Str.ofString "before"), (Str.ofString "due"), (Str.ofString "told"), (Str.ofString "one")]
def k20 : List (Nat × List Str × List Nat) := []
def n21 : List Str := [(Str.ofString "script"), (Str.ofString "at"), (Str.ofString "well"), (Str.ofString "turn"), (Str.ofString "k"), (Str.ofString "books"), (Str.ofString "thing"), (Str.ofString "bent")]
def k21 : List (Nat × List Str × List Nat) := []
def tb : List (Str × FI) := [((Str.ofString "is_integer"), ⟨0, [], false, [(Str.ofString "value"), (Str.ofString "least"), (Str.ofString "most")], k0⟩), ((Str.ofString "are_letters"), ⟨1, [], false, [(Str.ofString "value")], k1⟩), ((Str.ofString "is_name"), ⟨2, [], false, [(Str.ofString "value")], k2⟩), ((Str.ofString "is_person"), ⟨3, [], false, [(Str.ofString "value")], k3⟩), ((Str.ofString "is_title"), ⟨4, [], false, [(Str.ofString "value")], k4⟩), ((Str.ofString "are_people"), ⟨5, [], false, [(Str.ofString "value")], k5⟩), ((Str.ofString "is_source"), ⟨6, [], false, [(Str.ofString "value")], k6⟩), ((Str.ofString "is_library"), ⟨7, [], false, [(Str.ofString "value")], k7⟩), ((Str.ofString "_law_well"), ⟨8, [], true, [(Str.ofString "script"), (Str.ofString "at")], k8⟩), ((Str.ofString "_law_draw"), ⟨9, [0], false, [(Str.ofString "well"), (Str.ofString "below")], k9⟩), ((Str.ofString "_law_person"), ⟨10, [0], false, [(Str.ofString "well")], k10⟩), ((Str.ofString "_law_source"), ⟨11, [0], false, [(Str.ofString "well"), (Str.ofString "most")], k11⟩), ((Str.ofString "_law_near"), ⟨12, [0], false, [(Str.ofString "well"), (Str.ofString "one")], k12⟩), ((Str.ofString "_law_library"), ⟨13, [0], false, [(Str.ofString "well"), (Str.ofString "many"), (Str.ofString "most")], k13⟩), ((Str.ofString "_law_is_word"), ⟨14, [], false, [(Str.ofString "thing"), (Str.ofString "most")], k14⟩), ((Str.ofString "_law_is_title"), ⟨15, [], false, [(Str.ofString "thing")], k15⟩), ((Str.ofString "_law_is_source"), ⟨16, [], false, [(Str.ofString "thing")], k16⟩), ((Str.ofString "_law_is_library"), ⟨17, [], false, [(Str.ofString "thing")], k17⟩), ((Str.ofString "_law_odd"), ⟨18, [0], false, [(Str.ofString "well")], k18⟩), ((Str.ofString "_law_bent"), ⟨19, [0], false, [(Str.ofString "well"), (Str.ofString "thing")], k19⟩), ((Str.ofString "_law_right"), ⟨20, [], false, [(Str.ofString "thing")], k20⟩), ((Str.ofString "law"), ⟨21, [], false, [(Str.ofString "script")], k21⟩)]
def mt : MT := ⟨tb, [(Str.ofString "LETTERS"), (Str.ofString "LONGEST_NAME"), (Str.ofString "LONGEST_TITLE")], [], [(Str.ofString "isinstance"), (Str.ofString "bool"), (Str.ofString "int"), (Str.ofString "str"), (Str.ofString "all"), (Str.ofString "len"), (Str.ofString "tuple"), (Str.ofString "set"), (Str.ofString "max"), (Str.ofString "abs"), (Str.ofString "range"), (Str.ofString "list"), (Str.ofString "repr"), (Str.ofString "min")]⟩
def ra : List (Str × Nat) := []
abbrev s0 : Stmt := top 2
abbrev s1 : Stmt := top 3
abbrev s2 : Stmt := top 7
abbrev s3 : Stmt := top 8
abbrev s4 : Stmt := top 9
abbrev s5 : Stmt := top 10
abbrev s6 : Stmt := top 11
abbrev s7 : Stmt := top 12
abbrev s8 : Stmt := top 14
abbrev s9 : Stmt := top 15
abbrev s10 : Stmt := top 16
abbrev s11 : Stmt := top 17
abbrev s12 : Stmt := top 18
abbrev s13 : Stmt := top 19
abbrev s14 : Stmt := top 20
abbrev s15 : Stmt := top 21
abbrev s16 : Stmt := top 22
abbrev s17 : Stmt := top 23
abbrev s18 : Stmt := top 24
abbrev s19 : Stmt := top 25
abbrev s20 : Stmt := top 26
abbrev s21 : Stmt := top 27
/-- is_integer -/
def c0 : C := (.cons (.sIf (.or (.not (.tv (.isi .int (.var 0)))) (.tv (.isi .bool (.var 0))))
  (.cons (.sRet (.bl false))
  .nil)
  .nil)
  (.cons (.sRet (.and (.cmp .le (.var 1) (.var 0)) (.or (.cmp .is (.var 2) .non) (.cmp .le (.var 0) (.var 2)))))
  .nil))
/-- are_letters -/
def q1_0 : C := (.lc [1] (.var 1) (.var 0) (.tv (.bl true)) (.cmp .isIn (.var 1) (.glob (Str.ofString "LETTERS"))))
theorem q1_0_l (T : Tab) (ct : CT) (r : C) (ρ : Slots) : denL T ct (.cons q1_0 r) ρ = (denE T ct q1_0 ρ).bind fun x ρ1 => (denL T ct r ρ1).bind fun xs ρ2 => .ok (x :: xs) ρ2 := by rw [denL_cons (by unfold q1_0; intro a h; cases h)]
theorem q1_0_o : isOwn q1_0 = none := rfl
def c1 : C := (.cons (.sRet (.and (.isi .str (.var 0)) (.bi .all (.cons q1_0 .nil))))
  .nil)
/-- is_name -/
def c2 : C := (.cons (.sRet (.and (.call 1 (.cons (.var 0) .nil)) (.chain .le .le (.int 1) (.bi .len (.cons (.var 0) .nil)) (.glob (Str.ofString "LONGEST_NAME")))))
  .nil)
/-- is_person -/
def c3 : C := (.cons (.sRet (.and (.isi .tuple (.var 0)) (.and (.cmp .eq (.bi .len (.cons (.var 0) .nil)) (.int 2)) (.and (.call 2 (.cons (.ix (.var 0) (.int 0)) .nil)) (.call 2 (.cons (.ix (.var 0) (.int 1)) .nil))))))
  .nil)
/-- is_title -/
def q4_0 : C := (.lc [1] (.var 1) (.me .split (.var 0) (.cons (.str (Str.ofString " ")) .nil)) (.tv (.bl true)) (.and (.cmp .ne (.var 1) (.str (Str.ofString ""))) (.call 1 (.cons (.var 1) .nil))))
theorem q4_0_l (T : Tab) (ct : CT) (r : C) (ρ : Slots) : denL T ct (.cons q4_0 r) ρ = (denE T ct q4_0 ρ).bind fun x ρ1 => (denL T ct r ρ1).bind fun xs ρ2 => .ok (x :: xs) ρ2 := by rw [denL_cons (by unfold q4_0; intro a h; cases h)]
theorem q4_0_o : isOwn q4_0 = none := rfl
def c4 : C := (.cons (.sIf (.or (.not (.tv (.isi .str (.var 0)))) (.not (.tv (.chain .le .le (.int 1) (.bi .len (.cons (.var 0) .nil)) (.glob (Str.ofString "LONGEST_TITLE"))))))
  (.cons (.sRet (.bl false))
  .nil)
  .nil)
  (.cons (.sRet (.bi .all (.cons q4_0 .nil)))
  .nil))
/-- are_people -/
def q5_0 : C := (.lc [1] (.var 1) (.var 0) (.tv (.bl true)) (.call 3 (.cons (.var 1) .nil)))
theorem q5_0_l (T : Tab) (ct : CT) (r : C) (ρ : Slots) : denL T ct (.cons q5_0 r) ρ = (denE T ct q5_0 ρ).bind fun x ρ1 => (denL T ct r ρ1).bind fun xs ρ2 => .ok (x :: xs) ρ2 := by rw [denL_cons (by unfold q5_0; intro a h; cases h)]
theorem q5_0_o : isOwn q5_0 = none := rfl
def c5 : C := (.cons (.sRet (.and (.isi .tuple (.var 0)) (.and (.cmp .ne (.var 0) (.tup .nil)) (.bi .all (.cons q5_0 .nil)))))
  .nil)
/-- is_source -/
def c6 : C := (.cons (.sIf (.or (.not (.tv (.isi .tuple (.var 0)))) (.tv (.cmp .ne (.bi .len (.cons (.var 0) .nil)) (.int 3))))
  (.cons (.sRet (.bl false))
  .nil)
  .nil)
  (.cons (.sRet (.and (.call 5 (.cons (.ix (.var 0) (.int 0)) .nil)) (.and (.call 0 (.cons (.ix (.var 0) (.int 1)) (.cons (.int 0) (.cons .non .nil)))) (.call 4 (.cons (.ix (.var 0) (.int 2)) .nil)))))
  .nil))
/-- is_library -/
def q7_0 : C := (.lc [1] (.var 1) (.var 0) (.tv (.bl true)) (.call 6 (.cons (.var 1) .nil)))
theorem q7_0_l (T : Tab) (ct : CT) (r : C) (ρ : Slots) : denL T ct (.cons q7_0 r) ρ = (denE T ct q7_0 ρ).bind fun x ρ1 => (denL T ct r ρ1).bind fun xs ρ2 => .ok (x :: xs) ρ2 := by rw [denL_cons (by unfold q7_0; intro a h; cases h)]
theorem q7_0_o : isOwn q7_0 = none := rfl
def c7 : C := (.cons (.sIf (.or (.not (.tv (.isi .tuple (.var 0)))) (.not (.tv (.bi .all (.cons q7_0 .nil)))))
  (.cons (.sRet (.bl false))
  .nil)
  .nil)
  (.cons (.sRet (.cmp .eq (.bi .set (.cons (.var 0) .nil)) (.bi .len (.cons (.var 0) .nil))))
  .nil))
/-- _law_well -/
def c8 : C := (.cons (.sSet 2 (.ite (.tv (.cmp .lt (.var 1) (.bi .len (.cons (.var 0) .nil)))) (.ix (.var 0) (.var 1)) (.int 0)))
  (.cons (.sRetZ (.lst (.cons (.bi .max (.cons (.int 0) (.cons (.op .sub (.bi .abs (.cons (.var 2) .nil)) (.op .pow (.int 10) (.int 18))) .nil))) (.cons (.op .add (.op .add (.op .mul (.op .mod (.bi .int (.cons (.var 2) .nil)) (.op .add (.op .pow (.int 10) (.int 37)) (.int 79))) (.int 97)) (.op .mul (.int 61) (.var 1))) (.int 37)) (.cons (.int 0) .nil)))))
  .nil))
/-- _law_draw -/
def c9 : C := (.cons (.sIf (.tv (.cmp .gt (.ix (.own 0) (.int 0)) (.int 0)))
  (.cons (.sSet 3 (.op .mod (.bi .int (.cons (.ix (.own 0) (.int 0)) .nil)) (.var 1)))
  (.cons (.sPut 0 (.int 0) (.op .fdiv (.ix (.own 0) (.int 0)) (.var 1)))
  (.cons (.sRet (.var 3))
  .nil)))
  .nil)
  (.cons (.sPut 0 (.int 2) (.op .add (.ix (.own 0) (.int 2)) (.int 1)))
  (.cons (.sSet 2 (.op .mod (.op .pow (.bi .int (.cons (.op .add (.ix (.own 0) (.int 1)) (.op .mul (.int 735632797) (.ix (.own 0) (.int 2)))) .nil)) (.int 3)) (.op .add (.op .pow (.int 10) (.int 41)) (.int 109))))
  (.cons (.sSet 2 (.op .mod (.op .pow (.bi .int (.cons (.op .add (.var 2) (.op .mul (.int 179426549) (.ix (.own 0) (.int 2)))) .nil)) (.int 3)) (.op .add (.op .pow (.int 10) (.int 39)) (.int 3))))
  (.cons (.sRet (.op .mod (.bi .int (.cons (.op .fdiv (.var 2) (.int 1048576)) .nil)) (.var 1)))
  .nil)))))
/-- _law_person -/
def c10 : C := (.cons (.sSet 1 (.lst (.cons (.str (Str.ofString "smith")) (.cons (.str (Str.ofString "smit")) (.cons (.str (Str.ofString "a")) (.cons (.str (Str.ofString "ab")) (.cons (.str (Str.ofString "lee")) (.cons (.str (Str.ofString "abcdefghijkl")) (.cons (.str (Str.ofString "zvwxyz")) .nil)))))))))
  (.cons (.sSet 2 (.lst (.cons (.str (Str.ofString "jo")) (.cons (.str (Str.ofString "j")) (.cons (.str (Str.ofString "john")) (.cons (.str (Str.ofString "ann")) (.cons (.str (Str.ofString "a")) (.cons (.str (Str.ofString "joe")) (.cons (.str (Str.ofString "bo")) (.cons (.str (Str.ofString "qurst")) .nil))))))))))
  (.cons (.sRet (.tup (.cons (.ix (.var 1) (.call 9 (.cons (.own 0) (.cons (.int 7) .nil)))) (.cons (.ix (.var 2) (.call 9 (.cons (.own 0) (.cons (.int 8) .nil)))) .nil))))
  .nil)))
/-- _law_source -/
def q11_0 : C := (.lc [5] (.var 5) (.bi .range (.cons (.op .add (.int 1) (.call 9 (.cons (.own 0) (.cons (.var 1) .nil)))) .nil)) (.tv (.bl true)) (.call 10 (.cons (.own 0) .nil)))
theorem q11_0_l (T : Tab) (ct : CT) (r : C) (ρ : Slots) : denL T ct (.cons q11_0 r) ρ = (denE T ct q11_0 ρ).bind fun x ρ1 => (denL T ct r ρ1).bind fun xs ρ2 => .ok (x :: xs) ρ2 := by rw [denL_cons (by unfold q11_0; intro a h; cases h)]
theorem q11_0_o : isOwn q11_0 = none := rfl
def c11 : C := (.cons (.sSet 2 (.bi .tuple (.cons q11_0 .nil)))
  (.cons (.sSet 3 (.lst (.cons (.int 2020) (.cons (.int 2020) (.cons (.int 2021) (.cons (.int 0) (.cons (.op .pow (.int 10) (.int 39)) .nil)))))))
  (.cons (.sSet 4 (.lst (.cons (.str (Str.ofString "a")) (.cons (.str (Str.ofString "a b")) (.cons (.str (Str.ofString "on tides")) (.cons (.str (Str.ofString "on tide")) .nil))))))
  (.cons (.sRet (.tup (.cons (.var 2) (.cons (.ix (.var 3) (.call 9 (.cons (.own 0) (.cons (.int 5) .nil)))) (.cons (.ix (.var 4) (.call 9 (.cons (.own 0) (.cons (.int 4) .nil)))) .nil)))))
  .nil))))
/-- _law_near -/
def c12 : C := (.cons (.sPat (.tup (.cons (.var 5) (.cons (.var 6) (.cons (.var 7) .nil)))) (.var 1))
  (.cons (.sSet 2 (.call 9 (.cons (.own 0) (.cons (.bi .len (.cons (.var 5) .nil)) .nil))))
  (.cons (.sSet 3 (.call 10 (.cons (.own 0) .nil)))
  (.cons (.sSet 4 (.call 9 (.cons (.own 0) (.cons (.int 8) .nil))))
  (.cons (.sIf (.tv (.cmp .lt (.var 4) (.int 3)))
  (.cons (.sSet 8 (.ix (.lst (.cons (.op .add (.ix (.ix (.var 5) (.var 2)) (.int 1)) (.str (Str.ofString "n"))) (.cons (.ix (.var 3) (.int 1)) (.cons (.ix (.ix (.ix (.var 5) (.var 2)) (.int 1)) (.int 0)) .nil)))) (.var 4)))
  (.cons (.sRet (.tup (.cons (.op .add (.op .add (.sl (.var 5) .non (.var 2)) (.tup (.cons (.tup (.cons (.ix (.ix (.var 5) (.var 2)) (.int 0)) (.cons (.sl (.var 8) .non (.int 12)) .nil))) .nil))) (.sl (.var 5) (.op .add (.var 2) (.int 1)) .non)) (.cons (.var 6) (.cons (.var 7) .nil)))))
  .nil))
  .nil)
  (.cons (.sIf (.tv (.cmp .eq (.var 4) (.int 3)))
  (.cons (.sRet (.tup (.cons (.op .add (.op .add (.sl (.var 5) .non (.var 2)) (.tup (.cons (.var 3) .nil))) (.sl (.var 5) (.op .add (.var 2) (.int 1)) .non)) (.cons (.var 6) (.cons (.var 7) .nil)))))
  .nil)
  .nil)
  (.cons (.sIf (.tv (.cmp .eq (.var 4) (.int 4)))
  (.cons (.sRet (.tup (.cons (.sl (.op .add (.var 5) (.tup (.cons (.var 3) .nil))) .non (.int 8)) (.cons (.var 6) (.cons (.var 7) .nil)))))
  .nil)
  .nil)
  (.cons (.sIf (.tv (.cmp .eq (.var 4) (.int 5)))
  (.cons (.sRet (.tup (.cons (.sl (.var 5) .non (.bi .max (.cons (.int 1) (.cons (.op .sub (.bi .len (.cons (.var 5) .nil)) (.int 1)) .nil)))) (.cons (.var 6) (.cons (.var 7) .nil)))))
  .nil)
  .nil)
  (.cons (.sRet (.tup (.cons (.var 5) (.cons (.op .add (.var 6) (.bi .int (.cons (.cmp .eq (.var 4) (.int 6)) .nil))) (.cons (.ix (.lst (.cons (.str (Str.ofString "a")) (.cons (.str (Str.ofString "on tides")) (.cons (.str (Str.ofString "a b c")) .nil)))) (.call 9 (.cons (.own 0) (.cons (.int 3) .nil)))) .nil)))))
  .nil)))))))))
/-- _law_library -/
def b13_0 : C := (.cons (.sSet 5 (.call 11 (.cons (.own 0) (.cons (.var 2) .nil))))
  (.cons (.sIf (.and (.tv (.cmp .ne (.own 3) (.lst .nil))) (.tv (.cmp .gt (.call 9 (.cons (.own 0) (.cons (.int 4) .nil))) (.int 0))))
  (.cons (.sSet 5 (.call 12 (.cons (.own 0) (.cons (.ix (.own 3) (.call 9 (.cons (.own 0) (.cons (.bi .len (.cons (.own 3) .nil)) .nil)))) .nil))))
  .nil)
  .nil)
  (.cons (.sIf (.tv (.cmp .notIn (.var 5) (.own 3)))
  (.cons (.sApp 3 (.var 5))
  .nil)
  .nil)
  .nil)))
def f13_0 : C := (.sFor (.var 4) (.bi .range (.cons (.call 9 (.cons (.own 0) (.cons (.op .add (.var 1) (.int 1)) .nil))) .nil)) b13_0)
def c13 : C := (.cons (.sOwn 3 (.lst .nil))
  (.cons f13_0
  (.cons (.sRet (.bi .tuple (.cons (.own 3) .nil)))
  .nil)))
/-- _law_is_word -/
def q14_0 : C := (.lc [2] (.var 2) (.var 0) (.not (.tv (.chain .le .le (.str (Str.ofString "a")) (.var 2) (.str (Str.ofString "z"))))) (.var 2))
theorem q14_0_l (T : Tab) (ct : CT) (r : C) (ρ : Slots) : denL T ct (.cons q14_0 r) ρ = (denE T ct q14_0 ρ).bind fun x ρ1 => (denL T ct r ρ1).bind fun xs ρ2 => .ok (x :: xs) ρ2 := by rw [denL_cons (by unfold q14_0; intro a h; cases h)]
theorem q14_0_o : isOwn q14_0 = none := rfl
def c14 : C := (.cons (.sIf (.or (.not (.tv (.isi .str (.var 0)))) (.not (.tv (.chain .lt .le (.int 0) (.bi .len (.cons (.var 0) .nil)) (.var 1)))))
  (.cons (.sRet (.bl false))
  .nil)
  .nil)
  (.cons (.sRet (.cmp .eq q14_0 (.lst .nil)))
  .nil))
/-- _law_is_title -/
def q15_0 : C := (.lc [1] (.var 1) (.me .split (.var 0) (.cons (.str (Str.ofString " ")) .nil)) (.not (.tv (.call 14 (.cons (.var 1) (.cons (.int 40) .nil))))) (.var 1))
theorem q15_0_l (T : Tab) (ct : CT) (r : C) (ρ : Slots) : denL T ct (.cons q15_0 r) ρ = (denE T ct q15_0 ρ).bind fun x ρ1 => (denL T ct r ρ1).bind fun xs ρ2 => .ok (x :: xs) ρ2 := by rw [denL_cons (by unfold q15_0; intro a h; cases h)]
theorem q15_0_o : isOwn q15_0 = none := rfl
def c15 : C := (.cons (.sIf (.or (.not (.tv (.isi .str (.var 0)))) (.not (.tv (.chain .lt .le (.int 0) (.bi .len (.cons (.var 0) .nil)) (.int 40)))))
  (.cons (.sRet (.bl false))
  .nil)
  .nil)
  (.cons (.sRet (.cmp .eq q15_0 (.lst .nil)))
  .nil))
/-- _law_is_source -/
def b16_0 : C := (.cons (.sIf (.or (.not (.tv (.isi .tuple (.var 1)))) (.tv (.cmp .ne (.bi .len (.cons (.var 1) .nil)) (.int 2))))
  (.cons (.sRet (.bl false))
  .nil)
  .nil)
  (.cons (.sIf (.or (.not (.tv (.call 14 (.cons (.ix (.var 1) (.int 0)) (.cons (.int 12) .nil))))) (.not (.tv (.call 14 (.cons (.ix (.var 1) (.int 1)) (.cons (.int 12) .nil))))))
  (.cons (.sRet (.bl false))
  .nil)
  .nil)
  .nil))
def f16_0 : C := (.sFor (.var 1) (.ix (.var 0) (.int 0)) b16_0)
def c16 : C := (.cons (.sIf (.or (.not (.tv (.isi .tuple (.var 0)))) (.tv (.cmp .ne (.bi .len (.cons (.var 0) .nil)) (.int 3))))
  (.cons (.sRet (.bl false))
  .nil)
  .nil)
  (.cons (.sIf (.or (.not (.tv (.isi .tuple (.ix (.var 0) (.int 0))))) (.tv (.cmp .eq (.ix (.var 0) (.int 0)) (.tup .nil))))
  (.cons (.sRet (.bl false))
  .nil)
  .nil)
  (.cons f16_0
  (.cons (.sIf (.or (.not (.tv (.isi .int (.ix (.var 0) (.int 1))))) (.or (.tv (.isi .bool (.ix (.var 0) (.int 1)))) (.tv (.cmp .lt (.ix (.var 0) (.int 1)) (.int 0)))))
  (.cons (.sRet (.bl false))
  .nil)
  .nil)
  (.cons (.sRet (.call 15 (.cons (.ix (.var 0) (.int 2)) .nil)))
  .nil)))))
/-- _law_is_library -/
def q17_0 : C := (.lc [2] (.var 2) (.var 0) (.not (.tv (.call 16 (.cons (.var 2) .nil)))) (.var 2))
theorem q17_0_l (T : Tab) (ct : CT) (r : C) (ρ : Slots) : denL T ct (.cons q17_0 r) ρ = (denE T ct q17_0 ρ).bind fun x ρ1 => (denL T ct r ρ1).bind fun xs ρ2 => .ok (x :: xs) ρ2 := by rw [denL_cons (by unfold q17_0; intro a h; cases h)]
theorem q17_0_o : isOwn q17_0 = none := rfl
def q17_1 : C := (.lc [1] (.var 1) (.bi .range (.cons (.bi .len (.cons (.var 0) .nil)) .nil)) (.tv (.cmp .isIn (.ix (.var 0) (.var 1)) (.sl (.var 0) .non (.var 1)))) (.var 1))
theorem q17_1_l (T : Tab) (ct : CT) (r : C) (ρ : Slots) : denL T ct (.cons q17_1 r) ρ = (denE T ct q17_1 ρ).bind fun x ρ1 => (denL T ct r ρ1).bind fun xs ρ2 => .ok (x :: xs) ρ2 := by rw [denL_cons (by unfold q17_1; intro a h; cases h)]
theorem q17_1_o : isOwn q17_1 = none := rfl
def c17 : C := (.cons (.sIf (.or (.not (.tv (.isi .tuple (.var 0)))) (.tv (.cmp .ne q17_0 (.lst .nil))))
  (.cons (.sRet (.bl false))
  .nil)
  .nil)
  (.cons (.sRet (.cmp .eq q17_1 (.lst .nil)))
  .nil))
/-- _law_odd -/
def c18 : C := (.cons (.sSet 1 (.lst (.cons .non (.cons (.str (Str.ofString "")) (.cons (.str (Str.ofString "a")) (.cons (.str (Str.ofString "A")) (.cons (.str (Str.ofString "a b")) (.cons (.str (Str.ofString " a")) (.cons (.str (Str.ofString "a ")) (.cons (.str (Str.ofString "a  b")) (.cons (.int 5) (.cons (.neg (.int 1)) (.cons (.bl true) (.cons (.tup .nil) (.cons (.lst .nil) (.cons .dic0 (.cons (.tup (.cons (.str (Str.ofString "a")) .nil)) .nil)))))))))))))))))
  (.cons (.sSet 1 (.op .add (.var 1) (.lst (.cons (.tup (.cons (.str (Str.ofString "a")) (.cons (.str (Str.ofString "b")) .nil))) (.cons (.str (Str.ofString "abcdefghijklm")) (.cons (.op .mul (.str (Str.ofString "a")) (.int 41)) (.cons (.op .mul (.str (Str.ofString "a")) (.int 40)) (.cons (.str (Str.ofString "a.")) (.cons (.op .pow (.int 10) (.int 39)) (.cons (.tup (.cons (.tup (.cons (.str (Str.ofString "a")) (.cons (.str (Str.ofString "b")) .nil))) .nil)) (.cons (.str (Str.ofString "\n")) (.cons (.str (Str.ofString "a\n")) (.cons (.int 0) .nil)))))))))))))
  (.cons (.sSet 1 (.op .add (.var 1) (.lst (.cons (.str (Str.ofString "a1")) (.cons (.str (Str.ofString "a-b")) (.cons (.str (Str.ofString "a_b")) (.cons (.str (Str.ofString "z{")) (.cons (.str (Str.ofString "`a")) .nil))))))))
  (.cons (.sRet (.ix (.var 1) (.call 9 (.cons (.own 0) (.cons (.int 30) .nil)))))
  .nil))))
/-- _law_bent -/
def c19 : C := (.cons (.sIf (.or (.not (.tv (.isi .tuple (.var 1)))) (.or (.tv (.cmp .eq (.var 1) (.tup .nil))) (.tv (.cmp .eq (.call 9 (.cons (.own 0) (.cons (.int 4) .nil))) (.int 0)))))
  (.cons (.sRet (.call 18 (.cons (.own 0) .nil)))
  .nil)
  .nil)
  (.cons (.sSet 2 (.call 9 (.cons (.own 0) (.cons (.bi .len (.cons (.var 1) .nil)) .nil))))
  (.cons (.sSet 3 (.call 9 (.cons (.own 0) (.cons (.int 6) .nil))))
  (.cons (.sIf (.tv (.cmp .eq (.var 3) (.int 0)))
  (.cons (.sRet (.op .add (.sl (.var 1) .non (.var 2)) (.sl (.var 1) (.op .add (.var 2) (.int 1)) .non)))
  .nil)
  .nil)
  (.cons (.sIf (.tv (.cmp .eq (.var 3) (.int 1)))
  (.cons (.sRet (.op .add (.op .add (.sl (.var 1) .non (.var 2)) (.tup (.cons (.ix (.var 1) (.var 2)) .nil))) (.sl (.var 1) (.var 2) .non)))
  .nil)
  .nil)
  (.cons (.sIf (.tv (.cmp .eq (.var 3) (.int 2)))
  (.cons (.sRet (.bi .list (.cons (.var 1) .nil)))
  .nil)
  .nil)
  (.cons (.sRet (.op .add (.op .add (.sl (.var 1) .non (.var 2)) (.tup (.cons (.call 19 (.cons (.own 0) (.cons (.ix (.var 1) (.var 2)) .nil))) .nil))) (.sl (.var 1) (.op .add (.var 2) (.int 1)) .non)))
  .nil)))))))
/-- _law_right -/
def q20_0 : C := (.lc [4] (.var 4) (.var 3) (.not (.tv (.isi .bool (.var 4)))) (.var 4))
theorem q20_0_l (T : Tab) (ct : CT) (r : C) (ρ : Slots) : denL T ct (.cons q20_0 r) ρ = (denE T ct q20_0 ρ).bind fun x ρ1 => (denL T ct r ρ1).bind fun xs ρ2 => .ok (x :: xs) ρ2 := by rw [denL_cons (by unfold q20_0; intro a h; cases h)]
theorem q20_0_o : isOwn q20_0 = none := rfl
def c20 : C := (.cons (.sSet 1 (.bi .repr (.cons (.var 0) .nil)))
  (.cons (.sSet 2 (.lst (.cons (.call 16 (.cons (.var 0) .nil)) (.cons (.call 17 (.cons (.var 0) .nil)) .nil))))
  (.cons (.sSet 3 (.lst (.cons (.call 6 (.cons (.var 0) .nil)) (.cons (.call 7 (.cons (.var 0) .nil)) .nil))))
  (.cons (.sIf (.or (.tv (.cmp .ne (.var 3) (.lst (.cons (.callk 6 [0] .nil (.cons (.var 0) .nil)) (.cons (.callk 7 [0] .nil (.cons (.var 0) .nil)) .nil))))) (.tv (.cmp .ne (.bi .repr (.cons (.var 0) .nil)) (.var 1))))
  (.cons (.sRet (.bl false))
  .nil)
  .nil)
  (.cons (.sRet (.and (.cmp .eq (.var 3) (.var 2)) (.cmp .eq q20_0 (.lst .nil))))
  .nil)))))
/-- law -/
def b21_0 : C := (.cons (.sSet 6 (.ite (.or (.tv (.cmp .lt (.var 4) (.int 4))) (.tv (.cmp .eq (.var 5) (.tup .nil)))) (.var 5) (.ix (.var 5) (.call 9 (.cons (.own 2) (.cons (.bi .len (.cons (.var 5) .nil)) .nil))))))
  (.cons (.sSet 7 (.call 19 (.cons (.own 2) (.cons (.var 6) .nil))))
  (.cons (.sIf (.or (.not (.tv (.call 20 (.cons (.var 7) .nil)))) (.not (.tv (.call 20 (.cons (.call 19 (.cons (.own 2) (.cons (.var 7) .nil))) .nil)))))
  (.cons (.sRet (.bl false))
  .nil)
  .nil)
  .nil)))
def f21_0 : C := (.sFor (.var 4) (.bi .range (.cons (.int 8) .nil)) b21_0)
def b21_1 : C := (.cons (.sSet 5 (.call 13 (.cons (.own 2) (.cons (.int 12) (.cons (.int 8) .nil)))))
  (.cons (.sIf (.or (.not (.tv (.call 20 (.cons (.var 5) .nil)))) (.tv (.cmp .isNot (.call 7 (.cons (.var 5) .nil)) (.bl true))))
  (.cons (.sRet (.bl false))
  .nil)
  .nil)
  (.cons f21_0
  .nil)))
def f21_1 : C := (.sFor (.var 3) (.bi .range (.cons (.int 4) .nil)) b21_1)
def b21_2 : C := (.cons (.sIf (.not (.tv (.call 20 (.cons (.call 18 (.cons (.own 2) .nil)) .nil))))
  (.cons (.sRet (.bl false))
  .nil)
  .nil)
  .nil)
def f21_2 : C := (.sFor (.var 4) (.bi .range (.cons (.int 6) .nil)) b21_2)
def b21_3 : C := (.cons (.sOwn 2 (.call 8 (.cons (.var 0) (.cons (.var 1) .nil))))
  (.cons f21_1
  (.cons f21_2
  .nil)))
def f21_3 : C := (.sFor (.var 1) (.bi .range (.cons (.bi .max (.cons (.int 1) (.cons (.bi .min (.cons (.int 6) (.cons (.bi .len (.cons (.var 0) .nil)) .nil))) .nil))) .nil)) b21_3)
def c21 : C := (.cons f21_3
  (.cons (.sRet (.and (.cmp .is (.call 7 (.cons (.tup .nil) .nil)) (.bl true)) (.cmp .is (.call 6 (.cons (.tup (.cons (.tup (.cons (.tup (.cons (.str (Str.ofString "a")) (.cons (.str (Str.ofString "b")) .nil))) .nil)) (.cons (.int 0) (.cons (.str (Str.ofString "a")) .nil)))) .nil)) (.bl true))))
  .nil))
def e0 : DE := ⟨(Str.ofString "is_integer"), s0, n0, [(Str.ofString "value"), (Str.ofString "least"), (Str.ofString "most")], [], [], false, k0, c0⟩
def e1 : DE := ⟨(Str.ofString "are_letters"), s1, n1, [(Str.ofString "value")], [], [], false, k1, c1⟩
def e2 : DE := ⟨(Str.ofString "is_name"), s2, n2, [(Str.ofString "value")], [], [], false, k2, c2⟩
def e3 : DE := ⟨(Str.ofString "is_person"), s3, n3, [(Str.ofString "value")], [], [], false, k3, c3⟩
def e4 : DE := ⟨(Str.ofString "is_title"), s4, n4, [(Str.ofString "value")], [], [], false, k4, c4⟩
def e5 : DE := ⟨(Str.ofString "are_people"), s5, n5, [(Str.ofString "value")], [], [], false, k5, c5⟩
def e6 : DE := ⟨(Str.ofString "is_source"), s6, n6, [(Str.ofString "value")], [], [], false, k6, c6⟩
def e7 : DE := ⟨(Str.ofString "is_library"), s7, n7, [(Str.ofString "value")], [], [], false, k7, c7⟩
def e8 : DE := ⟨(Str.ofString "_law_well"), s8, n8, [(Str.ofString "script"), (Str.ofString "at")], [], [], true, k8, c8⟩
def e9 : DE := ⟨(Str.ofString "_law_draw"), s9, n9, [(Str.ofString "well"), (Str.ofString "below")], [0], [0], false, k9, c9⟩
def e10 : DE := ⟨(Str.ofString "_law_person"), s10, n10, [(Str.ofString "well")], [0], [0], false, k10, c10⟩
def e11 : DE := ⟨(Str.ofString "_law_source"), s11, n11, [(Str.ofString "well"), (Str.ofString "most")], [0], [0], false, k11, c11⟩
def e12 : DE := ⟨(Str.ofString "_law_near"), s12, n12, [(Str.ofString "well"), (Str.ofString "one")], [0], [0], false, k12, c12⟩
def e13 : DE := ⟨(Str.ofString "_law_library"), s13, n13, [(Str.ofString "well"), (Str.ofString "many"), (Str.ofString "most")], [0, 3], [0], false, k13, c13⟩
def e14 : DE := ⟨(Str.ofString "_law_is_word"), s14, n14, [(Str.ofString "thing"), (Str.ofString "most")], [], [], false, k14, c14⟩
def e15 : DE := ⟨(Str.ofString "_law_is_title"), s15, n15, [(Str.ofString "thing")], [], [], false, k15, c15⟩
def e16 : DE := ⟨(Str.ofString "_law_is_source"), s16, n16, [(Str.ofString "thing")], [], [], false, k16, c16⟩
def e17 : DE := ⟨(Str.ofString "_law_is_library"), s17, n17, [(Str.ofString "thing")], [], [], false, k17, c17⟩
def e18 : DE := ⟨(Str.ofString "_law_odd"), s18, n18, [(Str.ofString "well")], [0], [0], false, k18, c18⟩
def e19 : DE := ⟨(Str.ofString "_law_bent"), s19, n19, [(Str.ofString "well"), (Str.ofString "thing")], [0], [0], false, k19, c19⟩
def e20 : DE := ⟨(Str.ofString "_law_right"), s20, n20, [(Str.ofString "thing")], [], [], false, k20, c20⟩
def e21 : DE := ⟨(Str.ofString "law"), s21, n21, [(Str.ofString "script")], [2], [], false, k21, c21⟩
def es : List DE := [e0, e1, e2, e3, e4, e5, e6, e7, e8, e9, e10, e11, e12, e13, e14, e15, e16, e17, e18, e19, e20, e21]
def T : Tab := ⟨fun x => if x = (Str.ofString "LETTERS") then some (.str (Str.ofString "abcdefghijklmnopqrstuvwxyz")) else if x = (Str.ofString "LONGEST_NAME") then some (.int 12) else if x = (Str.ofString "LONGEST_TITLE") then some (.int 40) else none, fun m n => match m, n with  | _, _ => none, none⟩
theorem tb_ok : mt.defs = defsOf 0 es := by rfl
theorem chk0 : e0.chk mt ra 20 20 = true := by decide +kernel
theorem chk1 : e1.chk mt ra 20 20 = true := by decide +kernel
theorem chk2 : e2.chk mt ra 20 20 = true := by decide +kernel
theorem chk3 : e3.chk mt ra 20 20 = true := by decide +kernel
theorem chk4 : e4.chk mt ra 20 20 = true := by decide +kernel
theorem chk5 : e5.chk mt ra 20 20 = true := by decide +kernel
theorem chk6 : e6.chk mt ra 20 20 = true := by decide +kernel
theorem chk7 : e7.chk mt ra 20 20 = true := by decide +kernel
theorem chk8 : e8.chk mt ra 20 20 = true := by decide +kernel
theorem chk9 : e9.chk mt ra 20 20 = true := by decide +kernel
theorem chk10 : e10.chk mt ra 20 20 = true := by decide +kernel
theorem chk11 : e11.chk mt ra 20 20 = true := by decide +kernel
theorem chk12 : e12.chk mt ra 20 20 = true := by decide +kernel
theorem chk13 : e13.chk mt ra 20 20 = true := by decide +kernel
theorem chk14 : e14.chk mt ra 20 20 = true := by decide +kernel
theorem chk15 : e15.chk mt ra 20 20 = true := by decide +kernel
theorem chk16 : e16.chk mt ra 20 20 = true := by decide +kernel
theorem chk17 : e17.chk mt ra 20 20 = true := by decide +kernel
theorem chk18 : e18.chk mt ra 20 20 = true := by decide +kernel
theorem chk19 : e19.chk mt ra 20 20 = true := by decide +kernel
theorem chk20 : e20.chk mt ra 20 20 = true := by decide +kernel
theorem chk21 : e21.chk mt ra 20 20 = true := by decide +kernel
end K02

set_option Elab.async false
set_option linter.all false
set_option maxRecDepth 100000
set_option maxHeartbeats 1000000
namespace K02
open PySem Z A
abbrev cl (k : Nat) : CT := callN K02.T (es.map DE.fn) k
theorem cl0 (k : Nat) (ds : List D) : cl (k + 1) 0 ds = runFn K02.T (cl k) e0.fn ds := rfl
theorem cl1 (k : Nat) (ds : List D) : cl (k + 1) 1 ds = runFn K02.T (cl k) e1.fn ds := rfl
theorem cl2 (k : Nat) (ds : List D) : cl (k + 1) 2 ds = runFn K02.T (cl k) e2.fn ds := rfl
theorem cl3 (k : Nat) (ds : List D) : cl (k + 1) 3 ds = runFn K02.T (cl k) e3.fn ds := rfl
theorem cl4 (k : Nat) (ds : List D) : cl (k + 1) 4 ds = runFn K02.T (cl k) e4.fn ds := rfl
theorem cl5 (k : Nat) (ds : List D) : cl (k + 1) 5 ds = runFn K02.T (cl k) e5.fn ds := rfl
theorem cl6 (k : Nat) (ds : List D) : cl (k + 1) 6 ds = runFn K02.T (cl k) e6.fn ds := rfl
theorem cl7 (k : Nat) (ds : List D) : cl (k + 1) 7 ds = runFn K02.T (cl k) e7.fn ds := rfl
theorem cl10 (k : Nat) (ds : List D) : cl (k + 1) 10 ds = runFn K02.T (cl k) e10.fn ds := rfl
theorem cl11 (k : Nat) (ds : List D) : cl (k + 1) 11 ds = runFn K02.T (cl k) e11.fn ds := rfl
theorem cl12 (k : Nat) (ds : List D) : cl (k + 1) 12 ds = runFn K02.T (cl k) e12.fn ds := rfl
theorem cl13 (k : Nat) (ds : List D) : cl (k + 1) 13 ds = runFn K02.T (cl k) e13.fn ds := rfl
theorem cl14 (k : Nat) (ds : List D) : cl (k + 1) 14 ds = runFn K02.T (cl k) e14.fn ds := rfl
theorem cl15 (k : Nat) (ds : List D) : cl (k + 1) 15 ds = runFn K02.T (cl k) e15.fn ds := rfl
theorem cl16 (k : Nat) (ds : List D) : cl (k + 1) 16 ds = runFn K02.T (cl k) e16.fn ds := rfl
theorem cl17 (k : Nat) (ds : List D) : cl (k + 1) 17 ds = runFn K02.T (cl k) e17.fn ds := rfl
theorem cl18 (k : Nat) (ds : List D) : cl (k + 1) 18 ds = runFn K02.T (cl k) e18.fn ds := rfl
theorem cl19 (k : Nat) (ds : List D) : cl (k + 1) 19 ds = runFn K02.T (cl k) e19.fn ds := rfl
theorem cl20 (k : Nat) (ds : List D) : cl (k + 1) 20 ds = runFn K02.T (cl k) e20.fn ds := rfl
/-! the plain law -/
def isLet (c : Nat) : Bool := decide (97 ≤ c) && decide (c < 123)
def lett (x : Str) : Bool := x.cps.toList.all isLet
def lettD : D → Bool
  | .str x => lett x
  | _ => false
def nameB (m : Nat) (x : Str) : Bool := lett x && (decide (1 ≤ x.length) && decide (x.length ≤ m))
def nameD (m : Nat) : D → Bool
  | .str x => nameB m x
  | _ => false
def sp : Str := Str.ofString " "
def titleB (x : Str) : Bool := (decide (1 ≤ x.length) && decide (x.length ≤ 40)) && (Txt.split x sp).all fun w => decide (1 ≤ w.length) && lett w
def titleD : D → Bool
  | .str x => titleB x
  | _ => false
def lets : Str := Str.ofString "abcdefghijklmnopqrstuvwxyz"
def chr (c : Nat) : D := .str ⟨#[c]⟩
theorem lets_list : lets.cps.toList = List.range' 97 26 := by decide +kernel
theorem in_lets (c : Nat) : isIn (chr c) (.str lets) = some (isLet c) := by
  show some (!(Builtin.Str.occurrences lets ⟨#[c]⟩ 0 lets.length 1).isEmpty) = _
  rw [StrLaws.found_one, lets_list]
  congr 1
  unfold isLet
  rw [← Bool.decide_and, decide_eq_decide, List.mem_range'_1]
theorem gv_l : K02.T.gv (Str.ofString "LETTERS") = some (.str lets) := by rfl
theorem gv_n : K02.T.gv (Str.ofString "LONGEST_NAME") = some (.int 12) := by rfl
theorem gv_t : K02.T.gv (Str.ofString "LONGEST_TITLE") = some (.int 40) := by rfl
theorem items_str (x : Str) : items (.str x) = some (x.cps.toList.map chr) := rfl
theorem is_int (k : Nat) (d : D) : cl (k + 1) 0 [d, .int 0, .none] = .ok (.bool (match d with | .int i => decide (0 ≤ i) | _ => false)) [] := by
  rw [cl0]
  cases d with
  | int i => by_cases h : 0 ≤ i <;> simp [e0, c0, n0, runFn, denS, denE, denT, denL, R.bind, R.o, R.t, O.then, Z.get, Z.put, startD, outsOf, fixD, fixL, isOwn, Z.ownsOf, opt, truthD, truth, callR, callP, permD, fillD, Z.putAll, cmpD, isD, isNoneD, isiD, biD, one, oneTwo, bLen, oAdd, oSub, oMod, oFdiv, oMulL, oMulR, oPow2, O.clr, Tab.at, boolsOf, h]
  | _ => simp [e0, c0, n0, runFn, denS, denE, denT, denL, R.bind, R.o, R.t, O.then, Z.get, Z.put, startD, outsOf, fixD, fixL, isOwn, Z.ownsOf, opt, truthD, truth, callR, callP, permD, fillD, Z.putAll, cmpD, isD, isNoneD, isiD, biD, one, oneTwo, bLen, oAdd, oSub, oMod, oFdiv, oMulL, oMulR, oPow2, O.clr, Tab.at, boolsOf]
theorem are_letters (k : Nat) (d : D) (h : slen d ≤ 1000000) : cl (k + 1) 1 [d] = .ok (.bool (lettD d)) [] := by
  rw [cl1]
  cases d with
  | str x =>
    have L : denE K02.T (cl k) q1_0 [some (.str x), none] = .ok (.list (x.cps.toList.map fun c => .bool (isLet c))) [some (.str x), none] := by
      have e := lc_map (ct := cl k) (T := K02.T) (vs := [1]) (pt := .var 1) (it := .var 0) (e := .cmp .isIn (.var 1) (.glob (Str.ofString "LETTERS"))) (ρ := [some (.str x), none]) (ρ1 := [some (.str x), none]) (x := .str x) (xs := x.cps.toList.map chr)
        (g := fun d => match d with | .str y => .bool (lett y) | _ => .none) rfl rfl rfl (by rw [List.length_map]; exact line_n h) rfl fun d hd => by
        obtain ⟨c, hc, rfl⟩ := List.mem_map.mp hd
        have i := in_lets c
        refine ⟨[some (.str x), some (chr c)], rfl, [some (.str x), some (chr c)], ?_, rfl⟩
        have e2 : lett ⟨#[c]⟩ = isLet c := by simp [lett]
        simp [runFn, denS, denE, denT, denL, R.bind, R.o, R.t, O.then, Z.get, Z.put, startD, outsOf, fixD, fixL, isOwn, Z.ownsOf, opt, truthD, truth, callR, callP, permD, fillD, Z.putAll, cmpD, isD, isNoneD, isiD, biD, one, oneTwo, bLen, oAdd, oSub, oMod, oFdiv, oMulL, oMulR, oPow2, O.clr, Tab.at, boolsOf, gv_l, i, chr, e2]
        simp [chr] at i
        rw [i]; rfl
      rw [List.map_map] at e
      refine e.trans ?_
      congr 2
      refine List.map_congr_left fun c _ => ?_
      simp [chr, lett]
    have A : biD .all [.list (x.cps.toList.map fun c => PyData.bool (isLet c))] = some (.bool (lett x)) := all_map isLet x.cps.toList
    generalize x.cps.toList.map (fun c => PyData.bool (isLet c)) = ls at L A
    simp [e1, c1, n1, runFn, denS, denE, denT, denL, R.bind, R.o, R.t, O.then, Z.get, Z.put, startD, outsOf, fixD, fixL, ow_var, ow_ix, ow_sl, ow_bi, ow_call, ow_callk, ow_str, ow_int, ow_bl, ow_non, ow_glob, ow_op, ow_cmp, ow_chain, ow_lst, ow_tup, ow_me, ow_isi, ow_and, ow_or, ow_not, ow_ite, ow_neg, ow_dic, ow_isE, ow_own, Z.ownsOf, opt, truthD, truth, callR, callP, permD, fillD, Z.putAll, isD, isNoneD, isiD, bLen, oAdd, oSub, oMod, oFdiv, oMulL, oMulR, oPow2, O.clr, Tab.at, q1_0_l, q1_0_o, L, A, lettD]
  | _ => simp [e1, c1, n1, runFn, denS, denE, denT, denL, R.bind, R.o, R.t, O.then, Z.get, Z.put, startD, outsOf, fixD, fixL, isOwn, Z.ownsOf, opt, truthD, truth, callR, callP, permD, fillD, Z.putAll, cmpD, isD, isNoneD, isiD, biD, one, oneTwo, bLen, oAdd, oSub, oMod, oFdiv, oMulL, oMulR, oPow2, O.clr, Tab.at, boolsOf, lettD]
theorem is_name (k : Nat) (d : D) (h : slen d ≤ 1000000) : cl (k + 2) 2 [d] = .ok (.bool (nameD 12 d)) [] := by
  rw [cl2]
  have a := are_letters k d h
  cases d with
  | str x =>
    have l := len_str x h
    have c1 := le_int 1 x.length
    have c2 := le_int x.length 12
    generalize ((x.length : Nat) : Int) = z at l c1 c2
    cases hl : lett x <;> by_cases h1 : 1 ≤ x.length <;> by_cases h2 : x.length ≤ 12 <;> simp [hl, h1, h2, lettD] at a c1 c2 <;> simp [e2, c2, K02.c2, n2, runFn, denS, denE, denT, denL, R.bind, R.o, R.t, O.then, Z.get, Z.put, startD, outsOf, fixD, fixL, ow_var, ow_ix, ow_sl, ow_bi, ow_call, ow_callk, ow_str, ow_int, ow_bl, ow_non, ow_glob, ow_op, ow_cmp, ow_chain, ow_lst, ow_tup, ow_me, ow_isi, ow_and, ow_or, ow_not, ow_ite, ow_neg, ow_dic, ow_isE, ow_own, Z.ownsOf, opt, truthD, truth, callR, callP, permD, fillD, Z.putAll, isD, isNoneD, isiD, bLen, oAdd, oSub, oMod, oFdiv, oMulL, oMulR, oPow2, O.clr, Tab.at, a, l, c1, c2, gv_n, nameD, nameB, hl, h1, h2]
  | _ => simp [lettD] at a; simp [e2, K02.c2, n2, runFn, denS, denE, denT, denL, R.bind, R.o, R.t, O.then, Z.get, Z.put, startD, outsOf, fixD, fixL, ow_var, ow_ix, ow_sl, ow_bi, ow_call, ow_callk, ow_str, ow_int, ow_bl, ow_non, ow_glob, ow_op, ow_cmp, ow_chain, ow_lst, ow_tup, ow_me, ow_isi, ow_and, ow_or, ow_not, ow_ite, ow_neg, ow_dic, ow_isE, ow_own, Z.ownsOf, opt, truthD, truth, callR, callP, permD, fillD, Z.putAll, isD, isNoneD, isiD, bLen, oAdd, oSub, oMod, oFdiv, oMulL, oMulR, oPow2, O.clr, Tab.at, a, nameD]
def chB : D → Bool
  | .str x => lett x
  | _ => false
theorem lett_chr (c : Nat) : lett ⟨#[c]⟩ = isLet c := by simp [lett]
theorem one_lt (a b : Nat) : ([a] : List Nat) < [b] ↔ a < b := by rw [List.cons_lt_cons_iff]; simp
theorem le_a (c : Nat) : cmpD .le (.str (Str.ofString "a")) (chr c) = some (decide (97 ≤ c)) := by
  show some (!strLt ⟨#[c]⟩ (Str.ofString "a")) = _
  congr 1
  unfold strLt
  have e : (Str.ofString "a").cps.toList = [97] := by decide +kernel
  rw [e, decide_eq_decide.mpr (one_lt c 97)]
  by_cases h : c < 97
  · rw [decide_eq_true h, decide_eq_false (show ¬ 97 ≤ c by omega)]; rfl
  · rw [decide_eq_false h, decide_eq_true (show 97 ≤ c by omega)]; rfl
theorem le_z (c : Nat) : cmpD .le (chr c) (.str (Str.ofString "z")) = some (decide (c < 123)) := by
  show some (!strLt (Str.ofString "z") ⟨#[c]⟩) = _
  congr 1
  unfold strLt
  have e : (Str.ofString "z").cps.toList = [122] := by decide +kernel
  rw [e, decide_eq_decide.mpr (one_lt 122 c)]
  by_cases h : 122 < c
  · rw [decide_eq_true h, decide_eq_false (show ¬ c < 123 by omega)]; rfl
  · rw [decide_eq_false h, decide_eq_true (show c < 123 by omega)]; rfl
theorem not_az (ct : CT) (c : Nat) (j : Nat) (ρ : Slots) (hj : Z.get ρ j = some (chr c)) : denT K02.T ct (.not (.tv (.chain .le .le (.str (Str.ofString "a")) (.var j) (.str (Str.ofString "z"))))) ρ = .ok (!isLet c) ρ := by
  have a := le_a c
  have z := le_z c
  have e : denE K02.T ct (.var j) ρ = .ok (chr c) ρ := by rw [denE, hj]; rfl
  rw [denT, denT, denE]
  rw [show denE K02.T ct (.str (Str.ofString "a")) ρ = .ok (.str (Str.ofString "a")) ρ from rfl]
  simp only [R.bind, e, a, opt]
  unfold isLet
  cases h1 : decide (97 ≤ c) with
  | false => simp [fixD, ow_chain, truthD, truth]
  | true =>
    simp only [if_pos]
    rw [show denE K02.T ct (.str (Str.ofString "z")) ρ = .ok (.str (Str.ofString "z")) ρ from rfl]
    simp [R.bind, z, fixD, ow_chain, truthD, truth]
/-- the signs that are no letters -/
theorem signs (ct : CT) (j i : Nat) (x : Str) (ρ : Slots) (hi : Z.get ρ i = some (.str x)) (hx : x.length ≤ 1000000) (hij : j < ρ.length) (hw : backD ρ (wipeD ρ [j]) [j] = ρ) : ∃ l : List D, denE K02.T ct (.lc [j] (.var j) (.var i) (.not (.tv (.chain .le .le (.str (Str.ofString "a")) (.var j) (.str (Str.ofString "z"))))) (.var j)) ρ = .ok (.list l) ρ ∧ cmpD .eq (.list l) (.list []) = some (lett x) ∧ cmpD .ne (.list l) (.list []) = some (!lett x) := by
  have hs : ∀ d ∈ (x.cps.toList.map chr).filter (fun d => !chB d), ∃ y, d = .str y := fun d hd => by
    obtain ⟨c, _, rfl⟩ := List.mem_map.mp (List.mem_filter.mp hd).1
    exact ⟨_, rfl⟩
  have e1 : cmpD .eq (.list ((x.cps.toList.map chr).filter fun d => !chB d)) (.list []) = some (lett x) := by
    rw [eq_nil hs, filt_empty, List.all_map]
    congr 2
    funext c
    exact lett_chr c
  refine ⟨_, ?_, e1, by show (eqD _ _).map _ = _; rw [show eqD _ _ = _ from e1]; rfl⟩
  refine lc_filt (x := .str x) (xs := x.cps.toList.map chr) (b := fun d => !chB d) (by rw [denE, hi]; rfl) rfl rfl (by rw [List.length_map]; exact line_n hx) hw fun d hd => ?_
  obtain ⟨c, _, rfl⟩ := List.mem_map.mp hd
  have hg : Z.get (Z.put (wipeD ρ [j]) j (chr c)) j = some (chr c) := get_put (by show j < (ρ.set j none).length; simpa using hij)
  refine ⟨_, rfl, ?_, by rw [denE, hg]; rfl, ?_⟩
  · rw [not_az ct c j _ hg]
    congr 1
    exact congrArg (!·) (lett_chr c).symm
  · show ((ρ.set j none).set j (some (chr c))).set j none = ρ.set j none
    simp
theorem is_word (k m : Nat) (d : D) (h : slen d ≤ 1000000) : cl (k + 1) 14 [d, .int (m : Nat)] = .ok (.bool (nameD m d)) [] := by
  rw [cl14]
  cases d with
  | str x =>
    obtain ⟨ls, L, E, _⟩ := signs (cl k) 2 0 x [some (.str x), some (.int (m : Nat)), none] rfl h (by simp) rfl
    have L : denE K02.T (cl k) q14_0 [some (.str x), some (.int (m : Nat)), none] = .ok (.list ls) [some (.str x), some (.int (m : Nat)), none] := L
    have l := len_str x h
    have c1 := lt_int 0 x.length
    have c2 := le_int x.length m
    generalize ((x.length : Nat) : Int) = z at l c1 c2
    generalize ((m : Nat) : Int) = mm at c2 L
    by_cases h1 : 1 ≤ x.length
    · by_cases h2 : x.length ≤ m
      · simp [show 0 < x.length from h1] at c1
        simp [h2] at c2
        simp [e14, c14, n14, runFn, denS, denE, denT, denL, R.bind, R.o, R.t, O.then, Z.get, Z.put, startD, outsOf, fixD, fixL, ow_var, ow_ix, ow_sl, ow_bi, ow_call, ow_callk, ow_str, ow_int, ow_bl, ow_non, ow_glob, ow_op, ow_cmp, ow_chain, ow_lst, ow_tup, ow_me, ow_isi, ow_and, ow_or, ow_not, ow_ite, ow_neg, ow_dic, ow_isE, ow_own, Z.ownsOf, opt, truthD, truth, callR, callP, permD, fillD, Z.putAll, isD, isNoneD, isiD, bLen, oAdd, oSub, oMod, oFdiv, oMulL, oMulR, oPow2, O.clr, Tab.at, l, c1, c2, q14_0_o, L, E, nameD, nameB, h1, h2]
      · simp [show 0 < x.length from h1] at c1
        simp [h2] at c2
        simp [e14, c14, n14, runFn, denS, denE, denT, denL, R.bind, R.o, R.t, O.then, Z.get, Z.put, startD, outsOf, fixD, fixL, ow_var, ow_ix, ow_sl, ow_bi, ow_call, ow_callk, ow_str, ow_int, ow_bl, ow_non, ow_glob, ow_op, ow_cmp, ow_chain, ow_lst, ow_tup, ow_me, ow_isi, ow_and, ow_or, ow_not, ow_ite, ow_neg, ow_dic, ow_isE, ow_own, Z.ownsOf, opt, truthD, truth, callR, callP, permD, fillD, Z.putAll, isD, isNoneD, isiD, bLen, oAdd, oSub, oMod, oFdiv, oMulL, oMulR, oPow2, O.clr, Tab.at, l, c1, c2, nameD, nameB, h1, h2]
    · have h0 : ¬ 0 < x.length := h1
      simp [h0] at c1
      simp [e14, c14, n14, runFn, denS, denE, denT, denL, R.bind, R.o, R.t, O.then, Z.get, Z.put, startD, outsOf, fixD, fixL, ow_var, ow_ix, ow_sl, ow_bi, ow_call, ow_callk, ow_str, ow_int, ow_bl, ow_non, ow_glob, ow_op, ow_cmp, ow_chain, ow_lst, ow_tup, ow_me, ow_isi, ow_and, ow_or, ow_not, ow_ite, ow_neg, ow_dic, ow_isE, ow_own, Z.ownsOf, opt, truthD, truth, callR, callP, permD, fillD, Z.putAll, isD, isNoneD, isiD, bLen, oAdd, oSub, oMod, oFdiv, oMulL, oMulR, oPow2, O.clr, Tab.at, l, c1, nameD, nameB, h1]
  | _ => simp [e14, c14, n14, runFn, denS, denE, denT, denL, R.bind, R.o, R.t, O.then, Z.get, Z.put, startD, outsOf, fixD, fixL, ow_var, ow_ix, ow_sl, ow_bi, ow_call, ow_callk, ow_str, ow_int, ow_bl, ow_non, ow_glob, ow_op, ow_cmp, ow_chain, ow_lst, ow_tup, ow_me, ow_isi, ow_and, ow_or, ow_not, ow_ite, ow_neg, ow_dic, ow_isE, ow_own, Z.ownsOf, opt, truthD, truth, callR, callP, permD, fillD, Z.putAll, isD, isNoneD, isiD, bLen, oAdd, oSub, oMod, oFdiv, oMulL, oMulR, oPow2, O.clr, Tab.at, nameD]
theorem spl_len (S : List Nat) : ∀ (l : List Nat) (k : Nat) (acc : List Nat), ∀ p ∈ TL.spl S k acc l, p.length ≤ acc.length + l.length
  | [], k, acc, p, h => by
    cases k <;> simp [TL.spl] at h <;> simp [h]
  | c :: r, 0, acc, p, h => by
    simp only [TL.spl] at h
    split at h
    · rcases List.mem_cons.mp h with rfl | h
      · simp
      · have := spl_len S r _ _ p h
        simp at this ⊢; omega
    · have := spl_len S r _ _ p h
      simp at this ⊢; omega
  | c :: r, k + 1, acc, p, h => by
    simp only [TL.spl] at h
    have := spl_len S r _ _ p h
    simp; omega
theorem split_len (x w : Str) (h : w ∈ Txt.split x sp) : w.length ≤ x.length := by
  have e := TL.split_spl x sp (by decide +kernel) (TL.kind_ok (by decide +kernel))
  have m : TL.tl w ∈ (Txt.split x sp).map TL.tl := List.mem_map_of_mem h
  rw [e] at m
  have := spl_len _ _ _ _ _ m
  simpa [TL.tl, Str.length] using this
theorem split_n (x : Str) : (Txt.split x sp).length ≤ x.length + 2 := PyProof.Rows.split_le x sp
theorem sp_len : (sp.length == 0) = false := by decide +kernel
theorem me_sp (x : Str) (h : x.length ≤ 1000000) : meD .split (.str x) [.str (Str.ofString " ")] = some (.list ((Txt.split x sp).map .str)) := by
  show (if (sp.length == 0) = false ∧ x.length + 2 ≤ sizeLine then some (PyData.list ((Txt.split x sp).map .str)) else none) = _
  rw [if_pos ⟨sp_len, by rw [line_eq]; omega⟩]
theorem ne_emp (w : Str) : cmpD .ne (.str w) (.str (Str.ofString "")) = some (decide (1 ≤ w.length)) ∧ cmpD .eq (.str w) (.str (Str.ofString "")) = some (decide (w.length = 0)) := by
  have e : eqD (.str w) (.str (Str.ofString "")) = some (decide (w.length = 0)) := by
    rw [eqD_ok (okd_str w) (okd_str _)]
    congr 1
    show (w == Str.ofString "") = _
    rw [Bool.eq_iff_iff, beq_iff_eq, decide_eq_true_eq]
    constructor
    · intro h; rw [h]; rfl
    · intro h
      cases w with
      | mk c =>
        have : c = #[] := Array.eq_empty_of_size_eq_zero h
        rw [this]; rfl
  refine ⟨?_, e⟩
  show (eqD (.str w) (.str (Str.ofString ""))).map (fun b => !b) = _
  rw [e]
  show some (!decide (w.length = 0)) = _
  by_cases h : w.length = 0
  · simp [h]
  · rw [decide_eq_false h, decide_eq_true (show 1 ≤ w.length by omega)]; rfl
def wordD : D → D
  | .str w => .bool (decide (1 ≤ w.length) && lett w)
  | _ => .none
theorem is_title (k : Nat) (d : D) (h : slen d ≤ 1000000) : cl (k + 2) 4 [d] = .ok (.bool (titleD d)) [] := by
  rw [cl4]
  cases d with
  | str x =>
    have L : denE K02.T (cl (k + 1)) q4_0 [some (.str x), none] = .ok (.list ((Txt.split x sp).map fun w => .bool (decide (1 ≤ w.length) && lett w))) [some (.str x), none] := by
      have m := me_sp x h
      have e := lc_map (ct := cl (k + 1)) (T := K02.T) (vs := [1]) (pt := .var 1) (it := .me .split (.var 0) (.cons (.str (Str.ofString " ")) .nil)) (e := .and (.cmp .ne (.var 1) (.str (Str.ofString ""))) (.call 1 (.cons (.var 1) .nil))) (ρ := [some (.str x), none]) (ρ1 := [some (.str x), none]) (x := .list ((Txt.split x sp).map .str)) (xs := (Txt.split x sp).map .str)
        (g := wordD) (by simp [runFn, denS, denE, denT, denL, R.bind, R.o, R.t, O.then, Z.get, Z.put, startD, outsOf, fixD, fixL, ow_var, ow_ix, ow_sl, ow_bi, ow_call, ow_callk, ow_str, ow_int, ow_bl, ow_non, ow_glob, ow_op, ow_cmp, ow_chain, ow_lst, ow_tup, ow_me, ow_isi, ow_and, ow_or, ow_not, ow_ite, ow_neg, ow_dic, ow_isE, ow_own, Z.ownsOf, opt, truthD, truth, callR, callP, permD, fillD, Z.putAll, isD, isNoneD, isiD, bLen, oAdd, oSub, oMod, oFdiv, oMulL, oMulR, oPow2, O.clr, Tab.at, meTy, m]) rfl rfl (by rw [List.length_map]; have := split_n x; have h : x.length ≤ 1000000 := h; rw [line_eq]; omega) rfl fun d hd => by
        obtain ⟨w, hw, rfl⟩ := List.mem_map.mp hd
        have hl : slen (.str w) ≤ 1000000 := Nat.le_trans (split_len x w hw) h
        have a := are_letters k (.str w) hl
        have c := (ne_emp w).1
        refine ⟨[some (.str x), some (.str w)], rfl, [some (.str x), some (.str w)], ?_, rfl⟩
        by_cases h1 : 1 ≤ w.length
        · simp [h1] at c
          simp [runFn, denS, denE, denT, denL, R.bind, R.o, R.t, O.then, Z.get, Z.put, startD, outsOf, fixD, fixL, ow_var, ow_ix, ow_sl, ow_bi, ow_call, ow_callk, ow_str, ow_int, ow_bl, ow_non, ow_glob, ow_op, ow_cmp, ow_chain, ow_lst, ow_tup, ow_me, ow_isi, ow_and, ow_or, ow_not, ow_ite, ow_neg, ow_dic, ow_isE, ow_own, Z.ownsOf, opt, truthD, truth, callR, callP, permD, fillD, Z.putAll, isD, isNoneD, isiD, bLen, oAdd, oSub, oMod, oFdiv, oMulL, oMulR, oPow2, O.clr, Tab.at, a, c, wordD, h1, lettD]
        · simp [h1] at c
          simp [runFn, denS, denE, denT, denL, R.bind, R.o, R.t, O.then, Z.get, Z.put, startD, outsOf, fixD, fixL, ow_var, ow_ix, ow_sl, ow_bi, ow_call, ow_callk, ow_str, ow_int, ow_bl, ow_non, ow_glob, ow_op, ow_cmp, ow_chain, ow_lst, ow_tup, ow_me, ow_isi, ow_and, ow_or, ow_not, ow_ite, ow_neg, ow_dic, ow_isE, ow_own, Z.ownsOf, opt, truthD, truth, callR, callP, permD, fillD, Z.putAll, isD, isNoneD, isiD, bLen, oAdd, oSub, oMod, oFdiv, oMulL, oMulR, oPow2, O.clr, Tab.at, a, c, wordD, h1]
      rw [List.map_map] at e
      exact e
    have A : biD .all [.list ((Txt.split x sp).map fun w => .bool (decide (1 ≤ w.length) && lett w))] = some (.bool ((Txt.split x sp).all fun w => decide (1 ≤ w.length) && lett w)) := all_map _ _
    generalize (Txt.split x sp).map (fun w => PyData.bool (decide (1 ≤ w.length) && lett w)) = ls at L A
    have l := len_str x h
    have c1 := le_int 1 x.length
    have c2 := le_int x.length 40
    generalize ((x.length : Nat) : Int) = z at l c1 c2
    by_cases h1 : 1 ≤ x.length
    · by_cases h2 : x.length ≤ 40
      · simp [h1] at c1
        simp [h2] at c2
        simp [e4, K02.c4, n4, runFn, denS, denE, denT, denL, R.bind, R.o, R.t, O.then, Z.get, Z.put, startD, outsOf, fixD, fixL, ow_var, ow_ix, ow_sl, ow_bi, ow_call, ow_callk, ow_str, ow_int, ow_bl, ow_non, ow_glob, ow_op, ow_cmp, ow_chain, ow_lst, ow_tup, ow_me, ow_isi, ow_and, ow_or, ow_not, ow_ite, ow_neg, ow_dic, ow_isE, ow_own, Z.ownsOf, opt, truthD, truth, callR, callP, permD, fillD, Z.putAll, isD, isNoneD, isiD, bLen, oAdd, oSub, oMod, oFdiv, oMulL, oMulR, oPow2, O.clr, Tab.at, l, c1, c2, gv_t, q4_0_l, q4_0_o, L, A, titleD, titleB, h1, h2]
      · simp [h1] at c1
        simp [h2] at c2
        simp [e4, K02.c4, n4, runFn, denS, denE, denT, denL, R.bind, R.o, R.t, O.then, Z.get, Z.put, startD, outsOf, fixD, fixL, ow_var, ow_ix, ow_sl, ow_bi, ow_call, ow_callk, ow_str, ow_int, ow_bl, ow_non, ow_glob, ow_op, ow_cmp, ow_chain, ow_lst, ow_tup, ow_me, ow_isi, ow_and, ow_or, ow_not, ow_ite, ow_neg, ow_dic, ow_isE, ow_own, Z.ownsOf, opt, truthD, truth, callR, callP, permD, fillD, Z.putAll, isD, isNoneD, isiD, bLen, oAdd, oSub, oMod, oFdiv, oMulL, oMulR, oPow2, O.clr, Tab.at, l, c1, c2, gv_t, titleD, titleB, h1, h2]
    · simp [h1] at c1
      simp [e4, K02.c4, n4, runFn, denS, denE, denT, denL, R.bind, R.o, R.t, O.then, Z.get, Z.put, startD, outsOf, fixD, fixL, ow_var, ow_ix, ow_sl, ow_bi, ow_call, ow_callk, ow_str, ow_int, ow_bl, ow_non, ow_glob, ow_op, ow_cmp, ow_chain, ow_lst, ow_tup, ow_me, ow_isi, ow_and, ow_or, ow_not, ow_ite, ow_neg, ow_dic, ow_isE, ow_own, Z.ownsOf, opt, truthD, truth, callR, callP, permD, fillD, Z.putAll, isD, isNoneD, isiD, bLen, oAdd, oSub, oMod, oFdiv, oMulL, oMulR, oPow2, O.clr, Tab.at, l, c1, gv_t, titleD, titleB, h1]
  | _ => simp [e4, K02.c4, n4, runFn, denS, denE, denT, denL, R.bind, R.o, R.t, O.then, Z.get, Z.put, startD, outsOf, fixD, fixL, ow_var, ow_ix, ow_sl, ow_bi, ow_call, ow_callk, ow_str, ow_int, ow_bl, ow_non, ow_glob, ow_op, ow_cmp, ow_chain, ow_lst, ow_tup, ow_me, ow_isi, ow_and, ow_or, ow_not, ow_ite, ow_neg, ow_dic, ow_isE, ow_own, Z.ownsOf, opt, truthD, truth, callR, callP, permD, fillD, Z.putAll, isD, isNoneD, isiD, bLen, oAdd, oSub, oMod, oFdiv, oMulL, oMulR, oPow2, O.clr, Tab.at, titleD]
def wordB : D → Bool
  | .str w => nameB 40 w
  | _ => false
theorem law_title (k : Nat) (d : D) (h : slen d ≤ 1000000) : cl (k + 2) 15 [d] = .ok (.bool (titleD d)) [] := by
  rw [cl15]
  cases d with
  | str x =>
    have l := len_str x h
    have c1 := lt_int 0 x.length
    have c2 := le_int x.length 40
    by_cases h1 : 1 ≤ x.length
    · by_cases h2 : x.length ≤ 40
      · have L : denE K02.T (cl (k + 1)) q15_0 [some (.str x), none] = .ok (.list (((Txt.split x sp).map PyData.str).filter fun d => !wordB d)) [some (.str x), none] := by
          have m := me_sp x h
          refine lc_filt (x := .list ((Txt.split x sp).map .str)) (xs := (Txt.split x sp).map .str) (b := fun d => !wordB d) (by simp [runFn, denS, denE, denT, denL, R.bind, R.o, R.t, O.then, Z.get, Z.put, startD, outsOf, fixD, fixL, ow_var, ow_ix, ow_sl, ow_bi, ow_call, ow_callk, ow_str, ow_int, ow_bl, ow_non, ow_glob, ow_op, ow_cmp, ow_chain, ow_lst, ow_tup, ow_me, ow_isi, ow_and, ow_or, ow_not, ow_ite, ow_neg, ow_dic, ow_isE, ow_own, Z.ownsOf, opt, truthD, truth, callR, callP, permD, fillD, Z.putAll, isD, isNoneD, isiD, bLen, oAdd, oSub, oMod, oFdiv, oMulL, oMulR, oPow2, O.clr, Tab.at, meTy, m]) rfl rfl (by rw [List.length_map]; have := split_n x; rw [line_eq]; omega) rfl fun d hd => ?_
          obtain ⟨w, hw, rfl⟩ := List.mem_map.mp hd
          have hl : slen (.str w) ≤ 1000000 := Nat.le_trans (split_len x w hw) h
          have a := is_word k 40 (.str w) hl
          simp [nameD] at a
          refine ⟨[some (.str x), some (.str w)], rfl, ?_, rfl, rfl⟩
          simp [runFn, denS, denE, denT, denL, R.bind, R.o, R.t, O.then, Z.get, Z.put, startD, outsOf, fixD, fixL, ow_var, ow_ix, ow_sl, ow_bi, ow_call, ow_callk, ow_str, ow_int, ow_bl, ow_non, ow_glob, ow_op, ow_cmp, ow_chain, ow_lst, ow_tup, ow_me, ow_isi, ow_and, ow_or, ow_not, ow_ite, ow_neg, ow_dic, ow_isE, ow_own, Z.ownsOf, opt, truthD, truth, callR, callP, permD, fillD, Z.putAll, isD, isNoneD, isiD, bLen, oAdd, oSub, oMod, oFdiv, oMulL, oMulR, oPow2, O.clr, Tab.at, a, wordB]
        have E : cmpD .eq (.list (((Txt.split x sp).map PyData.str).filter fun d => !wordB d)) (.list []) = some ((Txt.split x sp).all fun w => decide (1 ≤ w.length) && lett w) := by
          rw [eq_nil (fun d hd => by obtain ⟨w, _, rfl⟩ := List.mem_map.mp (List.mem_filter.mp hd).1; exact ⟨w, rfl⟩), filt_empty, List.all_map]
          congr 1
          rw [Bool.eq_iff_iff, List.all_eq_true, List.all_eq_true]
          have key : ∀ w ∈ Txt.split x sp, nameB 40 w = (decide (1 ≤ w.length) && lett w) := fun w hw => by
            have := split_len x w hw
            unfold nameB
            rw [decide_eq_true (show w.length ≤ 40 by omega), Bool.and_true, Bool.and_comm]
          constructor
          · intro q w hw; rw [← key w hw]; exact q w hw
          · intro q w hw; show nameB 40 w = true; rw [key w hw]; exact q w hw
        generalize ((Txt.split x sp).map PyData.str).filter (fun d => !wordB d) = ls at L E
        generalize ((x.length : Nat) : Int) = z at l c1 c2
        simp [show 0 < x.length from h1] at c1
        simp [h2] at c2
        simp [e15, c15, n15, runFn, denS, denE, denT, denL, R.bind, R.o, R.t, O.then, Z.get, Z.put, startD, outsOf, fixD, fixL, ow_var, ow_ix, ow_sl, ow_bi, ow_call, ow_callk, ow_str, ow_int, ow_bl, ow_non, ow_glob, ow_op, ow_cmp, ow_chain, ow_lst, ow_tup, ow_me, ow_isi, ow_and, ow_or, ow_not, ow_ite, ow_neg, ow_dic, ow_isE, ow_own, Z.ownsOf, opt, truthD, truth, callR, callP, permD, fillD, Z.putAll, isD, isNoneD, isiD, bLen, oAdd, oSub, oMod, oFdiv, oMulL, oMulR, oPow2, O.clr, Tab.at, l, c1, c2, q15_0_o, L, E, titleD, titleB, h1, h2]
      · generalize ((x.length : Nat) : Int) = z at l c1 c2
        simp [show 0 < x.length from h1] at c1
        simp [h2] at c2
        simp [e15, c15, n15, runFn, denS, denE, denT, denL, R.bind, R.o, R.t, O.then, Z.get, Z.put, startD, outsOf, fixD, fixL, ow_var, ow_ix, ow_sl, ow_bi, ow_call, ow_callk, ow_str, ow_int, ow_bl, ow_non, ow_glob, ow_op, ow_cmp, ow_chain, ow_lst, ow_tup, ow_me, ow_isi, ow_and, ow_or, ow_not, ow_ite, ow_neg, ow_dic, ow_isE, ow_own, Z.ownsOf, opt, truthD, truth, callR, callP, permD, fillD, Z.putAll, isD, isNoneD, isiD, bLen, oAdd, oSub, oMod, oFdiv, oMulL, oMulR, oPow2, O.clr, Tab.at, l, c1, c2, titleD, titleB, h1, h2]
    · generalize ((x.length : Nat) : Int) = z at l c1 c2
      have h0 : ¬ 0 < x.length := h1
      simp [h0] at c1
      simp [e15, c15, n15, runFn, denS, denE, denT, denL, R.bind, R.o, R.t, O.then, Z.get, Z.put, startD, outsOf, fixD, fixL, ow_var, ow_ix, ow_sl, ow_bi, ow_call, ow_callk, ow_str, ow_int, ow_bl, ow_non, ow_glob, ow_op, ow_cmp, ow_chain, ow_lst, ow_tup, ow_me, ow_isi, ow_and, ow_or, ow_not, ow_ite, ow_neg, ow_dic, ow_isE, ow_own, Z.ownsOf, opt, truthD, truth, callR, callP, permD, fillD, Z.putAll, isD, isNoneD, isiD, bLen, oAdd, oSub, oMod, oFdiv, oMulL, oMulR, oPow2, O.clr, Tab.at, l, c1, titleD, titleB, h1]
  | _ => simp [e15, c15, n15, runFn, denS, denE, denT, denL, R.bind, R.o, R.t, O.then, Z.get, Z.put, startD, outsOf, fixD, fixL, ow_var, ow_ix, ow_sl, ow_bi, ow_call, ow_callk, ow_str, ow_int, ow_bl, ow_non, ow_glob, ow_op, ow_cmp, ow_chain, ow_lst, ow_tup, ow_me, ow_isi, ow_and, ow_or, ow_not, ow_ite, ow_neg, ow_dic, ow_isE, ow_own, Z.ownsOf, opt, truthD, truth, callR, callP, permD, fillD, Z.putAll, isD, isNoneD, isiD, bLen, oAdd, oSub, oMod, oFdiv, oMulL, oMulR, oPow2, O.clr, Tab.at, titleD]
end K02

set_option Elab.async false
set_option linter.all false
set_option maxRecDepth 100000
set_option maxHeartbeats 1000000
namespace K02
open PySem Z A
def personD : D → Bool
  | .tuple [f, g] => nameD 12 f && nameD 12 g
  | _ => false
def peopleD : D → Bool
  | .tuple ps => !ps.isEmpty && ps.all personD
  | _ => false
def yearD : D → Bool
  | .int i => decide (0 ≤ i)
  | _ => false
def sourceD : D → Bool
  | .tuple [p, y, t] => peopleD p && (yearD y && titleD t)
  | _ => false
theorem is_year (k : Nat) (d : D) : cl (k + 1) 0 [d, .int 0, .none] = .ok (.bool (yearD d)) [] := by
  rw [is_int]; cases d <;> rfl
theorem two {xs : List D} (h : xs.length = 2) : ∃ a b, xs = [a, b] := by
  match xs, h with
  | [a, b], _ => exact ⟨a, b, rfl⟩
theorem three {xs : List D} (h : xs.length = 3) : ∃ a b c, xs = [a, b, c] := by
  match xs, h with
  | [a, b, c], _ => exact ⟨a, b, c, rfl⟩
theorem person_two {xs : List D} (h : xs.length ≠ 2) : personD (.tuple xs) = false := by
  match xs, h with
  | [], _ => rfl
  | [_], _ => rfl
  | [_, _], h => exact absurd rfl h
  | _ :: _ :: _ :: _, _ => rfl
theorem source_three {xs : List D} (h : xs.length ≠ 3) : sourceD (.tuple xs) = false := by
  match xs, h with
  | [], _ => rfl
  | [_], _ => rfl
  | [_, _], _ => rfl
  | [_, _, _], h => exact absurd rfl h
  | _ :: _ :: _ :: _ :: _, _ => rfl
theorem is_person (k : Nat) (d : D) (h : wt d ≤ 900000) : cl (k + 3) 3 [d] = .ok (.bool (personD d)) [] := by
  rw [cl3]
  cases d with
  | tuple xs =>
    rw [wt_tup] at h
    have l := len_tup xs
    have c1 := eq_int xs.length 2
    by_cases h2 : xs.length = 2
    · obtain ⟨f, g, rfl⟩ := two h2
      have a := is_name k f (slen_wt (by have := wts_mem (x := f) (xs := [f, g]) (by simp); omega))
      have b := is_name k g (slen_wt (by have := wts_mem (x := g) (xs := [f, g]) (by simp); omega))
      have i0 : ixD (.tuple [f, g]) (.int 0) = some f := rfl
      have i1 : ixD (.tuple [f, g]) (.int 1) = some g := rfl
      simp at l c1
      cases hf : nameD 12 f with
      | false => rw [hf] at a; simp [e3, K02.c3, n3, runFn, denS, denE, denT, denL, R.bind, R.o, R.t, O.then, Z.get, Z.put, startD, outsOf, fixD, fixL, ow_var, ow_ix, ow_sl, ow_bi, ow_call, ow_callk, ow_str, ow_int, ow_bl, ow_non, ow_glob, ow_op, ow_cmp, ow_chain, ow_lst, ow_tup, ow_me, ow_isi, ow_and, ow_or, ow_not, ow_ite, ow_neg, ow_dic, ow_isE, ow_own, Z.ownsOf, opt, truthD, truth, callR, callP, permD, fillD, Z.putAll, isD, isNoneD, isiD, bLen, oAdd, oSub, oMod, oFdiv, oMulL, oMulR, oPow2, O.clr, Tab.at, l, c1, i0, i1, a, b, personD, hf]
      | true => rw [hf] at a; simp [e3, K02.c3, n3, runFn, denS, denE, denT, denL, R.bind, R.o, R.t, O.then, Z.get, Z.put, startD, outsOf, fixD, fixL, ow_var, ow_ix, ow_sl, ow_bi, ow_call, ow_callk, ow_str, ow_int, ow_bl, ow_non, ow_glob, ow_op, ow_cmp, ow_chain, ow_lst, ow_tup, ow_me, ow_isi, ow_and, ow_or, ow_not, ow_ite, ow_neg, ow_dic, ow_isE, ow_own, Z.ownsOf, opt, truthD, truth, callR, callP, permD, fillD, Z.putAll, isD, isNoneD, isiD, bLen, oAdd, oSub, oMod, oFdiv, oMulL, oMulR, oPow2, O.clr, Tab.at, l, c1, i0, i1, a, b, personD, hf]
    · have hq := person_two h2
      generalize ((xs.length : Nat) : Int) = z at l c1
      simp [h2] at c1
      simp [e3, K02.c3, n3, runFn, denS, denE, denT, denL, R.bind, R.o, R.t, O.then, Z.get, Z.put, startD, outsOf, fixD, fixL, ow_var, ow_ix, ow_sl, ow_bi, ow_call, ow_callk, ow_str, ow_int, ow_bl, ow_non, ow_glob, ow_op, ow_cmp, ow_chain, ow_lst, ow_tup, ow_me, ow_isi, ow_and, ow_or, ow_not, ow_ite, ow_neg, ow_dic, ow_isE, ow_own, Z.ownsOf, opt, truthD, truth, callR, callP, permD, fillD, Z.putAll, isD, isNoneD, isiD, bLen, oAdd, oSub, oMod, oFdiv, oMulL, oMulR, oPow2, O.clr, Tab.at, l, c1, hq]
  | _ => simp [e3, K02.c3, n3, runFn, denS, denE, denT, denL, R.bind, R.o, R.t, O.then, Z.get, Z.put, startD, outsOf, fixD, fixL, ow_var, ow_ix, ow_sl, ow_bi, ow_call, ow_callk, ow_str, ow_int, ow_bl, ow_non, ow_glob, ow_op, ow_cmp, ow_chain, ow_lst, ow_tup, ow_me, ow_isi, ow_and, ow_or, ow_not, ow_ite, ow_neg, ow_dic, ow_isE, ow_own, Z.ownsOf, opt, truthD, truth, callR, callP, permD, fillD, Z.putAll, isD, isNoneD, isiD, bLen, oAdd, oSub, oMod, oFdiv, oMulL, oMulR, oPow2, O.clr, Tab.at, personD]
theorem are_people (k : Nat) (d : D) (h : wt d ≤ 900000) : cl (k + 4) 5 [d] = .ok (.bool (peopleD d)) [] := by
  rw [cl5]
  cases d with
  | tuple ps =>
    rw [wt_tup] at h
    have hl := wts_len4 ps
    have L : denE K02.T (cl (k + 3)) q5_0 [some (.tuple ps), none] = .ok (.list (ps.map fun d => .bool (personD d))) [some (.tuple ps), none] := by
      refine lc_map (ct := cl (k + 3)) (T := K02.T) (vs := [1]) (pt := .var 1) (it := .var 0) (ρ := [some (.tuple ps), none]) (ρ1 := [some (.tuple ps), none]) (x := .tuple ps) (xs := ps) (g := fun d => .bool (personD d)) rfl rfl rfl (line_n (by omega)) rfl fun d hd => ?_
      have a := is_person k d (by have := wts_mem hd; omega)
      exact ⟨[some (.tuple ps), some d], rfl, [some (.tuple ps), some d], by simp [runFn, denS, denE, denT, denL, R.bind, R.o, R.t, O.then, Z.get, Z.put, startD, outsOf, fixD, fixL, ow_var, ow_ix, ow_sl, ow_bi, ow_call, ow_callk, ow_str, ow_int, ow_bl, ow_non, ow_glob, ow_op, ow_cmp, ow_chain, ow_lst, ow_tup, ow_me, ow_isi, ow_and, ow_or, ow_not, ow_ite, ow_neg, ow_dic, ow_isE, ow_own, Z.ownsOf, opt, truthD, truth, callR, callP, permD, fillD, Z.putAll, isD, isNoneD, isiD, bLen, oAdd, oSub, oMod, oFdiv, oMulL, oMulR, oPow2, O.clr, Tab.at, a], rfl⟩
    have A : biD .all [.list (ps.map fun d => PyData.bool (personD d))] = some (.bool (ps.all personD)) := all_map personD ps
    have u : cmpD .ne (.tuple ps) (.tuple []) = some (!ps.isEmpty) := by
      show (eqD _ _).map (fun b => !b) = _
      rw [show eqD (.tuple ps) (.tuple []) = _ from eq_unit ps]; rfl
    have hz : (0 : Nat) ≤ sizeLine := Nat.zero_le _
    generalize ps.map (fun d => PyData.bool (personD d)) = ls at L A
    cases he : ps.isEmpty with
    | true => rw [he] at u; simp [e5, K02.c5, n5, runFn, denS, denE, denT, denL, R.bind, R.o, R.t, O.then, Z.get, Z.put, startD, outsOf, fixD, fixL, ow_var, ow_ix, ow_sl, ow_bi, ow_call, ow_callk, ow_str, ow_int, ow_bl, ow_non, ow_glob, ow_op, ow_cmp, ow_chain, ow_lst, ow_tup, ow_me, ow_isi, ow_and, ow_or, ow_not, ow_ite, ow_neg, ow_dic, ow_isE, ow_own, Z.ownsOf, opt, truthD, truth, callR, callP, permD, fillD, Z.putAll, isD, isNoneD, isiD, bLen, oAdd, oSub, oMod, oFdiv, oMulL, oMulR, oPow2, O.clr, Tab.at, q5_0_l, q5_0_o, u, peopleD, he]
    | false => rw [he] at u; simp [e5, K02.c5, n5, runFn, denS, denE, denT, denL, R.bind, R.o, R.t, O.then, Z.get, Z.put, startD, outsOf, fixD, fixL, ow_var, ow_ix, ow_sl, ow_bi, ow_call, ow_callk, ow_str, ow_int, ow_bl, ow_non, ow_glob, ow_op, ow_cmp, ow_chain, ow_lst, ow_tup, ow_me, ow_isi, ow_and, ow_or, ow_not, ow_ite, ow_neg, ow_dic, ow_isE, ow_own, Z.ownsOf, opt, truthD, truth, callR, callP, permD, fillD, Z.putAll, isD, isNoneD, isiD, bLen, oAdd, oSub, oMod, oFdiv, oMulL, oMulR, oPow2, O.clr, Tab.at, q5_0_l, q5_0_o, u, L, A, peopleD, he]
  | _ => simp [e5, K02.c5, n5, runFn, denS, denE, denT, denL, R.bind, R.o, R.t, O.then, Z.get, Z.put, startD, outsOf, fixD, fixL, ow_var, ow_ix, ow_sl, ow_bi, ow_call, ow_callk, ow_str, ow_int, ow_bl, ow_non, ow_glob, ow_op, ow_cmp, ow_chain, ow_lst, ow_tup, ow_me, ow_isi, ow_and, ow_or, ow_not, ow_ite, ow_neg, ow_dic, ow_isE, ow_own, Z.ownsOf, opt, truthD, truth, callR, callP, permD, fillD, Z.putAll, isD, isNoneD, isiD, bLen, oAdd, oSub, oMod, oFdiv, oMulL, oMulR, oPow2, O.clr, Tab.at, peopleD]
theorem is_source (k : Nat) (d : D) (h : wt d ≤ 900000) : cl (k + 5) 6 [d] = .ok (.bool (sourceD d)) [] := by
  rw [cl6]
  cases d with
  | tuple xs =>
    rw [wt_tup] at h
    have l := len_tup xs
    have c1 := ne_int xs.length 3
    by_cases h3 : xs.length = 3
    · obtain ⟨p, y, t, rfl⟩ := three h3
      have a := are_people k p (by have := wts_mem (x := p) (xs := [p, y, t]) (by simp); omega)
      have b := is_year (k + 3) y
      have c := is_title (k + 2) t (slen_wt (by have := wts_mem (x := t) (xs := [p, y, t]) (by simp); omega))
      have i0 : ixD (.tuple [p, y, t]) (.int 0) = some p := rfl
      have i1 : ixD (.tuple [p, y, t]) (.int 1) = some y := rfl
      have i2 : ixD (.tuple [p, y, t]) (.int 2) = some t := rfl
      simp at l c1
      cases hp : peopleD p with
      | false => rw [hp] at a; simp [e6, K02.c6, n6, runFn, denS, denE, denT, denL, R.bind, R.o, R.t, O.then, Z.get, Z.put, startD, outsOf, fixD, fixL, ow_var, ow_ix, ow_sl, ow_bi, ow_call, ow_callk, ow_str, ow_int, ow_bl, ow_non, ow_glob, ow_op, ow_cmp, ow_chain, ow_lst, ow_tup, ow_me, ow_isi, ow_and, ow_or, ow_not, ow_ite, ow_neg, ow_dic, ow_isE, ow_own, Z.ownsOf, opt, truthD, truth, callR, callP, permD, fillD, Z.putAll, isD, isNoneD, isiD, bLen, oAdd, oSub, oMod, oFdiv, oMulL, oMulR, oPow2, O.clr, Tab.at, l, c1, i0, a, sourceD, hp]
      | true =>
        rw [hp] at a
        cases hy : yearD y with
        | false => rw [hy] at b; simp [e6, K02.c6, n6, runFn, denS, denE, denT, denL, R.bind, R.o, R.t, O.then, Z.get, Z.put, startD, outsOf, fixD, fixL, ow_var, ow_ix, ow_sl, ow_bi, ow_call, ow_callk, ow_str, ow_int, ow_bl, ow_non, ow_glob, ow_op, ow_cmp, ow_chain, ow_lst, ow_tup, ow_me, ow_isi, ow_and, ow_or, ow_not, ow_ite, ow_neg, ow_dic, ow_isE, ow_own, Z.ownsOf, opt, truthD, truth, callR, callP, permD, fillD, Z.putAll, isD, isNoneD, isiD, bLen, oAdd, oSub, oMod, oFdiv, oMulL, oMulR, oPow2, O.clr, Tab.at, l, c1, i0, i1, a, b, sourceD, hp, hy]
        | true => rw [hy] at b; simp [e6, K02.c6, n6, runFn, denS, denE, denT, denL, R.bind, R.o, R.t, O.then, Z.get, Z.put, startD, outsOf, fixD, fixL, ow_var, ow_ix, ow_sl, ow_bi, ow_call, ow_callk, ow_str, ow_int, ow_bl, ow_non, ow_glob, ow_op, ow_cmp, ow_chain, ow_lst, ow_tup, ow_me, ow_isi, ow_and, ow_or, ow_not, ow_ite, ow_neg, ow_dic, ow_isE, ow_own, Z.ownsOf, opt, truthD, truth, callR, callP, permD, fillD, Z.putAll, isD, isNoneD, isiD, bLen, oAdd, oSub, oMod, oFdiv, oMulL, oMulR, oPow2, O.clr, Tab.at, l, c1, i0, i1, i2, a, b, c, sourceD, hp, hy]
    · have hq := source_three h3
      generalize ((xs.length : Nat) : Int) = z at l c1
      simp [h3] at c1
      simp [e6, K02.c6, n6, runFn, denS, denE, denT, denL, R.bind, R.o, R.t, O.then, Z.get, Z.put, startD, outsOf, fixD, fixL, ow_var, ow_ix, ow_sl, ow_bi, ow_call, ow_callk, ow_str, ow_int, ow_bl, ow_non, ow_glob, ow_op, ow_cmp, ow_chain, ow_lst, ow_tup, ow_me, ow_isi, ow_and, ow_or, ow_not, ow_ite, ow_neg, ow_dic, ow_isE, ow_own, Z.ownsOf, opt, truthD, truth, callR, callP, permD, fillD, Z.putAll, isD, isNoneD, isiD, bLen, oAdd, oSub, oMod, oFdiv, oMulL, oMulR, oPow2, O.clr, Tab.at, l, c1, hq]
  | _ => simp [e6, K02.c6, n6, runFn, denS, denE, denT, denL, R.bind, R.o, R.t, O.then, Z.get, Z.put, startD, outsOf, fixD, fixL, ow_var, ow_ix, ow_sl, ow_bi, ow_call, ow_callk, ow_str, ow_int, ow_bl, ow_non, ow_glob, ow_op, ow_cmp, ow_chain, ow_lst, ow_tup, ow_me, ow_isi, ow_and, ow_or, ow_not, ow_ite, ow_neg, ow_dic, ow_isE, ow_own, Z.ownsOf, opt, truthD, truth, callR, callP, permD, fillD, Z.putAll, isD, isNoneD, isiD, bLen, oAdd, oSub, oMod, oFdiv, oMulL, oMulR, oPow2, O.clr, Tab.at, sourceD]
end K02

set_option Elab.async false
set_option linter.all false
set_option maxRecDepth 100000
set_option maxHeartbeats 1000000
namespace K02
open PySem Z A
theorem person_step (k : Nat) (d : D) (h : wt d ≤ 900000) (a0 a1 : Option D) : forF (cl (k + 1)) K02.T (.var 1) b16_0 d [a0, a1] = if personD d then .nx [a0, some d] else .ret (.bool false) [a0, some d] := by
  rw [forF_of (ρ3 := [a0, some d]) rfl]
  cases d with
  | tuple xs =>
    rw [wt_tup] at h
    have l := len_tup xs
    have c1 := ne_int xs.length 2
    by_cases h2 : xs.length = 2
    · obtain ⟨f, g, rfl⟩ := two h2
      have a := is_word k 12 f (slen_wt (by have := wts_mem (x := f) (xs := [f, g]) (by simp); omega))
      have b := is_word k 12 g (slen_wt (by have := wts_mem (x := g) (xs := [f, g]) (by simp); omega))
      have i0 : ixD (.tuple [f, g]) (.int 0) = some f := rfl
      have i1 : ixD (.tuple [f, g]) (.int 1) = some g := rfl
      simp at l c1 a b
      cases hf : nameD 12 f with
      | false => simp [hf] at a; simp [b16_0, runFn, denS, denE, denT, denL, R.bind, R.o, R.t, O.then, Z.get, Z.put, startD, outsOf, fixD, fixL, ow_var, ow_ix, ow_sl, ow_bi, ow_call, ow_callk, ow_str, ow_int, ow_bl, ow_non, ow_glob, ow_op, ow_cmp, ow_chain, ow_lst, ow_tup, ow_me, ow_isi, ow_and, ow_or, ow_not, ow_ite, ow_neg, ow_dic, ow_isE, ow_own, Z.ownsOf, opt, truthD, truth, callR, callP, permD, fillD, Z.putAll, isD, isNoneD, isiD, bLen, oAdd, oSub, oMod, oFdiv, oMulL, oMulR, oPow2, O.clr, Tab.at, l, c1, i0, a, personD, hf]
      | true =>
        simp [hf] at a
        cases hg : nameD 12 g with
        | false => simp [hg] at b; simp [b16_0, runFn, denS, denE, denT, denL, R.bind, R.o, R.t, O.then, Z.get, Z.put, startD, outsOf, fixD, fixL, ow_var, ow_ix, ow_sl, ow_bi, ow_call, ow_callk, ow_str, ow_int, ow_bl, ow_non, ow_glob, ow_op, ow_cmp, ow_chain, ow_lst, ow_tup, ow_me, ow_isi, ow_and, ow_or, ow_not, ow_ite, ow_neg, ow_dic, ow_isE, ow_own, Z.ownsOf, opt, truthD, truth, callR, callP, permD, fillD, Z.putAll, isD, isNoneD, isiD, bLen, oAdd, oSub, oMod, oFdiv, oMulL, oMulR, oPow2, O.clr, Tab.at, l, c1, i0, i1, a, b, personD, hf, hg]
        | true => simp [hg] at b; simp [b16_0, runFn, denS, denE, denT, denL, R.bind, R.o, R.t, O.then, Z.get, Z.put, startD, outsOf, fixD, fixL, ow_var, ow_ix, ow_sl, ow_bi, ow_call, ow_callk, ow_str, ow_int, ow_bl, ow_non, ow_glob, ow_op, ow_cmp, ow_chain, ow_lst, ow_tup, ow_me, ow_isi, ow_and, ow_or, ow_not, ow_ite, ow_neg, ow_dic, ow_isE, ow_own, Z.ownsOf, opt, truthD, truth, callR, callP, permD, fillD, Z.putAll, isD, isNoneD, isiD, bLen, oAdd, oSub, oMod, oFdiv, oMulL, oMulR, oPow2, O.clr, Tab.at, l, c1, i0, i1, a, b, personD, hf, hg]
    · have hq := person_two h2
      generalize ((xs.length : Nat) : Int) = z at l c1
      simp [h2] at c1
      simp [b16_0, runFn, denS, denE, denT, denL, R.bind, R.o, R.t, O.then, Z.get, Z.put, startD, outsOf, fixD, fixL, ow_var, ow_ix, ow_sl, ow_bi, ow_call, ow_callk, ow_str, ow_int, ow_bl, ow_non, ow_glob, ow_op, ow_cmp, ow_chain, ow_lst, ow_tup, ow_me, ow_isi, ow_and, ow_or, ow_not, ow_ite, ow_neg, ow_dic, ow_isE, ow_own, Z.ownsOf, opt, truthD, truth, callR, callP, permD, fillD, Z.putAll, isD, isNoneD, isiD, bLen, oAdd, oSub, oMod, oFdiv, oMulL, oMulR, oPow2, O.clr, Tab.at, l, c1, hq]
  | _ => simp [b16_0, runFn, denS, denE, denT, denL, R.bind, R.o, R.t, O.then, Z.get, Z.put, startD, outsOf, fixD, fixL, ow_var, ow_ix, ow_sl, ow_bi, ow_call, ow_callk, ow_str, ow_int, ow_bl, ow_non, ow_glob, ow_op, ow_cmp, ow_chain, ow_lst, ow_tup, ow_me, ow_isi, ow_and, ow_or, ow_not, ow_ite, ow_neg, ow_dic, ow_isE, ow_own, Z.ownsOf, opt, truthD, truth, callR, callP, permD, fillD, Z.putAll, isD, isNoneD, isiD, bLen, oAdd, oSub, oMod, oFdiv, oMulL, oMulR, oPow2, O.clr, Tab.at, personD]
theorem person_walk (k : Nat) (a0 : Option D) : ∀ (ps : List D), (∀ d ∈ ps, wt d ≤ 900000) → ∀ a1, ∃ b1, turns (fun _ => true) (forF (cl (k + 1)) K02.T (.var 1) b16_0) ps [a0, a1] = if ps.all personD then .nx [a0, b1] else .ret (.bool false) [a0, b1] := by
  intro ps
  induction ps with
  | nil => exact fun _ a1 => ⟨a1, rfl⟩
  | cons d ps ih =>
    intro h a1
    rw [turns_cons, person_step k d (h d List.mem_cons_self)]
    cases hp : personD d with
    | false => exact ⟨some d, by simp [hp]⟩
    | true =>
      obtain ⟨b1, e⟩ := ih (fun x hx => h x (List.mem_cons_of_mem _ hx)) (some d)
      exact ⟨b1, by simp only [if_pos, List.all_cons, hp, Bool.true_and]; exact e⟩
theorem lt_zero (i : Int) : cmpD .lt (.int i) (.int 0) = some (!decide (0 ≤ i)) := by
  show some (decide (i < 0)) = _
  by_cases h : 0 ≤ i
  · rw [decide_eq_true h, decide_eq_false (by omega)]; rfl
  · rw [decide_eq_false h, decide_eq_true (by omega)]; rfl
theorem law_source (k : Nat) (d : D) (h : wt d ≤ 900000) : cl (k + 3) 16 [d] = .ok (.bool (sourceD d)) [] := by
  rw [cl16]
  cases d with
  | tuple xs =>
    rw [wt_tup] at h
    have l := len_tup xs
    have c1 := ne_int xs.length 3
    have it : isiD .tuple (.tuple xs) = true := rfl
    by_cases h3 : xs.length = 3
    · obtain ⟨p, y, t, rfl⟩ := three h3
      have hp := wts_mem (x := p) (xs := [p, y, t]) (by simp)
      have c := law_title k t (slen_wt (by have := wts_mem (x := t) (xs := [p, y, t]) (by simp); omega))
      have i0 : ixD (.tuple [p, y, t]) (.int 0) = some p := rfl
      have i1 : ixD (.tuple [p, y, t]) (.int 1) = some y := rfl
      have i2 : ixD (.tuple [p, y, t]) (.int 2) = some t := rfl
      simp at l c1
      cases p with
      | tuple ps =>
        have ip : isiD .tuple (.tuple ps) = true := rfl
        have eu := eq_unit ps
        have hz : (0 : Nat) ≤ sizeLine := Nat.zero_le _
        rw [wt_tup] at hp
        cases he : ps.isEmpty with
        | true =>
          rw [he] at eu
          simp [e16, c16, n16, runFn, denS, denE, denT, denL, R.bind, R.o, R.t, O.then, Z.get, Z.put, startD, outsOf, fixD, fixL, ow_var, ow_ix, ow_sl, ow_bi, ow_call, ow_callk, ow_str, ow_int, ow_bl, ow_non, ow_glob, ow_op, ow_cmp, ow_chain, ow_lst, ow_tup, ow_me, ow_isi, ow_and, ow_or, ow_not, ow_ite, ow_neg, ow_dic, ow_isE, ow_own, Z.ownsOf, opt, truthD, truth, callR, callP, permD, fillD, Z.putAll, bLen, oAdd, oSub, oMod, oFdiv, oMulL, oMulR, oPow2, O.clr, Tab.at, l, c1, it, i0, ip, eu, sourceD, peopleD, he]
        | false =>
          rw [he] at eu
          obtain ⟨b1, e⟩ := person_walk (k + 1) (some (.tuple [.tuple ps, y, t])) ps (fun d hd => by have := wts_mem hd; omega) none
          have W : denS (cl (k + 2)) K02.T f16_0 [some (.tuple [.tuple ps, y, t]), none] = if ps.all personD then .nx [some (.tuple [.tuple ps, y, t]), b1] else .ret (.bool false) [some (.tuple [.tuple ps, y, t]), b1] :=
            (for_d (x := .tuple ps) (xs := ps) (ρ1 := [some (.tuple [.tuple ps, y, t]), none]) (by simp [runFn, denS, denE, denT, denL, R.bind, R.o, R.t, O.then, Z.get, Z.put, startD, outsOf, fixD, fixL, ow_var, ow_ix, ow_sl, ow_bi, ow_call, ow_callk, ow_str, ow_int, ow_bl, ow_non, ow_glob, ow_op, ow_cmp, ow_chain, ow_lst, ow_tup, ow_me, ow_isi, ow_and, ow_or, ow_not, ow_ite, ow_neg, ow_dic, ow_isE, ow_own, Z.ownsOf, opt, truthD, truth, callR, callP, permD, fillD, Z.putAll, isD, isNoneD, isiD, bLen, oAdd, oSub, oMod, oFdiv, oMulL, oMulR, oPow2, O.clr, Tab.at, i0]) rfl rfl).trans e
          cases ha : ps.all personD with
          | false =>
            rw [ha] at W
            simp at W
            simp [e16, c16, n16, runFn, denS, denE, denT, denL, R.bind, R.o, R.t, O.then, Z.get, Z.put, startD, outsOf, fixD, fixL, ow_var, ow_ix, ow_sl, ow_bi, ow_call, ow_callk, ow_str, ow_int, ow_bl, ow_non, ow_glob, ow_op, ow_cmp, ow_chain, ow_lst, ow_tup, ow_me, ow_isi, ow_and, ow_or, ow_not, ow_ite, ow_neg, ow_dic, ow_isE, ow_own, Z.ownsOf, opt, truthD, truth, callR, callP, permD, fillD, Z.putAll, bLen, oAdd, oSub, oMod, oFdiv, oMulL, oMulR, oPow2, O.clr, Tab.at, l, c1, it, i0, ip, eu, W, sourceD, peopleD, he, ha]
          | true =>
            rw [ha] at W
            simp at W
            cases y with
            | int i =>
              have z := lt_zero i
              have y1 : isiD .int (.int i) = true := rfl
              have y2 : isiD .bool (.int i) = false := rfl
              by_cases hi : 0 ≤ i
              · simp [hi] at z
                simp [e16, c16, n16, runFn, denS, denE, denT, denL, R.bind, R.o, R.t, O.then, Z.get, Z.put, startD, outsOf, fixD, fixL, ow_var, ow_ix, ow_sl, ow_bi, ow_call, ow_callk, ow_str, ow_int, ow_bl, ow_non, ow_glob, ow_op, ow_cmp, ow_chain, ow_lst, ow_tup, ow_me, ow_isi, ow_and, ow_or, ow_not, ow_ite, ow_neg, ow_dic, ow_isE, ow_own, Z.ownsOf, opt, truthD, truth, callR, callP, permD, fillD, Z.putAll, bLen, oAdd, oSub, oMod, oFdiv, oMulL, oMulR, oPow2, O.clr, Tab.at, l, c1, it, i0, i1, i2, ip, eu, W, y1, y2, z, c, sourceD, peopleD, yearD, he, ha, hi]
              · simp [hi] at z
                simp [e16, c16, n16, runFn, denS, denE, denT, denL, R.bind, R.o, R.t, O.then, Z.get, Z.put, startD, outsOf, fixD, fixL, ow_var, ow_ix, ow_sl, ow_bi, ow_call, ow_callk, ow_str, ow_int, ow_bl, ow_non, ow_glob, ow_op, ow_cmp, ow_chain, ow_lst, ow_tup, ow_me, ow_isi, ow_and, ow_or, ow_not, ow_ite, ow_neg, ow_dic, ow_isE, ow_own, Z.ownsOf, opt, truthD, truth, callR, callP, permD, fillD, Z.putAll, bLen, oAdd, oSub, oMod, oFdiv, oMulL, oMulR, oPow2, O.clr, Tab.at, l, c1, it, i0, i1, ip, eu, W, y1, y2, z, sourceD, peopleD, yearD, he, ha, hi]
            | _ => simp [e16, c16, n16, runFn, denS, denE, denT, denL, R.bind, R.o, R.t, O.then, Z.get, Z.put, startD, outsOf, fixD, fixL, ow_var, ow_ix, ow_sl, ow_bi, ow_call, ow_callk, ow_str, ow_int, ow_bl, ow_non, ow_glob, ow_op, ow_cmp, ow_chain, ow_lst, ow_tup, ow_me, ow_isi, ow_and, ow_or, ow_not, ow_ite, ow_neg, ow_dic, ow_isE, ow_own, Z.ownsOf, opt, truthD, truth, callR, callP, permD, fillD, Z.putAll, isD, isNoneD, isiD, bLen, oAdd, oSub, oMod, oFdiv, oMulL, oMulR, oPow2, O.clr, Tab.at, l, c1, i0, i1, eu, W, sourceD, peopleD, yearD, he, ha]
      | _ => simp [e16, c16, n16, runFn, denS, denE, denT, denL, R.bind, R.o, R.t, O.then, Z.get, Z.put, startD, outsOf, fixD, fixL, ow_var, ow_ix, ow_sl, ow_bi, ow_call, ow_callk, ow_str, ow_int, ow_bl, ow_non, ow_glob, ow_op, ow_cmp, ow_chain, ow_lst, ow_tup, ow_me, ow_isi, ow_and, ow_or, ow_not, ow_ite, ow_neg, ow_dic, ow_isE, ow_own, Z.ownsOf, opt, truthD, truth, callR, callP, permD, fillD, Z.putAll, isD, isNoneD, isiD, bLen, oAdd, oSub, oMod, oFdiv, oMulL, oMulR, oPow2, O.clr, Tab.at, l, c1, i0, sourceD, peopleD]
    · have hq := source_three h3
      generalize ((xs.length : Nat) : Int) = z at l c1
      simp [h3] at c1
      simp [e16, c16, n16, runFn, denS, denE, denT, denL, R.bind, R.o, R.t, O.then, Z.get, Z.put, startD, outsOf, fixD, fixL, ow_var, ow_ix, ow_sl, ow_bi, ow_call, ow_callk, ow_str, ow_int, ow_bl, ow_non, ow_glob, ow_op, ow_cmp, ow_chain, ow_lst, ow_tup, ow_me, ow_isi, ow_and, ow_or, ow_not, ow_ite, ow_neg, ow_dic, ow_isE, ow_own, Z.ownsOf, opt, truthD, truth, callR, callP, permD, fillD, Z.putAll, bLen, oAdd, oSub, oMod, oFdiv, oMulL, oMulR, oPow2, O.clr, Tab.at, l, c1, it, hq]
  | _ => simp [e16, c16, n16, runFn, denS, denE, denT, denL, R.bind, R.o, R.t, O.then, Z.get, Z.put, startD, outsOf, fixD, fixL, ow_var, ow_ix, ow_sl, ow_bi, ow_call, ow_callk, ow_str, ow_int, ow_bl, ow_non, ow_glob, ow_op, ow_cmp, ow_chain, ow_lst, ow_tup, ow_me, ow_isi, ow_and, ow_or, ow_not, ow_ite, ow_neg, ow_dic, ow_isE, ow_own, Z.ownsOf, opt, truthD, truth, callR, callP, permD, fillD, Z.putAll, isD, isNoneD, isiD, bLen, oAdd, oSub, oMod, oFdiv, oMulL, oMulR, oPow2, O.clr, Tab.at, sourceD]
end K02

set_option Elab.async false
set_option linter.all false
set_option maxRecDepth 100000
set_option maxHeartbeats 1000000
namespace K02
open PySem Z A
def nodupK (xs : List D) : Bool := match nkeys xs with
  | some ks => decide ks.Nodup
  | none => false
def libD : D → Bool
  | .tuple xs => xs.all sourceD && nodupK xs
  | _ => false
theorem name_str {m : Nat} {d : D} (h : nameD m d = true) : ∃ x, d = .str x := by
  cases d <;> first | exact ⟨_, rfl⟩ | cases h
theorem title_str {d : D} (h : titleD d = true) : ∃ x, d = .str x := by
  cases d <;> first | exact ⟨_, rfl⟩ | cases h
theorem person_key {d : D} (h : personD d = true) : ∃ k, nkey d = some k ∧ k.depth ≤ 1 := by
  cases d with
  | tuple xs =>
    match xs, h with
    | [f, g], h =>
      have h : (nameD 12 f && nameD 12 g) = true := h
      rw [Bool.and_eq_true] at h
      obtain ⟨x, rfl⟩ := name_str h.1
      obtain ⟨y, rfl⟩ := name_str h.2
      exact ⟨_, rfl, by simp [NestedKey.depth, NestedKey.depthAll]⟩
  | _ => cases h
theorem keys_all {p : D → Bool} {n : Nat} (hp : ∀ d, p d = true → ∃ k, nkey d = some k ∧ k.depth ≤ n) : ∀ {xs : List D}, xs.all p = true → ∃ ks, nkeys xs = some ks ∧ ks.length = xs.length ∧ NestedKey.depthAll ks ≤ n ∧ ∀ k ∈ ks, k.depth ≤ n
  | [], _ => ⟨[], rfl, rfl, Nat.zero_le _, fun k hk => nomatch hk⟩
  | x :: xs, h => by
    rw [List.all_cons, Bool.and_eq_true] at h
    obtain ⟨k, e1, e2⟩ := hp x h.1
    obtain ⟨ks, e3, e4, e5, e6⟩ := keys_all hp h.2
    refine ⟨k :: ks, by rw [nkeys, e1, e3], by simp only [List.length_cons, e4], by simp only [NestedKey.depthAll]; omega, fun q hq => ?_⟩
    rcases List.mem_cons.mp hq with rfl | hq
    · exact e2
    · exact e6 q hq
theorem source_key {d : D} (h : sourceD d = true) : ∃ k, nkey d = some k ∧ k.depth ≤ 3 := by
  cases d with
  | tuple xs =>
    match xs, h with
    | [p, y, t], h =>
      have h : (peopleD p && (yearD y && titleD t)) = true := h
      simp only [Bool.and_eq_true] at h
      obtain ⟨h1, h2, h3⟩ := h
      obtain ⟨x, rfl⟩ := title_str h3
      cases y with
      | int i =>
        cases p with
        | tuple ps =>
          have h1 : (!ps.isEmpty && ps.all personD) = true := h1
          rw [Bool.and_eq_true] at h1
          obtain ⟨ks, e1, _, e2, _⟩ := keys_all (fun d => person_key) h1.2
          refine ⟨.tup [.tup ks, .num i, .text x], by simp [nkey, nkeys, e1], ?_⟩
          simp only [NestedKey.depth, NestedKey.depthAll]
          omega
        | _ => cases h1
      | _ => cases h2
  | _ => cases h
theorem nub_iff : ∀ ks : List NestedKey, (nub ks).length = ks.length ↔ ks.Nodup
  | [] => by simp [nub]
  | k :: r => by
    have ih := nub_iff r
    have le := nub_le r
    unfold nub
    rw [List.nodup_cons]
    split
    · rename_i h
      refine ⟨fun e => ?_, fun e => absurd h e.1⟩
      rw [List.length_cons] at e; omega
    · rename_i h
      rw [List.length_cons, List.length_cons]
      refine ⟨fun e => ⟨h, ih.mp (by omega)⟩, fun e => by rw [ih.mpr e.2]⟩
theorem src_tup {xs : List D} (h : xs.all sourceD = true) : xs.all isTup = true := by
  rw [List.all_eq_true] at h ⊢
  intro d hd
  have := h d hd
  cases d <;> first | rfl | cases this
theorem set_lib {xs : List D} (h : xs.all sourceD = true) (hl : xs.length < 64) : ∃ ks, nkeys xs = some ks ∧ biD .set [.tuple xs] = some (.int ((nub ks).length : Nat)) ∧ cmpD .eq (.int ((nub ks).length : Nat)) (.int (xs.length : Nat)) = some (decide ks.Nodup) := by
  obtain ⟨ks, e1, e2, _, e3⟩ := keys_all (fun d => source_key) h
  refine ⟨ks, e1, ?_, ?_⟩
  · have b : ks.all (fun k => decide (k.depth ≤ 8)) = true := by rw [List.all_eq_true]; intro k hk; have := e3 k hk; exact decide_eq_true (by omega)
    show (setKeys xs).bind _ = _
    unfold setKeys
    rw [src_tup h, e1]
    simp only [Bool.or_true, if_true, Option.bind_some, b]
    rw [if_pos]
    rw [e2]
    cases xs.all isTxt <;> (show xs.length < _; simp only [limS, Bool.not_true, Bool.not_false]; simp; omega)
  · rw [show cmpD .eq (.int ((nub ks).length : Nat)) (.int (xs.length : Nat)) = some (decide ((nub ks).length = xs.length)) from eq_int _ _]
    congr 1
    rw [decide_eq_decide, ← nub_iff, e2]
/-- no tuple of 64 items or more -/
def short : D → Bool
  | .tuple xs => decide (xs.length < 64)
  | _ => true
theorem is_library (k : Nat) (d : D) (h : wt d ≤ 900000) (hs : short d = true) : cl (k + 6) 7 [d] = .ok (.bool (libD d)) [] := by
  rw [cl7]
  cases d with
  | tuple xs =>
    rw [wt_tup] at h
    have hl := wts_len4 xs
    have hs : xs.length < 64 := of_decide_eq_true hs
    have L : denE K02.T (cl (k + 5)) q7_0 [some (.tuple xs), none] = .ok (.list (xs.map fun d => .bool (sourceD d))) [some (.tuple xs), none] := by
      refine lc_map (ct := cl (k + 5)) (T := K02.T) (vs := [1]) (pt := .var 1) (it := .var 0) (ρ := [some (.tuple xs), none]) (ρ1 := [some (.tuple xs), none]) (x := .tuple xs) (xs := xs) (g := fun d => .bool (sourceD d)) rfl rfl rfl (line_n (by omega)) rfl fun d hd => ?_
      have a := is_source k d (by have := wts_mem hd; omega)
      exact ⟨[some (.tuple xs), some d], rfl, [some (.tuple xs), some d], by simp [runFn, denS, denE, denT, denL, R.bind, R.o, R.t, O.then, Z.get, Z.put, startD, outsOf, fixD, fixL, ow_var, ow_ix, ow_sl, ow_bi, ow_call, ow_callk, ow_str, ow_int, ow_bl, ow_non, ow_glob, ow_op, ow_cmp, ow_chain, ow_lst, ow_tup, ow_me, ow_isi, ow_and, ow_or, ow_not, ow_ite, ow_neg, ow_dic, ow_isE, ow_own, Z.ownsOf, opt, truthD, truth, callR, callP, permD, fillD, Z.putAll, isD, isNoneD, isiD, bLen, oAdd, oSub, oMod, oFdiv, oMulL, oMulR, oPow2, O.clr, Tab.at, a], rfl⟩
    have A : biD .all [.list (xs.map fun d => PyData.bool (sourceD d))] = some (.bool (xs.all sourceD)) := all_map sourceD xs
    have l := len_tup xs
    have it : isiD .tuple (.tuple xs) = true := rfl
    generalize xs.map (fun d => PyData.bool (sourceD d)) = ls at L A
    cases ha : xs.all sourceD with
    | false =>
      rw [ha] at A
      simp [e7, K02.c7, n7, runFn, denS, denE, denT, denL, R.bind, R.o, R.t, O.then, Z.get, Z.put, startD, outsOf, fixD, fixL, ow_var, ow_ix, ow_sl, ow_bi, ow_call, ow_callk, ow_str, ow_int, ow_bl, ow_non, ow_glob, ow_op, ow_cmp, ow_chain, ow_lst, ow_tup, ow_me, ow_isi, ow_and, ow_or, ow_not, ow_ite, ow_neg, ow_dic, ow_isE, ow_own, Z.ownsOf, opt, truthD, truth, callR, callP, permD, fillD, Z.putAll, bLen, oAdd, oSub, oMod, oFdiv, oMulL, oMulR, oPow2, O.clr, Tab.at, q7_0_l, q7_0_o, it, L, A, libD, ha]
    | true =>
      obtain ⟨ks, e1, e2, e3⟩ := set_lib ha hs
      rw [ha] at A
      have e : libD (.tuple xs) = decide ks.Nodup := by
        show (xs.all sourceD && nodupK xs) = _
        unfold nodupK
        rw [ha, e1]; rfl
      generalize ((xs.length : Nat) : Int) = z at l e3
      generalize (((nub ks).length : Nat) : Int) = y at e2 e3
      simp [e7, K02.c7, n7, runFn, denS, denE, denT, denL, R.bind, R.o, R.t, O.then, Z.get, Z.put, startD, outsOf, fixD, fixL, ow_var, ow_ix, ow_sl, ow_bi, ow_call, ow_callk, ow_str, ow_int, ow_bl, ow_non, ow_glob, ow_op, ow_cmp, ow_chain, ow_lst, ow_tup, ow_me, ow_isi, ow_and, ow_or, ow_not, ow_ite, ow_neg, ow_dic, ow_isE, ow_own, Z.ownsOf, opt, truthD, truth, callR, callP, permD, fillD, Z.putAll, bLen, oAdd, oSub, oMod, oFdiv, oMulL, oMulR, oPow2, O.clr, Tab.at, q7_0_l, q7_0_o, it, L, A, l, e2, e3, e]
  | _ => simp [e7, K02.c7, n7, runFn, denS, denE, denT, denL, R.bind, R.o, R.t, O.then, Z.get, Z.put, startD, outsOf, fixD, fixL, ow_var, ow_ix, ow_sl, ow_bi, ow_call, ow_callk, ow_str, ow_int, ow_bl, ow_non, ow_glob, ow_op, ow_cmp, ow_chain, ow_lst, ow_tup, ow_me, ow_isi, ow_and, ow_or, ow_not, ow_ite, ow_neg, ow_dic, ow_isE, ow_own, Z.ownsOf, opt, truthD, truth, callR, callP, permD, fillD, Z.putAll, isD, isNoneD, isiD, bLen, oAdd, oSub, oMod, oFdiv, oMulL, oMulR, oPow2, O.clr, Tab.at, libD]
end K02

set_option Elab.async false
set_option linter.all false
set_option maxRecDepth 100000
set_option maxHeartbeats 1000000
namespace K02
open PySem Z A
theorem law_library_end (bb : Bool) (d : D) (k : Nat) (fl rr : List D) (it : isiD .tuple d = true) (L : denE K02.T (cl (k + 3)) q17_0 [some d, none, none] = .ok (.list fl) [some d, none, none]) (M : denE K02.T (cl (k + 3)) q17_1 [some d, none, none] = .ok (.list rr) [some d, none, none]) (n0 : cmpD .ne (.list fl) (.list []) = some false) (n1 : cmpD .eq (.list rr) (.list []) = some bb) : runFn K02.T (cl (k + 3)) e17.fn [d] = .ok (.bool bb) [] := by
  simp [e17, K02.c17, n17, runFn, denS, denE, denT, denL, R.bind, R.o, R.t, O.then, Z.get, Z.put, startD, outsOf, fixD, fixL, ow_var, ow_ix, ow_sl, ow_bi, ow_call, ow_callk, ow_str, ow_int, ow_bl, ow_non, ow_glob, ow_op, ow_cmp, ow_chain, ow_lst, ow_tup, ow_me, ow_isi, ow_and, ow_or, ow_not, ow_ite, ow_neg, ow_dic, ow_isE, ow_own, Z.ownsOf, opt, truthD, truth, callR, callP, permD, fillD, Z.putAll, bLen, oAdd, oSub, oMod, oFdiv, oMulL, oMulR, oPow2, O.clr, Tab.at, q17_0_l, q17_0_o, q17_1_l, q17_1_o, it, L, n0, M, n1]
theorem law_library (k : Nat) (d : D) (h : wt d ≤ 900000) : cl (k + 4) 17 [d] = .ok (.bool (libD d)) [] := by
  rw [cl17]
  cases d with
  | tuple xs =>
    rw [wt_tup] at h
    have hl := wts_len4 xs
    have it : isiD .tuple (.tuple xs) = true := rfl
    have L : denE K02.T (cl (k + 3)) q17_0 [some (.tuple xs), none, none] = .ok (.list (xs.filter fun d => !sourceD d)) [some (.tuple xs), none, none] := by
      refine lc_filt (x := .tuple xs) (xs := xs) (b := fun d => !sourceD d) rfl rfl rfl (line_n (by omega)) rfl fun d hd => ?_
      have a := law_source k d (by have := wts_mem hd; omega)
      exact ⟨[some (.tuple xs), none, some d], rfl, by simp [runFn, denS, denE, denT, denL, R.bind, R.o, R.t, O.then, Z.get, Z.put, startD, outsOf, fixD, fixL, ow_var, ow_ix, ow_sl, ow_bi, ow_call, ow_callk, ow_str, ow_int, ow_bl, ow_non, ow_glob, ow_op, ow_cmp, ow_chain, ow_lst, ow_tup, ow_me, ow_isi, ow_and, ow_or, ow_not, ow_ite, ow_neg, ow_dic, ow_isE, ow_own, Z.ownsOf, opt, truthD, truth, callR, callP, permD, fillD, Z.putAll, isD, isNoneD, isiD, bLen, oAdd, oSub, oMod, oFdiv, oMulL, oMulR, oPow2, O.clr, Tab.at, a], rfl, rfl⟩
    have n0 := ne_nilL (xs.filter fun d => !sourceD d)
    rw [filt_empty] at n0
    cases ha : xs.all sourceD with
    | false =>
      rw [ha] at n0
      simp [e17, K02.c17, n17, runFn, denS, denE, denT, denL, R.bind, R.o, R.t, O.then, Z.get, Z.put, startD, outsOf, fixD, fixL, ow_var, ow_ix, ow_sl, ow_bi, ow_call, ow_callk, ow_str, ow_int, ow_bl, ow_non, ow_glob, ow_op, ow_cmp, ow_chain, ow_lst, ow_tup, ow_me, ow_isi, ow_and, ow_or, ow_not, ow_ite, ow_neg, ow_dic, ow_isE, ow_own, Z.ownsOf, opt, truthD, truth, callR, callP, permD, fillD, Z.putAll, bLen, oAdd, oSub, oMod, oFdiv, oMulL, oMulR, oPow2, O.clr, Tab.at, q17_0_l, q17_0_o, it, L, n0, libD, ha]
    | true =>
      rw [ha] at n0
      obtain ⟨ks, e1, e2, e3, e4⟩ := keys_all (fun d => source_key) ha
      have hz : xs.length ≤ sizeLine := line_n (by omega)
      have rg := range_z (xs.length : Nat) (by omega) (by omega)
      have M : denE K02.T (cl (k + 3)) q17_1 [some (.tuple xs), none, none] = .ok (.list ((rangeD 0 (xs.length : Nat)).filter (twice ks))) [some (.tuple xs), none, none] := by
        refine lc_filt (x := .list (rangeD 0 (xs.length : Nat))) (xs := rangeD 0 (xs.length : Nat)) (b := twice ks) ?_ rfl rfl (by simp [rangeD]; omega) rfl fun z hz => ?_
        · exact rlen_d (a := .var 0) rfl rfl (by intro b h; cases h) (len_tup xs) rg
        · unfold rangeD at hz
          obtain ⟨j, hj, rfl⟩ := List.mem_map.mp hz
          rw [List.mem_range] at hj
          have hj : j < ks.length := by omega
          rw [Int.zero_add]
          obtain ⟨x, x1, x2⟩ := nkeys_get e1 (List.getElem?_eq_getElem hj)
          have i1 : ixD (.tuple xs) (.int (j : Int)) = some x := by
            show (ixOf _ _).bind _ = _
            unfold ixOf
            rw [if_pos (by omega), if_pos (by omega)]
            simp [x1]
          have i2 : slD (.tuple xs) .none (.int (j : Int)) = some (.tuple (xs.take j)) := by
            show some (PyData.tuple (Z.cut xs none (some (j : Int)))) = _
            rw [cut_to]
          have i3 := (in_keys x2 (nkeys_take j e1) (by have := e4 _ (List.getElem_mem hj); omega) (by have := depth_take ks j; omega)).1
          have tw : twice ks (.int (j : Int)) = decide (ks[j] ∈ ks.take j) := by
            show (match ks[(j : Int).toNat]? with | some k => decide (k ∈ ks.take (j : Int).toNat) | none => false) = _
            rw [Int.toNat_natCast, List.getElem?_eq_getElem hj]
          rw [tw]
          generalize decide (ks[j] ∈ ks.take j) = bb at i3
          refine ⟨[some (.tuple xs), some (.int (j : Int)), none], rfl, by simp [runFn, denS, denE, denT, denL, R.bind, R.o, R.t, O.then, Z.get, Z.put, startD, outsOf, fixD, fixL, ow_var, ow_ix, ow_sl, ow_bi, ow_call, ow_callk, ow_str, ow_int, ow_bl, ow_non, ow_glob, ow_op, ow_cmp, ow_chain, ow_lst, ow_tup, ow_me, ow_isi, ow_and, ow_or, ow_not, ow_ite, ow_neg, ow_dic, ow_isE, ow_own, Z.ownsOf, opt, truthD, truth, callR, callP, permD, fillD, Z.putAll, isD, isNoneD, isiD, bLen, oAdd, oSub, oMod, oFdiv, oMulL, oMulR, oPow2, O.clr, Tab.at, i1, i2, i3], rfl, rfl⟩
      have n1 := eq_nilL ((rangeD 0 (xs.length : Nat)).filter (twice ks))
      rw [← e2, twice_nodup, e2] at n1
      have e : libD (.tuple xs) = decide ks.Nodup := by
        show (xs.all sourceD && nodupK xs) = _
        unfold nodupK
        rw [ha, e1]; rfl
      have hz0 : (0 : Nat) ≤ sizeLine := Nat.zero_le _
      rw [e]
      generalize (rangeD 0 (xs.length : Nat)).filter (twice ks) = rr at M n1
      generalize decide ks.Nodup = bb at n1 ⊢
      have n0 : cmpD .ne (.list (xs.filter fun d => !sourceD d)) (.list []) = some false := n0
      exact law_library_end _ _ k _ _ it L M n0 n1
  | _ => simp [e17, K02.c17, n17, runFn, denS, denE, denT, denL, R.bind, R.o, R.t, O.then, Z.get, Z.put, startD, outsOf, fixD, fixL, ow_var, ow_ix, ow_sl, ow_bi, ow_call, ow_callk, ow_str, ow_int, ow_bl, ow_non, ow_glob, ow_op, ow_cmp, ow_chain, ow_lst, ow_tup, ow_me, ow_isi, ow_and, ow_or, ow_not, ow_ite, ow_neg, ow_dic, ow_isE, ow_own, Z.ownsOf, opt, truthD, truth, callR, callP, permD, fillD, Z.putAll, isD, isNoneD, isiD, bLen, oAdd, oSub, oMod, oFdiv, oMulL, oMulR, oPow2, O.clr, Tab.at, libD]
end K02

set_option Elab.async false
set_option linter.all false
set_option maxRecDepth 100000
set_option maxHeartbeats 1000000
namespace K02
open PySem Z A
theorem short_of {d : D} (h : tlen d < 64) : short d = true := by
  cases d <;> first | exact decide_eq_true h | rfl
theorem right (k : Nat) (d : D) (hw : wt d ≤ 900000) (hd : d.depth ≤ 60) (hs : tlen d < 64) : cl (k + 7) 20 [d] = .ok (.bool true) [] := by
  rw [cl20]
  have r : biD .repr [d] = some (.str d.shown) := repr_data (fd := true) (fl := true) (m := wt d) (n := d.depth) (by simp [anyB]) hw hd
  have a := is_source (k + 1) d hw
  have b := is_library k d hw (short_of hs)
  have c := law_source (k + 3) d hw
  have e := law_library (k + 2) d hw
  have es := A.eq_self d.shown
  generalize sourceD d = ba at a c
  generalize libD d = bb at b e
  generalize PyData.str d.shown = sh at r es
  have hz : (2 : Nat) ≤ sizeLine := line_n (by omega)
  have hz0 : (0 : Nat) ≤ sizeLine := Nat.zero_le _
  have ll : ∀ x y : Bool, [PyData.bool x, .bool y].filter (fun d => !isiD .bool d) = [] := fun x y => rfl
  have L : denE K02.T (cl (k + 6)) q20_0 [some d, some sh, some (.list [.bool ba, .bool bb]), some (.list [.bool ba, .bool bb]), none] = .ok (.list ([PyData.bool ba, .bool bb].filter fun d => !isiD .bool d)) [some d, some sh, some (.list [.bool ba, .bool bb]), some (.list [.bool ba, .bool bb]), none] := by
    refine lc_filt (x := .list [.bool ba, .bool bb]) (xs := [.bool ba, .bool bb]) (b := fun d => !isiD .bool d) rfl rfl rfl hz rfl fun z hz => ?_
    have hz : ∃ q, z = .bool q := by
      rcases List.mem_cons.mp hz with h | h
      · exact ⟨_, h⟩
      · exact ⟨_, List.mem_singleton.mp h⟩
    obtain ⟨q, rfl⟩ := hz
    exact ⟨[some d, some sh, some (.list [.bool ba, .bool bb]), some (.list [.bool ba, .bool bb]), some (.bool q)], rfl, by simp [runFn, denS, denE, denT, denL, R.bind, R.o, R.t, O.then, Z.get, Z.put, startD, outsOf, fixD, fixL, ow_var, ow_ix, ow_sl, ow_bi, ow_call, ow_callk, ow_str, ow_int, ow_bl, ow_non, ow_glob, ow_op, ow_cmp, ow_chain, ow_lst, ow_tup, ow_me, ow_isi, ow_and, ow_or, ow_not, ow_ite, ow_neg, ow_dic, ow_isE, ow_own, Z.ownsOf, opt, truthD, truth, callR, callP, permD, fillD, Z.putAll, isD, isNoneD, isiD, bLen, oAdd, oSub, oMod, oFdiv, oMulL, oMulR, oPow2, O.clr, Tab.at], rfl, rfl⟩
  rw [ll] at L
  have n0 : cmpD .eq (.list []) (.list []) = some true := by decide +kernel
  have n1 : cmpD .eq (.list [.bool ba, .bool bb]) (.list [.bool ba, .bool bb]) = some true := by cases ba <;> cases bb <;> decide +kernel
  have n2 : cmpD .ne (.list [.bool ba, .bool bb]) (.list [.bool ba, .bool bb]) = some false := by cases ba <;> cases bb <;> decide +kernel
  have n3 : cmpD .ne sh sh = some false := by
    show (eqD sh sh).map (fun b => !b) = _
    rw [show eqD sh sh = some true from es]; rfl
  simp [e20, c20, n20, runFn, denS, denE, denT, denL, R.bind, R.o, R.t, O.then, Z.get, Z.put, startD, outsOf, fixD, fixL, ow_var, ow_ix, ow_sl, ow_bi, ow_call, ow_callk, ow_str, ow_int, ow_bl, ow_non, ow_glob, ow_op, ow_cmp, ow_chain, ow_lst, ow_tup, ow_me, ow_isi, ow_and, ow_or, ow_not, ow_ite, ow_neg, ow_dic, ow_isE, ow_own, Z.ownsOf, opt, truthD, truth, callR, callP, permD, fillD, Z.putAll, isD, isNoneD, isiD, bLen, oAdd, oSub, oMod, oFdiv, oMulL, oMulR, oPow2, O.clr, Tab.at, r, a, b, c, e, hz, hz0, q20_0_l, q20_0_o, L, n0, n1, n2, n3, es]
/-! odd and bent -/
def st (x : String) : AV := .ex (.str (Str.ofString x))
def ODDS : List D := [.none, .str (Str.ofString ""), .str (Str.ofString "a"), .str (Str.ofString "A"), .str (Str.ofString "a b"), .str (Str.ofString " a"), .str (Str.ofString "a "), .str (Str.ofString "a  b"), .int 5, .int (-1), .bool true,
  .str (Str.ofString "abcdefghijklm"), .str (strOfList (List.replicate 41 97)), .str (strOfList (List.replicate 40 97)), .str (Str.ofString "a."), .int 1000000000000000000000000000000000000000, .str (Str.ofString "\n"), .str (Str.ofString "a\n"), .int 0,
  .str (Str.ofString "a1"), .str (Str.ofString "a-b"), .str (Str.ofString "a_b"), .str (Str.ofString "z{"), .str (Str.ofString "`a")]
def ODDA : List AV := [.any true true 1 2, .lst [], .tup [], .tup [st "a"], .tup [st "a", st "b"], .tup [.tup [st "a", st "b"]]]
def cOdd : Ctr := ⟨18, [.well 0], .alt (ODDS.map .ex) :: ODDA, [], [.well 1], 1⟩
theorem k_odd : check ⟨[], 9, T, 0, []⟩ e18.fn cOdd = true := by decide +kernel
/-- how heavy, how deep, how long -/
def lim3 (W N L : Nat) (d : D) : Bool := decide (wt d ≤ W) && decide (d.depth ≤ N) && decide (tlen d ≤ L)
theorem lim3_iff {W N L : Nat} {d : D} : lim3 W N L d = true ↔ wt d ≤ W ∧ d.depth ≤ N ∧ tlen d ≤ L := by
  unfold lim3
  simp only [Bool.and_eq_true, decide_eq_true_eq, and_assoc]
theorem oddA : (ODDA.all fun a => leAny true true 500 2 a) = true := by decide +kernel
theorem odds_lim : ODDS.all (lim3 500 2 2) = true := by decide +kernel
theorem cdraw (k : Nat) : DrawOk (cl (k + 1)) 9 := draw_ok (T := K02.T) (ct := cl k) fun ds => rfl
theorem odd {P : Nat → D → Prop} (k C : Nat) (w : D) (hw : WOk C w) (hC : C + 1 ≤ LIM) : ∃ r w', cl (k + 2) 18 [w] = .ok r [w'] ∧ WOk (C + 1) w' ∧ wt r ≤ 500 ∧ r.depth ≤ 2 ∧ tlen r ≤ 2 := by
  have c := ctr_of (P := P) (ct := cl (k + 1)) (ct' := cl (k + 2)) k_odd (fun ds => rfl) (cdraw k) nil_tbl nil_orc C [w] hC (by
    show Gs P C [.well 0] [w]
    rw [Gs, Gs]
    exact ⟨wok_g.mpr hw, trivial⟩)
  have c : CSat P C cOdd (cl (k + 2) 18 [w]) := c
  cases hr : cl (k + 2) 18 [w] with
  | ok d outs =>
    rw [hr] at c
    obtain ⟨⟨a, h1, h2⟩, h3⟩ := c
    have : wt d ≤ 500 ∧ d.depth ≤ 2 ∧ tlen d ≤ 2 := by
      rcases List.mem_cons.mp h1 with h1 | h1
      · subst h1
        exact lim3_iff.mp (all_ex odds_lim h2)
      · have la : leAny true true 500 2 a = true := List.all_eq_true.mp oddA a h1
        have := leAny_ok la h2
        simp only [anyB, Bool.and_eq_true, decide_eq_true_eq] at this
        refine ⟨by omega, by omega, ?_⟩
        simp only [ODDA, List.mem_cons, List.not_mem_nil, or_false] at h1
        rcases h1 with rfl | rfl | rfl | rfl | rfl | rfl
        · rw [G] at h2
          simp only [anyB, Bool.and_eq_true, decide_eq_true_eq] at h2
          cases d with
          | tuple xs => have := h2.1.1.1; rw [wt_tup] at this; omega
          | _ => exact Nat.zero_le _
        · rw [G] at h2; obtain ⟨ds, rfl, g⟩ := h2; exact Nat.zero_le _
        · rw [G] at h2; obtain ⟨ds, rfl, g⟩ := h2; have := gs_len g; show ds.length ≤ 2; rw [← this]; decide
        · rw [G] at h2; obtain ⟨ds, rfl, g⟩ := h2; have := gs_len g; show ds.length ≤ 2; rw [← this]; decide
        · rw [G] at h2; obtain ⟨ds, rfl, g⟩ := h2; have := gs_len g; show ds.length ≤ 2; rw [← this]; decide
        · rw [G] at h2; obtain ⟨ds, rfl, g⟩ := h2; have := gs_len g; show ds.length ≤ 2; rw [← this]; decide
    obtain ⟨w', r, rfl, g1, g2⟩ := gs_cons (as := []) h3
    cases gs_nil g2
    exact ⟨d, w', rfl, wok_g.mp g1, this⟩
  | exn e outs => rw [hr] at c; exact absurd c.1 (by simp [cOdd])
  | bad => rw [hr] at c; exact c.elim
theorem bent {P : Nat → D → Prop} : ∀ (n : Nat) (d : D), d.depth ≤ n → ∀ (k C : Nat) (w : D), WOk C w → C + 3 * n + 4 ≤ LIM → wt d ≤ 400000 → ∃ r w', cl (k + n + 3) 19 [w, d] = .ok r [w'] ∧ WOk (C + 3 * n + 4) w' ∧ wt r ≤ 2 * wt d + 500 ∧ r.depth ≤ d.depth + 3 ∧ tlen r ≤ tlen d + 2 := by
  intro n
  induction n with
  | zero =>
    intro d hn k C w hw hC hwt
    obtain ⟨r, w', e, h1, h2, h3, h4⟩ := odd (P := P) k C w hw (by omega)
    refine ⟨r, w', ?_, wok_mono h1 (by omega), by omega, by omega, by omega⟩
    rw [cl19]
    cases d with
    | tuple xs => simp [PyData.depth] at hn
    | _ => simp [e19, c19, n19, runFn, denS, denE, denT, denL, R.bind, R.o, R.t, O.then, Z.get, Z.put, startD, outsOf, fixD, fixL, ow_var, ow_ix, ow_sl, ow_bi, ow_call, ow_callk, ow_str, ow_int, ow_bl, ow_non, ow_glob, ow_op, ow_cmp, ow_chain, ow_lst, ow_tup, ow_me, ow_isi, ow_and, ow_or, ow_not, ow_ite, ow_neg, ow_dic, ow_isE, ow_own, Z.ownsOf, opt, truthD, truth, callR, callP, permD, fillD, Z.putAll, isD, isNoneD, isiD, bLen, oAdd, oSub, oMod, oFdiv, oMulL, oMulR, oPow2, O.clr, Tab.at, e]
  | succ n ih =>
    intro d hn k C w hw hC hwt
    cases d with
    | tuple xs =>
      rw [cl19]
      have it : isiD .tuple (.tuple xs) = true := rfl
      have eu := eq_unit xs
      have hd := cdraw (k + n + 2)
      by_cases he : xs = []
      · subst he
        obtain ⟨r, w', e, h1, h2, h3, h4⟩ := odd (P := P) (k + n + 1) C w hw (by omega)
        refine ⟨r, w', ?_, wok_mono h1 (by omega), by omega, by omega, by omega⟩
        have eu : cmpD .eq (.tuple []) (.tuple []) = some true := by decide +kernel
        have hz0 : (0 : Nat) ≤ sizeLine := Nat.zero_le _
        rw [show k + (n + 1) + 2 = k + n + 3 by omega]
        have e : cl (k + n + 3) 18 [w] = .ok r [w'] := e
        simp [e19, c19, n19, runFn, denS, denE, denT, denL, R.bind, R.o, R.t, O.then, Z.get, Z.put, startD, outsOf, fixD, fixL, ow_var, ow_ix, ow_sl, ow_bi, ow_call, ow_callk, ow_str, ow_int, ow_bl, ow_non, ow_glob, ow_op, ow_cmp, ow_chain, ow_lst, ow_tup, ow_me, ow_isi, ow_and, ow_or, ow_not, ow_ite, ow_neg, ow_dic, ow_isE, ow_own, Z.ownsOf, opt, truthD, truth, callR, callP, permD, fillD, Z.putAll, bLen, oAdd, oSub, oMod, oFdiv, oMulL, oMulR, oPow2, O.clr, Tab.at, it, eu, hz0, e]
      · have eu : cmpD .eq (.tuple xs) (.tuple []) = some false := by
          rw [eu]; cases xs with
          | nil => exact absurd rfl he
          | cons _ _ => rfl
        have hpos : 0 < xs.length := List.length_pos_iff.mpr he
        rw [wt_tup] at hwt
        have hlen := wts_len4 xs
        have hz0 : (0 : Nat) ≤ sizeLine := Nat.zero_le _
        have hz1 : (1 : Nat) ≤ sizeLine := line_n (by omega)
        have ll := len_tup xs
        rw [show k + (n + 1) + 2 = k + n + 3 by omega]
        obtain ⟨q, w1, q0, q1, hw1, e1⟩ := draw_w (b := 4) hd hw (by omega) (by omega) (by omega)
        have z1 := eq_z q 0
        by_cases hq : q = 0
        · obtain ⟨r, w', e, h1, h2, h3, h4⟩ := odd (P := P) (k + n + 1) (C + 1) w1 hw1 (by omega)
          refine ⟨r, w', ?_, wok_mono h1 (by omega), by omega, by omega, by omega⟩
          have e : cl (k + n + 3) 18 [w1] = .ok r [w'] := e
          simp [hq] at z1
          simp [e19, c19, n19, runFn, denS, denE, denT, denL, R.bind, R.o, R.t, O.then, Z.get, Z.put, startD, outsOf, fixD, fixL, ow_var, ow_ix, ow_sl, ow_bi, ow_call, ow_callk, ow_str, ow_int, ow_bl, ow_non, ow_glob, ow_op, ow_cmp, ow_chain, ow_lst, ow_tup, ow_me, ow_isi, ow_and, ow_or, ow_not, ow_ite, ow_neg, ow_dic, ow_isE, ow_own, Z.ownsOf, opt, truthD, truth, callR, callP, permD, fillD, Z.putAll, bLen, oAdd, oSub, oMod, oFdiv, oMulL, oMulR, oPow2, O.clr, Tab.at, it, eu, hz0, e, e1, z1, hq]
        · simp [hq] at z1
          obtain ⟨s, w2, s0, s1, hw2, e2⟩ := draw_w (b := (xs.length : Nat)) hd hw1 (by omega) (by omega) (by omega)
          obtain ⟨m, rfl⟩ : ∃ m : Nat, s = (m : Int) := ⟨s.toNat, by omega⟩
          obtain ⟨v, w3, v0, v1, hw3', e3⟩ := draw_w (b := 6) hd hw2 (by omega) (by omega) (by omega)
          obtain ⟨a, x, b, rfl, rfl⟩ := part_at (xs := xs) (n := m) (by omega)
          have wx : wts (a ++ x :: b) = wts a + (wt x + 2 + wts b) := by rw [wts_app, wts]
          have dx : PyData.depth (.tuple (a ++ x :: b)) = max (PyData.depthAll a) (max x.depth (PyData.depthAll b)) + 1 := by
            simp only [PyData.depth, depth_app, PyData.depthAll]
          rw [List.length_append, List.length_cons] at hlen
          have i0 := (ix_part a x b).1
          have i1 := sl_to a (x :: b)
          have i2 := sl_from a (x :: b)
          have i3 := sl_from1 a x b
          have pl : opD .add (.int (a.length : Nat)) (.int 1) = some (.int ((a.length : Nat) + 1)) := rfl
          have tl : tlen (.tuple (a ++ x :: b)) = a.length + (b.length + 1) := by
            show (a ++ x :: b).length = _
            rw [List.length_append, List.length_cons]
          have y0 := eq_z v 0
          have y1 := eq_z v 1
          have y2 := eq_z v 2
          rw [wt_tup, wx, dx, tl]
          have hw3 : WOk (C + 3 * (n + 1) + 4) w3 := wok_mono hw3' (by omega)
          by_cases h0 : v = 0
          · have ad := add_tup a b (by omega)
            refine ⟨.tuple (a ++ b), w3, ?_, hw3, ?_, ?_, ?_⟩
            · clear wx dx tl
              generalize a ++ x :: b = xs at *
              generalize ((a.length : Nat) : Int) = z at *
              rw [decide_eq_true h0] at y0
              simp [e19, c19, n19, runFn, denS, denE, denT, denL, R.bind, R.o, R.t, O.then, Z.get, Z.put, startD, outsOf, fixD, fixL, ow_var, ow_ix, ow_sl, ow_bi, ow_call, ow_callk, ow_str, ow_int, ow_bl, ow_non, ow_glob, ow_op, ow_cmp, ow_chain, ow_lst, ow_tup, ow_me, ow_isi, ow_and, ow_or, ow_not, ow_ite, ow_neg, ow_dic, ow_isE, ow_own, Z.ownsOf, opt, truthD, truth, callR, callP, permD, fillD, Z.putAll, bLen, oAdd, oSub, oMod, oFdiv, oMulL, oMulR, oPow2, O.clr, Tab.at, it, eu, hz0, ll, e1, z1, e2, e3, y0, pl, i0, i1, i2, i3, ad]
            · rw [wt_tup, wts_app]; omega
            · simp only [PyData.depth, depth_app]; omega
            · show (a ++ b).length ≤ _
              rw [List.length_append]; omega
          · simp [h0] at y0
            by_cases h1 : v = 1
            · have ad := add_tup a [x] (by rw [List.length_singleton]; omega)
              have ad2 := add_tup (a ++ [x]) (x :: b) (by rw [List.length_append, List.length_singleton, List.length_cons]; omega)
              refine ⟨.tuple ((a ++ [x]) ++ x :: b), w3, ?_, hw3, ?_, ?_, ?_⟩
              · clear wx dx tl
                generalize a ++ x :: b = xs at *
                generalize a ++ [x] = xs' at *
                generalize xs' ++ x :: b = xs'' at *
                generalize ((a.length : Nat) : Int) = z at *
                rw [decide_eq_true h1] at y1
                simp [e19, c19, n19, runFn, denS, denE, denT, denL, R.bind, R.o, R.t, O.then, Z.get, Z.put, startD, outsOf, fixD, fixL, ow_var, ow_ix, ow_sl, ow_bi, ow_call, ow_callk, ow_str, ow_int, ow_bl, ow_non, ow_glob, ow_op, ow_cmp, ow_chain, ow_lst, ow_tup, ow_me, ow_isi, ow_and, ow_or, ow_not, ow_ite, ow_neg, ow_dic, ow_isE, ow_own, Z.ownsOf, opt, truthD, truth, callR, callP, permD, fillD, Z.putAll, bLen, oAdd, oSub, oMod, oFdiv, oMulL, oMulR, oPow2, O.clr, Tab.at, it, eu, hz0, hz1, ll, e1, z1, e2, e3, y0, y1, pl, i0, i1, i2, i3, ad, ad2]
              · rw [wt_tup, wts_app, wts_app]; simp only [wts]; omega
              · simp only [PyData.depth, depth_app, PyData.depthAll]; omega
              · show ((a ++ [x]) ++ x :: b).length ≤ _
                simp only [List.length_append, List.length_cons, List.length_nil]; omega
            · simp [h1] at y1
              by_cases h2 : v = 2
              · have bl : biD .list [.tuple (a ++ x :: b)] = some (.list (a ++ x :: b)) := rfl
                refine ⟨.list (a ++ x :: b), w3, ?_, hw3, ?_, ?_, ?_⟩
                · clear wx dx tl
                  generalize a ++ x :: b = xs at *
                  generalize ((a.length : Nat) : Int) = z at *
                  rw [decide_eq_true h2] at y2
                  simp [e19, c19, n19, runFn, denS, denE, denT, denL, R.bind, R.o, R.t, O.then, Z.get, Z.put, startD, outsOf, fixD, fixL, ow_var, ow_ix, ow_sl, ow_bi, ow_call, ow_callk, ow_str, ow_int, ow_bl, ow_non, ow_glob, ow_op, ow_cmp, ow_chain, ow_lst, ow_tup, ow_me, ow_isi, ow_and, ow_or, ow_not, ow_ite, ow_neg, ow_dic, ow_isE, ow_own, Z.ownsOf, opt, truthD, truth, callR, callP, permD, fillD, Z.putAll, bLen, oAdd, oSub, oMod, oFdiv, oMulL, oMulR, oPow2, O.clr, Tab.at, it, eu, hz0, hz1, ll, e1, z1, e2, e3, y0, y1, y2, pl, i0, i1, i2, i3, bl]
                · rw [wt, wx]; omega
                · simp only [PyData.depth, depth_app, PyData.depthAll]; omega
                · show 0 ≤ _; omega
              · simp [h2] at y2
                have hx : x.depth ≤ n := by rw [dx] at hn; omega
                obtain ⟨r, w', e, g1, g2, g3, g4⟩ := ih x hx k (C + 1 + 1 + 1) w3 hw3' (by omega) (by omega)
                have ad := add_tup a [r] (by rw [List.length_singleton]; omega)
                have ad2 := add_tup (a ++ [r]) b (by rw [List.length_append, List.length_singleton]; omega)
                refine ⟨.tuple ((a ++ [r]) ++ b), w', ?_, wok_mono g1 (by omega), ?_, ?_, ?_⟩
                · clear wx dx tl
                  generalize a ++ x :: b = xs at *
                  generalize a ++ [r] = xs' at *
                  generalize xs' ++ b = xs'' at *
                  generalize ((a.length : Nat) : Int) = z at *
                  simp [e19, c19, n19, runFn, denS, denE, denT, denL, R.bind, R.o, R.t, O.then, Z.get, Z.put, startD, outsOf, fixD, fixL, ow_var, ow_ix, ow_sl, ow_bi, ow_call, ow_callk, ow_str, ow_int, ow_bl, ow_non, ow_glob, ow_op, ow_cmp, ow_chain, ow_lst, ow_tup, ow_me, ow_isi, ow_and, ow_or, ow_not, ow_ite, ow_neg, ow_dic, ow_isE, ow_own, Z.ownsOf, opt, truthD, truth, callR, callP, permD, fillD, Z.putAll, bLen, oAdd, oSub, oMod, oFdiv, oMulL, oMulR, oPow2, O.clr, Tab.at, it, eu, hz0, hz1, ll, e1, z1, e2, e3, y0, y1, y2, pl, i0, i1, i2, i3, ad, ad2, e]
                · rw [wt_tup, wts_app, wts_app]; simp only [wts]; omega
                · simp only [PyData.depth, depth_app, PyData.depthAll]; omega
                · show ((a ++ [r]) ++ b).length ≤ _
                  simp only [List.length_append, List.length_cons, List.length_nil]; omega
    | _ =>
      obtain ⟨r, w', e, h1, h2, h3, h4⟩ := odd (P := P) (k + n + 1) C w hw (by omega)
      refine ⟨r, w', ?_, wok_mono h1 (by omega), by omega, by omega, by omega⟩
      rw [cl19, show k + (n + 1) + 2 = k + n + 3 by omega]
      have e : cl (k + n + 3) 18 [w] = .ok r [w'] := e
      simp [e19, c19, n19, runFn, denS, denE, denT, denL, R.bind, R.o, R.t, O.then, Z.get, Z.put, startD, outsOf, fixD, fixL, ow_var, ow_ix, ow_sl, ow_bi, ow_call, ow_callk, ow_str, ow_int, ow_bl, ow_non, ow_glob, ow_op, ow_cmp, ow_chain, ow_lst, ow_tup, ow_me, ow_isi, ow_and, ow_or, ow_not, ow_ite, ow_neg, ow_dic, ow_isE, ow_own, Z.ownsOf, opt, truthD, truth, callR, callP, permD, fillD, Z.putAll, isD, isNoneD, isiD, bLen, oAdd, oSub, oMod, oFdiv, oMulL, oMulR, oPow2, O.clr, Tab.at, e]
end K02

set_option Elab.async false
set_option linter.all false
set_option maxRecDepth 100000
set_option maxHeartbeats 1000000
namespace K02
open PySem Z A
/-! sources drawn, sources near, libraries drawn -/
def TOP : Int := 1000000000000000000000000000000000000000
def PER : AV := .tup [.str 97 122 1 12, .str 97 122 1 12]
def TTLS : List D := [.str (Str.ofString "a"), .str (Str.ofString "a b"), .str (Str.ofString "on tides"), .str (Str.ofString "on tide"), .str (Str.ofString "a b c")]
def SRC : AV := .tup [.tupN PER 1 8, .int 0 1000000000000000000000000000000000000000, .alt (TTLS.map .ex)]
def cPer : Ctr := ⟨10, [.well 0], [PER], [], [.well 2], 2⟩
def cSrc : Ctr := ⟨11, [.well 0, .ex (.int 8)], [SRC], [], [.well 20], 20⟩
theorem k_per : check ⟨[], 9, T, 0, []⟩ e10.fn cPer = true := by decide +kernel
theorem k_src : check ⟨[cPer], 9, T, 0, []⟩ e11.fn cSrc = true := by decide +kernel
def ttl (d : D) : Bool := titleD d && decide (wt d ≤ 102)
/-- a source of at most eight people, the year bounded -/
def srcD (n : Nat) (d : D) : Prop := ∃ ps y t, d = .tuple [.tuple ps, .int y, t] ∧ 1 ≤ ps.length ∧ ps.length ≤ 8 ∧ ps.all personD = true ∧ 0 ≤ y ∧ y ≤ TOP + (n : Int) ∧ ttl t = true
theorem ttls : TTLS.all ttl = true := by decide +kernel
theorem name_of {x : Str} (h : strB 97 122 1 12 x = true) : nameB 12 x = true := by
  unfold strB at h
  unfold nameB lett
  simp only [Bool.and_eq_true, decide_eq_true_eq, List.all_eq_true] at h ⊢
  refine ⟨fun c hc => ?_, h.1.1, h.1.2⟩
  have := h.2 c hc
  unfold isLet
  simp only [Bool.and_eq_true, decide_eq_true_eq]
  omega
theorem per_of {P : Nat → D → Prop} {B : Nat} {d : D} (h : G P B PER d) : personD d = true := by
  unfold PER at h
  rw [G] at h
  obtain ⟨ds, rfl, g⟩ := h
  obtain ⟨f, r, rfl, g1, g⟩ := gs_cons g
  obtain ⟨g', r, rfl, g2, g⟩ := gs_cons g
  cases gs_nil g
  rw [G] at g1 g2
  obtain ⟨x, rfl, h1⟩ := g1
  obtain ⟨y, rfl, h2⟩ := g2
  show (nameB 12 x && nameB 12 y) = true
  rw [name_of h1, name_of h2]; rfl
theorem src_of {P : Nat → D → Prop} {B : Nat} {d : D} (h : G P B SRC d) : srcD 0 d := by
  have h : G P B (.tup [.tupN PER 1 8, .int 0 1000000000000000000000000000000000000000, .alt (TTLS.map .ex)]) d := h
  rw [G] at h
  obtain ⟨ds, rfl, g⟩ := h
  obtain ⟨p, r, rfl, g1, g⟩ := gs_cons g
  obtain ⟨y, r, rfl, g2, g⟩ := gs_cons g
  obtain ⟨t, r, rfl, g3, g⟩ := gs_cons g
  cases gs_nil g
  have g1 : G P B (.tupN PER 1 8) p := g1
  have g2 : G P B (.int 0 1000000000000000000000000000000000000000) y := g2
  simp only [G] at g1 g2
  obtain ⟨ps, rfl, l1, l2, l3⟩ := g1
  obtain ⟨i, rfl, i1, i2⟩ := g2
  exact ⟨ps, i, t, rfl, l1, l2, List.all_eq_true.mpr fun x hx => per_of (l3 x hx), i1, by unfold TOP; omega, all_ex ttls g3⟩
theorem per_w {P : Nat → D → Prop} (k C : Nat) (w : D) (hw : WOk C w) (hC : C + 2 ≤ LIM) : ∃ r w', cl (k + 2) 10 [w] = .ok r [w'] ∧ WOk (C + 2) w' ∧ personD r = true := by
  have c := ctr_of (P := P) (ct := cl (k + 1)) (ct' := cl (k + 2)) k_per (fun ds => rfl) (cdraw k) nil_tbl nil_orc C [w] hC (by
    show Gs P C [.well 0] [w]
    rw [Gs, Gs]
    exact ⟨wok_g.mpr hw, trivial⟩)
  have c : CSat P C cPer (cl (k + 2) 10 [w]) := c
  cases hr : cl (k + 2) 10 [w] with
  | ok d outs =>
    rw [hr] at c
    obtain ⟨⟨a, h1, h2⟩, h3⟩ := c
    have h1 : a = PER := List.mem_singleton.mp h1
    subst h1
    obtain ⟨w', r, rfl, g1, g2⟩ := gs_cons (as := []) h3
    cases gs_nil g2
    exact ⟨d, w', rfl, wok_g.mp g1, per_of h2⟩
  | exn e outs => rw [hr] at c; exact absurd c.1 (by simp [cPer])
  | bad => rw [hr] at c; exact c.elim
theorem src_w {P : Nat → D → Prop} (k C : Nat) (w : D) (hw : WOk C w) (hC : C + 20 ≤ LIM) : ∃ r w', cl (k + 3) 11 [w, .int 8] = .ok r [w'] ∧ WOk (C + 20) w' ∧ srcD 0 r := by
  have cp : CtrOk P (cl (k + 2)) cPer := ctr_of (ct := cl (k + 1)) k_per (fun ds => rfl) (cdraw k) nil_tbl nil_orc
  have c := ctr_of (P := P) (ct := cl (k + 2)) (ct' := cl (k + 3)) k_src (fun ds => rfl) (cdraw (k + 1)) (List.forall_mem_cons.mpr ⟨cp, nil_tbl⟩) nil_orc C [w, .int 8] hC (by
    show Gs P C [.well 0, .ex (.int 8)] [w, .int 8]
    rw [Gs, Gs, Gs]
    exact ⟨wok_g.mpr hw, by rw [G], trivial⟩)
  have c : CSat P C cSrc (cl (k + 3) 11 [w, .int 8]) := c
  cases hr : cl (k + 3) 11 [w, .int 8] with
  | ok d outs =>
    rw [hr] at c
    obtain ⟨⟨a, h1, h2⟩, h3⟩ := c
    have h1 : a = SRC := List.mem_singleton.mp h1
    subst h1
    obtain ⟨w', r, rfl, g1, g2⟩ := gs_cons (as := []) h3
    cases gs_nil g2
    exact ⟨d, w', rfl, wok_g.mp g1, src_of h2⟩
  | exn e outs => rw [hr] at c; exact absurd c.1 (by simp [cSrc])
  | bad => rw [hr] at c; exact c.elim
theorem person_str {d : D} (h : personD d = true) : ∃ f g, d = .tuple [.str f, .str g] ∧ nameB 12 f = true ∧ nameB 12 g = true := by
  cases d with
  | tuple xs =>
    match xs, h with
    | [f, g], h =>
      have h : (nameD 12 f && nameD 12 g) = true := h
      rw [Bool.and_eq_true] at h
      obtain ⟨x, rfl⟩ := name_str h.1
      obtain ⟨y, rfl⟩ := name_str h.2
      exact ⟨x, y, rfl, h.1, h.2⟩
  | _ => cases h
theorem name_len {x : Str} (h : nameB 12 x = true) : 1 ≤ x.length ∧ x.length ≤ 12 ∧ lett x = true := by
  unfold nameB at h
  simp only [Bool.and_eq_true, decide_eq_true_eq] at h
  exact ⟨h.2.1, h.2.2, h.1⟩
/-- letters alone, one at least -/
def some1 (x : Str) : Prop := lett x = true ∧ 1 ≤ x.length ∧ x.length ≤ 100
theorem cut12 {x : Str} (h : some1 x) : ∃ y, slD (.str x) .none (.int 12) = some (.str y) ∧ nameB 12 y = true := by
  obtain ⟨h1, h2, h3⟩ := h
  refine ⟨strOfList (x.cps.toList.take 12), ?_, ?_⟩
  · show (if x.length ≤ sizeLine then some (PyData.str (strOfList (Z.cut x.cps.toList none (some 12)))) else none) = _
    rw [if_pos (line_n (by omega)), show (12 : Int) = ((12 : Nat) : Int) from rfl, cut_to]
  · have hl : x.cps.toList.length = x.length := rfl
    unfold nameB lett strOfList
    simp only [Bool.and_eq_true, decide_eq_true_eq, List.all_eq_true]
    refine ⟨fun c hc => ?_, ?_, ?_⟩
    · unfold lett at h1
      rw [List.all_eq_true] at h1
      exact h1 c (List.mem_of_mem_take hc)
    · show 1 ≤ (List.take 12 x.cps.toList).length
      rw [List.length_take]; omega
    · show (List.take 12 x.cps.toList).length ≤ 12
      rw [List.length_take]; omega
theorem add_n {x : Str} (h : nameB 12 x = true) : ∃ y, opD .add (.str x) (.str (Str.ofString "n")) = some (.str y) ∧ some1 y := by
  obtain ⟨h1, h2, h3⟩ := name_len h
  have l1 : (Str.ofString "n").length = 1 := by decide +kernel
  refine ⟨x ++ Str.ofString "n", if_pos (by rw [l1]; exact line_n (by omega)), ?_, ?_, ?_⟩
  · unfold lett at h3 ⊢
    have : (x ++ Str.ofString "n").cps.toList = x.cps.toList ++ (Str.ofString "n").cps.toList := Array.toList_append
    rw [this, List.all_append, h3]
    decide +kernel
  · have : (x ++ Str.ofString "n").length = x.length + (Str.ofString "n").length := Array.size_append
    omega
  · have : (x ++ Str.ofString "n").length = x.length + (Str.ofString "n").length := Array.size_append
    omega
theorem first_of {x : Str} (h : nameB 12 x = true) : ∃ y, ixD (.str x) (.int 0) = some (.str y) ∧ some1 y := by
  obtain ⟨h1, h2, h3⟩ := name_len h
  have hl : x.cps.toList.length = x.length := rfl
  have hp : 0 < x.cps.toList.length := by omega
  have hg : x.cps.toList[0]? = some x.cps.toList[0] := List.getElem?_eq_getElem hp
  refine ⟨⟨#[x.cps.toList[0]]⟩, ?_, ?_, ?_, ?_⟩
  · show (if x.length ≤ sizeLine then (ixOf 0 x.cps.toList.length).bind fun k => (x.cps.toList[k]?).map fun c => PyData.str ⟨#[c]⟩ else none) = _
    rw [if_pos (line_n (by omega))]
    unfold ixOf
    rw [if_pos (by omega), if_pos (by omega)]
    show (x.cps.toList[0]?).map _ = _
    rw [hg]; rfl
  · unfold lett at h3 ⊢
    rw [List.all_eq_true] at h3
    have := h3 _ (List.getElem_mem hp)
    simpa using this
  · show 1 ≤ 1; omega
  · show 1 ≤ 100; omega
theorem some1_of {x : Str} (h : nameB 12 x = true) : some1 x := by
  obtain ⟨h1, h2, h3⟩ := name_len h
  exact ⟨h3, h1, by omega⟩
end K02
namespace K02
open PySem Z A
theorem cut_nat (xs : List D) (n : Nat) : slD (.tuple xs) .none (.int (n : Int)) = some (.tuple (xs.take n)) := by
  show some (PyData.tuple (Z.cut xs none (some (n : Int)))) = _
  rw [cut_to]
theorem max_z (a b : Int) : biD .max [.int a, .int b] = some (.int (if b > a then b else a)) := rfl
theorem ttl3 {q : Int} (h0 : 0 ≤ q) (h1 : q < 3) : ∃ t, ixD (.list [.str (Str.ofString "a"), .str (Str.ofString "on tides"), .str (Str.ofString "a b c")]) (.int q) = some t ∧ ttl t = true := by
  have : q = 0 ∨ q = 1 ∨ q = 2 := by omega
  rcases this with rfl | rfl | rfl
  · exact ⟨_, rfl, by decide +kernel⟩
  · exact ⟨_, rfl, by decide +kernel⟩
  · exact ⟨_, rfl, by decide +kernel⟩
theorem giv3 {q : Int} (h0 : 0 ≤ q) (h1 : q < 3) {x y z : Str} (hx : some1 x) (hy : some1 y) (hz : some1 z) : ∃ g, ixD (.list [.str x, .str y, .str z]) (.int q) = some (.str g) ∧ some1 g := by
  have : q = 0 ∨ q = 1 ∨ q = 2 := by omega
  rcases this with rfl | rfl | rfl
  · exact ⟨_, rfl, hx⟩
  · exact ⟨_, rfl, hy⟩
  · exact ⟨_, rfl, hz⟩
theorem near {P : Nat → D → Prop} (k C : Nat) (w : D) (n : Nat) (one : D) (hw : WOk C w) (hC : C + 6 ≤ LIM) (h : srcD n one) : ∃ r w', cl (k + 3) 12 [w, one] = .ok r [w'] ∧ WOk (C + 6) w' ∧ srcD (n + 1) r := by
  obtain ⟨ps, y, t, rfl, p1, p2, p3, y1, y2, ht⟩ := h
  have hd := cdraw (k + 1)
  obtain ⟨s, w1, s0, s1, hw1, e1⟩ := draw_w (b := (ps.length : Nat)) hd hw (by omega) (by omega) (by omega)
  obtain ⟨m, rfl⟩ : ∃ m : Nat, s = (m : Int) := ⟨s.toNat, by omega⟩
  obtain ⟨fr, w2, e2, hw2, hf⟩ := per_w (P := P) k (C + 1) w1 hw1 (by omega)
  obtain ⟨v, w3, v0, v1, hw3', e3⟩ := draw_w (b := 8) hd hw2 (by omega) (by omega) (by omega)
  obtain ⟨a, x, b, rfl, rfl⟩ := part_at (xs := ps) (n := m) (by omega)
  rw [List.length_append, List.length_cons] at p1 p2
  rw [List.all_append, List.all_cons, Bool.and_eq_true, Bool.and_eq_true] at p3
  obtain ⟨pa, px, pb⟩ := p3
  obtain ⟨f, g, rfl, hfn, hgn⟩ := person_str px
  obtain ⟨f', g', rfl, hfn', hgn'⟩ := person_str hf
  have hw3 : WOk (C + 6) w3 := wok_mono hw3' (by omega)
  have ll := len_tup (a ++ .tuple [.str f, .str g] :: b)
  have i0 := (ix_part a (.tuple [.str f, .str g]) b).1
  have i1 := sl_to a (.tuple [.str f, .str g] :: b)
  have i3 := sl_from1 a (.tuple [.str f, .str g]) b
  have pl : opD .add (.int (a.length : Nat)) (.int 1) = some (.int ((a.length : Nat) + 1)) := rfl
  have x0 : ixD (.tuple [.str f, .str g]) (.int 0) = some (.str f) := rfl
  have x1 : ixD (.tuple [.str f, .str g]) (.int 1) = some (.str g) := rfl
  have x1' : ixD (.tuple [.str f', .str g']) (.int 1) = some (.str g') := rfl
  have hz1 : (1 : Nat) ≤ sizeLine := line_n (by omega)
  have hz2 : (2 : Nat) ≤ sizeLine := line_n (by omega)
  have hz3 : (3 : Nat) ≤ sizeLine := line_n (by omega)
  rw [cl12]
  by_cases h3 : v < 3
  · have q3 : cmpD .lt (.int v) (.int 3) = some true := by rw [lt_z, decide_eq_true h3]
    obtain ⟨gn, ea, ha⟩ := add_n hgn
    obtain ⟨gc, ec, hc⟩ := first_of hgn
    obtain ⟨gv, ev, hv⟩ := giv3 v0 h3 ha (some1_of hgn') hc
    obtain ⟨gw, ew, hw'⟩ := cut12 hv
    have ad := add_tup a [.tuple [.str f, .str gw]] (by rw [List.length_singleton]; omega)
    have ad2 := add_tup (a ++ [.tuple [.str f, .str gw]]) b (by rw [List.length_append, List.length_singleton]; omega)
    refine ⟨.tuple [.tuple ((a ++ [.tuple [.str f, .str gw]]) ++ b), .int y, t], w3, ?_, hw3, _, y, t, rfl, ?_, ?_, ?_, y1, by omega, ht⟩
    · clear p1 p2
      generalize a ++ .tuple [.str f, .str g] :: b = xs at *
      generalize a ++ [.tuple [.str f, .str gw]] = xs' at *
      generalize xs' ++ b = xs'' at *
      generalize ((a.length : Nat) : Int) = z at *
      simp [e12, c12, n12, bindP, bindP.bindPs, optO, runFn, denS, denE, denT, denL, R.bind, R.o, R.t, O.then, Z.get, Z.put, startD, outsOf, fixD, fixL, ow_var, ow_ix, ow_sl, ow_bi, ow_call, ow_callk, ow_str, ow_int, ow_bl, ow_non, ow_glob, ow_op, ow_cmp, ow_chain, ow_lst, ow_tup, ow_me, ow_isi, ow_and, ow_or, ow_not, ow_ite, ow_neg, ow_dic, ow_isE, ow_own, Z.ownsOf, opt, truthD, truth, callR, callP, permD, fillD, Z.putAll, bLen, oAdd, oSub, oMod, oFdiv, oMulL, oMulR, oPow2, O.clr, Tab.at, ll, e1, e2, e3, q3, i0, i1, i3, pl, x0, x1, x1', hz1, hz2, hz3, ea, ec, ev, ew, ad, ad2]
    · simp only [List.length_append, List.length_cons, List.length_nil]; omega
    · simp only [List.length_append, List.length_cons, List.length_nil]; omega
    · rw [List.all_append, List.all_append, pa, pb]
      show (true && ((nameB 12 f && nameB 12 gw) && true) && true) = true
      rw [hfn, hw']; rfl
  · have q3 : cmpD .lt (.int v) (.int 3) = some false := by rw [lt_z, decide_eq_false h3]
    have z3 := eq_z v 3
    have z4 := eq_z v 4
    have z5 := eq_z v 5
    have z6 := eq_z v 6
    by_cases h3 : v = 3
    · have ad := add_tup a [.tuple [.str f', .str g']] (by rw [List.length_singleton]; omega)
      have ad2 := add_tup (a ++ [.tuple [.str f', .str g']]) b (by rw [List.length_append, List.length_singleton]; omega)
      simp [h3] at z3
      refine ⟨.tuple [.tuple ((a ++ [.tuple [.str f', .str g']]) ++ b), .int y, t], w3, ?_, hw3, _, y, t, rfl, ?_, ?_, ?_, y1, by omega, ht⟩
      · clear p1 p2
        generalize a ++ .tuple [.str f, .str g] :: b = xs at *
        generalize a ++ [.tuple [.str f', .str g']] = xs' at *
        generalize xs' ++ b = xs'' at *
        generalize ((a.length : Nat) : Int) = z at *
        subst h3
        simp [e12, c12, n12, bindP, bindP.bindPs, optO, runFn, denS, denE, denT, denL, R.bind, R.o, R.t, O.then, Z.get, Z.put, startD, outsOf, fixD, fixL, ow_var, ow_ix, ow_sl, ow_bi, ow_call, ow_callk, ow_str, ow_int, ow_bl, ow_non, ow_glob, ow_op, ow_cmp, ow_chain, ow_lst, ow_tup, ow_me, ow_isi, ow_and, ow_or, ow_not, ow_ite, ow_neg, ow_dic, ow_isE, ow_own, Z.ownsOf, opt, truthD, truth, callR, callP, permD, fillD, Z.putAll, bLen, oAdd, oSub, oMod, oFdiv, oMulL, oMulR, oPow2, O.clr, Tab.at, ll, e1, e2, e3, q3, z3, i0, i1, i3, pl, x0, x1, x1', hz1, hz2, hz3, ad, ad2]
      · simp only [List.length_append, List.length_cons, List.length_nil]; omega
      · simp only [List.length_append, List.length_cons, List.length_nil]; omega
      · rw [List.all_append, List.all_append, pa, pb]
        show (true && ((nameB 12 f' && nameB 12 g') && true) && true) = true
        rw [hfn', hgn']; rfl
    · simp [h3] at z3
      have pall : (a ++ PyData.tuple [.str f, .str g] :: b).all personD = true := by
        rw [List.all_append, List.all_cons, pa, pb]
        show (true && ((nameB 12 f && nameB 12 g) && true)) = true
        rw [hfn, hgn]; rfl
      have plen : (a ++ PyData.tuple [.str f, .str g] :: b).length = a.length + (b.length + 1) := by rw [List.length_append, List.length_cons]
      by_cases h4 : v = 4
      · have ad := add_tup (a ++ PyData.tuple [.str f, .str g] :: b) [PyData.tuple [.str f', .str g']] (by rw [plen, List.length_singleton]; omega)
        have sl8 : slD _ .none (.int 8) = some _ := cut_nat ((a ++ PyData.tuple [.str f, .str g] :: b) ++ [PyData.tuple [.str f', .str g']]) 8
        simp [h4] at z4
        refine ⟨.tuple [.tuple (((a ++ PyData.tuple [.str f, .str g] :: b) ++ [PyData.tuple [.str f', .str g']]).take 8), .int y, t], w3, ?_, hw3, _, y, t, rfl, ?_, ?_, ?_, y1, by omega, ht⟩
        · clear p1 p2
          generalize ((a ++ PyData.tuple [.str f, .str g] :: b) ++ [PyData.tuple [.str f', .str g']]).take 8 = xs8 at *
          generalize (a ++ PyData.tuple [.str f, .str g] :: b) ++ [.tuple [.str f', .str g']] = xs' at *
          generalize a ++ .tuple [.str f, .str g] :: b = xs at *
          generalize ((a.length : Nat) : Int) = z at *
          subst h4
          simp [e12, c12, n12, bindP, bindP.bindPs, optO, runFn, denS, denE, denT, denL, R.bind, R.o, R.t, O.then, Z.get, Z.put, startD, outsOf, fixD, fixL, ow_var, ow_ix, ow_sl, ow_bi, ow_call, ow_callk, ow_str, ow_int, ow_bl, ow_non, ow_glob, ow_op, ow_cmp, ow_chain, ow_lst, ow_tup, ow_me, ow_isi, ow_and, ow_or, ow_not, ow_ite, ow_neg, ow_dic, ow_isE, ow_own, Z.ownsOf, opt, truthD, truth, callR, callP, permD, fillD, Z.putAll, bLen, oAdd, oSub, oMod, oFdiv, oMulL, oMulR, oPow2, O.clr, Tab.at, ll, e1, e2, e3, q3, z3, z4, pl, hz1, hz2, hz3, ad, sl8]
        · rw [List.length_take, List.length_append, plen, List.length_singleton]; omega
        · rw [List.length_take]; omega
        · rw [List.all_eq_true] at pall ⊢
          intro d hd
          rcases List.mem_append.mp (List.mem_of_mem_take hd) with h | h
          · exact pall d h
          · rw [List.mem_singleton.mp h]
            show (nameB 12 f' && nameB 12 g') = true
            rw [hfn', hgn']; rfl
      · simp [h4] at z4
        by_cases h5 : v = 5
        · obtain ⟨j, j1, hj⟩ : ∃ j : Nat, 1 ≤ j ∧ biD .max [.int 1, .int (((a ++ PyData.tuple [.str f, .str g] :: b).length : Nat) - 1)] = some (.int (j : Nat)) := by
            by_cases hl : ((a ++ PyData.tuple [.str f, .str g] :: b).length : Int) - 1 ≤ 1
            · refine ⟨1, by omega, ?_⟩
              rw [plen] at hl ⊢
              have : ((a.length + (b.length + 1) : Nat) : Int) - 1 = 0 ∨ ((a.length + (b.length + 1) : Nat) : Int) - 1 = 1 := by omega
              rcases this with e | e <;> rw [e] <;> rfl
            · refine ⟨(a ++ PyData.tuple [.str f, .str g] :: b).length - 1, by omega, ?_⟩
              rw [max_z, if_pos (by omega)]
              congr 2
              omega
          have sb : opD .sub (.int ((a ++ PyData.tuple [.str f, .str g] :: b).length : Nat)) (.int 1) = some (.int (((a ++ PyData.tuple [.str f, .str g] :: b).length : Nat) - 1)) := rfl
          have slj := cut_nat (a ++ PyData.tuple [.str f, .str g] :: b) j
          simp [h5] at z5
          refine ⟨.tuple [.tuple ((a ++ PyData.tuple [.str f, .str g] :: b).take j), .int y, t], w3, ?_, hw3, _, y, t, rfl, ?_, ?_, ?_, y1, by omega, ht⟩
          · clear p1 p2 plen
            generalize (a ++ PyData.tuple [.str f, .str g] :: b).take j = xs8 at *
            generalize a ++ .tuple [.str f, .str g] :: b = xs at *
            generalize ((a.length : Nat) : Int) = z at *
            generalize ((xs.length : Nat) : Int) = z' at *
            generalize ((j : Nat) : Int) = z'' at *
            subst h5
            simp [e12, c12, n12, bindP, bindP.bindPs, optO, runFn, denS, denE, denT, denL, R.bind, R.o, R.t, O.then, Z.get, Z.put, startD, outsOf, fixD, fixL, ow_var, ow_ix, ow_sl, ow_bi, ow_call, ow_callk, ow_str, ow_int, ow_bl, ow_non, ow_glob, ow_op, ow_cmp, ow_chain, ow_lst, ow_tup, ow_me, ow_isi, ow_and, ow_or, ow_not, ow_ite, ow_neg, ow_dic, ow_isE, ow_own, Z.ownsOf, opt, truthD, truth, callR, callP, permD, fillD, Z.putAll, bLen, oAdd, oSub, oMod, oFdiv, oMulL, oMulR, oPow2, O.clr, Tab.at, ll, e1, e2, e3, q3, z3, z4, z5, pl, hz1, hz2, hz3, hj, sb, slj]
          · rw [List.length_take, plen]; omega
          · rw [List.length_take, plen]; omega
          · rw [List.all_eq_true] at pall ⊢
            exact fun d hd => pall d (List.mem_of_mem_take hd)
        · simp [h5] at z5
          obtain ⟨q, w4, q0, q1, hw4, e4⟩ := draw_w (b := 3) hd hw3' (by omega) (by omega) (by omega)
          obtain ⟨t', et, ht'⟩ := ttl3 q0 q1
          have bi : ∃ u : Int, 0 ≤ u ∧ u ≤ 1 ∧ biD .int [.bool (decide (v = 6))] = some (.int u) := by
            cases decide (v = 6)
            · exact ⟨0, by omega, by omega, rfl⟩
            · exact ⟨1, by omega, by omega, rfl⟩
          obtain ⟨u, u0, u1, bi⟩ := bi
          have ady : opD .add (.int y) (.int u) = some (.int (y + u)) := rfl
          refine ⟨.tuple [.tuple (a ++ PyData.tuple [.str f, .str g] :: b), .int (y + u), t'], w4, ?_, wok_mono hw4 (by omega), _, y + u, t', rfl, ?_, ?_, pall, by omega, by omega, ht'⟩
          · clear p1 p2 plen
            generalize a ++ .tuple [.str f, .str g] :: b = xs at *
            generalize ((a.length : Nat) : Int) = z at *
            generalize decide (v = 6) = vv at *
            simp [e12, c12, n12, bindP, bindP.bindPs, optO, runFn, denS, denE, denT, denL, R.bind, R.o, R.t, O.then, Z.get, Z.put, startD, outsOf, fixD, fixL, ow_var, ow_ix, ow_sl, ow_bi, ow_call, ow_callk, ow_str, ow_int, ow_bl, ow_non, ow_glob, ow_op, ow_cmp, ow_chain, ow_lst, ow_tup, ow_me, ow_isi, ow_and, ow_or, ow_not, ow_ite, ow_neg, ow_dic, ow_isE, ow_own, Z.ownsOf, opt, truthD, truth, callR, callP, permD, fillD, Z.putAll, bLen, oAdd, oSub, oMod, oFdiv, oMulL, oMulR, oPow2, O.clr, Tab.at, ll, e1, e2, e3, q3, z3, z4, z5, z6, pl, hz1, hz2, hz3, bi, ady, e4, et]
          · rw [plen]; omega
          · rw [plen]; omega
end K02

set_option Elab.async false
set_option linter.all false
set_option maxRecDepth 100000
set_option maxHeartbeats 1000000
namespace K02
open PySem Z A
theorem wt_lett {x : Str} (h : lett x = true) : wt (.str x) = 10 * x.length + 2 := by
  rw [wt, if_pos]
  unfold lett at h
  rw [List.all_eq_true] at h ⊢
  intro c hc
  have := h c hc
  unfold isLet at this
  simp only [Bool.and_eq_true, decide_eq_true_eq] at this ⊢
  omega
theorem per_lim {d : D} (h : personD d = true) : wt d ≤ 260 ∧ d.depth ≤ 1 := by
  obtain ⟨f, g, rfl, h1, h2⟩ := person_str h
  obtain ⟨a1, a2, a3⟩ := name_len h1
  obtain ⟨b1, b2, b3⟩ := name_len h2
  refine ⟨?_, by simp [PyData.depth, PyData.depthAll]⟩
  rw [wt_tup]
  simp only [wts, wt_lett a3, wt_lett b3]
  omega
theorem all_lim {p : D → Prop} {W N : Nat} (hp : ∀ d, p d → wt d ≤ W ∧ d.depth ≤ N) : ∀ {xs : List D}, (∀ x ∈ xs, p x) → wts xs ≤ xs.length * (W + 2) ∧ PyData.depthAll xs ≤ N
  | [], _ => ⟨by simp [wts], Nat.zero_le _⟩
  | x :: xs, h => by
    obtain ⟨a, b⟩ := hp x (h x List.mem_cons_self)
    obtain ⟨c, d⟩ := all_lim hp fun y hy => h y (List.mem_cons_of_mem _ hy)
    rw [wts, List.length_cons, PyData.depthAll, Nat.add_mul]
    omega
theorem src_lim {n : Nat} (hn : n ≤ 1000) {d : D} (h : srcD n d) : sourceD d = true ∧ wt d ≤ 2500 ∧ d.depth ≤ 3 ∧ tlen d = 3 := by
  obtain ⟨ps, y, t, rfl, p1, p2, p3, y1, y2, ht⟩ := h
  obtain ⟨a, b⟩ := all_lim (p := fun d => personD d = true) (fun d h => per_lim h) (List.all_eq_true.mp p3)
  unfold ttl at ht
  rw [Bool.and_eq_true, decide_eq_true_eq] at ht
  obtain ⟨x, rfl⟩ := title_str ht.1
  have hw : wt (.int y) = 140 := by
    rw [wt, if_pos]
    unfold TOP at y2
    have : (2 : Nat) ^ 400 > 1000000000000000000000000000000000002000 := by decide +kernel
    omega
  refine ⟨?_, ?_, ?_, rfl⟩
  · show (((!ps.isEmpty) && ps.all personD) && (decide (0 ≤ y) && titleD (.str x))) = true
    rw [p3, ht.1, decide_eq_true y1]
    cases ps with
    | nil => simp at p1
    | cons _ _ => rfl
  · rw [wt_tup]
    simp only [wts, wt_tup, hw]
    have : ps.length * (260 + 2) ≤ 8 * 262 := Nat.mul_le_mul_right _ p2
    omega
  · simp only [PyData.depth, PyData.depthAll]; omega
/-- sources found, no two the same -/
structure Found (n : Nat) (F : List D) : Prop where
  src : ∀ x ∈ F, srcD n x
  nod : nodupK F = true
  len : F.length ≤ n
theorem srcD_mono {n m : Nat} (h : n ≤ m) {d : D} (g : srcD n d) : srcD m d := by
  obtain ⟨ps, y, t, rfl, p1, p2, p3, y1, y2, ht⟩ := g
  exact ⟨ps, y, t, rfl, p1, p2, p3, y1, by omega, ht⟩
theorem nkeys_app : ∀ {xs ys : List D} {ks ls : List NestedKey}, nkeys xs = some ks → nkeys ys = some ls → nkeys (xs ++ ys) = some (ks ++ ls)
  | [], ys, ks, ls, h1, h2 => by cases h1; exact h2
  | x :: xs, ys, ks, ls, h1, h2 => by
    obtain ⟨k, r, rfl, e1, e2⟩ := nkeys_cons h1
    rw [List.cons_append, List.cons_append, nkeys, e1, nkeys_app e2 h2]
theorem notIn_of {x y : D} {b : Bool} (h : cmpD .isIn x y = some b) : cmpD .notIn x y = some (!b) := by
  show (isIn x y).map _ = _
  rw [show isIn x y = some b from h]; rfl
theorem lib_step {P : Nat → D → Prop} (k C n : Nat) (w x : D) (F : List D) (a1 a4 a5 : Option D) (hw : WOk C w) (hC : C + 30 ≤ LIM) (hn : n ≤ 100) (hF : Found n F) :
    ∃ w' F' b5, Found (n + 1) F' ∧ WOk (C + 30) w' ∧ forF (cl (k + 3)) K02.T (.var 4) b13_0 x [some w, a1, some (.int 8), some (.list F), a4, a5] = .nx [some w', a1, some (.int 8), some (.list F'), some x, b5] := by
  rw [forF_of (ρ3 := [some w, a1, some (.int 8), some (.list F), some x, a5]) rfl]
  have hd := cdraw (k + 2)
  obtain ⟨fr, w1, e1, hw1, s1⟩ := src_w (P := P) k C w hw (by omega)
  -- what stands in slot 5 behind the test
  have key : ∃ w2 f2, srcD (n + 1) f2 ∧ WOk (C + 30) w2 ∧ denS (cl (k + 3)) K02.T (.sIf (.and (.tv (.cmp .ne (.own 3) (.lst .nil))) (.tv (.cmp .gt (.call 9 (.cons (.own 0) (.cons (.int 4) .nil))) (.int 0)))) (.cons (.sSet 5 (.call 12 (.cons (.own 0) (.cons (.ix (.own 3) (.call 9 (.cons (.own 0) (.cons (.bi .len (.cons (.own 3) .nil)) .nil)))) .nil)))) .nil) .nil) [some w1, a1, some (.int 8), some (.list F), some x, some fr] = .nx [some w2, a1, some (.int 8), some (.list F), some x, some f2] := by
    have nn := ne_nilL F
    have hz0 : (0 : Nat) ≤ sizeLine := Nat.zero_le _
    by_cases hF0 : F = []
    · subst hF0
      have nn : cmpD .ne (.list []) (.list []) = some false := by decide +kernel
      exact ⟨w1, fr, srcD_mono (by omega) s1, wok_mono hw1 (by omega), by simp [runFn, denS, denE, denT, denL, R.bind, R.o, R.t, O.then, Z.get, Z.put, startD, outsOf, fixD, fixL, ow_var, ow_ix, ow_sl, ow_bi, ow_call, ow_callk, ow_str, ow_int, ow_bl, ow_non, ow_glob, ow_op, ow_cmp, ow_chain, ow_lst, ow_tup, ow_me, ow_isi, ow_and, ow_or, ow_not, ow_ite, ow_neg, ow_dic, ow_isE, ow_own, Z.ownsOf, opt, truthD, truth, callR, callP, permD, fillD, Z.putAll, bLen, oAdd, oSub, oMod, oFdiv, oMulL, oMulR, oPow2, O.clr, Tab.at, nn, hz0]⟩
    · have nn : cmpD .ne (.list F) (.list []) = some true := by
        rw [nn]; cases F with
        | nil => exact absurd rfl hF0
        | cons _ _ => rfl
      have hpos : 0 < F.length := List.length_pos_iff.mpr hF0
      have hl := hF.len
      obtain ⟨q, w2, q0, q1, hw2, e2⟩ := draw_w (b := 4) hd hw1 (by omega) (by omega) (by omega)
      have g0 := gt_z q 0
      by_cases hq : 0 < q
      · rw [decide_eq_true hq] at g0
        obtain ⟨s, w3, s0, s1', hw3, e3⟩ := draw_w (b := (F.length : Nat)) hd hw2 (by omega) (by omega) (by omega)
        obtain ⟨m, rfl⟩ : ∃ m : Nat, s = (m : Int) := ⟨s.toNat, by omega⟩
        obtain ⟨a, y, b, rfl, rfl⟩ := part_at (xs := F) (n := m) (by omega)
        obtain ⟨f2, w4, e4, hw4, s4⟩ := near (P := P) k (C + 20 + 1 + 1) w3 n y hw3 (by omega) (hF.src y (by simp))
        refine ⟨w4, f2, s4, wok_mono hw4 (by omega), ?_⟩
        have bl : biD .len [.list (a ++ y :: b)] = some (.int ((a ++ y :: b).length : Nat)) := rfl
        have i0 := (ix_part a y b).2
        clear hF hl hpos hF0
        generalize a ++ y :: b = F at *
        generalize ((a.length : Nat) : Int) = z at *
        generalize ((F.length : Nat) : Int) = z' at *
        simp [runFn, denS, denE, denT, denL, R.bind, R.o, R.t, O.then, Z.get, Z.put, startD, outsOf, fixD, fixL, ow_var, ow_ix, ow_sl, ow_bi, ow_call, ow_callk, ow_str, ow_int, ow_bl, ow_non, ow_glob, ow_op, ow_cmp, ow_chain, ow_lst, ow_tup, ow_me, ow_isi, ow_and, ow_or, ow_not, ow_ite, ow_neg, ow_dic, ow_isE, ow_own, Z.ownsOf, opt, truthD, truth, callR, callP, permD, fillD, Z.putAll, bLen, oAdd, oSub, oMod, oFdiv, oMulL, oMulR, oPow2, O.clr, Tab.at, nn, hz0, e2, g0, bl, e3, i0, e4]
      · rw [decide_eq_false hq] at g0
        refine ⟨w2, fr, srcD_mono (by omega) s1, wok_mono hw2 (by omega), ?_⟩
        simp [runFn, denS, denE, denT, denL, R.bind, R.o, R.t, O.then, Z.get, Z.put, startD, outsOf, fixD, fixL, ow_var, ow_ix, ow_sl, ow_bi, ow_call, ow_callk, ow_str, ow_int, ow_bl, ow_non, ow_glob, ow_op, ow_cmp, ow_chain, ow_lst, ow_tup, ow_me, ow_isi, ow_and, ow_or, ow_not, ow_ite, ow_neg, ow_dic, ow_isE, ow_own, Z.ownsOf, opt, truthD, truth, callR, callP, permD, fillD, Z.putAll, bLen, oAdd, oSub, oMod, oFdiv, oMulL, oMulR, oPow2, O.clr, Tab.at, nn, hz0, e2, g0]
  obtain ⟨w2, f2, s2, hw2, K⟩ := key
  obtain ⟨q1, q2, q3, q4⟩ := src_lim (by omega) s2
  obtain ⟨kf, k1, k2⟩ := source_key q1
  have hall : F.all sourceD = true := List.all_eq_true.mpr fun x hx => (src_lim (by omega) (hF.src x hx)).1
  obtain ⟨ks, e5, e6, e7, e8⟩ := keys_all (fun d => source_key) hall
  have hl := hF.len
  have ni := notIn_of (in_keys k1 e5 (by omega) (by omega)).2
  have st : denS (cl (k + 3)) K02.T (.sSet 5 (.call 11 (.cons (.own 0) (.cons (.var 2) .nil)))) [some w, a1, some (.int 8), some (.list F), some x, a5] = .nx [some w1, a1, some (.int 8), some (.list F), some x, some fr] := by
    simp [runFn, denS, denE, denT, denL, R.bind, R.o, R.t, O.then, Z.get, Z.put, startD, outsOf, fixD, fixL, ow_var, ow_ix, ow_sl, ow_bi, ow_call, ow_callk, ow_str, ow_int, ow_bl, ow_non, ow_glob, ow_op, ow_cmp, ow_chain, ow_lst, ow_tup, ow_me, ow_isi, ow_and, ow_or, ow_not, ow_ite, ow_neg, ow_dic, ow_isE, ow_own, Z.ownsOf, opt, truthD, truth, callR, callP, permD, fillD, Z.putAll, bLen, oAdd, oSub, oMod, oFdiv, oMulL, oMulR, oPow2, O.clr, Tab.at, e1]
  have hnod := hF.nod
  unfold nodupK at hnod
  rw [e5] at hnod
  have hnod := of_decide_eq_true hnod
  by_cases hin : kf ∈ ks
  · rw [decide_eq_true hin] at ni
    refine ⟨w2, F, some f2, ⟨fun x hx => srcD_mono (by omega) (hF.src x hx), hF.nod, by omega⟩, hw2, ?_⟩
    refine (sq_nx st).trans ((sq_nx K).trans ?_)
    simp [runFn, denS, denE, denT, denL, R.bind, R.o, R.t, O.then, Z.get, Z.put, startD, outsOf, fixD, fixL, ow_var, ow_ix, ow_sl, ow_bi, ow_call, ow_callk, ow_str, ow_int, ow_bl, ow_non, ow_glob, ow_op, ow_cmp, ow_chain, ow_lst, ow_tup, ow_me, ow_isi, ow_and, ow_or, ow_not, ow_ite, ow_neg, ow_dic, ow_isE, ow_own, Z.ownsOf, opt, truthD, truth, callR, callP, permD, fillD, Z.putAll, bLen, oAdd, oSub, oMod, oFdiv, oMulL, oMulR, oPow2, O.clr, Tab.at, ni]
  · rw [decide_eq_false hin] at ni
    refine ⟨w2, F ++ [f2], some f2, ⟨fun x hx => ?_, ?_, ?_⟩, hw2, ?_⟩
    · rcases List.mem_append.mp hx with h | h
      · exact srcD_mono (by omega) (hF.src x h)
      · rw [List.mem_singleton.mp h]; exact s2
    · unfold nodupK
      have k3 : nkeys [f2] = some [kf] := by rw [nkeys, k1, nkeys]
      rw [nkeys_app e5 k3]
      refine decide_eq_true ?_
      rw [List.nodup_append]
      refine ⟨hnod, by simp, fun a ha b hb e => ?_⟩
      rw [List.mem_singleton.mp hb] at e
      exact hin (e ▸ ha)
    · rw [List.length_append, List.length_singleton]; omega
    · refine (sq_nx st).trans ((sq_nx K).trans ?_)
      have hz : F.length < sizeLine := by rw [line_eq]; omega
      simp [runFn, denS, denE, denT, denL, R.bind, R.o, R.t, O.then, Z.get, Z.put, startD, outsOf, fixD, fixL, ow_var, ow_ix, ow_sl, ow_bi, ow_call, ow_callk, ow_str, ow_int, ow_bl, ow_non, ow_glob, ow_op, ow_cmp, ow_chain, ow_lst, ow_tup, ow_me, ow_isi, ow_and, ow_or, ow_not, ow_ite, ow_neg, ow_dic, ow_isE, ow_own, Z.ownsOf, opt, truthD, truth, callR, callP, permD, fillD, Z.putAll, bLen, oAdd, oSub, oMod, oFdiv, oMulL, oMulR, oPow2, O.clr, Tab.at, ni, hz]
theorem lib_walk {P : Nat → D → Prop} (k : Nat) (a1 : Option D) : ∀ (ds : List D) (C n : Nat) (w : D) (F : List D) (a4 a5 : Option D), WOk C w → C + 30 * ds.length ≤ LIM → n + ds.length ≤ 100 → Found n F →
    ∃ w' F' b4 b5, Found (n + ds.length) F' ∧ WOk (C + 30 * ds.length) w' ∧ turns (fun _ => true) (forF (cl (k + 3)) K02.T (.var 4) b13_0) ds [some w, a1, some (.int 8), some (.list F), a4, a5] = .nx [some w', a1, some (.int 8), some (.list F'), b4, b5] := by
  intro ds
  induction ds with
  | nil => exact fun C n w F a4 a5 hw _ _ hF => ⟨w, F, a4, a5, hF, hw, rfl⟩
  | cons x ds ih =>
    intro C n w F a4 a5 hw hC hn hF
    simp only [List.length_cons] at hC hn ⊢
    obtain ⟨w1, F1, b5, h1, h2, e⟩ := lib_step (P := P) k C n w x F a1 a4 a5 hw (by omega) (by omega) hF
    obtain ⟨w2, F2, c4, c5, h3, h4, e2⟩ := ih (C + 30) (n + 1) w1 F1 (some x) b5 h2 (by omega) (by omega) h1
    refine ⟨w2, F2, c4, c5, by rw [show n + (ds.length + 1) = n + 1 + ds.length by omega]; exact h3, wok_mono h4 (by omega), ?_⟩
    rw [turns_cons, e]; exact e2
/-- a library as it is drawn -/
def book (d : D) : Prop := ∃ F, d = .tuple F ∧ Found 12 F
theorem library {P : Nat → D → Prop} (k C : Nat) (w : D) (hw : WOk C w) (hC : C + 400 ≤ LIM) : ∃ r w', cl (k + 4) 13 [w, .int 12, .int 8] = .ok r [w'] ∧ WOk (C + 400) w' ∧ book r := by
  rw [cl13]
  have hd := cdraw (k + 2)
  obtain ⟨m, w1, m0, m1, hw1, e1⟩ := draw_w (b := 13) hd hw (by omega) (by omega) (by omega)
  have hlen : (rangeD 0 m).length = m.toNat := by simp [rangeD]
  obtain ⟨w2, F, b4, b5, h1, h2, W⟩ := lib_walk (P := P) k (some (.int 12)) (rangeD 0 m) (C + 1) 0 w1 [] none none hw1 (by omega) (by omega) ⟨fun x hx => (by cases hx), rfl, Nat.le_refl _⟩
  have rg := range_z m (by omega) (by omega)
  have pl : opD .add (.int 12) (.int 1) = some (.int 13) := rfl
  have hz0 : (0 : Nat) ≤ sizeLine := Nat.zero_le _
  have f1 : denS (cl (k + 3)) K02.T f13_0 [some w, some (.int 12), some (.int 8), some (.list []), none, none] = .nx [some w2, some (.int 12), some (.int 8), some (.list F), b4, b5] := by
    refine (for_d (x := .list (rangeD 0 m)) (xs := rangeD 0 m) (ρ1 := [some w1, some (.int 12), some (.int 8), some (.list []), none, none]) ?_ rfl rfl).trans W
    simp [runFn, denS, denE, denT, denL, R.bind, R.o, R.t, O.then, Z.get, Z.put, startD, outsOf, fixD, fixL, ow_var, ow_ix, ow_sl, ow_bi, ow_call, ow_callk, ow_str, ow_int, ow_bl, ow_non, ow_glob, ow_op, ow_cmp, ow_chain, ow_lst, ow_tup, ow_me, ow_isi, ow_and, ow_or, ow_not, ow_ite, ow_neg, ow_dic, ow_isE, ow_own, Z.ownsOf, opt, truthD, truth, callR, callP, permD, fillD, Z.putAll, bLen, oAdd, oSub, oMod, oFdiv, oMulL, oMulR, oPow2, O.clr, Tab.at, e1, pl, rg]
  have bt : biD .tuple [.list F] = some (.tuple F) := rfl
  refine ⟨.tuple F, w2, ?_, wok_mono h2 (by omega), F, rfl, ⟨fun x hx => srcD_mono (by omega) (h1.src x hx), h1.nod, by have := h1.len; omega⟩⟩
  simp [e13, K02.c13, n13, runFn, denS, denE, denT, denL, R.bind, R.o, R.t, O.then, Z.get, Z.put, startD, outsOf, fixD, fixL, ow_var, ow_ix, ow_sl, ow_bi, ow_call, ow_callk, ow_str, ow_int, ow_bl, ow_non, ow_glob, ow_op, ow_cmp, ow_chain, ow_lst, ow_tup, ow_me, ow_isi, ow_and, ow_or, ow_not, ow_ite, ow_neg, ow_dic, ow_isE, ow_own, Z.ownsOf, opt, truthD, truth, callR, callP, permD, fillD, Z.putAll, bLen, oAdd, oSub, oMod, oFdiv, oMulL, oMulR, oPow2, O.clr, Tab.at, hz0, f1, bt]
end K02

set_option Elab.async false
set_option linter.all false
set_option maxRecDepth 100000
set_option maxHeartbeats 4000000
namespace K02
open PySem Z A
def cLib : Ctr := ⟨13, [.well 0, .ex (.int 12), .ex (.int 8)], [.pr 1], [], [.well 400], 400⟩
def cR1 : Ctr := ⟨20, [.pr 1], [bl true], [], [], 0⟩
def cR3 : Ctr := ⟨20, [.pr 3], [bl true], [], [], 0⟩
def cR4 : Ctr := ⟨20, [.pr 4], [bl true], [], [], 0⟩
def cIs : Ctr := ⟨7, [.pr 1], [bl true], [], [], 0⟩
def cB1 : Ctr := ⟨19, [.well 0, .pr 2], [.pr 3], [], [.well 16], 16⟩
def cB2 : Ctr := ⟨19, [.well 0, .pr 3], [.pr 4], [], [.well 25], 25⟩
def cOd : Ctr := ⟨18, [.well 0], [.pr 3], [], [.well 1], 1⟩
def cNil : Ctr := ⟨7, [.tup []], [bl true], [], [], 0⟩
def ONE : AV := .tup [.tup [.tup [st "a", st "b"]], .ex (.int 0), st "a"]
def cOne : Ctr := ⟨6, [ONE], [bl true], [], [], 0⟩
def cLaw : Ctr := ⟨21, [.lstN (.pr 0) 0 63], [bl true], [], [], 4000⟩
def pick : C := match b21_0 with | .cons c _ => c | _ => .nil
def oPick : SCtr := ⟨pick, 8, [(2, .well 0), (4, .int 0 7), (5, .pr 1)], [], [(2, .well 1), (6, .pr 2)], 1⟩
theorem k_law : check ⟨[wellC 8, cLib, cR1, cR3, cR4, cIs, cB1, cB2, cOd, cNil, cOne], 9, T, 0, [oPick]⟩ e21.fn cLaw = true := by decide +kernel
end K02

set_option Elab.async false
set_option linter.all false
set_option maxRecDepth 100000
set_option maxHeartbeats 4000000
namespace K02
open PySem Z A
def Pr : Nat → D → Prop
  | 0 => isInt
  | 1 => book
  | 2 => fun d => lim3 31000 4 12 d = true
  | 3 => fun d => lim3 62500 7 14 d = true
  | _ => fun d => lim3 125500 10 16 d = true
theorem pr0 {B : Nat} {d : D} : G Pr B (.pr 0) d ↔ isInt d := by rw [G]; exact Iff.rfl
theorem pr1 {B : Nat} {d : D} : G Pr B (.pr 1) d ↔ book d := by rw [G]; exact Iff.rfl
theorem pr2 {B : Nat} {d : D} : G Pr B (.pr 2) d ↔ lim3 31000 4 12 d = true := by rw [G]; exact Iff.rfl
theorem pr3 {B : Nat} {d : D} : G Pr B (.pr 3) d ↔ lim3 62500 7 14 d = true := by rw [G]; exact Iff.rfl
theorem pr4 {B : Nat} {d : D} : G Pr B (.pr 4) d ↔ lim3 125500 10 16 d = true := by rw [G]; exact Iff.rfl
theorem book_lim {d : D} (h : book d) : lim3 31000 4 12 d = true := by
  obtain ⟨F, rfl, hF⟩ := h
  obtain ⟨a, b⟩ := all_lim (p := srcD 12) (W := 2500) (N := 3) (fun d h => ⟨(src_lim (by omega) h).2.1, (src_lim (by omega) h).2.2.1⟩) hF.src
  rw [lim3_iff]
  have hl := hF.len
  have : F.length * (2500 + 2) ≤ 12 * 2502 := Nat.mul_le_mul_right _ hl
  refine ⟨by rw [wt_tup]; omega, by simp only [PyData.depth]; omega, hl⟩
theorem src_lim3 {d : D} (h : srcD 12 d) : lim3 31000 4 12 d = true := by
  obtain ⟨_, a, b, c⟩ := src_lim (by omega) h
  rw [lim3_iff]; omega
theorem book_lib {d : D} (h : book d) : libD d = true := by
  obtain ⟨F, rfl, hF⟩ := h
  show (F.all sourceD && nodupK F) = true
  rw [hF.nod, List.all_eq_true.mpr fun x hx => (src_lim (by omega) (hF.src x hx)).1]; rfl
theorem cwell (k : Nat) : CtrOk Pr (cl (k + 1)) (wellC 8) := wellC_ok (T := K02.T) (ct := cl k) (fun d h => h) fun ds => rfl
theorem clib (k : Nat) : CtrOk Pr (cl (k + 4)) cLib := fun B ds hB g => by
  obtain ⟨w, r, rfl, g1, g⟩ := gs_cons g
  obtain ⟨x, r, rfl, g2, g⟩ := gs_cons g
  obtain ⟨y, r, rfl, g3, g⟩ := gs_cons g
  cases gs_nil g
  rw [G] at g2 g3
  subst g2
  subst g3
  obtain ⟨r, w', e, h1, h2⟩ := library (P := Pr) k B w (wok_g.mp g1) hB
  rw [show cLib.f = 13 from rfl, e]
  refine ⟨⟨.pr 1, List.mem_singleton.mpr rfl, pr1.mpr h2⟩, ?_⟩
  show Gs Pr B [.well 400] [w']
  rw [Gs, Gs]
  exact ⟨wok_g.mpr h1, trivial⟩
theorem right_of (k : Nat) {W N L : Nat} {d : D} (h : lim3 W N L d = true) (hW : W ≤ 900000) (hN : N ≤ 60) (hL : L < 64) : cl (k + 7) 20 [d] = .ok (.bool true) [] := by
  obtain ⟨a, b, c⟩ := lim3_iff.mp h
  exact right k d (by omega) (by omega) (by omega)
theorem cr1 (k : Nat) : CtrOk Pr (cl (k + 7)) cR1 := fun B ds hB g => by
  obtain ⟨d, r, rfl, g1, g2⟩ := gs_cons g
  cases gs_nil g2
  rw [show cR1.f = 20 from rfl, right_of k (book_lim (pr1.mp g1)) (by omega) (by omega) (by omega)]
  exact one_ret rfl rfl (g_bl true)
theorem cr3 (k : Nat) : CtrOk Pr (cl (k + 7)) cR3 := fun B ds hB g => by
  obtain ⟨d, r, rfl, g1, g2⟩ := gs_cons g
  cases gs_nil g2
  rw [show cR3.f = 20 from rfl, right_of k (pr3.mp g1) (by omega) (by omega) (by omega)]
  exact one_ret rfl rfl (g_bl true)
theorem cr4 (k : Nat) : CtrOk Pr (cl (k + 7)) cR4 := fun B ds hB g => by
  obtain ⟨d, r, rfl, g1, g2⟩ := gs_cons g
  cases gs_nil g2
  rw [show cR4.f = 20 from rfl, right_of k (pr4.mp g1) (by omega) (by omega) (by omega)]
  exact one_ret rfl rfl (g_bl true)
theorem cis (k : Nat) : CtrOk Pr (cl (k + 6)) cIs := fun B ds hB g => by
  obtain ⟨d, r, rfl, g1, g2⟩ := gs_cons g
  cases gs_nil g2
  have hb := pr1.mp g1
  obtain ⟨a, b, c⟩ := lim3_iff.mp (book_lim hb)
  rw [show cIs.f = 7 from rfl, is_library k d (by omega) (short_of (by omega)), book_lib hb]
  exact one_ret rfl rfl (g_bl true)
theorem cb1 (k : Nat) : CtrOk Pr (cl (k + 7)) cB1 := fun B ds hB g => by
  obtain ⟨w, r, rfl, g1, g⟩ := gs_cons g
  obtain ⟨x, r, rfl, g2, g⟩ := gs_cons g
  cases gs_nil g
  obtain ⟨a, b, c⟩ := lim3_iff.mp (pr2.mp g2)
  have hB : B + 16 ≤ LIM := hB
  obtain ⟨r, w', e, h1, h2, h3, h4⟩ := bent (P := Pr) 4 x (by omega) k B w (wok_g.mp g1) (by omega) (by omega)
  rw [show cB1.f = 19 from rfl, show cl (k + 7) 19 [w, x] = cl (k + 4 + 3) 19 [w, x] from rfl, e]
  refine ⟨⟨.pr 3, List.mem_singleton.mpr rfl, pr3.mpr (lim3_iff.mpr ⟨by omega, by omega, by omega⟩)⟩, ?_⟩
  show Gs Pr B [.well 16] [w']
  rw [Gs, Gs]
  exact ⟨wok_g.mpr h1, trivial⟩
theorem cb2 (k : Nat) : CtrOk Pr (cl (k + 10)) cB2 := fun B ds hB g => by
  obtain ⟨w, r, rfl, g1, g⟩ := gs_cons g
  obtain ⟨x, r, rfl, g2, g⟩ := gs_cons g
  cases gs_nil g
  obtain ⟨a, b, c⟩ := lim3_iff.mp (pr3.mp g2)
  have hB : B + 25 ≤ LIM := hB
  obtain ⟨r, w', e, h1, h2, h3, h4⟩ := bent (P := Pr) 7 x (by omega) k B w (wok_g.mp g1) (by omega) (by omega)
  rw [show cB2.f = 19 from rfl, show cl (k + 10) 19 [w, x] = cl (k + 7 + 3) 19 [w, x] from rfl, e]
  refine ⟨⟨.pr 4, List.mem_singleton.mpr rfl, pr4.mpr (lim3_iff.mpr ⟨by omega, by omega, by omega⟩)⟩, ?_⟩
  show Gs Pr B [.well 25] [w']
  rw [Gs, Gs]
  exact ⟨wok_g.mpr h1, trivial⟩
theorem cod (k : Nat) : CtrOk Pr (cl (k + 2)) cOd := fun B ds hB g => by
  obtain ⟨w, r, rfl, g1, g⟩ := gs_cons g
  cases gs_nil g
  obtain ⟨r, w', e, h1, h2, h3, h4⟩ := odd (P := Pr) k B w (wok_g.mp g1) hB
  rw [show cOd.f = 18 from rfl, e]
  refine ⟨⟨.pr 3, List.mem_singleton.mpr rfl, pr3.mpr (lim3_iff.mpr ⟨by omega, by omega, by omega⟩)⟩, ?_⟩
  show Gs Pr B [.well 1] [w']
  rw [Gs, Gs]
  exact ⟨wok_g.mpr h1, trivial⟩
theorem cnil (k : Nat) : CtrOk Pr (cl (k + 6)) cNil := fun B ds hB g => by
  obtain ⟨d, r, rfl, g1, g2⟩ := gs_cons g
  cases gs_nil g2
  have g1 : G Pr B (.tup []) d := g1
  rw [G] at g1
  obtain ⟨xs, rfl, g3⟩ := g1
  cases gs_nil g3
  rw [show cNil.f = 7 from rfl, is_library k (.tuple []) (by decide +kernel) rfl, show libD (.tuple []) = true from by decide +kernel]
  exact one_ret rfl rfl (g_bl true)
def oneSrc : D := .tuple [.tuple [.tuple [.str (Str.ofString "a"), .str (Str.ofString "b")]], .int 0, .str (Str.ofString "a")]
theorem cone (k : Nat) : CtrOk Pr (cl (k + 5)) cOne := fun B ds hB g => by
  obtain ⟨d, r, rfl, g1, g2⟩ := gs_cons g
  cases gs_nil g2
  have : d = oneSrc := by
    have g1 : G Pr B (.tup [.tup [.tup [st "a", st "b"]], .ex (.int 0), st "a"]) d := g1
    rw [G] at g1
    obtain ⟨xs, rfl, u1⟩ := g1
    obtain ⟨p, r1, rfl, h1, u2⟩ := gs_cons u1
    obtain ⟨y, r2, rfl, h2, u3⟩ := gs_cons u2
    obtain ⟨t, r3, rfl, h3, u4⟩ := gs_cons u3
    cases gs_nil u4
    have h3 : G Pr B (.ex (.str (Str.ofString "a"))) t := h3
    rw [G] at h1
    rw [G] at h2
    rw [G] at h3
    subst h2; subst h3
    obtain ⟨ys, rfl, v1⟩ := h1
    obtain ⟨p, r4, rfl, h4, v2⟩ := gs_cons v1
    cases gs_nil v2
    rw [G] at h4
    obtain ⟨zs, rfl, w1⟩ := h4
    obtain ⟨f, r5, rfl, h5, w2⟩ := gs_cons w1
    obtain ⟨g', r6, rfl, h6, w3⟩ := gs_cons w2
    cases gs_nil w3
    have h5 : G Pr B (.ex (.str (Str.ofString "a"))) f := h5
    have h6 : G Pr B (.ex (.str (Str.ofString "b"))) g' := h6
    rw [G] at h5 h6
    subst h5; subst h6
    rfl
  subst this
  rw [show cOne.f = 6 from rfl, is_source k oneSrc (by decide +kernel), show sourceD oneSrc = true from by decide +kernel]
  exact one_ret rfl rfl (g_bl true)
theorem eight {ρ : Slots} (h : ρ.length = 8) : ∃ a0 a1 a2 a3 a4 a5 a6 a7, ρ = [a0, a1, a2, a3, a4, a5, a6, a7] := by
  match ρ, h with
  | [a0, a1, a2, a3, a4, a5, a6, a7], _ => exact ⟨a0, a1, a2, a3, a4, a5, a6, a7, rfl⟩
theorem pick_a (ct : CT) (ki : Int) (w b : D) (a0 a1 a3 a6 a7 : Option D) (q : cmpD .lt (.int ki) (.int 4) = some true) : denS ct K02.T pick [a0, a1, some w, a3, some (.int ki), some b, a6, a7] = .nx [a0, a1, some w, a3, some (.int ki), some b, some b, a7] := by
  simp [pick, b21_0, runFn, denS, denE, denT, denL, R.bind, R.o, R.t, O.then, Z.get, Z.put, startD, outsOf, fixD, fixL, ow_var, ow_ix, ow_sl, ow_bi, ow_call, ow_callk, ow_str, ow_int, ow_bl, ow_non, ow_glob, ow_op, ow_cmp, ow_chain, ow_lst, ow_tup, ow_me, ow_isi, ow_and, ow_or, ow_not, ow_ite, ow_neg, ow_dic, ow_isE, ow_own, Z.ownsOf, opt, truthD, truth, callR, callP, permD, fillD, Z.putAll, bLen, oAdd, oSub, oMod, oFdiv, oMulL, oMulR, oPow2, O.clr, Tab.at, q]
theorem pick_b (ct : CT) (ki : Int) (w b : D) (a0 a1 a3 a6 a7 : Option D) (q : cmpD .lt (.int ki) (.int 4) = some false) (q2 : cmpD .eq b (.tuple []) = some true) : denS ct K02.T pick [a0, a1, some w, a3, some (.int ki), some b, a6, a7] = .nx [a0, a1, some w, a3, some (.int ki), some b, some b, a7] := by
  have hz0 : (0 : Nat) ≤ sizeLine := Nat.zero_le _
  simp [pick, b21_0, runFn, denS, denE, denT, denL, R.bind, R.o, R.t, O.then, Z.get, Z.put, startD, outsOf, fixD, fixL, ow_var, ow_ix, ow_sl, ow_bi, ow_call, ow_callk, ow_str, ow_int, ow_bl, ow_non, ow_glob, ow_op, ow_cmp, ow_chain, ow_lst, ow_tup, ow_me, ow_isi, ow_and, ow_or, ow_not, ow_ite, ow_neg, ow_dic, ow_isE, ow_own, Z.ownsOf, opt, truthD, truth, callR, callP, permD, fillD, Z.putAll, bLen, oAdd, oSub, oMod, oFdiv, oMulL, oMulR, oPow2, O.clr, Tab.at, q, q2, hz0]
theorem pick_c (ct : CT) (ki n s : Int) (w w' b x : D) (a0 a1 a3 a6 a7 : Option D) (q : cmpD .lt (.int ki) (.int 4) = some false) (q2 : cmpD .eq b (.tuple []) = some false) (l : biD .len [b] = some (.int n)) (e : ct 9 [w, .int n] = .ok (.int s) [w']) (i : ixD b (.int s) = some x) : denS ct K02.T pick [a0, a1, some w, a3, some (.int ki), some b, a6, a7] = .nx [a0, a1, some w', a3, some (.int ki), some b, some x, a7] := by
  have hz0 : (0 : Nat) ≤ sizeLine := Nat.zero_le _
  simp [pick, b21_0, runFn, denS, denE, denT, denL, R.bind, R.o, R.t, O.then, Z.get, Z.put, startD, outsOf, fixD, fixL, ow_var, ow_ix, ow_sl, ow_bi, ow_call, ow_callk, ow_str, ow_int, ow_bl, ow_non, ow_glob, ow_op, ow_cmp, ow_chain, ow_lst, ow_tup, ow_me, ow_isi, ow_and, ow_or, ow_not, ow_ite, ow_neg, ow_dic, ow_isE, ow_own, Z.ownsOf, opt, truthD, truth, callR, callP, permD, fillD, Z.putAll, bLen, oAdd, oSub, oMod, oFdiv, oMulL, oMulR, oPow2, O.clr, Tab.at, q, q2, hz0, l, e, i]
theorem opick (k : Nat) : SCtrOk Pr (cl (k + 1)) K02.T oPick := by
  intro B ρ ds hn hB g hr
  obtain ⟨a0, a1, a2, a3, a4, a5, a6, a7, rfl⟩ := eight hn
  have g : Gs Pr B [.well 0, .int 0 7, .pr 1] ds := g
  obtain ⟨w, r, rfl, g1, g⟩ := gs_cons g
  obtain ⟨t, r, rfl, g2, g⟩ := gs_cons g
  obtain ⟨b, r', rfl, g3, g⟩ := gs_cons g
  cases gs_nil g
  have hr : [a2, a4, a5] = [some w, some t, some b] := hr
  injection hr with e2 hr
  injection hr with e3 hr
  injection hr with e4 hr
  subst e2; subst e3; subst e4
  have hw : WOk B w := by have := wok_g.mp g1; simpa using this
  have hb := pr1.mp g3
  rw [G] at g2
  obtain ⟨ti, rfl, t0, t1⟩ := g2
  have hB : B + 1 ≤ LIM := hB
  have fin : ∀ w' x, WOk (B + 1) w' → lim3 31000 4 12 x = true → denS (cl (k + 1)) K02.T pick [a0, a1, some w, a3, some (.int ti), some b, a6, a7] = .nx [a0, a1, some w', a3, some (.int ti), some b, some x, a7] →
      ∃ xs es, xs.length = oPick.clr.length ∧ denS (cl (k + 1)) K02.T oPick.c [a0, a1, some w, a3, some (.int ti), some b, a6, a7] = .nx (Z.putAll (wild [a0, a1, some w, a3, some (.int ti), some b, a6, a7] oPick.clr xs) (oPick.outs.map (·.1)) es) ∧ Gs Pr B (oPick.outs.map (·.2)) es := fun w' x h1 h2 e => by
    refine ⟨[], [w', x], rfl, e, ?_⟩
    show Gs Pr B [.well 1, .pr 2] _
    rw [Gs, Gs, Gs]
    exact ⟨wok_g.mpr h1, pr2.mpr h2, trivial⟩
  by_cases h4 : ti < 4
  · exact fin w b (wok_mono hw (by omega)) (book_lim hb) (pick_a _ _ _ _ _ _ _ _ _ (by rw [lt_z, decide_eq_true h4]))
  · have q : cmpD .lt (.int ti) (.int 4) = some false := by rw [lt_z, decide_eq_false h4]
    obtain ⟨F, rfl, hF⟩ := hb
    have u := eq_unit F
    by_cases h0 : F = []
    · have u : cmpD .eq (.tuple F) (.tuple []) = some true := by rw [u, h0]; rfl
      exact fin w _ (wok_mono hw (by omega)) (book_lim ⟨F, rfl, hF⟩) (pick_b _ _ _ _ _ _ _ _ _ q u)
    · have u : cmpD .eq (.tuple F) (.tuple []) = some false := by
        rw [u]; cases F with
        | nil => exact absurd rfl h0
        | cons _ _ => rfl
      have hpos : 0 < F.length := List.length_pos_iff.mpr h0
      have hl := hF.len
      obtain ⟨s, w', s0, s1, hw', e⟩ := draw_w (b := (F.length : Nat)) (cdraw k) hw (by omega) (by omega) (by omega)
      obtain ⟨m, rfl⟩ : ∃ m : Nat, s = (m : Int) := ⟨s.toNat, by omega⟩
      obtain ⟨a, x, b', rfl, rfl⟩ := part_at (xs := F) (n := m) (by omega)
      exact fin w' x hw' (src_lim3 (hF.src x (by simp))) (pick_c _ _ _ _ _ _ _ _ _ _ _ _ _ q u (len_tup _) e (ix_part a x b').1)
theorem claw (k : Nat) : CtrOk Pr (cl (k + 11)) cLaw := ctr_of (ct := cl (k + 10)) k_law (fun ds => rfl) (cdraw (k + 9)) (List.forall_mem_cons.mpr ⟨cwell (k + 9), List.forall_mem_cons.mpr ⟨clib (k + 6), List.forall_mem_cons.mpr ⟨cr1 (k + 3), List.forall_mem_cons.mpr ⟨cr3 (k + 3), List.forall_mem_cons.mpr ⟨cr4 (k + 3), List.forall_mem_cons.mpr ⟨cis (k + 4), List.forall_mem_cons.mpr ⟨cb1 (k + 3), List.forall_mem_cons.mpr ⟨cb2 k, List.forall_mem_cons.mpr ⟨cod (k + 8), List.forall_mem_cons.mpr ⟨cnil (k + 4), List.forall_mem_cons.mpr ⟨cone (k + 5), nil_tbl⟩⟩⟩⟩⟩⟩⟩⟩⟩⟩⟩) (List.forall_mem_cons.mpr ⟨opick (k + 9), nil_orc⟩)
theorem law_true (ns : List Int) (h : ns.length ≤ 63) : ∃ outs, callN T (es.map DE.fn) 11 21 [.list (ns.map PyData.int)] = .ok (.bool true) outs := by
  have c := claw 0 0 [.list (ns.map PyData.int)] (by decide +kernel) (by
    show Gs Pr 0 [.lstN (.pr 0) 0 63] _
    rw [Gs, Gs]
    refine ⟨?_, trivial⟩
    rw [G]
    refine ⟨_, rfl, Nat.zero_le _, by rw [List.length_map]; exact h, fun x hx => ?_⟩
    obtain ⟨i, _, rfl⟩ := List.mem_map.mp hx
    rw [G]
    exact ⟨i, rfl⟩)
  have c : CSat Pr 0 cLaw (cl 11 21 [.list (ns.map PyData.int)]) := c
  show ∃ outs, cl 11 21 [.list (ns.map PyData.int)] = _
  cases hr : cl 11 21 [.list (ns.map PyData.int)] with
  | ok d outs =>
    rw [hr] at c
    obtain ⟨⟨a, h1, h2⟩, _⟩ := c
    have h1 : a = bl true := List.mem_singleton.mp h1
    subst h1
    unfold bl at h2
    rw [G] at h2
    subst h2
    exact ⟨outs, rfl⟩
  | exn e outs => rw [hr] at c; exact absurd c.1 (by simp [cLaw])
  | bad => rw [hr] at c; exact c.elim
end K02

set_option linter.all false
set_option maxRecDepth 100000
set_option maxHeartbeats 4000000
namespace K02
open PySem PySem.Spec L2 Z
open PyProof.Rows hiding St
theorem chk_all : ∀ (i : Nat) (e : DE), es[i]? = some e → e.chk mt ra 20 20 = true
  | 0, _, h => by cases h; exact chk0
  | 1, _, h => by cases h; exact chk1
  | 2, _, h => by cases h; exact chk2
  | 3, _, h => by cases h; exact chk3
  | 4, _, h => by cases h; exact chk4
  | 5, _, h => by cases h; exact chk5
  | 6, _, h => by cases h; exact chk6
  | 7, _, h => by cases h; exact chk7
  | 8, _, h => by cases h; exact chk8
  | 9, _, h => by cases h; exact chk9
  | 10, _, h => by cases h; exact chk10
  | 11, _, h => by cases h; exact chk11
  | 12, _, h => by cases h; exact chk12
  | 13, _, h => by cases h; exact chk13
  | 14, _, h => by cases h; exact chk14
  | 15, _, h => by cases h; exact chk15
  | 16, _, h => by cases h; exact chk16
  | 17, _, h => by cases h; exact chk17
  | 18, _, h => by cases h; exact chk18
  | 19, _, h => by cases h; exact chk19
  | 20, _, h => by cases h; exact chk20
  | 21, _, h => by cases h; exact chk21
  | _ + 22, _, h => by simp [es] at h
/-! ### the end -/
theorem all_mk {P : Program} {w : World} {K : PySem.W.Frag} {h : Heap} {mg : Str → Option Value} {fa : Addr} (X : K.In h) (G : h.Ns mainGlobals mg) (hfa : mg (Str.ofString "law") = some (.ref fa))
    {od0 an0 : Option Addr} {sl0 : Array (Option Value)} {oc0 kV0 dc0 pm0 cd0 ct0 : Value} {f0 : Addr}
    {od1 an1 : Option Addr} {sl1 : Array (Option Value)} {oc1 kV1 dc1 pm1 cd1 ct1 : Value} {f1 : Addr}
    {od2 an2 : Option Addr} {sl2 : Array (Option Value)} {oc2 kV2 dc2 pm2 cd2 ct2 : Value} {f2 : Addr}
    {od3 an3 : Option Addr} {sl3 : Array (Option Value)} {oc3 kV3 dc3 pm3 cd3 ct3 : Value} {f3 : Addr}
    {od4 an4 : Option Addr} {sl4 : Array (Option Value)} {oc4 kV4 dc4 pm4 cd4 ct4 : Value} {f4 : Addr}
    {od5 an5 : Option Addr} {sl5 : Array (Option Value)} {oc5 kV5 dc5 pm5 cd5 ct5 : Value} {f5 : Addr}
    {od6 an6 : Option Addr} {sl6 : Array (Option Value)} {oc6 kV6 dc6 pm6 cd6 ct6 : Value} {f6 : Addr}
    {od7 an7 : Option Addr} {sl7 : Array (Option Value)} {oc7 kV7 dc7 pm7 cd7 ct7 : Value} {f7 : Addr}
    {od8 an8 : Option Addr} {sl8 : Array (Option Value)} {oc8 kV8 dc8 pm8 cd8 ct8 : Value} {f8 : Addr}
    {od9 an9 : Option Addr} {sl9 : Array (Option Value)} {oc9 kV9 dc9 pm9 cd9 ct9 : Value} {f9 : Addr}
    {od10 an10 : Option Addr} {sl10 : Array (Option Value)} {oc10 kV10 dc10 pm10 cd10 ct10 : Value} {f10 : Addr}
    {od11 an11 : Option Addr} {sl11 : Array (Option Value)} {oc11 kV11 dc11 pm11 cd11 ct11 : Value} {f11 : Addr}
    {od12 an12 : Option Addr} {sl12 : Array (Option Value)} {oc12 kV12 dc12 pm12 cd12 ct12 : Value} {f12 : Addr}
    {od13 an13 : Option Addr} {sl13 : Array (Option Value)} {oc13 kV13 dc13 pm13 cd13 ct13 : Value} {f13 : Addr}
    {od14 an14 : Option Addr} {sl14 : Array (Option Value)} {oc14 kV14 dc14 pm14 cd14 ct14 : Value} {f14 : Addr}
    {od15 an15 : Option Addr} {sl15 : Array (Option Value)} {oc15 kV15 dc15 pm15 cd15 ct15 : Value} {f15 : Addr}
    {od16 an16 : Option Addr} {sl16 : Array (Option Value)} {oc16 kV16 dc16 pm16 cd16 ct16 : Value} {f16 : Addr}
    {od17 an17 : Option Addr} {sl17 : Array (Option Value)} {oc17 kV17 dc17 pm17 cd17 ct17 : Value} {f17 : Addr}
    {od18 an18 : Option Addr} {sl18 : Array (Option Value)} {oc18 kV18 dc18 pm18 cd18 ct18 : Value} {f18 : Addr}
    {od19 an19 : Option Addr} {sl19 : Array (Option Value)} {oc19 kV19 dc19 pm19 cd19 ct19 : Value} {f19 : Addr}
    {od20 an20 : Option Addr} {sl20 : Array (Option Value)} {oc20 kV20 dc20 pm20 cd20 ct20 : Value} {f20 : Addr}
    {od21 an21 : Option Addr} {sl21 : Array (Option Value)} {oc21 kV21 dc21 pm21 cd21 ct21 : Value} {f21 : Addr}
    {tk0 : Tok}
    {tk1 : Tok}
    {tk2 : Tok}
    (a0 : PySem.W.nsIn K mainGlobals (Str.ofString "is_integer") = some (some (.ref f0)))
    (l0 : K.lookup f0 = some ⟨oc0, od0, .func (PySem.W.fnOf (Str.ofString "is_integer") (Str.ofString "is_integer") (defArgs s0) (defBody s0) (defScope s0) .none kV0 dc0 pm0 an0 cd0 ct0), sl0⟩)
    (t0 : PySem.W.codeIn K cd0 (Str.ofString "is_integer") = true)
    (q0 : PySem.W.keepIn K (.ref f0) = true)
    (a1 : PySem.W.nsIn K mainGlobals (Str.ofString "are_letters") = some (some (.ref f1)))
    (l1 : K.lookup f1 = some ⟨oc1, od1, .func (PySem.W.fnOf (Str.ofString "are_letters") (Str.ofString "are_letters") (defArgs s1) (defBody s1) (defScope s1) .none kV1 dc1 pm1 an1 cd1 ct1), sl1⟩)
    (t1 : PySem.W.codeIn K cd1 (Str.ofString "are_letters") = true)
    (q1 : PySem.W.keepIn K (.ref f1) = true)
    (a2 : PySem.W.nsIn K mainGlobals (Str.ofString "is_name") = some (some (.ref f2)))
    (l2 : K.lookup f2 = some ⟨oc2, od2, .func (PySem.W.fnOf (Str.ofString "is_name") (Str.ofString "is_name") (defArgs s2) (defBody s2) (defScope s2) .none kV2 dc2 pm2 an2 cd2 ct2), sl2⟩)
    (t2 : PySem.W.codeIn K cd2 (Str.ofString "is_name") = true)
    (q2 : PySem.W.keepIn K (.ref f2) = true)
    (a3 : PySem.W.nsIn K mainGlobals (Str.ofString "is_person") = some (some (.ref f3)))
    (l3 : K.lookup f3 = some ⟨oc3, od3, .func (PySem.W.fnOf (Str.ofString "is_person") (Str.ofString "is_person") (defArgs s3) (defBody s3) (defScope s3) .none kV3 dc3 pm3 an3 cd3 ct3), sl3⟩)
    (t3 : PySem.W.codeIn K cd3 (Str.ofString "is_person") = true)
    (q3 : PySem.W.keepIn K (.ref f3) = true)
    (a4 : PySem.W.nsIn K mainGlobals (Str.ofString "is_title") = some (some (.ref f4)))
    (l4 : K.lookup f4 = some ⟨oc4, od4, .func (PySem.W.fnOf (Str.ofString "is_title") (Str.ofString "is_title") (defArgs s4) (defBody s4) (defScope s4) .none kV4 dc4 pm4 an4 cd4 ct4), sl4⟩)
    (t4 : PySem.W.codeIn K cd4 (Str.ofString "is_title") = true)
    (q4 : PySem.W.keepIn K (.ref f4) = true)
    (a5 : PySem.W.nsIn K mainGlobals (Str.ofString "are_people") = some (some (.ref f5)))
    (l5 : K.lookup f5 = some ⟨oc5, od5, .func (PySem.W.fnOf (Str.ofString "are_people") (Str.ofString "are_people") (defArgs s5) (defBody s5) (defScope s5) .none kV5 dc5 pm5 an5 cd5 ct5), sl5⟩)
    (t5 : PySem.W.codeIn K cd5 (Str.ofString "are_people") = true)
    (q5 : PySem.W.keepIn K (.ref f5) = true)
    (a6 : PySem.W.nsIn K mainGlobals (Str.ofString "is_source") = some (some (.ref f6)))
    (l6 : K.lookup f6 = some ⟨oc6, od6, .func (PySem.W.fnOf (Str.ofString "is_source") (Str.ofString "is_source") (defArgs s6) (defBody s6) (defScope s6) .none kV6 dc6 pm6 an6 cd6 ct6), sl6⟩)
    (t6 : PySem.W.codeIn K cd6 (Str.ofString "is_source") = true)
    (q6 : PySem.W.keepIn K (.ref f6) = true)
    (a7 : PySem.W.nsIn K mainGlobals (Str.ofString "is_library") = some (some (.ref f7)))
    (l7 : K.lookup f7 = some ⟨oc7, od7, .func (PySem.W.fnOf (Str.ofString "is_library") (Str.ofString "is_library") (defArgs s7) (defBody s7) (defScope s7) .none kV7 dc7 pm7 an7 cd7 ct7), sl7⟩)
    (t7 : PySem.W.codeIn K cd7 (Str.ofString "is_library") = true)
    (q7 : PySem.W.keepIn K (.ref f7) = true)
    (a8 : PySem.W.nsIn K mainGlobals (Str.ofString "_law_well") = some (some (.ref f8)))
    (l8 : K.lookup f8 = some ⟨oc8, od8, .func (PySem.W.fnOf (Str.ofString "_law_well") (Str.ofString "_law_well") (defArgs s8) (defBody s8) (defScope s8) .none kV8 dc8 pm8 an8 cd8 ct8), sl8⟩)
    (t8 : PySem.W.codeIn K cd8 (Str.ofString "_law_well") = true)
    (q8 : PySem.W.keepIn K (.ref f8) = true)
    (a9 : PySem.W.nsIn K mainGlobals (Str.ofString "_law_draw") = some (some (.ref f9)))
    (l9 : K.lookup f9 = some ⟨oc9, od9, .func (PySem.W.fnOf (Str.ofString "_law_draw") (Str.ofString "_law_draw") (defArgs s9) (defBody s9) (defScope s9) .none kV9 dc9 pm9 an9 cd9 ct9), sl9⟩)
    (t9 : PySem.W.codeIn K cd9 (Str.ofString "_law_draw") = true)
    (q9 : PySem.W.keepIn K (.ref f9) = true)
    (a10 : PySem.W.nsIn K mainGlobals (Str.ofString "_law_person") = some (some (.ref f10)))
    (l10 : K.lookup f10 = some ⟨oc10, od10, .func (PySem.W.fnOf (Str.ofString "_law_person") (Str.ofString "_law_person") (defArgs s10) (defBody s10) (defScope s10) .none kV10 dc10 pm10 an10 cd10 ct10), sl10⟩)
    (t10 : PySem.W.codeIn K cd10 (Str.ofString "_law_person") = true)
    (q10 : PySem.W.keepIn K (.ref f10) = true)
    (a11 : PySem.W.nsIn K mainGlobals (Str.ofString "_law_source") = some (some (.ref f11)))
    (l11 : K.lookup f11 = some ⟨oc11, od11, .func (PySem.W.fnOf (Str.ofString "_law_source") (Str.ofString "_law_source") (defArgs s11) (defBody s11) (defScope s11) .none kV11 dc11 pm11 an11 cd11 ct11), sl11⟩)
    (t11 : PySem.W.codeIn K cd11 (Str.ofString "_law_source") = true)
    (q11 : PySem.W.keepIn K (.ref f11) = true)
    (a12 : PySem.W.nsIn K mainGlobals (Str.ofString "_law_near") = some (some (.ref f12)))
    (l12 : K.lookup f12 = some ⟨oc12, od12, .func (PySem.W.fnOf (Str.ofString "_law_near") (Str.ofString "_law_near") (defArgs s12) (defBody s12) (defScope s12) .none kV12 dc12 pm12 an12 cd12 ct12), sl12⟩)
    (t12 : PySem.W.codeIn K cd12 (Str.ofString "_law_near") = true)
    (q12 : PySem.W.keepIn K (.ref f12) = true)
    (a13 : PySem.W.nsIn K mainGlobals (Str.ofString "_law_library") = some (some (.ref f13)))
    (l13 : K.lookup f13 = some ⟨oc13, od13, .func (PySem.W.fnOf (Str.ofString "_law_library") (Str.ofString "_law_library") (defArgs s13) (defBody s13) (defScope s13) .none kV13 dc13 pm13 an13 cd13 ct13), sl13⟩)
    (t13 : PySem.W.codeIn K cd13 (Str.ofString "_law_library") = true)
    (q13 : PySem.W.keepIn K (.ref f13) = true)
    (a14 : PySem.W.nsIn K mainGlobals (Str.ofString "_law_is_word") = some (some (.ref f14)))
    (l14 : K.lookup f14 = some ⟨oc14, od14, .func (PySem.W.fnOf (Str.ofString "_law_is_word") (Str.ofString "_law_is_word") (defArgs s14) (defBody s14) (defScope s14) .none kV14 dc14 pm14 an14 cd14 ct14), sl14⟩)
    (t14 : PySem.W.codeIn K cd14 (Str.ofString "_law_is_word") = true)
    (q14 : PySem.W.keepIn K (.ref f14) = true)
    (a15 : PySem.W.nsIn K mainGlobals (Str.ofString "_law_is_title") = some (some (.ref f15)))
    (l15 : K.lookup f15 = some ⟨oc15, od15, .func (PySem.W.fnOf (Str.ofString "_law_is_title") (Str.ofString "_law_is_title") (defArgs s15) (defBody s15) (defScope s15) .none kV15 dc15 pm15 an15 cd15 ct15), sl15⟩)
    (t15 : PySem.W.codeIn K cd15 (Str.ofString "_law_is_title") = true)
    (q15 : PySem.W.keepIn K (.ref f15) = true)
    (a16 : PySem.W.nsIn K mainGlobals (Str.ofString "_law_is_source") = some (some (.ref f16)))
    (l16 : K.lookup f16 = some ⟨oc16, od16, .func (PySem.W.fnOf (Str.ofString "_law_is_source") (Str.ofString "_law_is_source") (defArgs s16) (defBody s16) (defScope s16) .none kV16 dc16 pm16 an16 cd16 ct16), sl16⟩)
    (t16 : PySem.W.codeIn K cd16 (Str.ofString "_law_is_source") = true)
    (q16 : PySem.W.keepIn K (.ref f16) = true)
    (a17 : PySem.W.nsIn K mainGlobals (Str.ofString "_law_is_library") = some (some (.ref f17)))
    (l17 : K.lookup f17 = some ⟨oc17, od17, .func (PySem.W.fnOf (Str.ofString "_law_is_library") (Str.ofString "_law_is_library") (defArgs s17) (defBody s17) (defScope s17) .none kV17 dc17 pm17 an17 cd17 ct17), sl17⟩)
    (t17 : PySem.W.codeIn K cd17 (Str.ofString "_law_is_library") = true)
    (q17 : PySem.W.keepIn K (.ref f17) = true)
    (a18 : PySem.W.nsIn K mainGlobals (Str.ofString "_law_odd") = some (some (.ref f18)))
    (l18 : K.lookup f18 = some ⟨oc18, od18, .func (PySem.W.fnOf (Str.ofString "_law_odd") (Str.ofString "_law_odd") (defArgs s18) (defBody s18) (defScope s18) .none kV18 dc18 pm18 an18 cd18 ct18), sl18⟩)
    (t18 : PySem.W.codeIn K cd18 (Str.ofString "_law_odd") = true)
    (q18 : PySem.W.keepIn K (.ref f18) = true)
    (a19 : PySem.W.nsIn K mainGlobals (Str.ofString "_law_bent") = some (some (.ref f19)))
    (l19 : K.lookup f19 = some ⟨oc19, od19, .func (PySem.W.fnOf (Str.ofString "_law_bent") (Str.ofString "_law_bent") (defArgs s19) (defBody s19) (defScope s19) .none kV19 dc19 pm19 an19 cd19 ct19), sl19⟩)
    (t19 : PySem.W.codeIn K cd19 (Str.ofString "_law_bent") = true)
    (q19 : PySem.W.keepIn K (.ref f19) = true)
    (a20 : PySem.W.nsIn K mainGlobals (Str.ofString "_law_right") = some (some (.ref f20)))
    (l20 : K.lookup f20 = some ⟨oc20, od20, .func (PySem.W.fnOf (Str.ofString "_law_right") (Str.ofString "_law_right") (defArgs s20) (defBody s20) (defScope s20) .none kV20 dc20 pm20 an20 cd20 ct20), sl20⟩)
    (t20 : PySem.W.codeIn K cd20 (Str.ofString "_law_right") = true)
    (q20 : PySem.W.keepIn K (.ref f20) = true)
    (a21 : PySem.W.nsIn K mainGlobals (Str.ofString "law") = some (some (.ref f21)))
    (l21 : K.lookup f21 = some ⟨oc21, od21, .func (PySem.W.fnOf (Str.ofString "law") (Str.ofString "law") (defArgs s21) (defBody s21) (defScope s21) .none kV21 dc21 pm21 an21 cd21 ct21), sl21⟩)
    (t21 : PySem.W.codeIn K cd21 (Str.ofString "law") = true)
    (q21 : PySem.W.keepIn K (.ref f21) = true)
    (z0 : PySem.W.nsIn K mainGlobals (Str.ofString "isinstance") = some none)
    (z1 : PySem.W.nsIn K mainGlobals (Str.ofString "bool") = some none)
    (z2 : PySem.W.nsIn K mainGlobals (Str.ofString "int") = some none)
    (z3 : PySem.W.nsIn K mainGlobals (Str.ofString "str") = some none)
    (z4 : PySem.W.nsIn K mainGlobals (Str.ofString "all") = some none)
    (z5 : PySem.W.nsIn K mainGlobals (Str.ofString "len") = some none)
    (z6 : PySem.W.nsIn K mainGlobals (Str.ofString "tuple") = some none)
    (z7 : PySem.W.nsIn K mainGlobals (Str.ofString "set") = some none)
    (z8 : PySem.W.nsIn K mainGlobals (Str.ofString "max") = some none)
    (z9 : PySem.W.nsIn K mainGlobals (Str.ofString "abs") = some none)
    (z10 : PySem.W.nsIn K mainGlobals (Str.ofString "range") = some none)
    (z11 : PySem.W.nsIn K mainGlobals (Str.ofString "list") = some none)
    (z12 : PySem.W.nsIn K mainGlobals (Str.ofString "repr") = some none)
    (z13 : PySem.W.nsIn K mainGlobals (Str.ofString "min") = some none)
    (g0 : PySem.W.nsIn K mainGlobals (Str.ofString "LETTERS") = some (some (.str (Str.ofString "abcdefghijklmnopqrstuvwxyz") tk0)))
    (g1 : PySem.W.nsIn K mainGlobals (Str.ofString "LONGEST_NAME") = some (some (.int 12 tk1)))
    (g2 : PySem.W.nsIn K mainGlobals (Str.ofString "LONGEST_TITLE") = some (some (.int 40 tk2))) :
    ∃ (fd : FuncData) (sp : Sp), (∀ (s : Shared) (u : Value), BindsTo s fd ⟨[u], []⟩ [(Str.ofString "script", u)]) ∧ (∀ base : Heap, K.In base → base.Ns mainGlobals mg → FnG P w K mg base 11 fa fd [Str.ofString "script"] sp) ∧
      ∀ (H : Hp) (a : Addr) (ns : List Int), ns.length ≤ 63 → SqL K H a (ns.map V.int) → sp [.ref a] H (fun v _ => v = .bl true) fun _ _ _ => False := by
  obtain rfl : f21 = fa := by
    have e := (PySem.W.mg_of X G a21).symm.trans hfa
    injection e with e; injection e
  let ex : Nat → Addr := fun n => [].getD n 0
  have hm : Mo K mg mt ra T ex := by
    refine ⟨?_, ?_, ?_, ?_, ?_⟩
    · intro x hx
      simp only [mt, List.mem_cons, List.not_mem_nil, or_false] at hx
      rcases hx with rfl | rfl | rfl | rfl | rfl | rfl | rfl | rfl | rfl | rfl | rfl | rfl | rfl | rfl
      · exact PySem.W.mg_none_of X G z0
      · exact PySem.W.mg_none_of X G z1
      · exact PySem.W.mg_none_of X G z2
      · exact PySem.W.mg_none_of X G z3
      · exact PySem.W.mg_none_of X G z4
      · exact PySem.W.mg_none_of X G z5
      · exact PySem.W.mg_none_of X G z6
      · exact PySem.W.mg_none_of X G z7
      · exact PySem.W.mg_none_of X G z8
      · exact PySem.W.mg_none_of X G z9
      · exact PySem.W.mg_none_of X G z10
      · exact PySem.W.mg_none_of X G z11
      · exact PySem.W.mg_none_of X G z12
      · exact PySem.W.mg_none_of X G z13
    · intro x hx d hd
      simp only [mt, List.mem_cons, List.not_mem_nil, or_false] at hx
      rcases hx with rfl | rfl | rfl
      · have e : T.gv (Str.ofString "LETTERS") = some (.str (Str.ofString "abcdefghijklmnopqrstuvwxyz")) := by rfl
        cases e.symm.trans hd
        exact ⟨.str (Str.ofString "abcdefghijklmnopqrstuvwxyz"), _, PySem.W.mg_of X G g0, ⟨_, rfl⟩, fun _ _ => .str _⟩
      · have e : T.gv (Str.ofString "LONGEST_NAME") = some (.int 12) := by rfl
        cases e.symm.trans hd
        exact ⟨.int 12, _, PySem.W.mg_of X G g1, ⟨_, rfl⟩, fun _ _ => .int _⟩
      · have e : T.gv (Str.ofString "LONGEST_TITLE") = some (.int 40) := by rfl
        cases e.symm.trans hd
        exact ⟨.int 40, _, PySem.W.mg_of X G g2, ⟨_, rfl⟩, fun _ _ => .int _⟩
    · intro x n hx
      cases hx
    · intro x n hx
      cases hx
    · intro n c b hb
      cases hb
  have F0 : Fun K e0.x e0.x e0.st f0 _ := fun_mk (st := s0) l0 t0 q0
  have b0 := F0.binds (ps := e0.ps) fun _ _ _ _ _ _ us hl => match us, hl with | [_, _, _], _ => rfl
  have F1 : Fun K e1.x e1.x e1.st f1 _ := fun_mk (st := s1) l1 t1 q1
  have b1 := F1.binds (ps := e1.ps) fun _ _ _ _ _ _ us hl => match us, hl with | [_], _ => rfl
  have F2 : Fun K e2.x e2.x e2.st f2 _ := fun_mk (st := s2) l2 t2 q2
  have b2 := F2.binds (ps := e2.ps) fun _ _ _ _ _ _ us hl => match us, hl with | [_], _ => rfl
  have F3 : Fun K e3.x e3.x e3.st f3 _ := fun_mk (st := s3) l3 t3 q3
  have b3 := F3.binds (ps := e3.ps) fun _ _ _ _ _ _ us hl => match us, hl with | [_], _ => rfl
  have F4 : Fun K e4.x e4.x e4.st f4 _ := fun_mk (st := s4) l4 t4 q4
  have b4 := F4.binds (ps := e4.ps) fun _ _ _ _ _ _ us hl => match us, hl with | [_], _ => rfl
  have F5 : Fun K e5.x e5.x e5.st f5 _ := fun_mk (st := s5) l5 t5 q5
  have b5 := F5.binds (ps := e5.ps) fun _ _ _ _ _ _ us hl => match us, hl with | [_], _ => rfl
  have F6 : Fun K e6.x e6.x e6.st f6 _ := fun_mk (st := s6) l6 t6 q6
  have b6 := F6.binds (ps := e6.ps) fun _ _ _ _ _ _ us hl => match us, hl with | [_], _ => rfl
  have F7 : Fun K e7.x e7.x e7.st f7 _ := fun_mk (st := s7) l7 t7 q7
  have b7 := F7.binds (ps := e7.ps) fun _ _ _ _ _ _ us hl => match us, hl with | [_], _ => rfl
  have F8 : Fun K e8.x e8.x e8.st f8 _ := fun_mk (st := s8) l8 t8 q8
  have b8 := F8.binds (ps := e8.ps) fun _ _ _ _ _ _ us hl => match us, hl with | [_, _], _ => rfl
  have F9 : Fun K e9.x e9.x e9.st f9 _ := fun_mk (st := s9) l9 t9 q9
  have b9 := F9.binds (ps := e9.ps) fun _ _ _ _ _ _ us hl => match us, hl with | [_, _], _ => rfl
  have F10 : Fun K e10.x e10.x e10.st f10 _ := fun_mk (st := s10) l10 t10 q10
  have b10 := F10.binds (ps := e10.ps) fun _ _ _ _ _ _ us hl => match us, hl with | [_], _ => rfl
  have F11 : Fun K e11.x e11.x e11.st f11 _ := fun_mk (st := s11) l11 t11 q11
  have b11 := F11.binds (ps := e11.ps) fun _ _ _ _ _ _ us hl => match us, hl with | [_, _], _ => rfl
  have F12 : Fun K e12.x e12.x e12.st f12 _ := fun_mk (st := s12) l12 t12 q12
  have b12 := F12.binds (ps := e12.ps) fun _ _ _ _ _ _ us hl => match us, hl with | [_, _], _ => rfl
  have F13 : Fun K e13.x e13.x e13.st f13 _ := fun_mk (st := s13) l13 t13 q13
  have b13 := F13.binds (ps := e13.ps) fun _ _ _ _ _ _ us hl => match us, hl with | [_, _, _], _ => rfl
  have F14 : Fun K e14.x e14.x e14.st f14 _ := fun_mk (st := s14) l14 t14 q14
  have b14 := F14.binds (ps := e14.ps) fun _ _ _ _ _ _ us hl => match us, hl with | [_, _], _ => rfl
  have F15 : Fun K e15.x e15.x e15.st f15 _ := fun_mk (st := s15) l15 t15 q15
  have b15 := F15.binds (ps := e15.ps) fun _ _ _ _ _ _ us hl => match us, hl with | [_], _ => rfl
  have F16 : Fun K e16.x e16.x e16.st f16 _ := fun_mk (st := s16) l16 t16 q16
  have b16 := F16.binds (ps := e16.ps) fun _ _ _ _ _ _ us hl => match us, hl with | [_], _ => rfl
  have F17 : Fun K e17.x e17.x e17.st f17 _ := fun_mk (st := s17) l17 t17 q17
  have b17 := F17.binds (ps := e17.ps) fun _ _ _ _ _ _ us hl => match us, hl with | [_], _ => rfl
  have F18 : Fun K e18.x e18.x e18.st f18 _ := fun_mk (st := s18) l18 t18 q18
  have b18 := F18.binds (ps := e18.ps) fun _ _ _ _ _ _ us hl => match us, hl with | [_], _ => rfl
  have F19 : Fun K e19.x e19.x e19.st f19 _ := fun_mk (st := s19) l19 t19 q19
  have b19 := F19.binds (ps := e19.ps) fun _ _ _ _ _ _ us hl => match us, hl with | [_, _], _ => rfl
  have F20 : Fun K e20.x e20.x e20.st f20 _ := fun_mk (st := s20) l20 t20 q20
  have b20 := F20.binds (ps := e20.ps) fun _ _ _ _ _ _ us hl => match us, hl with | [_], _ => rfl
  have F21 : Fun K e21.x e21.x e21.st f21 _ := fun_mk (st := s21) l21 t21 q21
  have b21 := F21.binds (ps := e21.ps) fun _ _ _ _ _ _ us hl => match us, hl with | [_], _ => rfl
  have dl : DL K mg es _ := (.cons ⟨F0, PySem.W.mg_of X G a0, b0, (fun q hq => by cases hq)⟩ (.cons ⟨F1, PySem.W.mg_of X G a1, b1, (fun q hq => by cases hq)⟩ (.cons ⟨F2, PySem.W.mg_of X G a2, b2, (fun q hq => by cases hq)⟩ (.cons ⟨F3, PySem.W.mg_of X G a3, b3, (fun q hq => by cases hq)⟩ (.cons ⟨F4, PySem.W.mg_of X G a4, b4, (fun q hq => by cases hq)⟩ (.cons ⟨F5, PySem.W.mg_of X G a5, b5, (fun q hq => by cases hq)⟩ (.cons ⟨F6, PySem.W.mg_of X G a6, b6, (List.forall_mem_cons.mpr ⟨kb_of (np := 0) (by simp [e6]) (fun us ws h1 h2 => match us, ws, h1, h2 with | [], [_], _, _ => rfl), (fun q hq => by cases hq)⟩)⟩ (.cons ⟨F7, PySem.W.mg_of X G a7, b7, (List.forall_mem_cons.mpr ⟨kb_of (np := 0) (by simp [e7]) (fun us ws h1 h2 => match us, ws, h1, h2 with | [], [_], _, _ => rfl), (fun q hq => by cases hq)⟩)⟩ (.cons ⟨F8, PySem.W.mg_of X G a8, b8, (fun q hq => by cases hq)⟩ (.cons ⟨F9, PySem.W.mg_of X G a9, b9, (fun q hq => by cases hq)⟩ (.cons ⟨F10, PySem.W.mg_of X G a10, b10, (fun q hq => by cases hq)⟩ (.cons ⟨F11, PySem.W.mg_of X G a11, b11, (fun q hq => by cases hq)⟩ (.cons ⟨F12, PySem.W.mg_of X G a12, b12, (fun q hq => by cases hq)⟩ (.cons ⟨F13, PySem.W.mg_of X G a13, b13, (fun q hq => by cases hq)⟩ (.cons ⟨F14, PySem.W.mg_of X G a14, b14, (fun q hq => by cases hq)⟩ (.cons ⟨F15, PySem.W.mg_of X G a15, b15, (fun q hq => by cases hq)⟩ (.cons ⟨F16, PySem.W.mg_of X G a16, b16, (fun q hq => by cases hq)⟩ (.cons ⟨F17, PySem.W.mg_of X G a17, b17, (fun q hq => by cases hq)⟩ (.cons ⟨F18, PySem.W.mg_of X G a18, b18, (fun q hq => by cases hq)⟩ (.cons ⟨F19, PySem.W.mg_of X G a19, b19, (fun q hq => by cases hq)⟩ (.cons ⟨F20, PySem.W.mg_of X G a20, b20, (fun q hq => by cases hq)⟩ (.cons ⟨F21, PySem.W.mg_of X G a21, b21, (fun q hq => by cases hq)⟩ .nil))))))))))))))))))))))
  have hd := fun (i : Nat) (e : DE) (hi : es[i]? = some e) => (show DOk K mg e _ _ ∧ e.chk mt ra 20 20 = true from ⟨DL.get (q := (f0, PySem.W.fnOf (Str.ofString "is_integer") (Str.ofString "is_integer") (defArgs s0) (defBody s0) (defScope s0) .none kV0 dc0 pm0 an0 cd0 ct0)) dl i e hi, chk_all i e hi⟩)
  refine ⟨_, spF K e21.fn (callN T (es.map DE.fn) 11) 21 ex, fun s u => .of_eq rfl, fun base _ _ => fnG_all (P := P) (w := w) hm tb_ok _ _ hd base 11 21 e21 rfl, fun H a ns hn hS => ?_⟩
  obtain ⟨outs, ho⟩ := law_true ns hn
  exact sp_law rfl ho hS
end K02
open PySem PySem.W PyProof.Rows
set_option maxRecDepth 100000 in
set_option maxHeartbeats 0 in
theorem PySem.Challenge.cw_sourcelabels_k02_sources_and_libraries_j_holds : PySem.Challenge.rw_sourcelabels_k02_sources_and_libraries_j.Holds := by
  w_on; o_law; k_head; (case hw => w_witness2)
  k_fill
  refine Z.walkZ (l := PySem.Challenge.rw_sourcelabels_k02_sources_and_libraries_j) (n := 63) (k := 11) (x := PySem.Str.ofString "script") rfl (by decide) rfl ⟨rfl, by decide, by decide⟩ (fun w h Y => PySem.W.kIn_of Y) ?F
  case F =>
    intro w mg fa h KX G hmg
    refine' K02.all_mk KX G hmg ?w_a0 ?w_l0 ?w_t0 ?w_q0 ?w_a1 ?w_l1 ?w_t1 ?w_q1 ?w_a2 ?w_l2 ?w_t2 ?w_q2 ?w_a3 ?w_l3 ?w_t3 ?w_q3 ?w_a4 ?w_l4 ?w_t4 ?w_q4 ?w_a5 ?w_l5 ?w_t5 ?w_q5 ?w_a6 ?w_l6 ?w_t6 ?w_q6 ?w_a7 ?w_l7 ?w_t7 ?w_q7 ?w_a8 ?w_l8 ?w_t8 ?w_q8 ?w_a9 ?w_l9 ?w_t9 ?w_q9 ?w_a10 ?w_l10 ?w_t10 ?w_q10 ?w_a11 ?w_l11 ?w_t11 ?w_q11 ?w_a12 ?w_l12 ?w_t12 ?w_q12 ?w_a13 ?w_l13 ?w_t13 ?w_q13 ?w_a14 ?w_l14 ?w_t14 ?w_q14 ?w_a15 ?w_l15 ?w_t15 ?w_q15 ?w_a16 ?w_l16 ?w_t16 ?w_q16 ?w_a17 ?w_l17 ?w_t17 ?w_q17 ?w_a18 ?w_l18 ?w_t18 ?w_q18 ?w_a19 ?w_l19 ?w_t19 ?w_q19 ?w_a20 ?w_l20 ?w_t20 ?w_q20 ?w_a21 ?w_l21 ?w_t21 ?w_q21 ?w_z0 ?w_z1 ?w_z2 ?w_z3 ?w_z4 ?w_z5 ?w_z6 ?w_z7 ?w_z8 ?w_z9 ?w_z10 ?w_z11 ?w_z12 ?w_z13 ?w_g0 ?w_g1 ?w_g2
    (case w_a0 => first | k_is | rfl)
    (case w_l0 => first | k_is | rfl)
    (case w_t0 => first | k_is | rfl)
    (case w_q0 => first | k_is | rfl)
    (case w_a1 => first | k_is | rfl)
    (case w_l1 => first | k_is | rfl)
    (case w_t1 => first | k_is | rfl)
    (case w_q1 => first | k_is | rfl)
    (case w_a2 => first | k_is | rfl)
    (case w_l2 => first | k_is | rfl)
    (case w_t2 => first | k_is | rfl)
    (case w_q2 => first | k_is | rfl)
    (case w_a3 => first | k_is | rfl)
    (case w_l3 => first | k_is | rfl)
    (case w_t3 => first | k_is | rfl)
    (case w_q3 => first | k_is | rfl)
    (case w_a4 => first | k_is | rfl)
    (case w_l4 => first | k_is | rfl)
    (case w_t4 => first | k_is | rfl)
    (case w_q4 => first | k_is | rfl)
    (case w_a5 => first | k_is | rfl)
    (case w_l5 => first | k_is | rfl)
    (case w_t5 => first | k_is | rfl)
    (case w_q5 => first | k_is | rfl)
    (case w_a6 => first | k_is | rfl)
    (case w_l6 => first | k_is | rfl)
    (case w_t6 => first | k_is | rfl)
    (case w_q6 => first | k_is | rfl)
    (case w_a7 => first | k_is | rfl)
    (case w_l7 => first | k_is | rfl)
    (case w_t7 => first | k_is | rfl)
    (case w_q7 => first | k_is | rfl)
    (case w_a8 => first | k_is | rfl)
    (case w_l8 => first | k_is | rfl)
    (case w_t8 => first | k_is | rfl)
    (case w_q8 => first | k_is | rfl)
    (case w_a9 => first | k_is | rfl)
    (case w_l9 => first | k_is | rfl)
    (case w_t9 => first | k_is | rfl)
    (case w_q9 => first | k_is | rfl)
    (case w_a10 => first | k_is | rfl)
    (case w_l10 => first | k_is | rfl)
    (case w_t10 => first | k_is | rfl)
    (case w_q10 => first | k_is | rfl)
    (case w_a11 => first | k_is | rfl)
    (case w_l11 => first | k_is | rfl)
    (case w_t11 => first | k_is | rfl)
    (case w_q11 => first | k_is | rfl)
    (case w_a12 => first | k_is | rfl)
    (case w_l12 => first | k_is | rfl)
    (case w_t12 => first | k_is | rfl)
    (case w_q12 => first | k_is | rfl)
    (case w_a13 => first | k_is | rfl)
    (case w_l13 => first | k_is | rfl)
    (case w_t13 => first | k_is | rfl)
    (case w_q13 => first | k_is | rfl)
    (case w_a14 => first | k_is | rfl)
    (case w_l14 => first | k_is | rfl)
    (case w_t14 => first | k_is | rfl)
    (case w_q14 => first | k_is | rfl)
    (case w_a15 => first | k_is | rfl)
    (case w_l15 => first | k_is | rfl)
    (case w_t15 => first | k_is | rfl)
    (case w_q15 => first | k_is | rfl)
    (case w_a16 => first | k_is | rfl)
    (case w_l16 => first | k_is | rfl)
    (case w_t16 => first | k_is | rfl)
    (case w_q16 => first | k_is | rfl)
    (case w_a17 => first | k_is | rfl)
    (case w_l17 => first | k_is | rfl)
    (case w_t17 => first | k_is | rfl)
    (case w_q17 => first | k_is | rfl)
    (case w_a18 => first | k_is | rfl)
    (case w_l18 => first | k_is | rfl)
    (case w_t18 => first | k_is | rfl)
    (case w_q18 => first | k_is | rfl)
    (case w_a19 => first | k_is | rfl)
    (case w_l19 => first | k_is | rfl)
    (case w_t19 => first | k_is | rfl)
    (case w_q19 => first | k_is | rfl)
    (case w_a20 => first | k_is | rfl)
    (case w_l20 => first | k_is | rfl)
    (case w_t20 => first | k_is | rfl)
    (case w_q20 => first | k_is | rfl)
    (case w_a21 => first | k_is | rfl)
    (case w_l21 => first | k_is | rfl)
    (case w_t21 => first | k_is | rfl)
    (case w_q21 => first | k_is | rfl)
    (case w_z0 => first | k_is | rfl)
    (case w_z1 => first | k_is | rfl)
    (case w_z2 => first | k_is | rfl)
    (case w_z3 => first | k_is | rfl)
    (case w_z4 => first | k_is | rfl)
    (case w_z5 => first | k_is | rfl)
    (case w_z6 => first | k_is | rfl)
    (case w_z7 => first | k_is | rfl)
    (case w_z8 => first | k_is | rfl)
    (case w_z9 => first | k_is | rfl)
    (case w_z10 => first | k_is | rfl)
    (case w_z11 => first | k_is | rfl)
    (case w_z12 => first | k_is | rfl)
    (case w_z13 => first | k_is | rfl)
    (case w_g0 => first | k_is | rfl)
    (case w_g1 => first | k_is | rfl)
    (case w_g2 => first | k_is | rfl)

