import PyProof.Rows.All
import PySem.Syntax
import PyProof.Claim2
import PyProof.ReprReads
import PyProof.RangeIter
import Wide.All
import OpenK.AllK
import Wide.FinOn
import HandS.ForMost
import HandS.Exc
import HandS.TryOnly
import HandS.TryMany
import HandS.ExcOwn
import HandS.Wide
import HandS.Lambda
import HandS.TupAny
import HandS.TupMul
import HandS.Star
import KE.KTupSum
import KE.KIndexOf
import HandS.IsInst
import HandS.TupLen
import HandS.Strs
import HandS.Iter
import HandS.Zip
import HandS.Comp
import HandS.ReCall
import HandS.Small
import HandS.DictComp
import KE.GoesZip
import KE.GoesEnum
import KE.GoesMore
import KE.KExcSuper
import KE.KExcInit
import KE.KExcLine
import HandS.ExcInit
import HandS.ExcField
import HandS.SortKw
import KE.DataMinMax
import HandS.Style
import HandS.HeadHook4
import HandS.Head0
import HandS.Head1
import HandS.Head2
import HandS.EndTab
import PyProof.ExcBaseAll.ValueError
import PyProof.InstStoreFacts
import HandS.NestedK
import PySem.Challenge.RW_monicsums_k82_ends_and_errors_of_stoppin
section
set_option Elab.async false
set_option linter.all false
set_option maxRecDepth 100000
/-! MpCore: a small pure semantics ("mini Python"): data D, code C, its evaluation. Executable; its soundness over the model is shown elsewhere. -/
namespace Mp
open PySem

/-- data: what a Python value is, without addresses; ref n: the n-th object of the store (a list or dict handed down by reference); gdc: a dict of the module's top, only looked at -/
inductive D where
  | non | bl (b : Bool) | int (i : Int) | str (s : PySem.Str)
  | tup (xs : List D) | lst (xs : List D) | dic (kvs : List (D × D))
  | ref (n : Nat) | fn (n : Nat) | cls (n : Nat) | clo (n : Nat) (xs : List D) | exc (k : Nat) (v : D)
  | gdc (kvs : List (D × D))
  deriving Inhabited

/-! ### equality, keys -/
mutual
def D.eqv : D → D → Bool
  | .non, .non => true
  | .bl a, .bl b => a == b
  | .bl a, .int j => (if a then 1 else 0) == j
  | .int i, .bl b => i == (if b then 1 else 0)
  | .int i, .int j => i == j
  | .str x, .str y => x == y
  | .lst xs, .lst ys => D.eqvL xs ys
  | .tup xs, .tup ys => D.eqvL xs ys
  | _, _ => false
def D.eqvL : List D → List D → Bool
  | [], [] => true
  | x :: xs, y :: ys => D.eqv x y && D.eqvL xs ys
  | _, _ => false
end
/-- data of flat things, lists and tuples, not too deep -/
def D.okEq : Nat → D → Bool
  | _, .non => true | _, .bl _ => true | _, .int _ => true
  | _, .str x => x.cps.all (· < 0x110000)
  | n + 1, .tup xs => xs.all (D.okEq n)
  | n + 1, .lst xs => xs.all (D.okEq n)
  | _, _ => false
def EQD : Nat := 12
def D.eq? (a b : D) : Option Bool := if a.okEq EQD && b.okEq EQD then some (D.eqv a b) else none
/-- keys: ints and texts, or tuples of them -/
def D.key1 : D → Bool
  | .int _ => true | .str _ => true | _ => false
def D.keyOk : D → Bool
  | .tup xs => xs.all D.key1
  | d => d.key1
def D.isT : D → Bool
  | .tup _ => true | _ => false
/-- a key of the form of the others -/
def D.fits (kvs : List (D × D)) (k : D) : Bool := k.keyOk && (match kvs with | [] => true | p :: _ => p.1.isT == k.isT)
def D.look (kvs : List (D × D)) (k : D) : Option D := (kvs.find? fun p => D.eqv p.1 k).map (·.2)
def D.put : List (D × D) → D → D → List (D × D)
  | [], k, v => [(k, v)]
  | (k', v') :: r, k, v => if D.eqv k' k then (k', v) :: r else (k', v') :: D.put r k v
def D.drop (kvs : List (D × D)) (k : D) : List (D × D) := kvs.filter fun p => !D.eqv p.1 k
/-- no reference, def, closure, exception within -/
def D.pure : Nat → D → Bool
  | _, .non => true | _, .bl _ => true | _, .int _ => true | _, .str _ => true
  | n + 1, .tup xs => xs.all (D.pure n)
  | n + 1, .lst xs => xs.all (D.pure n)
  | n + 1, .dic kvs => kvs.all fun p => D.pure n p.1 && D.pure n p.2
  | _, _ => false
def PUD : Nat := 12

/-- which built-in type -/
def D.tyN : D → Option Nat
  | .non => some 0 | .bl _ => some 1 | .int _ => some 2 | .str _ => some 3 | .tup _ => some 4 | .lst _ => some 5 | _ => none
/-! ### operations on data -/
inductive Op1 where
  | neg | len | abs | int | tuple | list | sum | all | any | min | max | sorted | repr | str | isN | notN | dict | set | bool
  | isInt | isBool | isTup | isLst | isStr | isDic | revs | id
  deriving DecidableEq, Inhabited
inductive Op2 where
  | add | sub | mul | fdiv | mod | pow | eq | ne | lt | le | gt | ge | isin | notin | idx | slL | slU | slBack | slStep | min2 | max2 | maxD | count | index | get1
  deriving DecidableEq, Inhabited
inductive Op3 where
  | slLU | get2
  deriving DecidableEq, Inhabited

def LINE : Nat := 1000000
abbrev fresh (d : D) : Option (D × Bool) := some (d, true)
abbrev val (d : D) : Option (D × Bool) := some (d, false)
def short (xs : List D) : Bool := Nat.ble xs.length LINE
def ints? : List D → Option (List Int)
  | [] => some []
  | .int i :: r => (ints? r).map (i :: ·)
  | _ :: _ => none
def bools? : List D → Option (List Bool)
  | [] => some []
  | .bl b :: r => (bools? r).map (b :: ·)
  | _ :: _ => none
/-- a place that may be counted from the end -/
def ixN (n : Nat) (i : Int) : Option Nat := if 0 ≤ i then (if i < n then some i.toNat else none) else if -(n : Int) ≤ i then some (i + n).toNat else none
def clip (n : Nat) (i : Int) : Nat := if i < 0 then (i + n).toNat else min i.toNat n
def cut (xs : List D) (lo hi : Nat) : List D := (xs.drop lo).take (hi - lo)
/-- xs[a::-1] -/
def backFrom (xs : List D) (i : Int) : List D := if i < 0 then (if i + xs.length < 0 then [] else (xs.take ((i + xs.length).toNat + 1)).reverse) else (xs.take (i.toNat + 1)).reverse
/-- every k-th item -/
def every (k : Nat) : Nat → List D → List D
  | 0, _ => []
  | _, [] => []
  | n + 1, x :: r => x :: every k n (r.drop (k - 1))
def big (i : Int) : Bool := Nat.ble (2 ^ 4000) i.natAbs
def small (i : Int) : Bool := Nat.blt i.natAbs (2 ^ 64)

/-- the order of ints, texts, tuples of these -/
def D.ltFlat : D → D → Option Bool
  | .int i, .int j => some (decide (i < j))
  | _, _ => none
def ltInts : List Int → List Int → Bool
  | _, [] => false
  | [], _ :: _ => true
  | x :: xs, y :: ys => if x = y then ltInts xs ys else decide (x < y)
def insI (x : Int) : List Int → List Int
  | [] => [x]
  | y :: r => if x < y then x :: y :: r else y :: insI x r
def sortI (xs : List Int) : List Int := xs.foldr insI []
def insT (x : List Int) : List (List Int) → List (List Int)
  | [] => [x]
  | y :: r => if ltInts x y then x :: y :: r else y :: insT x r
def sortT (xs : List (List Int)) : List (List Int) := xs.foldr insT []
def tups? : List D → Option (List (List Int))
  | [] => some []
  | .tup xs :: r => match ints? xs, tups? r with
    | some i, some t => some (i :: t)
    | _, _ => none
  | _ :: _ => none
def sorted? (xs : List D) : Option (List D) := match ints? xs with
  | some is => some ((sortI is).map .int)
  | none => (tups? xs).map fun ts => (sortT ts).map fun t => .tup (t.map .int)

def items? : D → Option (List D)
  | .tup xs => some xs
  | .lst xs => some xs
  | .dic kvs => some (kvs.map (·.1))
  | _ => none

def strOf (s : String) : PySem.Str := PySem.Str.ofString s
def catS (a b : PySem.Str) : PySem.Str := ⟨a.cps ++ b.cps⟩
def plainCp (c : Nat) : Bool := 32 ≤ c && c < 127 && c != 39 && c != 92
def toP : D → PyData
  | .non => .none
  | .bl b => .bool b
  | .int i => .int i
  | .str x => .str x
  | .tup xs => .tuple (toPs xs)
  | .lst xs => .list (toPs xs)
  | _ => .none
where toPs : List D → List PyData
  | [] => []
  | d :: ds => toP d :: toPs ds
/-- repr -/
def D.rep (d : D) : Option PySem.Str := match d with
  | .dic [] => some (PyData.dict []).shown
  | d => if d.okEq EQD && (toP d).showable && Nat.ble (toP d).shown.length LINE then some (toP d).shown else none

def ap1 : Op1 → D → Option (D × Bool)
  | .neg, .int i => val (.int (-i))
  | .len, .str s => if Nat.ble s.cps.size LINE then val (.int s.cps.size) else none
  | .len, .tup xs => val (.int xs.length)
  | .len, .lst xs => val (.int xs.length)
  | .len, .dic kvs => val (.int kvs.length)
  | .abs, .int i => val (.int (if i < 0 then -i else i))
  | .int, .int i => val (.int i)
  | .int, .bl b => val (.int (if b then 1 else 0))
  | .tuple, .tup xs => val (.tup xs)
  | .tuple, .lst xs => val (.tup xs)
  | .list, .tup xs => fresh (.lst xs)
  | .list, .lst xs => fresh (.lst xs)
  | .sum, .tup xs => (ints? xs).bind fun is => val (.int is.sum)
  | .sum, .lst xs => (ints? xs).bind fun is => val (.int is.sum)
  | .all, .lst xs => (bools? xs).bind fun bs => val (.bl (bs.all id))
  | .any, .lst xs => (bools? xs).bind fun bs => val (.bl (bs.any id))
  | .min, d => ((items? d).bind ints?).bind fun is => match is with
    | [] => none
    | i :: r => val (.int (r.foldl (fun a b => if b < a then b else a) i))
  | .max, d => ((items? d).bind ints?).bind fun is => match is with
    | [] => none
    | i :: r => val (.int (r.foldl (fun a b => if b > a then b else a) i))
  | .sorted, d => ((items? d).bind sorted?).bind fun xs => fresh (.lst xs)
  | .repr, d => d.rep.bind fun s => val (.str s)
  | .isN, d => val (.bl (match d with | .non => true | _ => false))
  | .notN, d => val (.bl (match d with | .non => false | _ => true))
  | .isInt, d => (D.tyN d).bind fun n => val (.bl (n == 2 || n == 1))
  | .isBool, d => (D.tyN d).bind fun n => val (.bl (n == 1))
  | .isTup, d => (D.tyN d).bind fun n => val (.bl (n == 4))
  | .isLst, d => (D.tyN d).bind fun n => val (.bl (n == 5))
  | .isStr, d => (D.tyN d).bind fun n => val (.bl (n == 3))
  | .isDic, d => (D.tyN d).bind fun n => val (.bl (n == 6))
  | .revs, .lst xs => fresh (.lst xs.reverse)
  | _, _ => none

def mxD (e : Int) : List Int → Int
  | [] => e
  | i :: r => r.foldl (fun a b => if b > a then b else a) i
def ap2 : Op2 → D → D → Option (D × Bool)
  | .add, .int i, .int j => val (.int (i + j))
  | .add, .str a, .str b => if Nat.ble (a.cps.size + b.cps.size) LINE then val (.str (catS a b)) else none
  | .add, .tup xs, .tup ys => if short (xs ++ ys) then val (.tup (xs ++ ys)) else none
  | .add, .lst xs, .lst ys => if short (xs ++ ys) then fresh (.lst (xs ++ ys)) else none
  | .sub, .int i, .int j => val (.int (i - j))
  | .mul, .int i, .int j => if small i || small j || (!big i && !big j) then val (.int (i * j)) else none
  | .mul, .tup xs, .int k => if -100000 ≤ k && k ≤ 1000 && Nat.ble xs.length 1000 then val (.tup (List.replicate k.toNat xs).flatten) else none
  | .mul, .lst xs, .int k => if -100000 ≤ k && k ≤ 100000 && Nat.ble (xs.length * k.toNat) LINE then fresh (.lst (List.replicate k.toNat xs).flatten) else none
  | .fdiv, .int i, .int j => if j = 0 then none else if Nat.blt j.natAbs 1073741824 then val (.int (i.fdiv j)) else if 0 < j && !big j then val (.int (i.fdiv j)) else none
  | .mod, .int i, .int j => if j = 0 then none else val (.int (i.fmod j))
  | .pow, .int i, .int j => if 0 ≤ j && j ≤ 1000 && !big i then val (.int (i ^ j.toNat)) else none
  | .eq, a, b => (D.eq? a b).bind fun r => val (.bl r)
  | .ne, a, b => (D.eq? a b).bind fun r => val (.bl (!r))
  | .lt, .int i, .int j => val (.bl (decide (i < j)))
  | .le, .int i, .int j => val (.bl (decide (i ≤ j)))
  | .gt, .int i, .int j => val (.bl (decide (j < i)))
  | .ge, .int i, .int j => val (.bl (decide (j ≤ i)))
  | .isin, k, .dic kvs => if D.fits kvs k then val (.bl (D.look kvs k).isSome) else none
  | .isin, k, .gdc kvs => if D.fits kvs k then val (.bl (D.look kvs k).isSome) else none
  | .isin, d, .tup xs => if d.okEq EQD && xs.all (D.okEq EQD) then val (.bl (xs.any fun x => D.eqv x d)) else none
  | .isin, d, .lst xs => if d.okEq EQD && xs.all (D.okEq EQD) then val (.bl (xs.any fun x => D.eqv x d)) else none
  | .notin, k, .dic kvs => if D.fits kvs k then val (.bl (!(D.look kvs k).isSome)) else none
  | .notin, k, .gdc kvs => if D.fits kvs k then val (.bl (!(D.look kvs k).isSome)) else none
  | .notin, d, .tup xs => if d.okEq EQD && xs.all (D.okEq EQD) then val (.bl (!(xs.any fun x => D.eqv x d))) else none
  | .notin, d, .lst xs => if d.okEq EQD && xs.all (D.okEq EQD) then val (.bl (!(xs.any fun x => D.eqv x d))) else none
  | .idx, .tup xs, .int i => ((ixN xs.length i).bind fun j => xs[j]?).bind val
  | .idx, .lst xs, .int i => ((ixN xs.length i).bind fun j => xs[j]?).bind val
  | .idx, .dic kvs, k => if D.fits kvs k then (D.look kvs k).bind val else none
  | .idx, .gdc kvs, k => if D.fits kvs k then (D.look kvs k).bind val else none
  | .slL, .tup xs, .int i => val (.tup (cut xs (clip xs.length i) xs.length))
  | .slL, .lst xs, .int i => fresh (.lst (cut xs (clip xs.length i) xs.length))
  | .slU, .tup xs, .int j => val (.tup (cut xs 0 (clip xs.length j)))
  | .slU, .lst xs, .int j => fresh (.lst (cut xs 0 (clip xs.length j)))
  | .slBack, .tup xs, .int i => val (.tup (backFrom xs i))
  | .slBack, .lst xs, .int i => fresh (.lst (backFrom xs i))
  | .slStep, .tup xs, .int k => if 0 < k && k < 1000 then val (.tup (every k.toNat xs.length xs)) else none
  | .min2, .int i, .int j => val (.int (if j < i then j else i))
  | .max2, .int i, .int j => val (.int (if j > i then j else i))
  | .maxD, .dic kvs, .int e => (ints? (kvs.map (·.1))).bind fun is => val (.int (mxD e is))
  | .count, .tup xs, .int k => (ints? xs).bind fun is => val (.int (is.count k))
  | .index, .tup xs, .int k => (ints? xs).bind fun is => match is.findIdx? (· == k) with
    | some j => val (.int j)
    | none => none
  | .index, .lst xs, .int k => (ints? xs).bind fun is => match is.findIdx? (· == k) with
    | some j => val (.int j)
    | none => none
  | .get1, .dic kvs, k => if D.fits kvs k then val ((D.look kvs k).getD .non) else none
  | _, _, _ => none

def ap3 : Op3 → D → D → D → Option (D × Bool)
  | .slLU, .tup xs, .int i, .int j => val (.tup (cut xs (clip xs.length i) (clip xs.length j)))
  | .slLU, .lst xs, .int i, .int j => fresh (.lst (cut xs (clip xs.length i) (clip xs.length j)))
  | .get2, .dic kvs, k, e => if D.fits kvs k then val ((D.look kvs k).getD e) else none
  | _, _, _, _ => none

/-! ### code -/
/-- a target: a name, or names in a tuple -/
inductive Tg where
  | n (i : Nat) | t (is : List Nat)
  deriving DecidableEq, Inhabited
/-- methods that change a list or dict at a name -/
inductive Mu where
  | append | extend | pop0 | pop1
  deriving DecidableEq, Inhabited

inductive C where
  | nil | cons (a r : C) | star (a : C)
  | cst (d : D) | var (i : Nat) | peek (i : Nat) | mov (i : Nat) | glob (g : Nat)
  | op1 (o : Op1) (a : C) | op2 (o : Op2) (a b : C) | op3 (o : Op3) (a b c : C)
  | chain (o o' : Op2) (a b c : C)
  | not (a : C) | and (a b : C) | or (a b : C) | ife (c a b : C)
  | tup (as : C) | lst (as : C) | dsp (ks vs : C) (t : Bool)
  | call (f : Nat) (as : C) | callr (f : Nat) (j i : Nat) (as : C) | callo (f : Nat) (a : C) | callv (i : Nat) (as : C) | calla (i : Nat) | calll (f : Nat) (a : C)
  | mut (m : Mu) (i : Nat) (as : C)
  | comp (own : List Nat) (t : Tg) (it tst e : C)
  | comp2 (own own2 : List Nat) (t : Tg) (it : C) (t2 : Tg) (it2 tst e : C)
  | dcomp (own : List Nat) (t : Tg) (it tst k v : C) (tk : Bool)
  | dcomp2 (own own2 : List Nat) (t : Tg) (it : C) (t2 : Tg) (it2 tst k v : C) (tk : Bool)
  | nxt (own : List Nat) (t : Tg) (it tst e d : C)
  | attr (nm : Nat) (a : C)
  | meth (o : Op2) (a b : C) | meth3 (o : Op3) (a b c : C) | slc (a b c : C)
  -- what is walked
  | itv (a : C) | rng1 (a : C) | rng2 (a b : C) | rng3 (a b c : C) | zip2 (a b : C) | zip3 (a b c : C) | enum (a : C) | enums (a b : C) | items (a : C)
  -- statements
  | asg (t : Tg) (a : C) | asgs (is : List Nat) (as : C) | aug (i : Nat) (o : Op2) (a : C) | seti (i : Nat) (k v : C) | augi (i : Nat) (o : Op2) (k v : C)
  | xpr (a : C) | ret (a : C) | retn | ifs (c a b : C) | whl (c b : C) | for_ (t : Tg) (it b : C) | rais (k : Nat) (a : C) | raism (k : Nat)
  | try_ (b hs : C) | hnd (k : Nat) (i : Option Nat) (b : C) | pass | brk | cont | dead
  deriving Inhabited

/-! ### states, results -/
structure S where
  ρ : List (Option (D × Bool))
  st : List D
inductive R (α : Type) where
  | ok (a : α) (s : S) | er (x : D) (s : S) | no
/-- what a call hands back: a value (new, unshared: own), the store behind -/
inductive RC where
  | ok (d : D) (own : Bool) (st : List D) | er (x : D) (st : List D) | no
inductive Fl where
  | nx | rt (d : D) (own : Bool) | bk | ct
@[inline] def R.bind {α β : Type} (r : R α) (f : α → S → R β) : R β := match r with
  | .ok a s => f a s
  | .er x s => .er x s
  | .no => .no
/-- no error may leave -/
def R.quiet {α : Type} (r : R α) : R α := match r with
  | .ok a s => .ok a s
  | _ => .no
def S.get (s : S) (i : Nat) : Option (D × Bool) := match s.ρ[i]? with
  | some o => o
  | none => none
def S.put (s : S) (i : Nat) (d : D) (o : Bool) : S := ⟨s.ρ.set i (some (d, o)), s.st⟩
def S.clr (s : S) (i : Nat) : S := ⟨s.ρ.set i none, s.st⟩
def wipe (ρ : List (Option (D × Bool))) : List Nat → List (Option (D × Bool))
  | [] => ρ
  | i :: r => (wipe ρ r).set i none
def back (ρ0 ρ : List (Option (D × Bool))) : List Nat → List (Option (D × Bool))
  | [] => ρ
  | i :: r => (back ρ0 ρ r).set i (match ρ0[i]? with | some (some (d, false)) => some (d, false) | _ => none)
/-- through a reference -/
def S.deref (s : S) (d : D) : D := match d with
  | .ref n => (match s.st[n]? with | some o => o | none => d)
  | d => d
/-- an operand: a value, or a name whose object is read when all operands are there -/
inductive Hd where
  | v (d : D) | sl (i : Nat)
def Hd.res (h : Hd) (s : S) : Option D := match h with
  | .v d => some (s.deref d)
  | .sl i => (s.get i).map (·.1)
def res1 (h : Hd) (s : S) (f : D → Option (D × Bool)) : Option (D × Bool) := (h.res s).bind f
def res2 (h k : Hd) (s : S) (f : D → D → Option (D × Bool)) : Option (D × Bool) := (h.res s).bind fun d => (k.res s).bind fun e => f d e
def res3 (h k l : Hd) (s : S) (f : D → D → D → Option (D × Bool)) : Option (D × Bool) := (h.res s).bind fun d => (k.res s).bind fun e => (l.res s).bind fun g => f d e g
def setNames : List Nat → List D → S → Option S
  | [], [], s => some s
  | i :: is, d :: ds, s => if i < s.ρ.length then setNames is ds (s.put i d false) else none
  | _, _, _ => none
def setT (t : Tg) (d : D) (s : S) : Option S := match t with
  | .n i => if i < s.ρ.length then some (s.put i d false) else none
  | .t is => (match d with
    | .tup xs => setNames is xs s
    | _ => none)
/-- names in a row get their values, the last one first -/
def putAll : List Nat → List (D × Bool) → S → Option S
  | [], [], s => some s
  | i :: is, (d, o) :: ds, s => (putAll is ds s).bind fun s1 => if i < s1.ρ.length then some (s1.put i d o) else none
  | _, _, _ => none
def liftO (o : Option (D × Bool)) (s : S) : R (D × Bool) := match o with
  | some r => .ok r s
  | none => .no
/-- an operand's evaluation, r its value's -/
def hand (c : C) (r : R (D × Bool)) (s : S) : R Hd := match c with
  | .peek i => (match s.get i with
    | some (_, true) => .ok (.sl i) s
    | some (d, false) => .ok (.v d) s
    | none => .no)
  | _ => r.bind fun d s => .ok (.v d.1) s
def forLoop (t : Tg) (body : S → R Fl) : List D → S → R Fl
  | [], s => .ok .nx s
  | x :: xs, s => match setT t x s with
    | none => .no
    | some s1 => match body s1 with
      | .ok .nx s2 => forLoop t body xs s2
      | .ok .ct s2 => forLoop t body xs s2
      | .ok .bk s2 => .ok .nx s2
      | .ok (.rt d o) s2 => .ok (.rt d o) s2
      | .er x s2 => .er x s2
      | .no => .no
def whileLoop (c : S → R (D × Bool)) (body : S → R Fl) : Nat → S → R Fl
  | 0, _ => .no
  | n + 1, s => match c s with
    | .ok (.bl true, _) s1 => (match body s1 with
      | .ok .nx s2 => whileLoop c body n s2
      | .ok .ct s2 => whileLoop c body n s2
      | .ok .bk s2 => .ok .nx s2
      | .ok (.rt d o) s2 => .ok (.rt d o) s2
      | .er x s2 => .er x s2
      | .no => .no)
    | .ok (.bl false, _) s1 => .ok .nx s1
    | .er x s1 => .er x s1
    | _ => .no
/-- one turn of a comprehension -/
def turn (own : List Nat) (t : Tg) (tst : Option (S → R (D × Bool))) (e : S → R (List D)) (x : D) (s : S) : R (List D) :=
  match setT t x ⟨wipe s.ρ own, s.st⟩ with
  | none => .no
  | some s1 => match tst with
    | none => e s1
    | some f => (f s1).bind fun b s2 => match b.1 with
      | .bl true => e s2
      | .bl false => .ok [] s2
      | _ => .no
def compLoop (step : D → S → R (List D)) : List D → S → R (List D)
  | [], s => .ok [] s
  | x :: xs, s => (step x s).bind fun ys s1 => (compLoop step xs s1).bind fun zs s2 => .ok (ys ++ zs) s2
/-- the first one that a turn gives -/
def nextLoop (step : D → S → R (List D)) : List D → S → R (Option D)
  | [], s => .ok none s
  | x :: xs, s => (step x s).bind fun ys s1 => match ys with
    | y :: _ => .ok (some y) s1
    | [] => nextLoop step xs s1
def keyIsT (tk : Bool) : D → Bool
  | .tup xs => tk && xs.all D.key1
  | k => !tk && k.key1
def mk1 (tk : Bool) : D → List (D × D) → Option (List (D × D))
  | .tup [k, v], acc => if keyIsT tk k then some (D.put acc k v) else none
  | _, _ => none
def mkDic (tk : Bool) : List D → List (D × D) → Option (List (D × D))
  | [], acc => some acc
  | y :: r, acc => (mk1 tk y acc).bind fun a => mkDic tk r a
def intsR (lo : Int) (step : Int) : Nat → List D
  | 0 => []
  | n + 1 => .int lo :: intsR (lo + step) step n
def enumFrom (k : Int) : List D → List D
  | [] => []
  | x :: r => .tup [.int k, x] :: enumFrom (k + 1) r
def zipD : List D → List D → List D
  | x :: xs, y :: ys => .tup [x, y] :: zipD xs ys
  | _, _ => []
def zipD3 : List D → List D → List D → List D
  | x :: xs, y :: ys, z :: zs => .tup [x, y, z] :: zipD3 xs ys zs
  | _, _, _ => []
def rngOk (i : Int) : Bool := -(2 ^ 61) ≤ i && i < 2 ^ 61
/-- a suite with a name: it has to end with a return, and nothing of the exception stays -/
def leave : R Fl → R Fl
  | .ok (.rt d o) s => if d.pure PUD && s.st.all (D.pure PUD) then .ok (.rt d o) ⟨List.replicate s.ρ.length none, s.st⟩ else .no
  | _ => .no
def D.isCls : D → Bool
  | .cls _ => true | _ => false
def seqItems? : D → Option (List D)
  | .tup xs => some xs
  | .lst xs => some xs
  | _ => none

/-- no dict whose keys are tuples -/
def headK : List (D × D) → Bool
  | [] => true
  | p :: _ => p.1.key1
/-- what a for walks: items, or a dict's keys -/
def walked? : D → Option (List D)
  | .tup xs => some xs
  | .lst xs => some xs
  | .dic kvs => if headK kvs then some (kvs.map (·.1)) else none
  | _ => none

/-! ### the mutating methods -/
def muts : Mu → D → List D → Option (D × D)
  | .append, .lst xs, [d] => if Nat.ble (xs.length + 1) LINE then some (.non, .lst (xs ++ [d])) else none
  | .extend, .lst xs, [.lst ys] => if short (xs ++ ys) then some (.non, .lst (xs ++ ys)) else none
  | .pop0, .lst xs, [] => match xs.reverse with
    | [] => none
    | y :: r => some (y, .lst r.reverse)
  | .pop1, .lst xs, [.int i] => (ixN xs.length i).bind fun j => xs[j]?.bind fun y => some (y, .lst (xs.eraseIdx j))
  | _, _, _ => none
/-- a op= b, of ints -/
def augI : Op2 → D → D → Option D
  | .add, .int i, .int j => some (.int (i + j))
  | .sub, .int i, .int j => some (.int (i - j))
  | .mul, .int i, .int j => if small i || small j || (!big i && !big j) then some (.int (i * j)) else none
  | .fdiv, .int i, .int j => if j = 0 then none else if Nat.blt j.natAbs 1073741824 || (0 < j && !big j) then some (.int (i.fdiv j)) else none
  | _, _, _ => none
/-- o[k] = v -/
def seti? (o k v : D) : Option D := match o with
  | .lst xs => (match k with
    | .int i => (ixN xs.length i).map fun j => .lst (xs.set j v)
    | _ => none)
  | .dic kvs => if k.key1 && D.fits kvs k && Nat.ble (kvs.length + 1) LINE then some (.dic (D.put kvs k v)) else none
  | _ => none
/-- the object at a name, or behind the reference at it, is changed -/
def chg (s : S) (i : Nat) (f : D → Option (D × D)) : R (D × Bool) := match s.get i with
  | some (.ref n, false) => (match s.st[n]? with
    | some o => (match f o with
      | some (r, o') => .ok (r, false) ⟨s.ρ, s.st.set n o'⟩
      | none => .no)
    | none => .no)
  | some (o, true) => (match f o with
    | some (r, o') => .ok (r, false) (s.put i o' true)
    | none => .no)
  | _ => .no

def isLstAt (s : S) (i : Nat) : Bool := match s.get i with
  | some (.lst _, true) => true
  | some (.ref n, false) => (match s.st[n]? with | some (.lst _) => true | _ => false)
  | _ => false
/-- what a thing is: 1 a tuple, 2 a list, 3 a dict -/
def D.kind : D → Nat
  | .tup _ => 1 | .lst _ => 2 | .dic _ => 3 | _ => 0
/-- what may have such a method -/
def g1 : Option Nat → Op2 → Bool
  | some 1, .count => true | some 1, .index => true | some 2, .index => true | some 3, .get1 => true | _, _ => false
def g3 : Option Nat → Op3 → Bool
  | some 3, .get2 => true | _, _ => false
/-- the environment: constants, defs, classes, of the module by number -/
structure Ev where
  glob : Nat → Option D
  sub : Nat → Nat → Bool
  atr : Nat → Nat
  fuel : Nat
  fns : Nat → Bool

section
variable (κ : Nat → (List D → RC) → List D → List D → RC) (Λ : List D → RC) (G : Ev)
def noL : List D → RC := fun _ => .no
def liftC (s : S) : RC → R (D × Bool)
  | .ok d o st => .ok (d, o) ⟨s.ρ, st⟩
  | .er x st => .er x ⟨s.ρ, st⟩
  | .no => .no
def liftP (s : S) : RC → R (D × Bool)
  | .ok d o [] => .ok (d, o) s
  | .er x [] => .er x s
  | _ => .no
/-- a call: when the arguments are pure the store plays no part -/
def callP (r : List D → List D → RC) (ds : List D) (s : S) : R (D × Bool) := if ds.all (D.pure PUD) then liftP s (r ds []) else liftC s (r ds s.st)
def insAt (j : Nat) (d : D) (ds : List D) : List D := ds.take j ++ d :: ds.drop j
/-- what comes back from a call with an object handed down: the answer, the object -/
def lent (n : Nat) : RC → Option (D × Bool × D × List D)
  | .ok d w st => match st[n]? with
    | some o => if decide (st.length = n + 1) && d.pure PUD && st.all (D.pure PUD) then some (d, w, o, st.take n) else none
    | none => none
  | _ => none
/-- a call with the object at slot i handed down at place j -/
def callRef (f j i : Nat) (ds : List D) (s : S) : R (D × Bool) := match s.get i with
  | some (o, true) => (match lent s.st.length (κ f noL (insAt j (.ref s.st.length) ds) (s.st ++ [o])) with
    | some (d, w, o', st) => .ok (d, w) ⟨s.ρ.set i (some (o', true)), st⟩
    | none => .no)
  | some (d, false) => liftC s (κ f noL (insAt j d ds) s.st)
  | none => .no
def callOwn (f : Nat) (a : D × Bool) (s : S) : R (D × Bool) := match a with
  | (o, true) => (match lent s.st.length (κ f noL [.ref s.st.length] (s.st ++ [o])) with
    | some (d, w, _, st) => .ok (d, w) ⟨s.ρ, st⟩
    | none => .no)
  | _ => .no
def fsts (l : List (D × Bool)) : List D := l.map (·.1)
/-- a lambda's body is run: it sees the values that stand in its maker's slots -/
def vals : List (Option (D × Bool)) → List (Option (D × Bool)) := List.map fun o => match o with
  | some (d, false) => some (d, false)
  | _ => none
def lamR (f : S → R (D × Bool)) (ρ : List (Option (D × Bool))) : List D → RC := fun st => if st.all (D.pure PUD) then (match f ⟨vals ρ, st⟩ with
  | .ok r s => if s.st.length = st.length then .ok r.1 r.2 s.st else .no
  | .er x s => if s.st.length = st.length then .er x s.st else .no
  | .no => .no) else .no
/-- the call of what was got: when an exception leaves, nothing more is known of the names -/
def callCl (s : S) : RC → R (D × Bool)
  | .ok d o st => .ok (d, o) ⟨s.ρ, st⟩
  | .er x st => .er x ⟨List.replicate s.ρ.length none, st⟩
  | .no => .no
/-- what a call of f(lambda: ..) may hand back -/
def lamC : RC → RC
  | .ok d false st => if d.pure PUD && st.all (D.pure PUD) then .ok d false st else .no
  | _ => .no
def callLam (f : Nat) (l : List D → RC) (s : S) : R (D × Bool) := liftC s (lamC (κ f l [.clo 0 []] s.st))

/-- a comprehension's test, if there is one -/
def tstF : C → (S → R (D × Bool)) → Option (S → R (D × Bool))
  | .nil, _ => none
  | _, f => some f
def finL (ys : List D) : Option D := if short ys then some (.lst ys) else none
def finK (tk : Bool) (ys : List D) : Option D := if short ys then (mkDic tk ys []).map .dic else none
/-- the whole of a comprehension -/
abbrev compG (fin : List D → Option D) (own : List Nat) (t : Tg) (tst : Option (S → R (D × Bool))) (fi : S → R (List D)) (e : S → R (List D)) : S → R (D × Bool) :=
  fun s => (fi s).bind fun xs s1 => (compLoop (turn own t tst e) xs s1).quiet.bind fun ys s2 => match fin ys with
    | some d => .ok (d, true) ⟨back s1.ρ s2.ρ own, s2.st⟩
    | none => .no

mutual
/-- an expression -/
def ev : C → S → R (D × Bool)
  | .cst d => fun s => .ok (d, false) s
  | .var i => fun s => (match s.get i with
    | some (d, _) => .ok (d, false) (s.put i d false)
    | none => .no)
  | .mov i => fun s => (match s.get i with
    | some (d, true) => .ok (d, true) (s.clr i)
    | some (d, false) => .ok (d, false) s
    | none => .no)
  | .glob g => fun s => (match G.glob g with
    | some d => .ok (d, false) s
    | none => .no)
  | .op1 o a => fun s => (hand a (ev a s) s).bind fun h s1 => liftO (res1 h s1 (ap1 o)) s1
  | .op2 o a b => fun s => (hand a (ev a s) s).bind fun h s1 => (hand b (ev b s1) s1).bind fun k s2 => liftO (res2 h k s2 (ap2 o)) s2
  | .op3 o a b c => fun s => (hand a (ev a s) s).bind fun h s1 => (hand b (ev b s1) s1).bind fun k s2 => (hand c (ev c s2) s2).bind fun l s3 => liftO (res3 h k l s3 (ap3 o)) s3
  | .meth o a b => fun s => (hand a (ev a s) s).bind fun h s1 => if g1 ((h.res s1).map D.kind) o then (hand b (ev b s1) s1).bind fun k s2 => if (h.res s2).map D.kind = (h.res s1).map D.kind then liftO (res2 h k s2 (ap2 o)) s2 else .no else .no
  | .meth3 o a b c => fun s => (hand a (ev a s) s).bind fun h s1 => if g3 ((h.res s1).map D.kind) o then (hand b (ev b s1) s1).bind fun k s2 => (ev c s2).bind fun l s3 => liftO (res2 h k s3 fun d e => ap3 o d e l.1) s3 else .no
  | .slc a b c => fun s => (hand a (ev a s) s).bind fun h s1 => (ev b s1).bind fun x s2 => match x.1 with
    | .int i => (ev c s2).bind fun y s3 => liftO (res1 h s3 fun d => ap3 .slLU d (.int i) y.1) s3
    | _ => .no
  | .chain o o' a b c => fun s => (ev a s).bind fun x s1 => (ev b s1).bind fun y s2 => match ap2 o x.1 y.1 with
    | some (.bl true, _) => (ev c s2).bind fun z s3 => liftO (ap2 o' y.1 z.1) s3
    | some (.bl false, _) => .ok (.bl false, false) s2
    | _ => .no
  | .not a => fun s => (ev a s).bind fun x s1 => match x.1 with
    | .bl b => .ok (.bl (!b), false) s1
    | _ => .no
  | .and a b => fun s => (ev a s).bind fun x s1 => match x.1 with
    | .bl true => (ev b s1).bind fun y s2 => .ok (y.1, false) s2
    | .bl false => .ok (.bl false, false) s1
    | _ => .no
  | .or a b => fun s => (ev a s).bind fun x s1 => match x.1 with
    | .bl false => (ev b s1).bind fun y s2 => .ok (y.1, false) s2
    | .bl true => .ok (.bl true, false) s1
    | _ => .no
  | .ife c a b => fun s => (ev c s).bind fun x s1 => match x.1 with
    | .bl true => ev a s1
    | .bl false => ev b s1
    | _ => .no
  | .tup as => fun s => (ea as s).bind fun xs s1 => if short (fsts xs) then .ok (.tup (fsts xs), false) s1 else .no
  | .lst as => fun s => (ea as s).bind fun xs s1 => if short (fsts xs) then .ok (.lst (fsts xs), true) s1 else .no
  | .dsp ks vs tk => fun s => (ea ks s).bind fun xs s1 => (ea vs s1).bind fun ys s2 => match mkDic tk (zipD (fsts xs) (fsts ys)) [] with
    | some kvs => .ok (.dic kvs, true) s2
    | none => .no
  | .call f as => fun s => (ea as s).bind fun xs s1 => callP (κ f noL) (fsts xs) s1
  | .callr f j i as => fun s => if (s.get i).isSome then (ea as s).bind fun xs s1 => callRef κ f j i (fsts xs) s1 else .no
  | .callo f a => fun s => (ev a s).bind fun x s1 => callOwn κ f x s1
  | .callv i as => fun s => (match s.get i with
    | some (.fn f, false) => if G.fns f then (ea as s).bind fun xs s1 => callP (κ f noL) (fsts xs) s1 else .no
    | _ => .no)
  | .calla i => fun s => (match s.get i with
    | some (.clo _ _, false) => callCl s (Λ s.st)
    | _ => .no)
  | .calll f a => fun s => callLam κ f (lamR (ev a) s.ρ) s
  | .mut m i as => fun s => if isLstAt s i then (ea as s).bind fun xs s1 => chg s1 i fun o => muts m o (fsts xs) else .no
  | .comp own t it tst e => compG finL own t (tstF tst (ev tst)) (ei it) (fun s => (ev e s).bind fun d s => .ok [d.1] s)
  | .comp2 own own2 t it t2 it2 tst e => compG finL (own ++ own2) t none (ei it) (fun s => (ei it2 s).bind fun zs s => compLoop (turn own2 t2 (tstF tst (ev tst)) (fun s => (ev e s).bind fun d s => .ok [d.1] s)) zs s)
  | .dcomp own t it tst k v tk => compG (finK tk) own t (tstF tst (ev tst)) (ei it) (fun s => (ev k s).bind fun d s => (ev v s).bind fun e s => .ok [.tup [d.1, e.1]] s)
  | .dcomp2 own own2 t it t2 it2 tst k v tk => compG (finK tk) (own ++ own2) t none (ei it) (fun s => (ei it2 s).bind fun zs s => compLoop (turn own2 t2 (tstF tst (ev tst)) (fun s => (ev k s).bind fun d s => (ev v s).bind fun e s => .ok [.tup [d.1, e.1]] s)) zs s)
  | .nxt own t it tst e d => fun s => (ei it s).bind fun xs s1 => (nextLoop (turn own t (tstF tst (ev tst)) (fun s => (ev e s).bind fun d s => .ok [d.1] s)) xs s1).quiet.bind fun r s2 =>
      (match r with
        | some y => .ok (y, false) ⟨back s1.ρ s2.ρ own, s2.st⟩
        | none => ev d ⟨back s1.ρ s2.ρ own, s2.st⟩)
  | .attr nm a => fun s => (ev a s).bind fun x s1 => match x.1 with
    | .exc k v => if G.atr k = nm && !v.isCls then .ok (v, false) s1 else .no
    | _ => .no
  | _ => fun _ => .no
/-- the items of a display, the arguments of a call -/
def ea : C → S → R (List (D × Bool))
  | .nil => fun s => .ok [] s
  | .cons (.star a) r => fun s => (hand a (ev a s) s).bind fun h s1 => match (h.res s1).bind seqItems? with
    | some xs => (ea r s1).bind fun ys s2 => .ok (xs.map (fun d => (d, false)) ++ ys) s2
    | none => .no
  | .cons a r => fun s => (ev a s).bind fun x s1 => (ea r s1).bind fun ys s2 => .ok (x :: ys) s2
  | _ => fun _ => .no
/-- what is walked, item by item -/
def ei : C → S → R (List D)
  | .itv a => fun s => (ev a s).bind fun x s1 => match walked? x.1 with
    | some xs => .ok xs s1
    | none => .no
  | .rng1 a => fun s => (ev a s).bind fun x s1 => match x.1 with
    | .int j => if rngOk j then .ok (intsR 0 1 j.toNat) s1 else .no
    | _ => .no
  | .rng2 a b => fun s => (ev a s).bind fun x s1 => (ev b s1).bind fun y s2 => match x.1, y.1 with
    | .int i, .int j => if rngOk i && rngOk j then .ok (intsR i 1 (j - i).toNat) s2 else .no
    | _, _ => .no
  | .rng3 a b c => fun s => (ev a s).bind fun x s1 => (ev b s1).bind fun y s2 => (ev c s2).bind fun z s3 => match x.1, y.1, z.1 with
    | .int i, .int j, .int k => if k != 0 && Nat.blt k.natAbs 1073741824 && Builtin.Range.small i j k && decide (0 ≤ Builtin.Range.rangeSize i j k) then .ok (intsR i k (Builtin.Range.rangeSize i j k).toNat) s3 else .no
    | _, _, _ => .no
  | .zip2 a b => fun s => (ev a s).bind fun x s1 => (ev b s1).bind fun y s2 => match seqItems? x.1, seqItems? y.1 with
    | some xs, some ys => .ok (zipD xs ys) s2
    | _, _ => .no
  | .zip3 a b c => fun s => (ev a s).bind fun x s1 => (ev b s1).bind fun y s2 => (ev c s2).bind fun z s3 => match seqItems? x.1, seqItems? y.1, seqItems? z.1 with
    | some xs, some ys, some zs => .ok (zipD3 xs ys zs) s3
    | _, _, _ => .no
  | .enum a => fun s => (ev a s).bind fun x s1 => match seqItems? x.1 with
    | some xs => .ok (enumFrom 0 xs) s1
    | none => .no
  | .enums a b => fun s => (ev a s).bind fun x s1 => (ev b s1).bind fun y s2 => match seqItems? x.1, y.1 with
    | some xs, .int k => if rngOk k then .ok (enumFrom k xs) s2 else .no
    | _, _ => .no
  | .items a => fun s => (ev a s).bind fun x s1 => match x.1 with
    | .dic kvs => if headK kvs then .ok (kvs.map fun p => .tup [p.1, p.2]) s1 else .no
    | _ => .no
  | _ => fun _ => .no
/-- a statement; a block -/
def ex : C → S → R Fl
  | .nil => fun s => .ok .nx s
  | .cons a r => fun s => (ex a s).bind fun f s1 => match f with
    | .nx => ex r s1
    | f => .ok f s1
  | .asg t a => fun s => (ev a s).bind fun x s1 => match t with
    | .n i => if i < s1.ρ.length then .ok .nx (s1.put i x.1 x.2) else .no
    | t => (match setT t x.1 s1 with
      | some s2 => .ok .nx s2
      | none => .no)
  | .asgs is as => fun s => (ea as s).bind fun xs s1 => match putAll is xs s1 with
    | some s2 => .ok .nx s2
    | none => .no
  | .aug i o a => fun s => (match s.get i with
    | some (d, false) => (ev a s).bind fun x s1 => match augI o d x.1 with
      | some r => .ok .nx (s1.put i r false)
      | none => .no
    | _ => .no)
  | .seti i k v => fun s => (ev v s).bind fun y s1 => if (s1.get i).isSome then (ev k s1).bind fun x s2 => (chg s2 i fun o => (seti? o x.1 y.1).map fun o' => (.non, o')).bind fun _ s3 => .ok .nx s3 else .no
  | .augi i o k v => fun s => if (s.get i).isNone then .no else (ev k s).bind fun x s1 => (match s1.get i with
    | some (b, _) => (match ap2 .idx (s1.deref b) x.1 with
      | some (old, _) => (ev v s1).bind fun y s2 => match ap2 o old y.1 with
        | some (r, false) => (chg s2 i fun b => (seti? b x.1 r).map fun b' => (.non, b')).bind fun _ s3 => .ok .nx s3
        | _ => .no
      | none => .no)
    | none => .no)
  | .xpr a => fun s => (ev a s).bind fun _ s1 => .ok .nx s1
  | .ret a => fun s => (ev a s).bind fun x s1 => .ok (.rt x.1 x.2) s1
  | .retn => fun s => .ok (.rt .non false) s
  | .ifs c a b => fun s => (ev c s).bind fun x s1 => match x.1 with
    | .bl true => ex a s1
    | .bl false => ex b s1
    | _ => .no
  | .whl c b => fun s => whileLoop (ev c) (ex b) G.fuel s
  | .for_ t it b => fun s => (ei it s).bind fun xs s1 => forLoop t (ex b) xs s1
  | .rais k a => fun s => (ev a s).bind fun x s1 => .er (.exc k x.1) s1
  | .raism k => fun s => .er (.exc k (.cls 0)) s
  | .try_ b hs => fun s => (match ex b s with
    | .er (.exc k v) s1 => eh hs k v s1
    | r => r)
  | .pass => fun s => .ok .nx s
  | .brk => fun s => .ok .bk s
  | .cont => fun s => .ok .ct s
  | _ => fun _ => .no
/-- the handlers of an exception -/
def eh : C → Nat → D → S → R Fl
  | .cons (.hnd c i b) r => fun k v s => if G.sub k c then (match i with
      | none => (ex b s).quiet
      | some i => if i < s.ρ.length then leave (ex b (s.put i (.exc k v) false)) else .no)
    else eh r k v s
  | .nil => fun k v s => .er (.exc k v) s
  | _ => fun _ _ _ => .no
end
end

/-- a def: how many parameters, how many names in all, its body -/
structure Fn where
  np : Nat
  ns : Nat
  body : C
  deriving Inhabited
def ends (n : Nat) : R Fl → RC
  | .ok (.rt d o) s => if s.st.length = n then .ok d o s.st else .no
  | .ok .nx s => if s.st.length = n then .ok .non false s.st else .no
  | .er x s => if s.st.length = n then .er x s.st else .no
  | _ => .no
def run (F : Nat → Option Fn) (G : Ev) : Nat → Nat → (List D → RC) → List D → List D → RC
  | 0, _, _, _, _ => .no
  | L + 1, f, l, ds, st => match F f with
    | none => .no
    | some c => if ds.length = c.np && Nat.ble c.np c.ns then ends st.length (ex (run F G L) l G c.body ⟨ds.map (fun d => some (d, false)) ++ List.replicate (c.ns - c.np) none, st⟩) else .no
end Mp
end
section
set_option Elab.async false
set_option linter.all false
set_option maxRecDepth 100000
set_option maxHeartbeats 2000000
/-! MpRel: what the data of MpCore stand for in the heap. -/
namespace Mp
open PySem PySem.Spec PyProof.Rows L2

/-! ### keys -/
def keyOf : D → Option Key
  | .int i => some (.inl i)
  | .str x => some (.inr x)
  | _ => none
def keysOf : List D → Option (List Key)
  | [] => some []
  | d :: r => match keyOf d, keysOf r with
    | some k, some ks => some (k :: ks)
    | _, _ => none

/-- what does not change through an activation: AD where the defs stand, ι the store's addresses, Γ the closures that may be called, Ξ the caught exception, KD the dicts of the module's top -/
structure Cn where
  K : PySem.W.Frag
  AD : Nat → Addr
  KD : Addr → List (Key × V) → Prop
  ι : List Addr
  Γ : Nat → List D → Addr → Prop
  Ξ : Addr → Nat → D → Prop

/-- no dict hangs on the object at a -/
def NoD (K : PySem.W.Frag) (F : Hp) (a : Addr) : Prop := (∃ o u, F a = some (.frz o u) ∧ o.dict = none) ∨ ∃ o, K.lookup a = some o ∧ o.dict = none
mutual
/-- a value stands for the data d, F: what never changes -/
def Rp (c : Cn) (F : Hp) : D → V → Prop
  | .non, v => v = .non
  | .bl b, v => v = .bl b
  | .int i, v => v = .int i
  | .str s, v => v = .str s
  | .tup xs, v => ∃ a vs, v = .ref a ∧ (SqT c.K F a vs ∧ NoD c.K F a) ∧ RpL c F xs vs
  | .lst xs, v => ∃ a vs, v = .ref a ∧ Rd F a (.lst vs) ∧ RpL c F xs vs
  | .dic kvs, v => ∃ a, v = .ref a ∧ ((∃ q, Rd F a (.dK q) ∧ RpK c F kvs q) ∨ ∃ q, Rd F a (.dT q) ∧ kvs ≠ [] ∧ RpT c F kvs q)
  | .gdc kvs, v => ∃ a q, v = .ref a ∧ c.KD a q ∧ RpK c F kvs q
  | .ref n, v => ∃ a, c.ι[n]? = some a ∧ v = .ref a
  | .fn n, v => v = .ref (c.AD n)
  | .cls _, _ => False
  | .clo n ds, v => ∃ f, v = .ref f ∧ c.Γ n ds f
  | .exc k d, v => ∃ a, v = .ref a ∧ c.Ξ a k d
def RpL (c : Cn) (F : Hp) : List D → List V → Prop
  | [], vs => vs = []
  | d :: ds, vs => ∃ v r, vs = v :: r ∧ Rp c F d v ∧ RpL c F ds r
def RpK (c : Cn) (F : Hp) : List (D × D) → List (Key × V) → Prop
  | [], q => q = []
  | (k, d) :: r, q => ∃ key v q', q = (key, v) :: q' ∧ keyOf k = some key ∧ Rp c F d v ∧ RpK c F r q'
def RpT (c : Cn) (F : Hp) : List (D × D) → List (List Key × V) → Prop
  | [], q => q = []
  | (k, d) :: r, q => ∃ xs keys v q', q = (keys, v) :: q' ∧ k = .tup xs ∧ keysOf xs = some keys ∧ Rp c F d v ∧ RpT c F r q'
end

def DkO : HO → Prop
  | .dK _ => True
  | .dT _ => True
  | _ => False
/-- u itself, or u as a dict that is locked for good -/
def Ln (H : Hp) (a : Addr) (u : HO) : Prop := H a = some u ∨ (DkO u ∧ ∃ od, H a = some (.frz od u))
theorem Ln.ex {H : Hp} {a : Addr} {u : HO} (h : Ln H a u) : ∃ o, H a = some o := by
  rcases h with h | ⟨_, od, h⟩
  · exact ⟨_, h⟩
  · exact ⟨_, h⟩
theorem Ln.to {H H' : Hp} {a : Addr} {u : HO} (h : Ln H a u) (e : ∀ o, H a = some o → (o = u ∨ ∃ od, o = .frz od u) → H' a = some o) : Ln H' a u := by
  rcases h with h | ⟨d, od, h⟩
  · exact .inl (e _ h (.inl rfl))
  · exact .inr ⟨d, od, e _ h (.inr ⟨od, rfl⟩)⟩
theorem Ln.rd {H : Hp} {a : Addr} {u : HO} (h : Ln H a u) : Rd H a u := h.imp id fun ⟨_, od, h⟩ => ⟨od, h⟩
theorem Ln.exact {H : Hp} {a : Addr} {u : HO} (h : Ln H a u) (n : ¬ DkO u) : H a = some u := by
  rcases h with h | ⟨d, _⟩
  · exact h
  · exact absurd d n
/-- F' knows all that F knows -/
abbrev Sx (F F' : Hp) : Prop := ∀ a o, F a = some o → F' a = some o
/-- .. but that a dict may have been locked -/
abbrev Sm (F F' : Hp) : Prop := ∀ a o, F a = some o → Ln F' a o
theorem Sx.sm {F F' : Hp} (h : Sx F F') : Sm F F' := fun a o e => .inl (h a o e)
theorem Sm.refl (F : Hp) : Sm F F := fun _ _ h => .inl h
theorem Sm.trans {F G H : Hp} (a : Sm F G) (b : Sm G H) : Sm F H := fun x o h => by
  rcases a x o h with h | ⟨d, od, h⟩
  · exact b x o h
  · exact .inr ⟨d, od, (b x _ h).exact id⟩
theorem Sm.rd {F F' : Hp} {a : Addr} {u : HO} (s : Sm F F') (h : Rd F a u) : Rd F' a u := by
  rcases h with h | ⟨o, h⟩
  · exact (s _ _ h).rd
  · exact .inr ⟨o, (s _ _ h).exact id⟩
theorem Sm.sqT {K : PySem.W.Frag} {F F' : Hp} {a : Addr} {vs : List V} (s : Sm F F') (h : SqT K F a vs) : SqT K F' a vs := h.imp s.rd id
theorem Sm.noD {K : PySem.W.Frag} {F F' : Hp} {a : Addr} (s : Sm F F') (h : NoD K F a) : NoD K F' a := h.imp (fun ⟨o, u, e, z⟩ => ⟨o, u, (s _ _ e).exact id, z⟩) id
theorem Sm.sqL {K : PySem.W.Frag} {F F' : Hp} {a : Addr} {vs : List V} (s : Sm F F') (h : SqL K F a vs) : SqL K F' a vs := h.imp s.rd id

/-- constants that may be read as others: the same but the closures grow -/
structure Cn.Le (c c' : Cn) : Prop where
  K : c'.K = c.K
  AD : c'.AD = c.AD
  KD : c'.KD = c.KD
  ι : ∀ (n : Nat) (a : Addr), c.ι[n]? = some a → c'.ι[n]? = some a
  Γ : ∀ (n : Nat) (ds : List D) (f : Addr), c.Γ n ds f → c'.Γ n ds f
  Ξ : ∀ (a : Addr) (k : Nat) (d : D), c.Ξ a k d → c'.Ξ a k d
theorem Cn.Le.refl (c : Cn) : c.Le c := ⟨rfl, rfl, rfl, fun _ _ h => h, fun _ _ _ h => h, fun _ _ _ h => h⟩

mutual
theorem Rp.mono {c c' : Cn} {F F' : Hp} (l : c.Le c') (s : Sm F F') : ∀ {d : D} {v : V}, Rp c F d v → Rp c' F' d v
  | .non, _, h => h
  | .bl _, _, h => h
  | .int _, _, h => h
  | .str _, _, h => h
  | .tup xs, v, h => by
    unfold Rp at h ⊢
    obtain ⟨a, vs, e, q, r⟩ := h
    exact ⟨a, vs, e, by rw [l.K]; exact ⟨s.sqT q.1, s.noD q.2⟩, RpL.mono l s r⟩
  | .lst xs, v, h => by
    unfold Rp at h ⊢
    obtain ⟨a, vs, e, q, r⟩ := h
    exact ⟨a, vs, e, s.rd q, RpL.mono l s r⟩
  | .dic kvs, v, h => by
    unfold Rp at h ⊢
    obtain ⟨a, e, h⟩ := h
    refine ⟨a, e, ?_⟩
    rcases h with ⟨q, h, r⟩ | ⟨q, h, n, r⟩
    · exact .inl ⟨q, s.rd h, RpK.mono l s r⟩
    · exact .inr ⟨q, s.rd h, n, RpT.mono l s r⟩
  | .gdc kvs, v, h => by
    unfold Rp at h ⊢
    obtain ⟨a, q, e, h, r⟩ := h
    exact ⟨a, q, e, by rw [l.KD]; exact h, RpK.mono l s r⟩
  | .ref n, v, h => by
    unfold Rp at h ⊢
    obtain ⟨a, e, h⟩ := h
    exact ⟨a, l.ι _ _ e, h⟩
  | .fn n, v, h => by
    unfold Rp at h ⊢
    rw [l.AD]
    exact h
  | .cls _, _, h => by unfold Rp at h; exact h.elim
  | .clo n ds, v, h => by
    unfold Rp at h ⊢
    obtain ⟨f, e, h⟩ := h
    exact ⟨f, e, l.Γ _ _ _ h⟩
  | .exc k d, v, h => by
    unfold Rp at h ⊢
    obtain ⟨f, e, h⟩ := h
    exact ⟨f, e, l.Ξ _ _ _ h⟩
theorem RpL.mono {c c' : Cn} {F F' : Hp} (l : c.Le c') (s : Sm F F') : ∀ {ds : List D} {vs : List V}, RpL c F ds vs → RpL c' F' ds vs
  | [], _, h => h
  | d :: ds, vs, h => by
    unfold RpL at h ⊢
    obtain ⟨v, r, e, h1, h2⟩ := h
    exact ⟨v, r, e, Rp.mono l s h1, RpL.mono l s h2⟩
theorem RpK.mono {c c' : Cn} {F F' : Hp} (l : c.Le c') (s : Sm F F') : ∀ {kvs : List (D × D)} {q : List (Key × V)}, RpK c F kvs q → RpK c' F' kvs q
  | [], _, h => h
  | (k, d) :: r, q, h => by
    unfold RpK at h ⊢
    obtain ⟨key, v, q', e, h0, h1, h2⟩ := h
    exact ⟨key, v, q', e, h0, Rp.mono l s h1, RpK.mono l s h2⟩
theorem RpT.mono {c c' : Cn} {F F' : Hp} (l : c.Le c') (s : Sm F F') : ∀ {kvs : List (D × D)} {q : List (List Key × V)}, RpT c F kvs q → RpT c' F' kvs q
  | [], _, h => h
  | (k, d) :: r, q, h => by
    unfold RpT at h ⊢
    obtain ⟨xs, keys, v, q', e, h0, h0', h1, h2⟩ := h
    exact ⟨xs, keys, v, q', e, h0, h0', Rp.mono l s h1, RpT.mono l s h2⟩
end
theorem Rp.up {c : Cn} {F F' : Hp} (s : Sm F F') {d : D} {v : V} (h : Rp c F d v) : Rp c F' d v := Rp.mono (Cn.Le.refl c) s h
theorem RpL.up {c : Cn} {F F' : Hp} (s : Sm F F') {d : List D} {v : List V} (h : RpL c F d v) : RpL c F' d v := RpL.mono (Cn.Le.refl c) s h
theorem RpK.up {c : Cn} {F F' : Hp} (s : Sm F F') {d : List (D × D)} {v : List (Key × V)} (h : RpK c F d v) : RpK c F' d v := RpK.mono (Cn.Le.refl c) s h
theorem RpT.up {c : Cn} {F F' : Hp} (s : Sm F F') {d : List (D × D)} {v : List (List Key × V)} (h : RpT c F d v) : RpT c F' d v := RpT.mono (Cn.Le.refl c) s h

/-! ### lists of data -/
section
variable {c : Cn} {F : Hp}
theorem RpL.nil : RpL c F [] [] := rfl
theorem RpL.cons {d : D} {ds : List D} {v : V} {vs : List V} (h : Rp c F d v) (r : RpL c F ds vs) : RpL c F (d :: ds) (v :: vs) := by
  unfold RpL
  exact ⟨v, vs, rfl, h, r⟩
theorem RpL.out {d : D} {ds : List D} {vs : List V} (h : RpL c F (d :: ds) vs) : ∃ v r, vs = v :: r ∧ Rp c F d v ∧ RpL c F ds r := by
  unfold RpL at h
  exact h
theorem RpL.nil_out {vs : List V} (h : RpL c F [] vs) : vs = [] := h
theorem RpL.length : ∀ {ds : List D} {vs : List V}, RpL c F ds vs → vs.length = ds.length
  | [], _, h => by cases h; rfl
  | d :: ds, vs, h => by
    obtain ⟨v, r, rfl, _, h2⟩ := h.out
    rw [List.length_cons, List.length_cons, h2.length]
theorem RpL.get : ∀ {ds : List D} {vs : List V} {i : Nat} {d : D}, RpL c F ds vs → ds[i]? = some d → ∃ v, vs[i]? = some v ∧ Rp c F d v
  | [], _, _, _, _, e => by simp at e
  | d :: ds, vs, i, d', h, e => by
    obtain ⟨v, r, rfl, h1, h2⟩ := h.out
    cases i with
    | zero => simp at e; subst e; exact ⟨v, by simp, h1⟩
    | succ i =>
      obtain ⟨w, e1, e2⟩ := RpL.get h2 (by simpa using e)
      exact ⟨w, by simpa using e1, e2⟩
theorem RpL.append : ∀ {ds es : List D} {vs ws : List V}, RpL c F ds vs → RpL c F es ws → RpL c F (ds ++ es) (vs ++ ws)
  | [], _, _, _, h, q => by cases h; exact q
  | d :: ds, es, vs, ws, h, q => by
    obtain ⟨v, r, rfl, h1, h2⟩ := h.out
    exact .cons h1 (RpL.append h2 q)
theorem RpL.take : ∀ {ds : List D} {vs : List V} (n : Nat), RpL c F ds vs → RpL c F (ds.take n) (vs.take n)
  | _, _, 0, _ => by simp; exact .nil
  | [], _, n + 1, h => by cases h; simp; exact .nil
  | d :: ds, vs, n + 1, h => by
    obtain ⟨v, r, rfl, h1, h2⟩ := h.out
    exact .cons h1 (RpL.take n h2)
theorem RpL.drop : ∀ {ds : List D} {vs : List V} (n : Nat), RpL c F ds vs → RpL c F (ds.drop n) (vs.drop n)
  | _, _, 0, h => by simpa using h
  | [], _, n + 1, h => by cases h; simp; exact .nil
  | d :: ds, vs, n + 1, h => by
    obtain ⟨v, r, rfl, h1, h2⟩ := h.out
    exact RpL.drop n h2
theorem RpL.set : ∀ {ds : List D} {vs : List V} {d : D} {v : V} (i : Nat), RpL c F ds vs → Rp c F d v → RpL c F (ds.set i d) (vs.set i v)
  | [], _, _, _, _, h, _ => by cases h; simp; exact .nil
  | d :: ds, vs, d', v', i, h, q => by
    obtain ⟨v, r, rfl, h1, h2⟩ := h.out
    cases i with
    | zero => exact .cons q h2
    | succ i => exact .cons h1 (RpL.set i h2 q)
theorem RpL.eraseIdx : ∀ {ds : List D} {vs : List V} (i : Nat), RpL c F ds vs → RpL c F (ds.eraseIdx i) (vs.eraseIdx i)
  | [], _, _, h => by cases h; simp; exact .nil
  | d :: ds, vs, i, h => by
    obtain ⟨v, r, rfl, h1, h2⟩ := h.out
    cases i with
    | zero => exact h2
    | succ i => exact .cons h1 (RpL.eraseIdx i h2)
theorem RpL.reverse : ∀ {ds : List D} {vs : List V}, RpL c F ds vs → RpL c F ds.reverse vs.reverse
  | [], _, h => by cases h; simp; exact .nil
  | d :: ds, vs, h => by
    obtain ⟨v, r, rfl, h1, h2⟩ := h.out
    rw [List.reverse_cons, List.reverse_cons]
    exact RpL.append (RpL.reverse h2) (.cons h1 .nil)
theorem RpL.replicate {ds : List D} {vs : List V} (h : RpL c F ds vs) : ∀ k : Nat, RpL c F (List.replicate k ds).flatten (List.replicate k vs).flatten
  | 0 => by simp; exact .nil
  | k + 1 => by
    rw [List.replicate_succ, List.replicate_succ, List.flatten_cons, List.flatten_cons]
    exact h.append (RpL.replicate h k)
theorem RpL.ints : ∀ {ds : List D} {vs : List V} {is : List Int}, ints? ds = some is → RpL c F ds vs → vs = is.map V.int
  | [], _, is, e, h => by cases h; cases e; rfl
  | d :: ds, vs, is, e, h => by
    obtain ⟨v, r, rfl, h1, h2⟩ := h.out
    cases d with
    | int i =>
      unfold ints? at e
      cases q : ints? ds with
      | none => rw [q] at e; cases e
      | some js =>
        rw [q] at e; cases e
        have h1 : v = .int i := h1
        subst h1
        rw [RpL.ints q h2]
        rfl
    | _ => cases e
theorem RpL.of_ints : ∀ {ds : List D} {is : List Int}, ints? ds = some is → RpL c F ds (is.map V.int)
  | [], is, e => by cases e; exact .nil
  | d :: ds, is, e => by
    cases d with
    | int i =>
      unfold ints? at e
      cases q : ints? ds with
      | none => rw [q] at e; cases e
      | some js =>
        rw [q] at e; cases e
        exact .cons rfl (RpL.of_ints q)
    | _ => cases e
theorem ints_map : ∀ is : List Int, ints? (is.map D.int) = some is
  | [] => rfl
  | i :: r => by
    show (ints? (r.map D.int)).map (i :: ·) = _
    rw [ints_map r]
    rfl
theorem RpL.bools : ∀ {ds : List D} {vs : List V} {is : List Bool}, bools? ds = some is → RpL c F ds vs → vs = is.map V.bl
  | [], _, is, e, h => by cases h; cases e; rfl
  | d :: ds, vs, is, e, h => by
    obtain ⟨v, r, rfl, h1, h2⟩ := h.out
    cases d with
    | bl i =>
      unfold bools? at e
      cases q : bools? ds with
      | none => rw [q] at e; cases e
      | some js =>
        rw [q] at e; cases e
        have h1 : v = .bl i := h1
        subst h1
        rw [RpL.bools q h2]
        rfl
    | _ => cases e
end
end Mp
end
section
set_option Elab.async false
set_option linter.all false
set_option maxRecDepth 100000
set_option maxHeartbeats 2000000
/-! MpSt: a state of MpCore beside the slots and the abstract heap. -/
namespace Mp
open PySem PySem.Spec PyProof.Rows L2

/-- an activation: its constants, the heap at its entry, what was fixed there, the tables of code objects -/
structure Act where
  c : Cn
  H0 : Hp
  F0 : Hp
  T : List (Addr × Str)
/-- what is known now: what is fixed, the slots' own objects, own objects that have no name yet -/
structure Wd where
  F : Hp
  ow : List (Option Addr)
  pd : List (Addr × D)
def Wd.adr (ω : Wd) : List Addr := ω.ow.filterMap id ++ ω.pd.map (·.1)

/-- a dict whose keys are tuples, not the empty one -/
def RpN (c : Cn) (F : Hp) (kvs : List (D × D)) (q : List (List Key × V)) : Prop := kvs ≠ [] ∧ RpT c F kvs q
theorem RpN.up {c : Cn} {F F' : Hp} (s : Sm F F') {kvs : List (D × D)} {q : List (List Key × V)} (h : RpN c F kvs q) : RpN c F' kvs q := ⟨h.1, h.2.up s⟩
theorem RpN.mono {c c' : Cn} {F F' : Hp} (l : c.Le c') (s : Sm F F') {kvs : List (D × D)} {q : List (List Key × V)} (h : RpN c F kvs q) : RpN c' F' kvs q := ⟨h.1, RpT.mono l s h.2⟩
/-- the object at a is d's -/
def ObAt (c : Cn) (F H : Hp) (a : Addr) (d : D) : Prop := match d with
  | .lst xs => ∃ vs, H a = some (.lst vs) ∧ RpL c F xs vs
  | .dic kvs => (∃ q, H a = some (.dK q) ∧ RpK c F kvs q) ∨ ∃ q, H a = some (.dT q) ∧ RpN c F kvs q
  | _ => False
def LD : HO → Prop
  | .lst _ => True
  | .dK _ => True
  | .dT _ => True
  | _ => False
theorem LD.mut {o : HO} (h : LD o) : Mut (some o) := by
  cases o <;> first | exact trivial | exact h.elim
theorem ObAt.at_ {c : Cn} {F H : Hp} {a : Addr} {d : D} (h : ObAt c F H a d) : ∃ o, H a = some o ∧ LD o := by
  cases d with
  | lst xs =>
    obtain ⟨vs, e, _⟩ := h
    exact ⟨_, e, trivial⟩
  | dic kvs =>
    rcases h with ⟨q, e, _⟩ | ⟨q, e, _⟩
    · exact ⟨_, e, trivial⟩
    · exact ⟨_, e, trivial⟩
  | _ => exact h.elim
theorem ObAt.up {c : Cn} {F F' H H' : Hp} {a : Addr} {d : D} (h : ObAt c F H a d) (s : Sm F F') (e : H' a = H a) : ObAt c F' H' a d := by
  cases d with
  | lst xs =>
    obtain ⟨vs, q, r⟩ := h
    exact ⟨vs, e.trans q, r.up s⟩
  | dic kvs =>
    rcases h with ⟨q, z, r⟩ | ⟨q, z, r⟩
    · exact .inl ⟨q, e.trans z, r.up s⟩
    · exact .inr ⟨q, e.trans z, r.up s⟩
  | _ => exact h.elim

def Slot (c : Cn) (F H : Hp) (o : Option (D × Bool)) (a : Option Addr) (w : Option V) : Prop := match o with
  | none => a = none
  | some (d, false) => a = none ∧ ∃ v, w = some v ∧ Rp c F d v
  | some (d, true) => ∃ b, a = some b ∧ w = some (.ref b) ∧ ObAt c F H b d
theorem Slot.up {c : Cn} {F F' H H' : Hp} {o : Option (D × Bool)} {a : Option Addr} {w : Option V} (h : Slot c F H o a w) (s : Sm F F') (e : ∀ b, a = some b → H' b = H b) : Slot c F' H' o a w := by
  cases o with
  | none => exact h
  | some p =>
    obtain ⟨d, b⟩ := p
    cases b with
    | false =>
      obtain ⟨h1, v, h2, h3⟩ := h
      exact ⟨h1, v, h2, h3.up s⟩
    | true =>
      obtain ⟨b, h1, h2, h3⟩ := h
      exact ⟨b, h1, h2, h3.up s (e b h1)⟩

/-- nothing, but perhaps a table of code objects -/
def NT (x : Option HO) : Prop := ∀ o, x = some o → ∃ ps, o = .tbl ps
theorem NT.of {x : Option HO} (h : x = none) : NT x := fun o e => by rw [h] at e; cases e
theorem NT.no {x : Option HO} {o : HO} (h : NT x) (e : x = some o) (n : ∀ ps, o ≠ .tbl ps) : False := by
  obtain ⟨ps, z⟩ := h o e
  exact n ps z
theorem LD.nt {o : HO} (h : LD o) : ∀ ps, o ≠ .tbl ps := fun ps z => by
  rw [z] at h
  exact h
structure SR (A : Act) (s : S) (σ : L2.St) (H : Hp) (ω : Wd) : Prop where
  f0 : Sm A.F0 ω.F
  new : ∀ a o, ω.F a = some o → A.F0 a = none → NT (A.H0 a)
  sub : ∀ a u, ω.F a = some u → Ln H a u
  fr : ∀ a o, A.H0 a = some o → (∀ ps, o ≠ .tbl ps) → a ∉ A.c.ι → H a = some o ∨ (DkO o ∧ (∃ u, A.F0 a = some u) ∧ ∃ od, H a = some (.frz od o))
  old : ∀ a o, A.H0 a = some o → (∀ ps, o ≠ .tbl ps) → ∃ o', H a = some o' ∧ ∀ ps, o' ≠ .tbl ps
  ntb : ∀ a ps, ω.F a ≠ some (.tbl ps)
  tab : LamX.Tabs A.T H
  len : s.ρ.length = σ.length
  olen : ω.ow.length = σ.length
  slot : ∀ (i : Nat) (o : Option (D × Bool)) (a : Option Addr) (w : Option V), s.ρ[i]? = some o → ω.ow[i]? = some a → σ[i]? = some w → Slot A.c ω.F H o a w
  pds : ∀ p ∈ ω.pd, ObAt A.c ω.F H p.1 p.2
  stl : s.st.length = A.c.ι.length
  sts : ∀ (n : Nat) (a : Addr) (d : D), A.c.ι[n]? = some a → s.st[n]? = some d → ObAt A.c ω.F H a d
  nd : (ω.adr ++ A.c.ι).Nodup
  fre : ∀ a, a ∈ ω.adr ++ A.c.ι → ω.F a = none
  own : ∀ a, a ∈ ω.adr → NT (A.H0 a)

section
variable {A : Act} {s : S} {σ : L2.St} {H H' : Hp} {ω : Wd}

theorem SR.rd (h : SR A s σ H ω) {a : Addr} {u : HO} (r : Rd ω.F a u) : Rd H a u := by
  rcases r with r | ⟨o, r⟩
  · exact (h.sub a u r).rd
  · exact .inr ⟨o, (h.sub a _ r).exact id⟩
theorem SR.sqT (h : SR A s σ H ω) {a : Addr} {vs : List V} (r : SqT A.c.K ω.F a vs) : SqT A.c.K H a vs := r.imp h.rd id
theorem SR.sqL (h : SR A s σ H ω) {a : Addr} {vs : List V} (r : SqL A.c.K ω.F a vs) : SqL A.c.K H a vs := r.imp h.rd id

/-- an address of the own objects, of the store -/
theorem SR.ob (h : SR A s σ H ω) {a : Addr} (m : a ∈ ω.adr ++ A.c.ι) : ∃ o, H a = some o ∧ LD o := by
  rcases List.mem_append.mp m with m | m
  · unfold Wd.adr at m
    rcases List.mem_append.mp m with m | m
    · obtain ⟨x, hx, e⟩ := List.mem_filterMap.mp m
      have e : x = some a := e
      subst e
      obtain ⟨i, hi, e⟩ := List.mem_iff_getElem.mp hx
      have e1 : ω.ow[i]? = some (some a) := by rw [List.getElem?_eq_getElem hi, e]
      have li : i < s.ρ.length := by rw [h.len, ← h.olen]; exact hi
      have ls : i < σ.length := by rw [← h.olen]; exact hi
      have q := h.slot i _ _ _ (List.getElem?_eq_getElem li) e1 (List.getElem?_eq_getElem ls)
      cases r : s.ρ[i] with
      | none => rw [r] at q; cases (show some a = none from q)
      | some p =>
        obtain ⟨d, b⟩ := p
        rw [r] at q
        cases b with
        | false =>
          obtain ⟨z, _⟩ := q
          cases z
        | true =>
          obtain ⟨b, z, _, ob⟩ := q
          cases z
          exact ob.at_
    · obtain ⟨p, hp, e⟩ := List.mem_map.mp m
      subst e
      exact (h.pds p hp).at_
  · obtain ⟨n, hn, e⟩ := List.mem_iff_getElem.mp m
    have ls : n < s.st.length := by rw [h.stl]; exact hn
    exact (h.sts n a _ (by rw [List.getElem?_eq_getElem hn, e]) (List.getElem?_eq_getElem ls)).at_
theorem SR.apartN (h : SR A s σ H ω) {a : Addr} (e : NT (H a)) : a ∉ ω.adr ++ A.c.ι := fun m => by
  obtain ⟨o, q, l⟩ := h.ob m
  exact e.no q l.nt
theorem SR.apart (h : SR A s σ H ω) {a : Addr} (e : H a = none) : a ∉ ω.adr ++ A.c.ι := h.apartN (.of e)
theorem SR.noF (h : SR A s σ H ω) {a : Addr} (e : H a = none) : ω.F a = none := by
  cases q : ω.F a with
  | none => rfl
  | some u =>
    obtain ⟨o, z⟩ := (h.sub a u q).ex
    rw [z] at e
    cases e
theorem SR.no0 (h : SR A s σ H ω) {a : Addr} (e : NT (H a)) : NT (A.H0 a) := fun o q => by
  by_cases n : ∀ ps, o ≠ .tbl ps
  · obtain ⟨o', z, n'⟩ := h.old a o q n
    exact (e.no z n').elim
  · exact Classical.byContradiction fun z => n fun ps w => z ⟨ps, w⟩
theorem ow_mem {ω : Wd} {i : Nat} {b : Addr} (e : ω.ow[i]? = some (some b)) : b ∈ ω.adr := by
  unfold Wd.adr
  exact List.mem_append_left _ (List.mem_filterMap.mpr ⟨some b, List.mem_of_getElem? e, rfl⟩)
theorem pd_mem {ω : Wd} {p : Addr × D} (e : p ∈ ω.pd) : p.1 ∈ ω.adr := by
  unfold Wd.adr
  exact List.mem_append_right _ (List.mem_map.mpr ⟨p, e, rfl⟩)

/-- the heap grows (or an object that nobody here knows changes) -/
theorem SR.grow (h : SR A s σ H ω) (e : ∀ b o, H b = some o → (∀ ps, o ≠ .tbl ps) → H' b = some o) (t : LamX.Tabs A.T H') : SR A s σ H' ω := by
  have mu : ∀ {b : Addr}, b ∈ ω.adr ++ A.c.ι → H' b = H b := fun {b} m => by
    obtain ⟨o, q, mo⟩ := h.ob m
    rw [q]
    exact e b o q fun ps z => by rw [z] at mo; exact mo
  have sub' : ∀ a u, ω.F a = some u → (∀ ps, u ≠ .tbl ps) → Ln H' a u := fun a u q n => (h.sub a u q).to fun o eo k => e a o eo fun ps z => by
    rcases k with k | ⟨od, k⟩
    · exact n ps (k.symm.trans z)
    · rw [k] at z; cases z
  refine ⟨h.f0, h.new, fun a u q => sub' a u q fun ps z => h.ntb a ps (by rw [q, z]), fun a o q n m => ?_, fun a o q n => ?_, h.ntb, t, h.len, h.olen, fun i o a w e1 e2 e3 => (h.slot i o a w e1 e2 e3).up (Sm.refl _) fun b eb => mu (List.mem_append_left _ (ow_mem (by rw [e2, eb]))), fun p hp => (h.pds p hp).up (Sm.refl _) (mu (List.mem_append_left _ (pd_mem hp))), h.stl, fun n a d e1 e2 => (h.sts n a d e1 e2).up (Sm.refl _) (mu (List.mem_append_right _ (List.mem_of_getElem? e1))), h.nd, h.fre, h.own⟩
  · exact (h.fr a o q n m).imp (fun z => e a _ z n) fun ⟨z1, z2, od, z3⟩ => ⟨z1, z2, od, e a _ z3 fun ps z => nomatch z⟩
  · obtain ⟨o', q', n'⟩ := h.old a o q n
    exact ⟨o', e a o' q' n', n'⟩
theorem SR.gr (h : SR A s σ H ω) (e : Sx H H') : SR A s σ H' ω := h.grow (fun b o q _ => e b o q) (h.tab.ext e)
/-- a new object that is of no concern -/
theorem SR.junk (h : SR A s σ H ω) {a : Addr} {o : HO} (e : H a = none) : SR A s σ (upd H a o) ω := h.gr fun b u q => by
  rw [upd_ne (ne_of_none q e)]
  exact q
/-- .. that is ours from now on -/
theorem SR.fresh (h : SR A s σ H ω) {a : Addr} {d : D} (e : H a = none) (sm : Sx H H') (ob : ObAt A.c ω.F H' a d) : SR A s σ H' { ω with pd := (a, d) :: ω.pd } := by
  have g := h.gr sm
  have na := h.apart e
  have key : ({ ω with pd := (a, d) :: ω.pd } : Wd).adr ++ A.c.ι = ω.ow.filterMap id ++ (a :: (ω.pd.map (·.1) ++ A.c.ι)) := by
    unfold Wd.adr
    simp
  have key0 : ω.adr ++ A.c.ι = ω.ow.filterMap id ++ (ω.pd.map (·.1) ++ A.c.ι) := by
    unfold Wd.adr
    simp
  have perm : (ω.ow.filterMap id ++ (a :: (ω.pd.map (·.1) ++ A.c.ι))).Perm (a :: (ω.adr ++ A.c.ι)) := by
    rw [key0]
    exact List.perm_middle
  have memi : ∀ b, b ∈ ({ ω with pd := (a, d) :: ω.pd } : Wd).adr ++ A.c.ι ↔ b = a ∨ b ∈ ω.adr ++ A.c.ι := fun b => by
    rw [key, perm.mem_iff, List.mem_cons]
  refine ⟨g.f0, g.new, g.sub, g.fr, g.old, g.ntb, g.tab, g.len, g.olen, g.slot, fun p hp => ?_, g.stl, g.sts, ?_, fun b hb => ?_, fun b hb => ?_⟩
  · rcases List.mem_cons.mp hp with rfl | hp
    · exact ob
    · exact g.pds p hp
  · rw [key, perm.nodup_iff, List.nodup_cons]
    exact ⟨na, h.nd⟩
  · rcases (memi b).mp hb with rfl | hb
    · exact h.noF e
    · exact h.fre b hb
  · have hb' : b ∈ ({ ω with pd := (a, d) :: ω.pd } : Wd).adr := hb
    unfold Wd.adr at hb'
    rcases List.mem_append.mp hb' with m | m
    · exact h.own b (by unfold Wd.adr; exact List.mem_append_left _ m)
    · rcases List.mem_cons.mp m with rfl | m
      · exact h.no0 (.of e)
      · exact h.own b (by unfold Wd.adr; exact List.mem_append_right _ m)
theorem perm_pd {ω : Wd} {p : Addr × D} {pd : List (Addr × D)} {ι : List Addr} (e : ω.pd = p :: pd) : (ω.adr ++ ι).Perm (p.1 :: (({ ω with pd := pd } : Wd).adr ++ ι)) := by
  unfold Wd.adr
  rw [e]
  simp only [List.map_cons, List.append_assoc, List.cons_append]
  exact List.perm_middle
/-- an own object that had no name is fixed: it is a value -/
theorem SR.freeze (h : SR A s σ H ω) {a : Addr} {d : D} {pd : List (Addr × D)} (e : ω.pd = (a, d) :: pd) : ∃ F', Sm ω.F F' ∧ SR A s σ H ⟨F', ω.ow, pd⟩ ∧ Rp A.c F' d (.ref a) := by
  have ob := h.pds (a, d) (by rw [e]; exact List.mem_cons_self)
  obtain ⟨u, hu, mu⟩ := ob.at_
  have pm := perm_pd (ι := A.c.ι) e
  have am : a ∈ ω.adr ++ A.c.ι := pm.mem_iff.mpr List.mem_cons_self
  have aF : ω.F a = none := h.fre a am
  have sm : Sm ω.F (upd ω.F a u) := Sx.sm fun b o q => by
    rw [upd_ne (ne_of_none q aF)]
    exact q
  have a0 : A.F0 a = none := by
    cases q : A.F0 a with
    | none => rfl
    | some o =>
      obtain ⟨_, z⟩ := (h.f0 a o q).ex
      rw [z] at aF
      cases aF
  have aown : NT (A.H0 a) := h.own a (pd_mem (p := (a, d)) (by rw [e]; exact List.mem_cons_self))
  have nd' := pm.nodup_iff.mp h.nd
  rw [List.nodup_cons] at nd'
  refine ⟨upd ω.F a u, sm, ⟨h.f0.trans sm, fun b o q z => ?_, fun b o q => ?_, h.fr, h.old, fun b ps q => ?_, h.tab, h.len, h.olen, fun i o b w e1 e2 e3 => (h.slot i o b w e1 e2 e3).up sm fun _ _ => rfl, fun p hp => (h.pds p (by rw [e]; exact List.mem_cons_of_mem _ hp)).up sm rfl, h.stl, fun n b d e1 e2 => (h.sts n b d e1 e2).up sm rfl, nd'.2, fun b hb => ?_, fun b hb => ?_⟩, ?_⟩
  · by_cases hb : b = a
    · rw [hb]; exact aown
    · have q : upd ω.F a u b = some o := q
      rw [upd_ne hb] at q
      exact h.new b o q z
  · by_cases hb : b = a
    · have q : upd ω.F a u b = some o := q
      rw [hb, upd_same] at q
      cases q
      rw [hb]
      exact .inl hu
    · have q : upd ω.F a u b = some o := q
      rw [upd_ne hb] at q
      exact h.sub b o q
  · by_cases hb : b = a
    · have q : upd ω.F a u b = some (.tbl ps) := q
      rw [hb, upd_same] at q
      cases q
      exact mu
    · have q : upd ω.F a u b = some (.tbl ps) := q
      rw [upd_ne hb] at q
      exact h.ntb b ps q
  · show upd ω.F a u b = none
    have hb' : b ∈ (({ ω with pd := pd } : Wd).adr ++ A.c.ι) := hb
    rw [upd_ne (fun z => nd'.1 (by rw [← z]; exact hb'))]
    exact h.fre b (pm.mem_iff.mpr (List.mem_cons_of_mem _ hb'))
  · refine h.own b ?_
    unfold Wd.adr at hb ⊢
    rcases List.mem_append.mp hb with m | m
    · exact List.mem_append_left _ m
    · rw [e]
      exact List.mem_append_right _ (List.mem_cons_of_mem _ m)
  · cases d with
    | lst xs =>
      obtain ⟨vs, e1, r⟩ := ob
      rw [hu] at e1
      cases e1
      unfold Rp
      exact ⟨a, vs, rfl, .inl upd_same, r.up sm⟩
    | dic kvs =>
      rcases ob with ⟨q, e1, r⟩ | ⟨q, e1, r⟩
      · rw [hu] at e1
        cases e1
        unfold Rp
        exact ⟨a, rfl, .inl ⟨q, .inl upd_same, r.up sm⟩⟩
      · rw [hu] at e1
        cases e1
        unfold Rp
        exact ⟨a, rfl, .inr ⟨q, .inl upd_same, r.1, r.2.up sm⟩⟩
    | _ => exact ob.elim

/-! ### slots -/
theorem get_eq {s : S} {i : Nat} {d : D} {o : Bool} (e : s.get i = some (d, o)) : s.ρ[i]? = some (some (d, o)) := by
  unfold S.get at e
  split at e
  · rename_i q
    rw [q, e]
  · cases e
theorem SR.at_ (h : SR A s σ H ω) {i : Nat} {d : D} {o : Bool} (e : s.get i = some (d, o)) : ∃ a w, ω.ow[i]? = some a ∧ σ[i]? = some w ∧ Slot A.c ω.F H (some (d, o)) a w := by
  have e := get_eq e
  have l : i < s.ρ.length := (List.getElem?_eq_some_iff.mp e).1
  have l1 : i < ω.ow.length := by rw [h.olen, ← h.len]; exact l
  have l2 : i < σ.length := by rw [← h.len]; exact l
  exact ⟨_, _, List.getElem?_eq_getElem l1, List.getElem?_eq_getElem l2, h.slot i _ _ _ e (List.getElem?_eq_getElem l1) (List.getElem?_eq_getElem l2)⟩
theorem SR.val (h : SR A s σ H ω) {i : Nat} {d : D} (e : s.get i = some (d, false)) : ∃ v, σ[i]? = some (some v) ∧ Rp A.c ω.F d v ∧ ω.ow[i]? = some none := by
  obtain ⟨a, w, e1, e2, q⟩ := h.at_ e
  obtain ⟨rfl, v, rfl, r⟩ := q
  exact ⟨v, e2, r, e1⟩
theorem SR.obj (h : SR A s σ H ω) {i : Nat} {d : D} (e : s.get i = some (d, true)) : ∃ a, σ[i]? = some (some (.ref a)) ∧ ObAt A.c ω.F H a d ∧ ω.ow[i]? = some (some a) := by
  obtain ⟨a, w, e1, e2, q⟩ := h.at_ e
  obtain ⟨b, rfl, rfl, r⟩ := q
  exact ⟨b, e2, r, e1⟩
theorem put_same {s : S} {i : Nat} {d : D} {o : Bool} {j : Nat} {x : Option (D × Bool)} (e : (s.put i d o).ρ[j]? = some x) : (j = i ∧ x = some (d, o)) ∨ (j ≠ i ∧ s.ρ[j]? = some x) := by
  have e : (s.ρ.set i (some (d, o)))[j]? = some x := e
  by_cases hj : j = i
  · subst hj
    have l := (List.getElem?_eq_some_iff.mp e).1
    rw [List.length_set] at l
    rw [List.getElem?_set_self l] at e
    cases e
    exact .inl ⟨rfl, rfl⟩
  · rw [List.getElem?_set_ne (Ne.symm hj)] at e
    exact .inr ⟨hj, e⟩
/-- without the object at i -/
theorem adr_less {ow : List (Option Addr)} {i : Nat} (b : Addr) : b ∈ (ow.set i none).filterMap id → b ∈ ow.filterMap id := fun m => by
  obtain ⟨x, hx, e⟩ := List.mem_filterMap.mp m
  have e : x = some b := e
  subst e
  obtain ⟨j, hj, e⟩ := List.mem_iff_getElem.mp hx
  have e1 : (ow.set i none)[j]? = some (some b) := by rw [List.getElem?_eq_getElem hj, e]
  by_cases h : j = i
  · subst h
    rw [List.length_set] at hj
    rw [List.getElem?_set_self hj] at e1
    cases e1
  · rw [List.getElem?_set_ne (Ne.symm h)] at e1
    exact List.mem_filterMap.mpr ⟨some b, List.mem_of_getElem? e1, rfl⟩
theorem nodup_less : ∀ {ow : List (Option Addr)} {i : Nat} {r : List Addr}, (ow.filterMap id ++ r).Nodup → ((ow.set i none).filterMap id ++ r).Nodup
  | [], _, _, h => h
  | o :: ow, 0, r, h => by
    rw [List.set_cons_zero, List.filterMap_cons]
    cases o with
    | none => exact h
    | some a =>
      rw [List.filterMap_cons] at h
      exact (List.nodup_cons.mp h).2
  | o :: ow, i + 1, r, h => by
    rw [List.set_cons_succ]
    rw [List.filterMap_cons] at h ⊢
    cases o with
    | none => exact nodup_less h
    | some a =>
      have h' : (a :: (ow.filterMap id ++ r)).Nodup := h
      obtain ⟨h1, h2⟩ := List.nodup_cons.mp h'
      refine List.nodup_cons.mpr ⟨fun m => h1 ?_, nodup_less h2⟩
      rcases List.mem_append.mp m with m | m
      · exact List.mem_append_left _ (adr_less a m)
      · exact List.mem_append_right _ m
theorem set_at {α : Type} {l : List α} {i j : Nat} {x y : α} (e : (l.set i x)[j]? = some y) : (j = i ∧ y = x) ∨ (j ≠ i ∧ l[j]? = some y) := by
  by_cases hj : j = i
  · subst hj
    have l := (List.getElem?_eq_some_iff.mp e).1
    rw [List.length_set] at l
    rw [List.getElem?_set_self l] at e
    cases e
    exact .inl ⟨rfl, rfl⟩
  · rw [List.getElem?_set_ne (Ne.symm hj)] at e
    exact .inr ⟨hj, e⟩
/-- the slots change: at i a value, or nothing -/
theorem SR.setV (h : SR A s σ H ω) {i : Nat} {o : Option (D × Bool)} {w : Option V} (q : Slot A.c ω.F H o none w) : SR A ⟨s.ρ.set i o, s.st⟩ (σ.set i w) H { ω with ow := ω.ow.set i none } := by
  have sub : ∀ b, b ∈ ({ ω with ow := ω.ow.set i none } : Wd).adr ++ A.c.ι → b ∈ ω.adr ++ A.c.ι := fun b m => by
    unfold Wd.adr at m ⊢
    rw [List.append_assoc] at m ⊢
    rcases List.mem_append.mp m with m | m
    · exact List.mem_append_left _ (adr_less b m)
    · exact List.mem_append_right _ m
  refine ⟨h.f0, h.new, h.sub, h.fr, h.old, h.ntb, h.tab, by simp only [List.length_set]; exact h.len, by simp only [List.length_set]; exact h.olen, fun j o' a' w' e1 e2 e3 => ?_, h.pds, h.stl, h.sts, ?_, fun b m => h.fre b (sub b m), fun b m => ?_⟩
  · rcases set_at e1 with ⟨rfl, rfl⟩ | ⟨n1, e1⟩
    · rcases set_at e2 with ⟨_, rfl⟩ | ⟨n2, _⟩
      · rcases set_at e3 with ⟨_, rfl⟩ | ⟨n3, _⟩
        · exact q
        · exact absurd rfl n3
      · exact absurd rfl n2
    · rcases set_at e2 with ⟨z, _⟩ | ⟨_, e2⟩
      · exact absurd z n1
      · rcases set_at e3 with ⟨z, _⟩ | ⟨_, e3⟩
        · exact absurd z n1
        · exact h.slot j _ _ _ e1 e2 e3
  · have nd := h.nd
    unfold Wd.adr at nd ⊢
    rw [List.append_assoc] at nd ⊢
    exact nodup_less nd
  · refine h.own b ?_
    unfold Wd.adr at m ⊢
    rcases List.mem_append.mp m with m | m
    · exact List.mem_append_left _ (adr_less b m)
    · exact List.mem_append_right _ m
theorem SR.putV (h : SR A s σ H ω) {i : Nat} {d : D} {v : V} (r : Rp A.c ω.F d v) : SR A (s.put i d false) (σ.set i (some v)) H { ω with ow := ω.ow.set i none } := h.setV ⟨rfl, v, rfl, r⟩
/-- .. without a change of the slots' values -/
theorem SR.forget (h : SR A s σ H ω) {i : Nat} : SR A (s.clr i) σ H { ω with ow := ω.ow.set i none } := by
  have q := h.setV (i := i) (o := none) (w := match σ[i]? with | some w => w | none => none) rfl
  have e : σ.set i (match σ[i]? with | some w => w | none => none) = σ := by
    apply List.ext_getElem?
    intro j
    by_cases hj : j = i
    · subst hj
      by_cases l : j < σ.length
      · rw [List.getElem?_set_self l, List.getElem?_eq_getElem l]
      · rw [List.getElem?_eq_none (by rw [List.length_set]; omega), List.getElem?_eq_none (by omega)]
    · rw [List.getElem?_set_ne (Ne.symm hj)]
  rw [e] at q
  exact q
theorem set_own : ∀ {ow : List (Option Addr)} {i : Nat} {a : Addr} {r : List Addr}, i < ow.length → ((ow.set i (some a)).filterMap id ++ r).Perm (a :: ((ow.set i none).filterMap id ++ r))
  | [], i, _, _, h => absurd h (Nat.not_lt_zero _)
  | o :: ow, 0, a, r, _ => by
    simp
  | o :: ow, i + 1, a, r, h => by
    have ih := set_own (ow := ow) (a := a) (r := r) (Nat.lt_of_succ_lt_succ h)
    rw [List.set_cons_succ, List.set_cons_succ, List.filterMap_cons, List.filterMap_cons]
    cases o with
    | none => exact ih
    | some b => exact (List.Perm.cons b ih).trans (List.Perm.swap a b _)
/-- an own object gets a name -/
theorem SR.putO (h : SR A s σ H ω) {i : Nat} {d : D} {a : Addr} {pd : List (Addr × D)} (e : ω.pd = (a, d) :: pd) (l : i < s.ρ.length) : SR A (s.put i d true) (σ.set i (some (.ref a))) H ⟨ω.F, ω.ow.set i (some a), pd⟩ := by
  have ob := h.pds (a, d) (by rw [e]; exact List.mem_cons_self)
  have lo : i < ω.ow.length := by rw [h.olen, ← h.len]; exact l
  have pm := perm_pd (ι := A.c.ι) e
  have p2 : ((⟨ω.F, ω.ow.set i (some a), pd⟩ : Wd).adr ++ A.c.ι).Perm (a :: ((⟨ω.F, ω.ow.set i none, pd⟩ : Wd).adr ++ A.c.ι)) := by
    unfold Wd.adr
    rw [List.append_assoc, List.append_assoc]
    exact set_own lo
  have nd1 := List.nodup_cons.mp (pm.nodup_iff.mp h.nd)
  have less : ∀ b, b ∈ (⟨ω.F, ω.ow.set i none, pd⟩ : Wd).adr ++ A.c.ι → b ∈ ({ ω with pd := pd } : Wd).adr ++ A.c.ι := fun b m => by
    unfold Wd.adr at m ⊢
    rw [List.append_assoc] at m ⊢
    rcases List.mem_append.mp m with m | m
    · exact List.mem_append_left _ (adr_less b m)
    · exact List.mem_append_right _ m
  refine ⟨h.f0, h.new, h.sub, h.fr, h.old, h.ntb, h.tab, ?_, ?_, fun j o' a' w' e1 e2 e3 => ?_, fun p hp => h.pds p (by rw [e]; exact List.mem_cons_of_mem _ hp), h.stl, h.sts, ?_, fun b m => ?_, fun b m => ?_⟩
  · show (s.ρ.set i _).length = (σ.set i _).length
    rw [List.length_set, List.length_set]
    exact h.len
  · show (ω.ow.set i _).length = (σ.set i _).length
    rw [List.length_set, List.length_set]
    exact h.olen
  · rcases put_same e1 with ⟨rfl, rfl⟩ | ⟨n1, e1⟩
    · rcases set_at e2 with ⟨_, rfl⟩ | ⟨n2, _⟩
      · rcases set_at e3 with ⟨_, rfl⟩ | ⟨n3, _⟩
        · exact ⟨a, rfl, rfl, ob⟩
        · exact absurd rfl n3
      · exact absurd rfl n2
    · rcases set_at e2 with ⟨z, _⟩ | ⟨_, e2⟩
      · exact absurd z n1
      · rcases set_at e3 with ⟨z, _⟩ | ⟨_, e3⟩
        · exact absurd z n1
        · exact h.slot j _ _ _ e1 e2 e3
  · rw [p2.nodup_iff, List.nodup_cons]
    refine ⟨fun m => nd1.1 (less a m), ?_⟩
    have nd := nd1.2
    unfold Wd.adr at nd ⊢
    rw [List.append_assoc] at nd ⊢
    exact nodup_less nd
  · refine h.fre b (pm.mem_iff.mpr ?_)
    rcases List.mem_cons.mp (p2.mem_iff.mp m) with rfl | m
    · exact List.mem_cons_self
    · exact List.mem_cons_of_mem _ (less b m)
  · have m' : b ∈ (⟨ω.F, ω.ow.set i (some a), pd⟩ : Wd).adr := m
    have p3 : (⟨ω.F, ω.ow.set i (some a), pd⟩ : Wd).adr.Perm (a :: (⟨ω.F, ω.ow.set i none, pd⟩ : Wd).adr) := by
      unfold Wd.adr
      exact set_own lo
    rcases List.mem_cons.mp (p3.mem_iff.mp m') with rfl | m
    · exact h.own b (pd_mem (p := (b, d)) (by rw [e]; exact List.mem_cons_self))
    · refine h.own b ?_
      unfold Wd.adr at m ⊢
      rcases List.mem_append.mp m with m | m
      · exact List.mem_append_left _ (adr_less b m)
      · rw [e]
        exact List.mem_append_right _ (List.mem_cons_of_mem _ m)
theorem set_none {ow : List (Option Addr)} {i : Nat} {a : Addr} (e : ow[i]? = some (some a)) : ow.set i (some a) = ow := by
  apply List.ext_getElem?
  intro j
  by_cases hj : j = i
  · subst hj
    rw [List.getElem?_set_self (List.getElem?_eq_some_iff.mp e).1, e]
  · rw [List.getElem?_set_ne (Ne.symm hj)]
/-- an object loses its name -/
theorem SR.takeO (h : SR A s σ H ω) {i : Nat} {d : D} (e : s.get i = some (d, true)) : ∃ a, σ[i]? = some (some (.ref a)) ∧ SR A (s.clr i) σ H ⟨ω.F, ω.ow.set i none, (a, d) :: ω.pd⟩ := by
  obtain ⟨a, e1, ob, e2⟩ := h.obj e
  have f := h.forget (i := i)
  have lo : i < ω.ow.length := (List.getElem?_eq_some_iff.mp e2).1
  have p1 : (ω.adr ++ A.c.ι).Perm (a :: (({ ω with ow := ω.ow.set i none } : Wd).adr ++ A.c.ι)) := by
    have z := set_own (a := a) (r := ω.pd.map (·.1) ++ A.c.ι) lo
    rw [set_none e2] at z
    unfold Wd.adr
    rw [List.append_assoc, List.append_assoc]
    exact z
  have p2 : ((⟨ω.F, ω.ow.set i none, (a, d) :: ω.pd⟩ : Wd).adr ++ A.c.ι).Perm (a :: (({ ω with ow := ω.ow.set i none } : Wd).adr ++ A.c.ι)) := perm_pd (p := (a, d)) rfl
  refine ⟨a, e1, ⟨f.f0, f.new, f.sub, f.fr, f.old, f.ntb, f.tab, f.len, f.olen, f.slot, fun p hp => ?_, f.stl, f.sts, ?_, fun b m => ?_, fun b m => ?_⟩⟩
  · rcases List.mem_cons.mp hp with rfl | hp
    · exact ob
    · exact f.pds p hp
  · rw [p2.nodup_iff]
    exact p1.nodup_iff.mp h.nd
  · exact h.fre b (p1.mem_iff.mpr (p2.mem_iff.mp m))
  · unfold Wd.adr at m
    rcases List.mem_append.mp m with m | m
    · exact f.own b (by unfold Wd.adr; exact List.mem_append_left _ m)
    · rcases List.mem_cons.mp m with rfl | m
      · exact h.own b (ow_mem e2)
      · exact f.own b (by unfold Wd.adr; exact List.mem_append_right _ m)

/-! ### an own object is changed -/
theorem SR.chg (h : SR A s σ H ω) {a : Addr} {o : HO} (m : a ∈ ω.adr ++ A.c.ι) (mo : ∀ ps, o ≠ .tbl ps) : 
    (∀ b u, b ≠ a → H b = some u → upd H a o b = some u) ∧ (∀ b u, ω.F b = some u → Ln (upd H a o) b u) ∧
    (∀ b u, A.H0 b = some u → (∀ ps, u ≠ .tbl ps) → b ∉ A.c.ι → upd H a o b = some u ∨ (DkO u ∧ (∃ v, A.F0 b = some v) ∧ ∃ od, upd H a o b = some (.frz od u))) ∧ (∀ b u, A.H0 b = some u → (∀ ps, u ≠ .tbl ps) → ∃ o', upd H a o b = some o' ∧ ∀ ps, o' ≠ .tbl ps) ∧ LamX.Tabs A.T (upd H a o) := by
  have e0 : ∀ b, b ≠ a → upd H a o b = H b := fun b n => upd_ne n
  refine ⟨fun b u n e => by rw [e0 b n]; exact e, fun b u e => ?_, fun b u e n nb => ?_, fun b u e n => ?_, fun p hp => ?_⟩
  · exact (h.sub b u e).to fun o' q _ => by
      rw [e0 b (fun z => by rw [z, h.fre a m] at e; cases e)]
      exact q
  · by_cases hb : b = a
    · rcases List.mem_append.mp m with m | m
      · rw [hb] at e
        exact ((h.own a m).no e n).elim
      · exact absurd (by rw [hb]; exact m) nb
    · rw [e0 b hb]
      exact h.fr b u e n nb
  · by_cases hb : b = a
    · rw [hb]
      exact ⟨o, upd_same, mo⟩
    · rw [e0 b hb]
      exact h.old b u e n
  · obtain ⟨ps, h1, h2, h3⟩ := h.tab p hp
    obtain ⟨u, hu, mu⟩ := h.ob m
    have np : p.1 ≠ a := fun z => by
      rw [z, hu] at h1
      cases h1
      exact mu
    refine ⟨ps, by rw [e0 _ np]; exact h1, h2, fun pos cv hc => ?_⟩
    obtain ⟨c0, e1, e2⟩ := h3 pos cv hc
    refine ⟨c0, e1, ?_⟩
    rw [e0 c0 (fun z => by rw [z, hu] at e2; cases e2; exact mu)]
    exact e2
theorem nodup_mid {α : Type} {l r : List α} {a : α} (h : (l ++ a :: r).Nodup) : a ∉ l ∧ a ∉ r := by
  have p : (l ++ a :: r).Perm (a :: (l ++ r)) := List.perm_middle
  have z := (List.nodup_cons.mp (p.nodup_iff.mp h)).1
  exact ⟨fun m => z (List.mem_append_left _ m), fun m => z (List.mem_append_right _ m)⟩
/-- two places of the own objects with one address are one place -/
theorem ow_inj : ∀ {ow : List (Option Addr)} {r : List Addr} {i j : Nat} {a : Addr}, (ow.filterMap id ++ r).Nodup → ow[i]? = some (some a) → ow[j]? = some (some a) → i = j
  | [], _, _, _, _, _, e, _ => by simp at e
  | o :: ow, r, i, j, a, h, e1, e2 => by
    have tail : (ow.filterMap id ++ r).Nodup := by
      rw [List.filterMap_cons] at h
      cases o with
      | none => exact h
      | some b =>
        have h' : (b :: (ow.filterMap id ++ r)).Nodup := h
        exact (List.nodup_cons.mp h').2
    have head : ∀ {k : Nat}, o = some a → ow[k]? = some (some a) → False := fun {k} eo e => by
      subst eo
      have h' : (a :: (ow.filterMap id ++ r)).Nodup := h
      exact (List.nodup_cons.mp h').1 (List.mem_append_left _ (List.mem_filterMap.mpr ⟨some a, List.mem_of_getElem? e, rfl⟩))
    cases i with
    | zero =>
      have eo : o = some a := by simpa using e1
      cases j with
      | zero => rfl
      | succ j => exact (head eo (by simpa using e2)).elim
    | succ i =>
      cases j with
      | zero => exact (head (by simpa using e2) (by simpa using e1 : ow[i]? = some (some a))).elim
      | succ j => exact congrArg (· + 1) (ow_inj tail (by simpa using e1) (by simpa using e2))
theorem SR.ne_pd (h : SR A s σ H ω) {i : Nat} {a : Addr} {p : Addr × D} (e : ω.ow[i]? = some (some a)) (hp : p ∈ ω.pd) : p.1 ≠ a := fun z => by
  have nd := h.nd
  unfold Wd.adr at nd
  rw [List.append_assoc, List.nodup_append] at nd
  exact nd.2.2 a (List.mem_filterMap.mpr ⟨some a, List.mem_of_getElem? e, rfl⟩) a (List.mem_append_left _ (List.mem_map.mpr ⟨p, hp, z⟩)) rfl
theorem SR.ne_st (h : SR A s σ H ω) {n : Nat} {a b : Addr} (m : a ∈ ω.adr) (e : A.c.ι[n]? = some b) : b ≠ a := fun z => by
  have nd := h.nd
  rw [List.nodup_append] at nd
  exact nd.2.2 a m b (List.mem_of_getElem? e) z.symm
/-- the object at a name is changed -/
theorem SR.chgO (h : SR A s σ H ω) {i : Nat} {d d' : D} {a : Addr} {o : HO} (e : s.get i = some (d, true)) (ea : σ[i]? = some (some (.ref a))) (mo : ∀ ps, o ≠ .tbl ps) (ob : ObAt A.c ω.F (upd H a o) a d') : SR A (s.put i d' true) σ (upd H a o) ω := by
  obtain ⟨b, e1, _, e2⟩ := h.obj e
  rw [ea] at e1
  cases e1
  have am : a ∈ ω.adr := ow_mem e2
  obtain ⟨c0, c1, c2, c3, c4⟩ := h.chg (o := o) (List.mem_append_left _ am) mo
  have e0 : ∀ b, b ≠ a → upd H a o b = H b := fun b n => upd_ne n
  have nd1 := h.nd
  unfold Wd.adr at nd1
  rw [List.append_assoc] at nd1
  refine ⟨h.f0, h.new, c1, c2, c3, h.ntb, c4, ?_, h.olen, fun j o' a' w' x1 x2 x3 => ?_, fun p hp => (h.pds p hp).up (Sm.refl _) (e0 _ (h.ne_pd e2 hp)), h.stl, fun n b d' x1 x2 => (h.sts n b d' x1 x2).up (Sm.refl _) (e0 _ (h.ne_st am x1)), h.nd, h.fre, h.own⟩
  · show (s.ρ.set i _).length = _
    rw [List.length_set]
    exact h.len
  · rcases put_same x1 with ⟨rfl, rfl⟩ | ⟨n1, x1⟩
    · rw [e2] at x2
      cases x2
      rw [ea] at x3
      cases x3
      exact ⟨a, rfl, rfl, ob⟩
    · exact (h.slot j _ _ _ x1 x2 x3).up (Sm.refl _) fun b eb => e0 b fun z => n1 (ow_inj nd1 (by rw [x2, eb, z]) e2)
/-- an object of the store is changed -/
theorem SR.chgS (h : SR A s σ H ω) {n : Nat} {d' : D} {a : Addr} {o : HO} (e : A.c.ι[n]? = some a) (mo : ∀ ps, o ≠ .tbl ps) (ob : ObAt A.c ω.F (upd H a o) a d') : SR A ⟨s.ρ, s.st.set n d'⟩ σ (upd H a o) ω := by
  have am : a ∈ ω.adr ++ A.c.ι := List.mem_append_right _ (List.mem_of_getElem? e)
  obtain ⟨c0, c1, c2, c3, c4⟩ := h.chg (o := o) am mo
  have e0 : ∀ b, b ≠ a → upd H a o b = H b := fun b n => upd_ne n
  have nι : A.c.ι.Nodup := (List.nodup_append.mp h.nd).2.1
  refine ⟨h.f0, h.new, c1, c2, c3, h.ntb, c4, h.len, h.olen, fun j o' a' w' x1 x2 x3 => (h.slot j _ _ _ x1 x2 x3).up (Sm.refl _) fun b eb => e0 b fun z => h.ne_st (ow_mem (by rw [x2, eb])) e z.symm, fun p hp => (h.pds p hp).up (Sm.refl _) (e0 _ fun z => h.ne_st (pd_mem hp) e z.symm), by rw [List.length_set]; exact h.stl, fun m b d x1 x2 => ?_, h.nd, h.fre, h.own⟩
  rcases set_at x2 with ⟨rfl, rfl⟩ | ⟨n1, x2⟩
  · rw [e] at x1
    cases x1
    exact ob
  · refine (h.sts m b d x1 x2).up (Sm.refl _) (e0 b fun z => n1 ?_)
    rw [z] at x1
    obtain ⟨l1, g1⟩ := List.getElem?_eq_some_iff.mp x1
    obtain ⟨l2, g2⟩ := List.getElem?_eq_some_iff.mp e
    exact (List.getElem_inj nι).mp (g1.trans g2.symm)
end
end Mp
end
section
set_option Elab.async false
set_option linter.all false
set_option maxRecDepth 100000
set_option maxHeartbeats 2000000
/-! MpQ: what an evaluation of MpCore promises of the run; operands; the state's further lemmas. -/
namespace Mp
open PySem PySem.Spec PyProof.Rows L2

section
variable {A : Act} {s s' : S} {σ : L2.St} {H H' : Hp} {ω ω' : Wd}

/-- own objects without a name are forgotten -/
theorem SR.drop (h : SR A s σ H ω) {pd : List (Addr × D)} {ps : List (Addr × D)} (e : ω.pd = ps ++ pd) : SR A s σ H { ω with pd := pd } := by
  have sub : ∀ b, b ∈ ({ ω with pd := pd } : Wd).adr → b ∈ ω.adr := fun b m => by
    unfold Wd.adr at m ⊢
    rcases List.mem_append.mp m with m | m
    · exact List.mem_append_left _ m
    · exact List.mem_append_right _ (by rw [e, List.map_append]; exact List.mem_append_right _ m)
  have sub' : ∀ b, b ∈ ({ ω with pd := pd } : Wd).adr ++ A.c.ι → b ∈ ω.adr ++ A.c.ι := fun b m => by
    rcases List.mem_append.mp m with m | m
    · exact List.mem_append_left _ (sub b m)
    · exact List.mem_append_right _ m
  refine ⟨h.f0, h.new, h.sub, h.fr, h.old, h.ntb, h.tab, h.len, h.olen, h.slot, fun p hp => h.pds p (by rw [e]; exact List.mem_append_right _ hp), h.stl, h.sts, ?_, fun b hb => h.fre b (sub' b hb), fun b hb => h.own b (sub b hb)⟩
  have nd := h.nd
  have key : ω.adr ++ A.c.ι = ω.ow.filterMap id ++ (ps.map (·.1) ++ (pd.map (·.1) ++ A.c.ι)) := by
    unfold Wd.adr
    rw [e, List.map_append, List.append_assoc, List.append_assoc]
  rw [key] at nd
  show ((ω.ow.filterMap id ++ pd.map (·.1)) ++ A.c.ι).Nodup
  rw [List.append_assoc]
  have sl : (ω.ow.filterMap id ++ (pd.map (·.1) ++ A.c.ι)).Sublist (ω.ow.filterMap id ++ (ps.map (·.1) ++ (pd.map (·.1) ++ A.c.ι))) :=
    List.Sublist.append_left (List.sublist_append_right _ _) _
  exact sl.nodup nd

/-- a new object that is known from now on -/
theorem SR.fix (h : SR A s σ H ω) {a : Addr} {o : HO} (e : H a = none) (nt : ∀ ps, o ≠ .tbl ps) : Sm ω.F (upd ω.F a o) ∧ SR A s σ (upd H a o) { ω with F := upd ω.F a o } := by
  have g := h.junk (o := o) e
  have aF := h.noF e
  have sm : Sm ω.F (upd ω.F a o) := Sx.sm fun b u q => by
    rw [upd_ne (ne_of_none q aF)]
    exact q
  have a0 : A.F0 a = none := by
    cases q : A.F0 a with
    | none => rfl
    | some u =>
      obtain ⟨_, z⟩ := (h.f0 a u q).ex
      rw [z] at aF
      cases aF
  have na := h.apart e
  refine ⟨sm, g.f0.trans sm, fun b u q z => ?_, fun b u q => ?_, g.fr, g.old, fun b ps q => ?_, g.tab, g.len, g.olen, fun i o' b w e1 e2 e3 => (g.slot i o' b w e1 e2 e3).up sm fun _ _ => rfl, fun p hp => (g.pds p hp).up sm rfl, g.stl, fun n b d e1 e2 => (g.sts n b d e1 e2).up sm rfl, g.nd, fun b hb => ?_, g.own⟩
  · by_cases hb : b = a
    · rw [hb]; exact h.no0 (.of e)
    · have q : upd ω.F a o b = some u := q
      rw [upd_ne hb] at q
      exact h.new b u q z
  · have q : upd ω.F a o b = some u := q
    by_cases hb : b = a
    · rw [hb, upd_same] at q
      cases q
      rw [hb]
      exact .inl upd_same
    · rw [upd_ne hb] at q
      exact (h.sub b u q).to fun o' z _ => by
        rw [upd_ne hb]
        exact z
  · have q : upd ω.F a o b = some (.tbl ps) := q
    by_cases hb : b = a
    · rw [hb, upd_same] at q
      cases q
      exact nt ps rfl
    · rw [upd_ne hb] at q
      exact h.ntb b ps q
  · show upd ω.F a o b = none
    rw [upd_ne (fun z => na (by rw [← z]; exact hb))]
    exact h.fre b hb
end

/-! ### what is promised -/
/-- the exception of kind k with the payload d -/
structure CE where
  CD : Nat → Addr
  AT : Nat → Str
  KS : List Nat
def XR (E : CE) (c : Cn) (F : Hp) (k : Nat) (d : D) (cls : Value) (od : Option Addr) : Prop :=
  k ∈ E.KS ∧ cls = .ref (E.CD k) ∧ (d = .cls 0 ∨ ∃ dx fs v, od = some dx ∧ F dx = some (.xd fs) ∧ fs.lookup (E.AT k) = some v ∧ Rp c F d v)
theorem XR.up {E : CE} {c : Cn} {F F' : Hp} {k : Nat} {d : D} {cls : Value} {od : Option Addr} (s : Sm F F') (h : XR E c F k d cls od) : XR E c F' k d cls od := by
  obtain ⟨m, e, h⟩ := h
  refine ⟨m, e, ?_⟩
  rcases h with h | ⟨dx, fs, v, h1, h2, h3, h4⟩
  · exact .inl h
  · exact .inr ⟨dx, fs, v, h1, (s _ _ h2).exact id, h3, h4.up s⟩

section
variable (E : CE) (A : Act) (W : L2.WX)
def ErOk (x : D) (s' : S) : Prop := match x with
  | .exc k d => ∀ cls od σ' H' ω', SR A s' σ' H' ω' → XR E A.c ω'.F k d cls od → W cls od σ' H'
  | _ => False
def QR (_ : L2.St) {α : Type} (r : R α) (P : α → S → Prop) : Prop := match r with
  | .ok a s' => P a s'
  | .er x s' => ErOk E A W x s'
  | .no => False
end
section
variable {E : CE} {A : Act} {W : L2.WX} {σ : L2.St}
theorem QR.bind {α β : Type} {r : R α} {f : α → S → R β} {P : β → S → Prop} (h : QR E A W σ (r.bind f) P) : QR E A W σ r fun a s' => QR E A W σ (f a s') P := by
  cases r with
  | ok a s' => exact h
  | er x s' => exact h
  | no => exact h
theorem QR.mono {α : Type} {r : R α} {P P' : α → S → Prop} (h : QR E A W σ r P) (k : ∀ a s', r = .ok a s' → P a s' → P' a s') : QR E A W σ r P' := by
  cases r with
  | ok a s' => exact k a s' rfl h
  | er x s' => exact h
  | no => exact h
theorem QR.quiet {α : Type} {r : R α} {P : α → S → Prop} (h : QR E A W σ r.quiet P) : QR E A W σ r P ∧ ∀ x s', r ≠ .er x s' := by
  cases r with
  | ok a s' => exact ⟨h, fun _ _ z => nomatch z⟩
  | er x s' => exact h.elim
  | no => exact h.elim
end

/-- an answer: a value, or an object of one's own -/
def Out (c : Cn) (ω ω' : Wd) (d : D) (o : Bool) (v : V) : Prop := match o with
  | true => ∃ a, v = .ref a ∧ ω'.pd = (a, d) :: ω.pd
  | false => Rp c ω'.F d v ∧ ω'.pd = ω.pd
/-- a value: what is its own is fixed -/
theorem SR.outV {A : Act} {s : S} {σ : L2.St} {H : Hp} {ω ω' : Wd} {d : D} {o : Bool} {v : V} (h : SR A s σ H ω') (q : Out A.c ω ω' d o v) : ∃ F', Sm ω'.F F' ∧ SR A s σ H ⟨F', ω'.ow, ω.pd⟩ ∧ Rp A.c F' d v := by
  cases o with
  | false =>
    obtain ⟨r, e⟩ := q
    refine ⟨ω'.F, Sm.refl _, ?_, r⟩
    rw [← e]
    exact h
  | true =>
    obtain ⟨a, rfl, e⟩ := q
    exact h.freeze e
/-- the answer's promise, for a rule of HandS -/
def QE (E : CE) (A : Act) (W : L2.WX) (σ : L2.St) (ω : Wd) (r : R (D × Bool)) (Q : VK) : Prop :=
  QR E A W σ r fun x s' => ∀ v H' ω', Sm ω.F ω'.F → SR A s' σ H' ω' → Out A.c ω ω' x.1 x.2 v → Q v H'
def QV (E : CE) (A : Act) (W : L2.WX) (σ : L2.St) (ω : Wd) (r : R (D × Bool)) (P : D → S → V → Hp → Wd → Prop) : Prop :=
  QR E A W σ r fun x s' => ∀ v H' ω', Sm ω.F ω'.F → SR A s' σ H' ω' → ω'.pd = ω.pd → Rp A.c ω'.F x.1 v → P x.1 s' v H' ω'
def tE (E : CE) (A : Act) (W : L2.WX) (f : S → R (D × Bool)) : TE := fun σ H Q => ∃ s ω, SR A s σ H ω ∧ QE E A W σ ω (f s) Q
theorem tE.val {E : CE} {A : Act} {W : L2.WX} {σ : L2.St} {H : Hp} {Q : VK} {f : S → R (D × Bool)} {s : S} {ω : Wd} (h : SR A s σ H ω) (q : QV E A W σ ω (f s) fun _ _ v H' _ => Q v H') : tE E A W f σ H Q := by
  refine ⟨s, ω, h, q.mono fun x s' e z v H' ω' sm h' o => ?_⟩
  obtain ⟨F', sm', h'', r⟩ := h'.outV o
  exact z v H' ⟨F', ω'.ow, ω.pd⟩ (sm.trans sm') h'' rfl r
/-- .. used -/
theorem QR.val {E : CE} {A : Act} {W : L2.WX} {σ : L2.St} {H : Hp} {Q : VK} {f : S → R (D × Bool)} {s : S} {ω : Wd} (h : SR A s σ H ω) {P : D × Bool → S → Prop} (q : QR E A W σ (f s) P)
    (k : ∀ d o s' v H' ω', f s = .ok (d, o) s' → P (d, o) s' → Sm ω.F ω'.F → SR A s' σ H' ω' → ω'.pd = ω.pd → Rp A.c ω'.F d v → Q v H') : tE E A W f σ H Q :=
  tE.val h (QR.mono q fun x s' e z v H' ω' sm h' e' r => k x.1 x.2 s' v H' ω' e z sm h' e' r)

/-! ### operands -/
def HR (c : Cn) (F : Hp) (σ : L2.St) : Hd → V → Prop
  | .v d, v => Rp c F d v
  | .sl i, v => σ[i]? = some (some v)
theorem HR.up {c : Cn} {F F' : Hp} {σ : L2.St} {h : Hd} {v : V} (s : Sm F F') (q : HR c F σ h v) : HR c F' σ h v := by
  cases h with
  | v d => exact Rp.up s q
  | sl i => exact q
/-- what stands at a value now: the outmost object in H, its parts in F -/
def Vw (c : Cn) (F H : Hp) (d : D) (v : V) : Prop := match d with
  | .tup xs => ∃ a vs, v = .ref a ∧ SqT c.K H a vs ∧ RpL c F xs vs ∧ Rp c F (.tup xs) v
  | .lst xs => ∃ a vs, v = .ref a ∧ Rd H a (.lst vs) ∧ RpL c F xs vs
  | .dic kvs => ∃ a, v = .ref a ∧ ((∃ q, (Rd H a (.dK q) ∨ c.KD a q) ∧ RpK c F kvs q) ∨ ∃ q, Rd H a (.dT q) ∧ RpT c F kvs q)
  | .gdc kvs => ∃ a q, v = .ref a ∧ c.KD a q ∧ RpK c F kvs q
  | d => Rp c F d v
theorem Vw.gdc {c : Cn} {F H : Hp} {kvs : List (D × D)} {v : V} (h : Vw c F H (.gdc kvs) v) : Vw c F H (.dic kvs) v := by
  obtain ⟨a, q, e, h, r⟩ := h
  exact ⟨a, e, .inl ⟨q, .inr h, r⟩⟩
section
variable {A : Act} {s : S} {σ : L2.St} {H : Hp} {ω : Wd}
theorem SR.vw (h : SR A s σ H ω) {d : D} {v : V} (r : Rp A.c ω.F d v) : Vw A.c ω.F H d v := by
  cases d with
  | tup xs =>
    have r0 := r
    unfold Rp at r
    obtain ⟨a, vs, e, q, r⟩ := r
    exact ⟨a, vs, e, h.sqT q.1, r, r0⟩
  | lst xs =>
    unfold Rp at r
    obtain ⟨a, vs, e, q, r⟩ := r
    exact ⟨a, vs, e, h.rd q, r⟩
  | dic kvs =>
    unfold Rp at r
    obtain ⟨a, e, r⟩ := r
    refine ⟨a, e, ?_⟩
    rcases r with ⟨q, z, r⟩ | ⟨q, z, r⟩
    · exact .inl ⟨q, .inl (h.rd z), r⟩
    · exact .inr ⟨q, h.rd z, r.2⟩
  | gdc kvs =>
    unfold Rp at r
    exact r
  | _ => exact r
theorem ObAt.vw {c : Cn} {F H : Hp} {a : Addr} {d : D} (h : ObAt c F H a d) : Vw c F H d (.ref a) := by
  cases d with
  | lst xs =>
    obtain ⟨vs, e, r⟩ := h
    exact ⟨a, vs, rfl, .inl e, r⟩
  | dic kvs =>
    refine ⟨a, rfl, ?_⟩
    rcases h with ⟨q, z, r⟩ | ⟨q, z, r⟩
    · exact .inl ⟨q, .inl (.inl z), r⟩
    · exact .inr ⟨q, .inl z, r.2⟩
  | _ => exact h.elim
theorem SR.deref (h : SR A s σ H ω) {d : D} {v : V} (r : Rp A.c ω.F d v) : Vw A.c ω.F H (s.deref d) v := by
  cases d with
  | ref n =>
    have r' := r
    unfold Rp at r'
    obtain ⟨a, e, rfl⟩ := r'
    show Vw A.c ω.F H (match s.st[n]? with | some o => o | none => .ref n) (.ref a)
    cases q : s.st[n]? with
    | none => exact r
    | some o => exact (h.sts n a o e q).vw
  | tup xs => exact h.vw r
  | lst xs => exact h.vw r
  | dic xs => exact h.vw r
  | gdc xs => exact h.vw r
  | _ => exact r
theorem SR.res (h : SR A s σ H ω) {k : Hd} {d : D} {v : V} (q : HR A.c ω.F σ k v) (e : k.res s = some d) : Vw A.c ω.F H d v := by
  cases k with
  | v d0 =>
    cases e
    exact h.deref q
  | sl i =>
    have e : (s.get i).map (·.1) = some d := e
    cases g : s.get i with
    | none => rw [g] at e; cases e
    | some p =>
      obtain ⟨d1, o⟩ := p
      rw [g] at e
      cases e
      cases o with
      | false =>
        obtain ⟨v', e1, r, _⟩ := h.val g
        have q : σ[i]? = some (some v) := q
        rw [q] at e1
        cases e1
        exact h.vw r
      | true =>
        obtain ⟨a, e1, ob, _⟩ := h.obj g
        have q : σ[i]? = some (some v) := q
        rw [q] at e1
        cases e1
        exact ob.vw
end
/-- an operand's code -/
def tH (E : CE) (A : Act) (W : L2.WX) (f : S → R Hd) : TE := fun σ H Q => ∃ s ω, SR A s σ H ω ∧ QR E A W σ (f s) fun h s' => ∀ v H' ω', Sm ω.F ω'.F → SR A s' σ H' ω' → ω'.pd = ω.pd → HR A.c ω'.F σ h v → Q v H'
theorem QR.hd {E : CE} {A : Act} {W : L2.WX} {σ : L2.St} {H : Hp} {Q : VK} {f : S → R Hd} {s : S} {ω : Wd} (h : SR A s σ H ω) {P : Hd → S → Prop} (q : QR E A W σ (f s) P)
    (k : ∀ h s' v H' ω', f s = .ok h s' → P h s' → Sm ω.F ω'.F → SR A s' σ H' ω' → ω'.pd = ω.pd → HR A.c ω'.F σ h v → Q v H') : tH E A W f σ H Q :=
  ⟨s, ω, h, QR.mono q fun x s' e z v H' ω' sm h' e' r => k x s' v H' ω' e z sm h' e' r⟩
theorem QR.liftO {E : CE} {A : Act} {W : L2.WX} {σ : L2.St} {o : Option (D × Bool)} {s : S} {P : D × Bool → S → Prop} (q : QR E A W σ (liftO o s) P) : ∃ r, o = some r ∧ P r s := by
  cases o with
  | none => exact q.elim
  | some r => exact ⟨r, rfl, q⟩
end Mp
end
section
set_option Elab.async false
set_option linter.all false
set_option maxRecDepth 100000
set_option maxHeartbeats 2000000
/-! MpTup: the operations that make tuples, with what is known of the object made: no dict hangs on it. -/
namespace Mp
open PySem PySem.Spec PyProof.Rows L2
/-- a new tuple -/
def NewT (J : Hp) (Q : VK) (xs : List V) : Prop := ∀ p o, J p = none → o.dict = none → Q (.ref p) (upd J p (.frz o (.tup xs)))
section
variable {X : Cx}
theorem new_tup {ps : List (Addr × Obj)} {τ : L2.St} {J : Hp} {t : Shared} {Q : VK} {xs : List V} {ws : List Value} (I : Inv X ps τ J t) (hz : xs.length ≤ sizeLine) (r : Vals xs ws) (q : NewT J Q xs) :
    EP X ps τ Q (.ref t.heap.objs.size) { t with heap := t.heap.push { cls := .type "tuple", data := .seq ws.toArray } } := by
  have e : (t.heap.push { cls := .type "tuple", data := .seq ws.toArray }).get? t.heap.objs.size = some { cls := .type "tuple", data := .seq ws.toArray } := Heap.get?_push_size _ rfl
  exact ⟨.ref t.heap.objs.size, _, I.laid (t' := t.toks) (o := .frz { cls := .type "tuple", data := .seq ws.toArray } (.tup xs)) (fun _ _ z => Heap.get?_push_of_some _ z) (Nat.le_refl _) ⟨e, hz, ws, r, IsTup.new _ _⟩, rfl, q _ _ (I.hok.fresh (Nat.le_refl _)) rfl⟩
/-- a display -/
theorem pe_tupN {es : List Expr} {ta : TA} {k : Nat} {pos : Pos} (ha : PA X es ta) : PE X (.Tuple es k pos) (fun τ J Q => ta τ J fun xs J1 => xs.length ≤ sizeLine ∧ NewT J1 Q xs) := by
  refine ⟨fun ps t τ J Q I q => wpAny_Tuple_spliced (thn (ha.run pos ps t τ J _ I q) fun us t1 hh => ?_)⟩
  obtain ⟨xs, J1, I1, r, z, q1⟩ := hh
  exact ⟨by rw [← r.length]; exact z, new_tup I1 z r q1⟩
/-- t + u -/
theorem op_catN : OpR X (binaryOp .Add) (fun x y J Q => ∃ a b xs ys, x = .ref a ∧ y = .ref b ∧ SqT X.K J a xs ∧ SqT X.K J b ys ∧ xs.length + ys.length ≤ sizeLine ∧
    (xs = [] → Q (.ref b) J) ∧ (xs ≠ [] → ys = [] → Q (.ref a) J) ∧ (xs ≠ [] → ys ≠ [] → NewT J Q (xs ++ ys))) := by
  intro ps t τ J x y vx vy Q I rx ry hh
  obtain ⟨a, b, xs, ys, rfl, rfl, sa, sb, hz, q0, q1, q2⟩ := hh
  obtain ⟨wa, ra, ta, _⟩ := I.tuple sa
  obtain ⟨wb, rb, tb, _⟩ := I.tuple sb
  cases rx
  cases ry
  by_cases hx : xs = []
  · subst hx
    cases ra
    exact cat_tup0 ta tb ⟨.ref b, J, I, rfl, q0 rfl⟩
  · refine HT.cat_tup ta tb (fun z => hx (ra.nil_iff.mp z)) (fun z => ⟨.ref a, J, I, rfl, q1 hx (rb.nil_iff.mp z)⟩) (fun z => ?_) (by rw [← ra.length, ← rb.length]; exact hz)
    exact new_tup I (by rw [List.length_append]; exact hz) (ra.append rb) (q2 hx fun w => z (rb.nil_iff.mpr w))
/-- t[lo:hi] -/
theorem sl_tupN : SlR X (fun x lo hi J Q => ∃ a xs, x = .ref a ∧ SqT X.K J a xs ∧ (HT.sIx xs.length 0 lo = 0 ∧ HT.sIx xs.length xs.length hi = xs.length → Q (.ref a) J) ∧
    (¬ (HT.sIx xs.length 0 lo = 0 ∧ HT.sIx xs.length xs.length hi = xs.length) → NewT J Q (cutV xs lo hi))) := by
  intro ps t τ J x v vl vu lo hi sl Q I rx sa pl pu hh
  obtain ⟨a, xs, rfl, hx, q1, q2⟩ := hh
  cases rx
  obtain ⟨ws, r, ta, hz⟩ := I.tuple hx
  have hlen : ws.toArray.size = xs.length := by rw [List.size_toArray, r.length]
  refine ⟨"tuple", _, PyProof.Rows.slot_tuple_getitem.lookup, ta.typeIs, ?_⟩
  by_cases hw : HT.sIx xs.length 0 lo = 0 ∧ HT.sIx xs.length xs.length hi = xs.length
  · exact getItem_tuple_whole ta sa pl pu (by rw [hlen]; exact hw) ⟨.ref a, J, I, rfl, q1 hw⟩
  · refine HT.getItem_tuple_cut ta sa pl pu (by rw [hlen]; exact hw) ?_ (by rw [hlen]; exact hz)
    rw [hlen]
    exact new_tup I (Nat.le_trans (cutV_length xs lo hi) hz) ((r.drop (HT.sIx xs.length 0 lo)).take (HT.sIx xs.length xs.length hi - HT.sIx xs.length 0 lo)) (q2 hw)
/-- tuple(xs) -/
theorem call_tupleN : CallR X (.type "tuple") (fun vs J Q => ∃ p ys, vs = [.ref p] ∧ ((SqL X.K J p ys ∧ NewT J Q ys) ∨ (SqT X.K J p ys ∧ Q (.ref p) J))) := by
  intro ps t τ J vs us Q I rs hh
  obtain ⟨p, ys, rfl, hh⟩ := hh
  obtain ⟨u, rfl, ru⟩ := vals1 rs
  cases ru
  rcases hh with ⟨hq, q⟩ | ⟨hq, q⟩
  · obtain ⟨ws, r, pl, hz⟩ := I.list hq
    have hlen := r.length
    refine call_tuple_list pl.isList (fun h2 kp => ?_) (by simp only [List.size_toArray] <;> omega)
    exact new_tup (t := { t with heap := h2 }) (I.kept (t' := t.toks) kp) hz r q
  · obtain ⟨ws, r, pl, hz⟩ := I.tuple hq
    exact call_tuple_same pl ⟨.ref p, J, I, rfl, q⟩
end
end Mp
end
section
set_option Elab.async false
set_option linter.all false
set_option maxRecDepth 100000
set_option maxHeartbeats 2000000
/-! MpOp: the operators on data, as rules of HandS. -/
namespace Mp
open PySem PySem.Spec PyProof.Rows L2

/-- what is wanted of an answer r of a step that changes no slot -/
def Ans1 (A : Act) (s : S) (σ : L2.St) (ω : Wd) (r : D × Bool) (Q : VK) : Prop := ∀ v H' ω', Sm ω.F ω'.F → SR A s σ H' ω' → Out A.c ω ω' r.1 r.2 v → Q v H'
def rO1 (A : Act) (f : D → Option (D × Bool)) : V → Hp → VK → Prop := fun x H Q => ∃ s σ ω d r, SR A s σ H ω ∧ Vw A.c ω.F H d x ∧ f d = some r ∧ Ans1 A s σ ω r Q
def rO2 (A : Act) (f : D → D → Option (D × Bool)) : R2 := fun x y H Q => ∃ s σ ω d e r, SR A s σ H ω ∧ Vw A.c ω.F H d x ∧ Vw A.c ω.F H e y ∧ f d e = some r ∧ Ans1 A s σ ω r Q
section
variable {A : Act} {s : S} {σ : L2.St} {H : Hp} {ω : Wd} {Q : VK}
theorem Ans1.v {d : D} {v : V} (h : SR A s σ H ω) (r : Rp A.c ω.F d v) (q : Ans1 A s σ ω (d, false) Q) : Q v H := q v H ω (Sm.refl _) h ⟨r, rfl⟩
theorem Ans1.tup {xs : List D} {vs : List V} (h : SR A s σ H ω) (r : RpL A.c ω.F xs vs) (q : Ans1 A s σ ω (.tup xs, false) Q) : NewT H Q vs := fun p o hp hd => by
  obtain ⟨sm, h'⟩ := h.fix (o := .frz o (.tup vs)) hp (fun _ z => nomatch z)
  refine q _ _ _ sm h' ⟨?_, rfl⟩
  unfold Rp
  exact ⟨p, vs, rfl, ⟨.inl (.inr ⟨o, upd_same⟩), .inl ⟨o, _, upd_same, hd⟩⟩, r.up sm⟩
theorem Ans1.lst {xs : List D} {vs : List V} (h : SR A s σ H ω) (r : RpL A.c ω.F xs vs) (q : Ans1 A s σ ω (.lst xs, true) Q) : ∀ p, H p = none → Q (.ref p) (upd H p (.lst vs)) := fun p hp => by
  have h' := h.fresh (H' := upd H p (.lst vs)) (d := .lst xs) hp (fun b o q => by rw [upd_ne (ne_of_none q hp)]; exact q) ⟨vs, upd_same, r⟩
  exact q _ _ { ω with pd := (p, .lst xs) :: ω.pd } (Sm.refl _) h' ⟨p, rfl, rfl⟩
end

theorem Rp.i {c : Cn} {F : Hp} (i : Int) : Rp c F (.int i) (.int i) := by unfold Rp; rfl
theorem Rp.b {c : Cn} {F : Hp} (i : Bool) : Rp c F (.bl i) (.bl i) := by unfold Rp; rfl
theorem Rp.s {c : Cn} {F : Hp} (i : PySem.Str) : Rp c F (.str i) (.str i) := by unfold Rp; rfl
theorem Rp.n {c : Cn} {F : Hp} : Rp c F .non .non := by unfold Rp; rfl
theorem Ans1.i {A : Act} {s : S} {σ : L2.St} {H : Hp} {ω : Wd} {Q : VK} {i : Int} (q : Ans1 A s σ ω (.int i, false) Q) (h : SR A s σ H ω) : Q (.int i) H := q.v h (.i i)
theorem Ans1.b {A : Act} {s : S} {σ : L2.St} {H : Hp} {ω : Wd} {Q : VK} {i : Bool} (q : Ans1 A s σ ω (.bl i, false) Q) (h : SR A s σ H ω) : Q (.bl i) H := q.v h (.b i)
theorem Ans1.s {A : Act} {s : S} {σ : L2.St} {H : Hp} {ω : Wd} {Q : VK} {i : PySem.Str} (q : Ans1 A s σ ω (.str i, false) Q) (h : SR A s σ H ω) : Q (.str i) H := q.v h (.s i)
/-! ### ints -/
theorem small_of {i : Int} (h : small i = true) : -(2 ^ 64) < i ∧ i < 2 ^ 64 := by
  unfold small at h
  have h := (Nat.blt_eq).mp h
  omega
theorem log_of {i : Int} (h : big i = false) : i.natAbs.log2 < 4000 := by
  unfold big at h
  have h : ¬ 2 ^ 4000 ≤ i.natAbs := fun z => by rw [(Nat.ble_eq).mpr z] at h; cases h
  exact PySem.Flt.log2_lt_of (by omega) (by omega)
theorem bits_of (x : Int) : Builtin.Int.intBits x ≤ x.natAbs.log2 + 1 := by
  unfold Builtin.Int.intBits
  split <;> omega
section
variable {X : Cx} {A : Act}
theorem of_opt {α : Type} {c : Bool} {a r : α} (h : (if c then some a else none) = some r) : c = true ∧ a = r := by
  cases c with
  | true => exact ⟨rfl, Option.some.inj h⟩
  | false => cases h

theorem of_opt' {α : Type} {c : Bool} {a : Option α} {r : α} (h : (if c then a else none) = some r) : c = true ∧ a = some r := by
  cases c with
  | true => exact ⟨rfl, h⟩
  | false => cases h
theorem op_sub_ok : OpR X (binaryOp .Sub) (rO2 A (ap2 .sub)) := by
  intro pins t τ H x y v u Q I rx ry ⟨s, σ, ω, d, e, r, h, hx, hy, hf, q⟩
  cases d with
  | int i =>
    cases e with
    | int j =>
      cases hf
      exact op_sub pins t τ H x y v u Q I rx ry ⟨i, j, hx, hy, q.i h⟩
    | _ => cases hf
  | _ => cases hf
theorem op_mul_int {i j : Int} (hc : (small i || small j || (!big i && !big j)) = true) : IntMulOk i j := by
  simp only [Bool.or_eq_true, Bool.and_eq_true, Bool.not_eq_true'] at hc
  rcases hc with (hc | hc) | ⟨h1, h2⟩
  · exact CMul.ok (.inl (small_of hc))
  · exact CMul.ok (.inr (small_of hc))
  · have a := log_of h1
    have b := log_of h2
    exact CMulW.ok (show _ < _ by omega)
theorem op_fdiv_ok : OpR X (binaryOp .FloorDiv) (rO2 A (ap2 .fdiv)) := by
  intro pins t τ H x y v u Q I rx ry ⟨s, σ, ω, d, e, r, h, hx, hy, hf, q⟩
  cases d with
  | int i =>
    cases e with
    | int j =>
      have hf : (if j = 0 then none else if Nat.blt j.natAbs 1073741824 then some (D.int (i.fdiv j), false) else if (decide (0 < j) && !big j) = true then some (D.int (i.fdiv j), false) else none) = some r := hf
      have hx : x = .int i := hx
      have hy : y = .int j := hy
      subst hx hy
      obtain ⟨t1, rfl⟩ := rx
      obtain ⟨t2, rfl⟩ := ry
      have hr : j ≠ 0 ∧ Builtin.divisionGoesByPylong i j = false ∧ r = (.int (i.fdiv j), false) := by
        split at hf
        · cases hf
        · rename_i hj
          split at hf
          · rename_i hs
            cases hf
            exact ⟨hj, PyProof.noPylong_small ((Nat.blt_eq).mp hs), rfl⟩
          · split at hf
            · rename_i hb
              cases hf
              simp only [Bool.and_eq_true, Bool.not_eq_true'] at hb
              exact ⟨hj, PyProof.noPylong_of_log2 (Nat.lt_trans (log_of hb.2) (by decide)), rfl⟩
            · cases hf
      obtain ⟨h0, h1, rfl⟩ := hr
      exact floordiv_int h0 ⟨.int _, H, I.tok _, ⟨_, rfl⟩, q.i h⟩ (.inl h1)
    | _ => cases hf
  | _ => cases hf
theorem op_mod_ok : OpR X (binaryOp .Mod) (rO2 A (ap2 .mod)) := by
  intro pins t τ H x y v u Q I rx ry ⟨s, σ, ω, d, e, r, h, hx, hy, hf, q⟩
  cases d with
  | int i =>
    cases e with
    | int j =>
      have hf : (if j = 0 then none else some (D.int (i.fmod j), false)) = some r := hf
      split at hf
      · cases hf
      · rename_i hj
        cases hf
        exact op_modN pins t τ H x y v u Q I rx ry ⟨i, j, hx, hy, hj, q.i h⟩
    | _ => cases hf
  | _ => cases hf
theorem op_pow_ok : OpR X (binaryOp .Pow) (rO2 A (ap2 .pow)) := by
  intro pins t τ H x y v u Q I rx ry ⟨s, σ, ω, d, e, r, h, hx, hy, hf, q⟩
  cases d with
  | int i =>
    cases e with
    | int j =>
      obtain ⟨hc, hr⟩ := of_opt (c := (decide (0 ≤ j) && decide (j ≤ 1000) && !big i)) hf
      subst hr
      simp only [Bool.and_eq_true, decide_eq_true_eq, Bool.not_eq_true'] at hc
      have hx : x = .int i := hx
      have hy : y = .int j := hy
      subst hx hy
      obtain ⟨t1, rfl⟩ := rx
      obtain ⟨t2, rfl⟩ := ry
      refine pow_int hc.1.1 ?_ ⟨.int _, H, I.tok _, ⟨_, rfl⟩, q.i h⟩
      have b := bits_of i
      have l := log_of hc.2
      have n1 : (Builtin.Int.intBits i : Int) ≤ 4001 := by omega
      have n2 := Int.mul_le_mul n1 hc.1.2 hc.1.1 (by decide)
      omega
    | _ => cases hf
  | _ => cases hf
theorem un_neg_ok : UnR X (unaryOp .USub) (rO1 A (ap1 .neg)) := by
  intro pins t τ H x v Q I rx ⟨s, σ, ω, d, r, h, hx, hf, q⟩
  cases d with
  | int i =>
    cases hf
    exact un_neg pins t τ H x v Q I rx ⟨i, hx, q.i h⟩
  | _ => cases hf

/-! ### + and * -/
theorem line_ok {n : Nat} (h : n ≤ LINE) : n ≤ sizeLine := Nat.le_trans h (by decide)
theorem line_of {n : Nat} (h : Nat.ble n LINE = true) : n ≤ sizeLine := line_ok ((Nat.ble_eq).mp h)
theorem lst_at {pins : List (Addr × Obj)} {s : Shared} {σ : L2.St} {H : Hp} {l : Addr} {xs : List V} (I : Inv X pins σ H s) (h : Rd H l (.lst xs)) :
    xs.length ≤ sizeLine ∧ ∃ (its : List Value) (n : Nat), Vals xs its ∧ xs.length = its.length ∧ s.heap.get? l = some { cls := .type "list", data := .seq its.toArray n } := by
  obtain ⟨z, its, n, r, e⟩ := h.ok I.hok
  exact ⟨z, its, n, r, r.length, e⟩
theorem op_catL : OpR X (binaryOp .Add) (fun x y H Q => ∃ l b xs zs, x = .ref l ∧ y = .ref b ∧ Rd H l (.lst xs) ∧ Rd H b (.lst zs) ∧ xs.length + zs.length ≤ sizeLine ∧ ∀ p, H p = none → Q (.ref p) (upd H p (.lst (xs ++ zs)))) := by
  intro pins s σ H x y v u Q I rx ry h
  obtain ⟨l, b, xs, zs, rfl, rfl, hH, hB, hz, q⟩ := h
  cases rx
  cases ry
  obtain ⟨z, its, n, r, hl, e⟩ := lst_at I hH
  obtain ⟨z2, its2, n2, r2, hl2, e2⟩ := lst_at I hB
  refine PySem.P.add_list e e2 ?_ (by rw [List.size_toArray, List.size_toArray]; omega)
  have ea : its.toArray ++ its2.toArray = (its ++ its2).toArray := by simp
  rw [ea]
  exact ⟨.ref _, _, I.lnew (t' := s.toks) (r.append r2) (by rw [List.length_append]; omega), rfl, q _ I.fresh⟩
theorem op_repL : OpR X (binaryOp .Mult) (fun x y H Q => ∃ l k xs, x = .ref l ∧ y = .int k ∧ Rd H l (.lst xs) ∧ -(2 ^ 63) ≤ k ∧ k < 2 ^ 63 ∧ xs.length * k.toNat ≤ sizeLine ∧
  ∀ p, H p = none → Q (.ref p) (upd H p (.lst (List.replicate k.toNat xs).flatten))) := by
  intro pins s σ H x y v u Q I rx ry h
  obtain ⟨l, k, xs, rfl, rfl, hH, h1, h2, hz, q⟩ := h
  cases rx
  obtain ⟨t, rfl⟩ := ry
  obtain ⟨z, its, n, r, hl, e⟩ := lst_at I hH
  have hlen : its.toArray.size * k.toNat ≤ sizeLine := by rw [List.size_toArray, ← hl]; exact hz
  have hcap : ¬ its.toArray.size * k.toNat > (2 ^ 63 - 1) / 8 := by
    have : (sizeLine : Nat) ≤ (2 ^ 63 - 1) / 8 := by decide
    omega
  have hfit : ¬ (!Builtin.List.listFitsIndex k) = true := by
    rw [fitsIndex_both h1 h2]
    exact Bool.false_ne_true
  have hlong : ¬ Builtin.List.listTooLong (its.toArray.size * k.toNat) = true := by
    rw [notLongL hlen]
    exact Bool.false_ne_true
  have hnew : List.foldl (fun x1 x2 => x1 ++ x2) #[] (List.replicate (if its.toArray.isEmpty = true then 0 else k.toNat) its.toArray) = (List.replicate k.toNat its).flatten.toArray := by
    have f0 : ∀ m : Nat, List.foldl (fun x1 x2 => x1 ++ x2) #[] (List.replicate m its.toArray) = (List.replicate m its).flatten.toArray := fun m => by
      have := foldl_rep its m []
      rw [List.nil_append] at this
      exact this
    rw [f0]
    cases its with
    | nil => simp
    | cons a r' => rw [if_neg (by simp)]
  refine wpAny_binaryOp_repeat_ref (T := "list") (U := "int") (by decide) ⟨_, e, rfl⟩ (fun s' => typeIs_int s' k t) noFill_list_mul F.fills_int_mul F.slot_int_rmul repeat_list F.slot_int_index.lookup
    (call_meets F.slot_int_rmul (typeIs_int s k t) F.entry_int_rmul (F.args_int_rmul_2 _ _) (int___rmul___int_list k t l its.toArray n)
      ⟨e, rfl, ⟨_, e, rfl⟩, call_meets F.slot_list_mul ⟨_, e, rfl⟩ F.entry_list_mul (F.args_list_mul_2 _ _) (AutoListH.list___mul___list_int_3 l its.toArray n k t hfit hcap hlong) ⟨e, ?_⟩⟩)
  rw [hnew]
  exact ⟨.ref _, _, I.lnew (t' := s.toks) (r.rep k.toNat) (by rw [PyProof.Rows.lm_len_rep_flat, Nat.mul_comm]; exact hz), rfl, q _ I.fresh⟩

theorem RpL.nil_iff {c : Cn} {F : Hp} {xs : List D} {vs : List V} (r : RpL c F xs vs) : vs = [] ↔ xs = [] := by
  constructor
  · intro e
    have := r.length
    rw [e] at this
    exact List.eq_nil_of_length_eq_zero this.symm
  · intro e
    have := r.length
    rw [e] at this
    exact List.eq_nil_of_length_eq_zero this
theorem op_add_ok (hK : X.K = A.c.K) : OpR X (binaryOp .Add) (rO2 A (ap2 .add)) := by
  intro pins t τ H x y v u Q I rx ry ⟨s, σ, ω, d, e, r, h, hx, hy, hf, q⟩
  cases d with
  | int i =>
    cases e with
    | int j =>
      cases hf
      exact op_add pins t τ H x y v u Q I rx ry ⟨i, j, hx, hy, q.i h⟩
    | _ => cases hf
  | str i =>
    cases e with
    | str j =>
      obtain ⟨hc, hr⟩ := of_opt (c := Nat.ble (i.cps.size + j.cps.size) LINE) hf
      subst hr
      exact op_add_str pins t τ H x y v u Q I rx ry ⟨i, j, hx, hy, line_of hc, q.s h⟩
    | _ => cases hf
  | tup xs =>
    cases e with
    | tup ys =>
      obtain ⟨hc, hr⟩ := of_opt (c := short (xs ++ ys)) hf
      subst hr
      obtain ⟨a, vs, rfl, h1, r1, p1⟩ := hx
      obtain ⟨b, ws, rfl, h2, r2, p2⟩ := hy
      have hz := line_of hc
      rw [List.length_append, ← r1.length, ← r2.length] at hz
      refine op_catN pins t τ H _ _ v u Q I rx ry ⟨a, b, vs, ws, rfl, rfl, by rw [hK]; exact h1, by rw [hK]; exact h2, hz, fun z => ?_, fun z1 z => ?_, fun _ _ => q.tup h (r1.append r2)⟩
      · have z := r1.nil_iff.mp z
        subst z
        exact q.v h p2
      · have z := r2.nil_iff.mp z
        subst z
        refine Ans1.v h p1 ?_
        rw [List.append_nil] at q
        exact q
    | _ => cases hf
  | lst xs =>
    cases e with
    | lst ys =>
      obtain ⟨hc, hr⟩ := of_opt (c := short (xs ++ ys)) hf
      subst hr
      obtain ⟨a, vs, rfl, h1, r1⟩ := hx
      obtain ⟨b, ws, rfl, h2, r2⟩ := hy
      have hz := line_of hc
      rw [List.length_append, ← r1.length, ← r2.length] at hz
      exact op_catL pins t τ H _ _ v u Q I rx ry ⟨a, b, vs, ws, rfl, rfl, h1, h2, hz, q.lst h (r1.append r2)⟩
    | _ => cases hf
  | _ => cases hf
theorem tuple_mul0 (l : Addr) (items : Array Value) (n : Nat) (dd : Option Addr) (sl : Array (Option Value)) (x : Int) (u : Tok) (c0 : (decide (x < -(2 ^ 63)) || decide (x ≥ 2 ^ 63)) = false) (c1 : (items.isEmpty || x == 1) = false) (c2 : (decide (x ≤ 0) || items.isEmpty) = true) :
    Meets (Builtin.«tuple.__mul__» ⟨[.ref l, .int x u], []⟩) (fun _ R s => s.heap.get? l = some { cls := .type "tuple", dict := dd, data := .seq items n, slots := sl } ∧
      R (.ok (.ret (Value.ref s.heap.objs.size))) { s with heap := s.heap.push { cls := Value.type "tuple", data := Data.seq #[] }, toks := s.toks }) :=
  .of_wp fun prog w A R s h => by
    obtain ⟨hp, g, d, tk, os⟩ := s
    obtain ⟨hl, h⟩ := h
    have f1 := AutoSeq1.idx_int
    wp_walk using wpAny_loadPart' hl
    repeat (first
      | (refine wpAny_ite_false (decide_eq_false (by rw [c0]; exact Bool.false_ne_true)) ?_; wp_walk using wpAny_loadPart' hl)
      | (refine wpAny_ite_false (decide_eq_false (by rw [c1]; exact Bool.false_ne_true)) ?_; wp_walk using wpAny_loadPart' hl)
      | (refine wpAny_ite_true (decide_eq_true c2) ?_; wp_walk using wpAny_loadPart' hl)
      | (refine wpAny_ite_false (decide_eq_false (Nat.not_lt.mpr (Nat.zero_le _))) ?_; wp_walk using wpAny_loadPart' hl))
    exact ⟨_, rfl, h⟩
theorem tuple_mul1 (l : Addr) (items : Array Value) (n : Nat) (dd : Option Addr) (sl : Array (Option Value)) (x : Int) (u : Tok) (c0 : (decide (x < -(2 ^ 63)) || decide (x ≥ 2 ^ 63)) = false) (c1 : (items.isEmpty || x == 1) = true) :
    Meets (Builtin.«tuple.__mul__» ⟨[.ref l, .int x u], []⟩) (fun _ R s => s.heap.get? l = some { cls := .type "tuple", dict := dd, data := .seq items n, slots := sl } ∧
      R (.ok (.ret (.ref l))) s) :=
  .of_wp fun prog w A R s h => by
    obtain ⟨hp, g, d, tk, os⟩ := s
    obtain ⟨hl, h⟩ := h
    have f1 := AutoSeq1.idx_int
    wp_walk using wpAny_loadPart' hl
    repeat (first
      | (refine wpAny_ite_false (decide_eq_false (by rw [c0]; exact Bool.false_ne_true)) ?_; wp_walk using wpAny_loadPart' hl)
      | (refine wpAny_ite_true (decide_eq_true c1) ?_; wp_walk using wpAny_loadPart' hl)
      | (refine wpAny_ite_true (decide_eq_true rfl) ?_; wp_walk using wpAny_loadPart' hl))
    exact ⟨_, rfl, h⟩
/-- a tuple that is not empty, times two or more -/
theorem rep_big {ps : List (Addr × Obj)} {τ : L2.St} {J : Hp} {t : Shared} {Q : VK} {l : Addr} {k : Int} {xs : List V} {vx vy : Value} (I : Inv X ps τ J t) (rx : RelV (.ref l) vx) (ry : RelV (.int k) vy) (hT : SqT X.K J l xs) (hne : xs ≠ []) (h1 : 2 ≤ k) (h2 : k ≤ 1000) (hz : xs.length ≤ 1000)
    (q : NewT J Q (List.replicate k.toNat xs).flatten) : wpAny (model X.prog X.w) X.A (binaryOp .Mult vx vy) (EP X ps τ Q) X.xe t := by
  obtain ⟨tk, rfl⟩ := ry
  obtain ⟨ws, r, ⟨⟨cl, dd, dt, sl⟩, ho, hc, n, hd⟩, hs⟩ := I.tuple hT
  cases rx
  simp only at hc hd
  subst hc hd
  have hle : ws.length = xs.length := by rw [r.length]
  have w0 : ws ≠ [] := fun e => hne (List.eq_nil_of_length_eq_zero (by rw [← hle, e]; rfl))
  have i0 : ws.toArray.isEmpty = false := by cases ws <;> first | exact absurd rfl w0 | rfl
  have s0 : ws.toArray.size = xs.length := by rw [List.size_toArray, hle]
  have m0 : ((ws.toArray.size : Nat) : Int) * k ≤ 1000000 := by
    rw [s0]
    have z : ((xs.length : Nat) : Int) * k ≤ 1000 * k := Int.mul_le_mul_of_nonneg_right (by omega) (by omega)
    omega
  have fl : (List.replicate k.toNat ws).flatten.length ≤ sizeLine := by
    rw [PyProof.Rows.lm_len_rep_flat, hle, sizeLine_eq]
    have z : k.toNat * xs.length ≤ 1000 * 1000 := Nat.mul_le_mul (by omega) hz
    omega
  refine wpAny_binaryOp_repeat_ref (T := "tuple") (U := "int") (by decide) ⟨_, ho, rfl⟩ (fun s' => typeIs_int s' k tk) noFill_tuple_mul F.fills_int_mul F.slot_int_rmul repeat_tuple F.slot_int_index.lookup
    (call_meets F.slot_int_rmul (typeIs_int t k tk) F.entry_int_rmul (F.args_int_rmul_2 _ _) (int_rmul_tuple k tk l ws.toArray n dd sl)
      ⟨ho, rfl, ⟨_, ho, rfl⟩, call_meets F.slot_tuple_mul ⟨_, ho, rfl⟩ F.entry_tuple_mul (F.args_tuple_mul_2 _ _) (tuple_mulW l ws.toArray n dd sl k tk ?_ ?_ ?_ (by omega) ?_ (by rw [size_rep, List.size_toArray]; exact fl)) ⟨ho, ?_⟩⟩)
  · rw [decide_eq_false (by omega), decide_eq_false (by omega)] <;> rfl
  · rw [i0, Bool.false_or]; exact beq_eq_false_iff_ne.mpr (by omega)
  · rw [i0, Bool.or_false]; exact decide_eq_false (by omega)
  · unfold Builtin.Tuple.tupleTooMany; rw [sizeLine_eq]; exact decide_eq_false (by omega)
  · rw [size_rep]
    exact new_tup I (by rw [PyProof.Rows.lm_len_rep_flat, ← hle, ← PyProof.Rows.lm_len_rep_flat]; exact fl) (r.rep k.toNat) q
theorem op_repTA : OpR X (binaryOp .Mult) (fun x y H Q => ∃ l k xs, x = .ref l ∧ y = .int k ∧ SqT X.K H l xs ∧ -100000 ≤ k ∧ k ≤ 1000 ∧ xs.length ≤ 1000 ∧ (xs = [] ∨ k = 1 → Q (.ref l) H) ∧ (xs ≠ [] → k ≠ 1 → NewT H Q (List.replicate k.toNat xs).flatten)) := by
  intro pins s σ H x y v u Q I rx ry h
  obtain ⟨l, k, xs, rfl, rfl, hT, h1, h2, hz, q1, q2⟩ := h
  by_cases hk : xs ≠ [] ∧ 2 ≤ k
  · exact rep_big I rx ry hT hk.1 hk.2 h2 hz (q2 hk.1 (by omega))
  cases rx
  obtain ⟨t, rfl⟩ := ry
  obtain ⟨its, r, ⟨⟨cls, dd, data, sl⟩, ho, hc, n, hd⟩, hs⟩ := I.tuple hT
  simp only at hc hd
  subst hc hd
  have hi : its.toArray.isEmpty = xs.isEmpty := by
    cases r with
    | nil => rfl
    | cons _ _ => rfl
  have c0 : (decide (k < -(2 ^ 63)) || decide (k ≥ 2 ^ 63)) = false := by
    rw [decide_eq_false (by omega), decide_eq_false (by omega)] <;> rfl
  by_cases hm : (its.toArray.isEmpty || k == 1) = true
  · refine wpAny_binaryOp_repeat_ref (T := "tuple") (U := "int") (by decide) ⟨_, ho, rfl⟩ (fun s' => typeIs_int s' k t) noFill_tuple_mul F.fills_int_mul F.slot_int_rmul repeat_tuple F.slot_int_index.lookup
      (call_meets F.slot_int_rmul (typeIs_int s k t) F.entry_int_rmul (F.args_int_rmul_2 _ _) (int_rmul_tuple k t l its.toArray n dd sl)
        ⟨ho, rfl, ⟨_, ho, rfl⟩, call_meets F.slot_tuple_mul ⟨_, ho, rfl⟩ F.entry_tuple_mul (F.args_tuple_mul_2 _ _) (tuple_mul1 l its.toArray n dd sl k t c0 hm) ⟨ho, ?_⟩⟩)
    refine ⟨.ref l, H, I, rfl, q1 ?_⟩
    rw [hi, Bool.or_eq_true] at hm
    rcases hm with z | z
    · exact .inl (List.isEmpty_iff.mp z)
    · exact .inr (by simpa using z)
  · have hm : (its.toArray.isEmpty || k == 1) = false := by simpa using hm
    rw [hi, Bool.or_eq_false_iff] at hm
    have hne : xs ≠ [] := fun z => by rw [z] at hm; exact Bool.noConfusion hm.1
    have hk1 : k ≠ 1 := by simpa using hm.2
    have hk0 : k ≤ 0 := by
      have : ¬ 2 ≤ k := fun z => hk ⟨hne, z⟩
      omega
    refine wpAny_binaryOp_repeat_ref (T := "tuple") (U := "int") (by decide) ⟨_, ho, rfl⟩ (fun s' => typeIs_int s' k t) noFill_tuple_mul F.fills_int_mul F.slot_int_rmul repeat_tuple F.slot_int_index.lookup
      (call_meets F.slot_int_rmul (typeIs_int s k t) F.entry_int_rmul (F.args_int_rmul_2 _ _) (int_rmul_tuple k t l its.toArray n dd sl)
        ⟨ho, rfl, ⟨_, ho, rfl⟩, call_meets F.slot_tuple_mul ⟨_, ho, rfl⟩ F.entry_tuple_mul (F.args_tuple_mul_2 _ _) (tuple_mul0 l its.toArray n dd sl k t c0 (by rw [hi, hm.1, hm.2]; rfl) (by rw [decide_eq_true hk0]; rfl)) ⟨ho, ?_⟩⟩)
    have e0 : (List.replicate k.toNat xs).flatten = [] := by rw [show k.toNat = 0 by omega]; rfl
    have q3 := q2 hne hk1
    rw [e0] at q3
    exact new_tup I (Nat.zero_le _) .nil q3
theorem op_mul_ok (hK : X.K = A.c.K) : OpR X (binaryOp .Mult) (rO2 A (ap2 .mul)) := by
  intro pins t τ H x y v u Q I rx ry ⟨s, σ, ω, d, e, r, h, hx, hy, hf, q⟩
  cases d with
  | int i =>
    cases e with
    | int j =>
      obtain ⟨hc, hr⟩ := of_opt (c := (small i || small j || (!big i && !big j))) hf
      subst hr
      have hx : x = .int i := hx
      have hy : y = .int j := hy
      subst hx hy
      obtain ⟨t1, rfl⟩ := rx
      obtain ⟨t2, rfl⟩ := ry
      exact mul_int ⟨.int _, H, I.tok _, ⟨_, rfl⟩, q.i h⟩ (op_mul_int hc)
    | _ => cases hf
  | tup xs =>
    cases e with
    | int k =>
      obtain ⟨hc, hr⟩ := of_opt (c := (decide (-100000 ≤ k) && decide (k ≤ 1000) && Nat.ble xs.length 1000)) hf
      subst hr
      simp only [Bool.and_eq_true, decide_eq_true_eq, Nat.ble_eq] at hc
      obtain ⟨a, vs, rfl, h1, r1, p1⟩ := hx
      refine op_repTA pins t τ H _ y v u Q I rx ry ⟨a, k, vs, rfl, hy, by rw [hK]; exact h1, hc.1.1, hc.1.2, by rw [r1.length]; exact hc.2, fun z => Ans1.v h p1 ?_, fun _ _ => q.tup h (r1.replicate _)⟩
      have e : (List.replicate k.toNat xs).flatten = xs := by
        rcases z with z | z
        · rw [r1.nil_iff.mp z]
          generalize k.toNat = m
          induction m with
          | zero => rfl
          | succ m ih => rw [List.replicate_succ, List.flatten_cons, ih]; rfl
        · subst z
          show xs ++ [] = xs
          rw [List.append_nil]
      rw [e] at q
      exact q
    | _ => cases hf
  | lst xs =>
    cases e with
    | int k =>
      obtain ⟨hc, hr⟩ := of_opt (c := (decide (-100000 ≤ k) && decide (k ≤ 100000) && Nat.ble (xs.length * k.toNat) LINE)) hf
      subst hr
      simp only [Bool.and_eq_true, decide_eq_true_eq] at hc
      obtain ⟨a, vs, rfl, h1, r1⟩ := hx
      exact op_repL pins t τ H _ y v u Q I rx ry ⟨a, k, vs, rfl, hy, h1, by omega, by omega, by rw [r1.length]; exact line_of hc.2, q.lst h (r1.replicate _)⟩
    | _ => cases hf
  | _ => cases hf

/-! ### < <= > >= -/
theorem op_lt_ok : OpR X (compareOp .Lt) (rO2 A (ap2 .lt)) := by
  intro pins t τ H x y v u Q I rx ry ⟨s, σ, ω, d, e, r, h, hx, hy, hf, q⟩
  cases d with
  | int i => cases e with
    | int j => cases hf; exact op_lt pins t τ H x y v u Q I rx ry ⟨i, j, hx, hy, q.b h⟩
    | _ => cases hf
  | _ => cases hf
theorem op_le_ok : OpR X (compareOp .LtE) (rO2 A (ap2 .le)) := by
  intro pins t τ H x y v u Q I rx ry ⟨s, σ, ω, d, e, r, h, hx, hy, hf, q⟩
  cases d with
  | int i => cases e with
    | int j => cases hf; exact op_le pins t τ H x y v u Q I rx ry ⟨i, j, hx, hy, q.b h⟩
    | _ => cases hf
  | _ => cases hf
theorem op_gt_ok : OpR X (compareOp .Gt) (rO2 A (ap2 .gt)) := by
  intro pins t τ H x y v u Q I rx ry ⟨s, σ, ω, d, e, r, h, hx, hy, hf, q⟩
  cases d with
  | int i => cases e with
    | int j => cases hf; exact op_gt pins t τ H x y v u Q I rx ry ⟨i, j, hx, hy, q.b h⟩
    | _ => cases hf
  | _ => cases hf
theorem op_ge_ok : OpR X (compareOp .GtE) (rO2 A (ap2 .ge)) := by
  intro pins t τ H x y v u Q I rx ry ⟨s, σ, ω, d, e, r, h, hx, hy, hf, q⟩
  cases d with
  | int i => cases e with
    | int j => cases hf; exact op_ge pins t τ H x y v u Q I rx ry ⟨i, j, hx, hy, q.b h⟩
    | _ => cases hf
  | _ => cases hf

/-! ### == != in -/
theorem okEq_can : ∀ (n : Nat) (d : D), d.okEq n = true → (toP d).canLay0 = true ∧ (toP d).depth ≤ n
  | _, .non, _ => ⟨rfl, Nat.zero_le _⟩
  | _, .bl _, _ => ⟨rfl, Nat.zero_le _⟩
  | _, .int _, _ => ⟨rfl, Nat.zero_le _⟩
  | n, .str x, h => ⟨by cases n <;> exact h, Nat.zero_le _⟩
  | n + 1, .tup xs, h => by
    have all : ∀ (xs : List D), xs.all (D.okEq n) = true → PyData.canLayAll0 (toP.toPs xs) = true ∧ PyData.depthAll (toP.toPs xs) ≤ n := fun xs => by
      induction xs with
      | nil => exact fun _ => ⟨rfl, Nat.zero_le _⟩
      | cons d ds ih =>
        intro h
        rw [List.all_cons, Bool.and_eq_true] at h
        obtain ⟨a1, a2⟩ := okEq_can n d h.1
        obtain ⟨b1, b2⟩ := ih h.2
        exact ⟨by unfold toP.toPs PyData.canLayAll0; rw [a1, b1]; rfl, by unfold toP.toPs PyData.depthAll; exact Nat.max_le.mpr ⟨a2, b2⟩⟩
    obtain ⟨a, b⟩ := all xs h
    exact ⟨by unfold toP PyData.canLay0; exact a, by unfold toP PyData.depth; omega⟩
  | n + 1, .lst xs, h => by
    have all : ∀ (xs : List D), xs.all (D.okEq n) = true → PyData.canLayAll0 (toP.toPs xs) = true ∧ PyData.depthAll (toP.toPs xs) ≤ n := fun xs => by
      induction xs with
      | nil => exact fun _ => ⟨rfl, Nat.zero_le _⟩
      | cons d ds ih =>
        intro h
        rw [List.all_cons, Bool.and_eq_true] at h
        obtain ⟨a1, a2⟩ := okEq_can n d h.1
        obtain ⟨b1, b2⟩ := ih h.2
        exact ⟨by unfold toP.toPs PyData.canLayAll0; rw [a1, b1]; rfl, by unfold toP.toPs PyData.depthAll; exact Nat.max_le.mpr ⟨a2, b2⟩⟩
    obtain ⟨a, b⟩ := all xs h
    exact ⟨by unfold toP PyData.canLay0; exact a, by unfold toP PyData.depth; omega⟩
  | 0, .tup _, h => by cases h
  | 0, .lst _, h => by cases h
  | n, .dic _, h => by cases n <;> cases h
  | n, .ref _, h => by cases n <;> cases h
  | n, .fn _, h => by cases n <;> cases h
  | n, .cls _, h => by cases n <;> cases h
  | n, .clo _ _, h => by cases n <;> cases h
  | n, .exc _ _, h => by cases n <;> cases h
  | n, .gdc _, h => by cases n <;> cases h
mutual
theorem eqv_toP : ∀ (n m : Nat) (a b : D), a.okEq n = true → b.okEq m = true → PyData.eqv (toP a) (toP b) = D.eqv a b
  | n, m, .tup xs, .tup ys, h, h' => by
    cases n with
    | zero => cases h
    | succ n => cases m with
      | zero => cases h'
      | succ m =>
        show PyData.eqvAll _ _ = D.eqvL xs ys
        exact eqvL_toP n m xs ys h h'
  | n, m, .lst xs, .lst ys, h, h' => by
    cases n with
    | zero => cases h
    | succ n => cases m with
      | zero => cases h'
      | succ m =>
        show PyData.eqvAll _ _ = D.eqvL xs ys
        exact eqvL_toP n m xs ys h h'
  | n, m, .non, b, h, h' => by cases b <;> first | rfl | (cases m <;> cases h')
  | n, m, .bl _, b, h, h' => by cases b <;> first | rfl | (cases m <;> cases h')
  | n, m, .int _, b, h, h' => by cases b <;> first | rfl | (cases m <;> cases h')
  | n, m, .str _, b, h, h' => by cases b <;> first | rfl | (cases m <;> cases h')
  | n, m, .tup xs, .non, h, h' => rfl
  | n, m, .tup xs, .bl _, h, h' => rfl
  | n, m, .tup xs, .int _, h, h' => rfl
  | n, m, .tup xs, .str _, h, h' => rfl
  | n, m, .tup xs, .lst _, h, h' => rfl
  | n, m, .lst xs, .non, h, h' => rfl
  | n, m, .lst xs, .bl _, h, h' => rfl
  | n, m, .lst xs, .int _, h, h' => rfl
  | n, m, .lst xs, .str _, h, h' => rfl
  | n, m, .lst xs, .tup _, h, h' => rfl
  | n, m, _, .dic _, h, h' => by cases m <;> cases h'
  | n, m, _, .ref _, h, h' => by cases m <;> cases h'
  | n, m, _, .fn _, h, h' => by cases m <;> cases h'
  | n, m, _, .cls _, h, h' => by cases m <;> cases h'
  | n, m, _, .clo _ _, h, h' => by cases m <;> cases h'
  | n, m, _, .exc _ _, h, h' => by cases m <;> cases h'
  | n, m, _, .gdc _, h, h' => by cases m <;> cases h'
  | n, m, .dic _, _, h, h' => by cases n <;> cases h
  | n, m, .ref _, _, h, h' => by cases n <;> cases h
  | n, m, .fn _, _, h, h' => by cases n <;> cases h
  | n, m, .cls _, _, h, h' => by cases n <;> cases h
  | n, m, .clo _ _, _, h, h' => by cases n <;> cases h
  | n, m, .exc _ _, _, h, h' => by cases n <;> cases h
  | n, m, .gdc _, _, h, h' => by cases n <;> cases h
theorem eqvL_toP : ∀ (n m : Nat) (a b : List D), a.all (D.okEq n) = true → b.all (D.okEq m) = true → PyData.eqvAll (toP.toPs a) (toP.toPs b) = D.eqvL a b
  | n, m, [], [], _, _ => rfl
  | n, m, [], _ :: _, _, _ => rfl
  | n, m, _ :: _, [], _, _ => rfl
  | n, m, x :: xs, y :: ys, h, h' => by
    rw [List.all_cons, Bool.and_eq_true] at h h'
    show (PyData.eqv (toP x) (toP y) && PyData.eqvAll (toP.toPs xs) (toP.toPs ys)) = (D.eqv x y && D.eqvL xs ys)
    rw [eqv_toP n m x y h.1 h'.1, eqvL_toP n m xs ys h.2 h'.2]
end
theorem okEq_no {n : Nat} {d : D} (h : d.okEq n = true) : (∀ xs, d ≠ .dic xs) ∧ (∀ i, d ≠ .ref i) ∧ (∀ i, d ≠ .fn i) ∧ (∀ i, d ≠ .cls i) ∧ (∀ i xs, d ≠ .clo i xs) ∧ (∀ i x, d ≠ .exc i x) := by
  refine ⟨fun xs e => ?_, fun i e => ?_, fun i e => ?_, fun i e => ?_, fun i xs e => ?_, fun i x e => ?_⟩ <;> (subst e; cases n <;> cases h)
mutual
theorem SR.dp {s : S} {σ : L2.St} {H : Hp} {ω : Wd} (h : SR A s σ H ω) : ∀ (n : Nat) (d : D) (v : V), d.okEq n = true → Rp A.c ω.F d v → Dp A.c.K H v (toP d)
  | n, .non, v, _, r => by
    have r : v = .non := r
    subst r
    exact .non
  | n, .bl b, v, _, r => by
    have r : v = .bl b := r
    subst r
    exact .bl b
  | n, .int b, v, _, r => by
    have r : v = .int b := r
    subst r
    exact .int b
  | n, .str b, v, _, r => by
    have r : v = .str b := r
    subst r
    exact .str b
  | n + 1, .tup xs, v, k, r => by
    unfold Rp at r
    obtain ⟨a, vs, rfl, q, r⟩ := r
    exact .tup (h.sqT q.1) (SR.dps h n xs vs k r)
  | n + 1, .lst xs, v, k, r => by
    unfold Rp at r
    obtain ⟨a, vs, rfl, q, r⟩ := r
    exact .lst (.inl (h.rd q)) (SR.dps h n xs vs k r)
  | 0, .tup _, v, k, r => by cases k
  | 0, .lst _, v, k, r => by cases k
  | n, .dic _, v, k, r => by cases n <;> cases k
  | n, .ref _, v, k, r => by cases n <;> cases k
  | n, .fn _, v, k, r => by cases n <;> cases k
  | n, .cls _, v, k, r => by cases n <;> cases k
  | n, .clo _ _, v, k, r => by cases n <;> cases k
  | n, .exc _ _, v, k, r => by cases n <;> cases k
  | n, .gdc _, v, k, _ => by cases n <;> cases k
theorem SR.dps {s : S} {σ : L2.St} {H : Hp} {ω : Wd} (h : SR A s σ H ω) : ∀ (n : Nat) (xs : List D) (vs : List V), xs.all (D.okEq n) = true → RpL A.c ω.F xs vs → DpAll A.c.K H vs (toP.toPs xs)
  | n, [], vs, _, r => by
    cases r.nil_out
    exact .nil
  | n, d :: ds, vs, k, r => by
    rw [List.all_cons, Bool.and_eq_true] at k
    obtain ⟨v, r', rfl, h1, h2⟩ := r.out
    exact .cons (SR.dp h n d v k.1 h1) (SR.dps h n ds r' k.2 h2)
end
theorem SR.dpv {s : S} {σ : L2.St} {H : Hp} {ω : Wd} (h : SR A s σ H ω) {n : Nat} {d : D} {v : V} (k : d.okEq n = true) (r : Vw A.c ω.F H d v) : Dp A.c.K H v (toP d) := by
  cases d with
  | tup xs =>
    obtain ⟨_, _, _, _, _, p⟩ := r
    exact h.dp n _ v k p
  | lst xs =>
    obtain ⟨a, vs, rfl, q, r⟩ := r
    cases n with
    | zero => cases k
    | succ n => exact .lst (.inl q) (h.dps n xs vs k r)
  | dic _ => cases n <;> cases k
  | gdc _ => cases n <;> cases k
  | _ => exact h.dp n _ v k r
theorem shaped_of {d : D} (h : d.okEq EQD = true) : SeqAt.shaped (toP d) = true := by
  obtain ⟨a, b⟩ := okEq_can _ _ h
  unfold SeqAt.shaped
  rw [a, Bool.true_and]
  exact decide_eq_true (Nat.le_trans b (by decide))
theorem eq_some {d e : D} {r : Bool} (h : D.eq? d e = some r) : d.okEq EQD = true ∧ e.okEq EQD = true ∧ r = D.eqv d e := by
  unfold D.eq? at h
  obtain ⟨a, b⟩ := of_opt h
  rw [Bool.and_eq_true] at a
  exact ⟨a.1, a.2, b.symm⟩
theorem bind_some {α β : Type} {o : Option α} {f : α → Option β} {r : β} (h : o.bind f = some r) : ∃ a, o = some a ∧ f a = some r := by
  cases o with
  | none => cases h
  | some a => exact ⟨a, rfl, h⟩
theorem op_eq_ok (hK : X.K = A.c.K) (hu : X.A.units + 65 < cLine) : OpR X (compareOp .Eq) (rO2 A (ap2 .eq)) := by
  intro pins t τ H x y v u Q I rx ry ⟨s, σ, ω, d, e, r, h, hx, hy, hf, q⟩
  have hf : (D.eq? d e).bind (fun r => some (.bl r, false)) = some r := hf
  obtain ⟨b, h1, h2⟩ := bind_some hf
  cases h2
  obtain ⟨k1, k2, rfl⟩ := eq_some h1
  refine op_eqD (by omega) pins t τ H x y v u Q I rx ry ⟨toP d, toP e, by rw [hK]; exact h.dpv k1 hx, by rw [hK]; exact h.dpv k2 hy, shaped_of k1, shaped_of k2, ?_⟩
  rw [eqv_toP _ _ _ _ k1 k2]
  exact q.b h
theorem op_ne_ok (hK : X.K = A.c.K) (hu : X.A.units + 65 < cLine) : OpR X (compareOp .NotEq) (rO2 A (ap2 .ne)) := by
  intro pins t τ H x y v u Q I rx ry ⟨s, σ, ω, d, e, r, h, hx, hy, hf, q⟩
  have hf : (D.eq? d e).bind (fun r => some (.bl !r, false)) = some r := hf
  obtain ⟨b, h1, h2⟩ := bind_some hf
  cases h2
  obtain ⟨k1, k2, rfl⟩ := eq_some h1
  refine op_neD (by omega) pins t τ H x y v u Q I rx ry ⟨toP d, toP e, by rw [hK]; exact h.dpv k1 hx, by rw [hK]; exact h.dpv k2 hy, shaped_of k1, shaped_of k2, ?_⟩
  rw [eqv_toP _ _ _ _ k1 k2]
  exact q.b h
theorem toPs_any {d : D} (hd : d.okEq EQD = true) : ∀ xs : List D, xs.all (D.okEq EQD) = true → ((toP.toPs xs).any fun z => PyData.eqv z (toP d)) = xs.any fun x => D.eqv x d
  | [], _ => rfl
  | x :: xs, h => by
    rw [List.all_cons, Bool.and_eq_true] at h
    show (PyData.eqv (toP x) (toP d) || _) = (D.eqv x d || _)
    rw [eqv_toP _ _ _ _ h.1 hd, toPs_any hd xs h.2]
theorem toPs_can : ∀ xs : List D, xs.all (D.okEq EQD) = true → PyData.canLayAll0 (toP.toPs xs) = true
  | [], _ => rfl
  | x :: xs, h => by
    rw [List.all_cons, Bool.and_eq_true] at h
    show ((toP x).canLay0 && _) = true
    rw [(okEq_can _ _ h.1).1, toPs_can xs h.2]
    rfl

/-! ### keys of dicts -/
theorem eqv_key {k k' : D} {x x' : Key} (h : keyOf k = some x) (h' : keyOf k' = some x') : D.eqv k k' = decide (x = x') := by
  cases k with
  | int i =>
    cases h
    cases k' with
    | int j => cases h'; rw [key_ll]; rfl
    | str y => cases h'; rw [key_lr]; rfl
    | _ => cases h'
  | str y =>
    cases h
    cases k' with
    | int j => cases h'; rw [key_rl]; rfl
    | str z =>
      cases h'
      rw [key_rr]
      show (y == z) = _
      by_cases e : y = z
      · subst e; simp
      · rw [decide_eq_false e]; simpa using e
    | _ => cases h'
  | _ => cases h
theorem keyOf_key1 {k : D} (h : k.key1 = true) : ∃ x, keyOf k = some x := by
  cases k with
  | int i => exact ⟨_, rfl⟩
  | str i => exact ⟨_, rfl⟩
  | _ => cases h
theorem keysOf_all : ∀ {xs : List D}, xs.all D.key1 = true → ∃ ks, keysOf xs = some ks
  | [], _ => ⟨[], rfl⟩
  | x :: xs, h => by
    rw [List.all_cons, Bool.and_eq_true] at h
    obtain ⟨k, e⟩ := keyOf_key1 h.1
    obtain ⟨ks, e'⟩ := keysOf_all h.2
    exact ⟨k :: ks, by unfold keysOf; rw [e, e']⟩
theorem keysOf_cons {x : D} {xs : List D} {ks : List Key} (h : keysOf (x :: xs) = some ks) : ∃ k r, keyOf x = some k ∧ keysOf xs = some r ∧ ks = k :: r := by
  unfold keysOf at h
  cases e : keyOf x with
  | none => rw [e] at h; cases h
  | some k =>
    cases e' : keysOf xs with
    | none => rw [e, e'] at h; cases h
    | some r =>
      rw [e, e'] at h
      cases h
      exact ⟨k, r, rfl, rfl, rfl⟩
theorem eqv_keys : ∀ {xs ys : List D} {ks ls : List Key}, keysOf xs = some ks → keysOf ys = some ls → D.eqvL xs ys = decide (ks = ls)
  | [], [], _, _, h, h' => by cases h; cases h'; rfl
  | [], y :: ys, _, _, h, h' => by
    cases h
    obtain ⟨k, r, _, _, rfl⟩ := keysOf_cons h'
    rfl
  | x :: xs, [], _, _, h, h' => by
    cases h'
    obtain ⟨k, r, _, _, rfl⟩ := keysOf_cons h
    rfl
  | x :: xs, y :: ys, _, _, h, h' => by
    obtain ⟨k, r, e1, e2, rfl⟩ := keysOf_cons h
    obtain ⟨l, t, e3, e4, rfl⟩ := keysOf_cons h'
    show (D.eqv x y && D.eqvL xs ys) = _
    rw [eqv_key e1 e3, eqv_keys e2 e4]
    by_cases a : k = l
    · by_cases b : r = t
      · subst a b; simp
      · rw [decide_eq_false b, Bool.and_false, decide_eq_false (fun z => b (List.cons.inj z).2)]
    · rw [decide_eq_false a, Bool.false_and, decide_eq_false (fun z => a (List.cons.inj z).1)]
theorem keyOf_rp {c : Cn} {F : Hp} {k : D} {x : Key} {v : V} (h : keyOf k = some x) (r : Rp c F k v) : v = kV x := by
  cases k with
  | int i => cases h; exact r
  | str i => cases h; exact r
  | _ => cases h
theorem keysOf_rp {c : Cn} {F : Hp} : ∀ {xs : List D} {ks : List Key} {vs : List V}, keysOf xs = some ks → RpL c F xs vs → vs = ks.map kV
  | [], _, _, h, r => by cases h; cases r.nil_out; rfl
  | x :: xs, _, _, h, r => by
    obtain ⟨k, t, e1, e2, rfl⟩ := keysOf_cons h
    obtain ⟨v, vs, rfl, r1, r2⟩ := r.out
    rw [keyOf_rp e1 r1, keysOf_rp e2 r2]
    rfl
/-- the look-ups agree -/
def LookOk (c : Cn) (F : Hp) : Option D → Option V → Prop
  | some d, o => ∃ v, o = some v ∧ Rp c F d v
  | none, o => o = none
theorem look_cons {k' d : D} {kvs : List (D × D)} {k : D} : D.look ((k', d) :: kvs) k = if D.eqv k' k = true then some d else D.look kvs k := by
  unfold D.look
  rw [List.find?_cons]
  cases D.eqv k' k <;> rfl
theorem lookK {c : Cn} {F : Hp} {k : D} {x : Key} (h : keyOf k = some x) : ∀ {kvs : List (D × D)} {q : List (Key × V)}, RpK c F kvs q → LookOk c F (D.look kvs k) (valV q x)
  | [], q, r => by
    unfold RpK at r
    subst r
    rfl
  | (k', d) :: kvs, q, r => by
    unfold RpK at r
    obtain ⟨x', v, q', rfl, e, rd, r⟩ := r
    rw [look_cons, eqv_key e h]
    by_cases z : x' = x
    · rw [decide_eq_true z, if_pos rfl, valV_pos (p := (x', v)) z]
      exact ⟨v, rfl, rd⟩
    · rw [decide_eq_false z, if_neg Bool.false_ne_true, valV_neg (p := (x', v)) z]
      exact lookK h r
theorem lookT {c : Cn} {F : Hp} {xs : List D} {x : List Key} (h : keysOf xs = some x) : ∀ {kvs : List (D × D)} {q : List (List Key × V)}, RpT c F kvs q → LookOk c F (D.look kvs (.tup xs)) (valV q x)
  | [], q, r => by
    unfold RpT at r
    subst r
    rfl
  | (k', d) :: kvs, q, r => by
    unfold RpT at r
    obtain ⟨ys, x', v, q', rfl, rfl, e, rd, r⟩ := r
    rw [look_cons, show D.eqv (.tup ys) (.tup xs) = D.eqvL ys xs from rfl, eqv_keys e h]
    by_cases z : x' = x
    · rw [decide_eq_true z, if_pos rfl, valV_pos (p := (x', v)) z]
      exact ⟨v, rfl, rd⟩
    · rw [decide_eq_false z, if_neg Bool.false_ne_true, valV_neg (p := (x', v)) z]
      exact lookT h r
/-- a key of one form does not meet the other form -/
theorem eqv_kt {k : D} {xs : List D} {x : Key} (h : keyOf k = some x) : D.eqv k (.tup xs) = false := by
  cases k with
  | int i => rfl
  | str i => rfl
  | _ => cases h
theorem eqv_tk {k : D} {xs : List D} {x : Key} (h : keyOf k = some x) : D.eqv (.tup xs) k = false := by
  cases k with
  | int i => rfl
  | str i => rfl
  | _ => cases h

/-- the written dicts are what they seem -/
def KdOk (X : Cx) (c : Cn) : Prop := ∀ a q, c.KD a q → ∀ (H : Hp) (h : Heap), X.K.In h → ObjOk X.prog X.w H h a (.dK q)
section
variable {pins : List (Addr × Obj)} {s : Shared} {σ : L2.St} {H : Hp} {a : Addr} {c : Cn}
theorem dk_at (kd : KdOk X c) (I : Inv X pins σ H s) {q : List (Key × V)} (e : Rd H a (.dK q) ∨ c.KD a q) : q.length ≤ sizeLine ∧ (a == sysModules) = false ∧ ∃ vs, KV q vs ∧ s.heap.DictOf (mixKind X.prog X.w) a vs := by
  rcases e with e | e
  · exact dk_rd I.hok e
  · exact kd a q e H s.heap I.kIn
theorem key_sq (I : Inv X pins σ H s) {ks : List Key} (e : SqT X.K H a (ks.map kV)) : (tupleKind (mixKind X.prog X.w)).is s.heap ks a := by
  obtain ⟨its, r, ⟨o, h1, h2, n, h3⟩, _⟩ := I.tuple e
  exact ⟨o, its.toArray, n, h1, h2, h3, by simpa using items_are r⟩
end
/-- a key's value: the key itself, or the tuple of keys -/
theorem keyOk_cases {k : D} (h : k.keyOk = true) : (∃ x, keyOf k = some x) ∨ ∃ xs ks, k = .tup xs ∧ keysOf xs = some ks := by
  cases k with
  | tup xs => obtain ⟨ks, e⟩ := keysOf_all (xs := xs) h; exact .inr ⟨xs, ks, rfl, e⟩
  | int i => exact .inl ⟨_, rfl⟩
  | str i => exact .inl ⟨_, rfl⟩
  | _ => cases h

/-- the same dict, empty: its keys of either form -/
theorem dict_nil_T {P : Program} {w : World} {h : Heap} {a : Addr} (d : h.DictOf (mixKind P w) a []) : h.DictOfH (tupleKind (mixKind P w)) a [] := by
  obtain ⟨o, es, ep, h1, h2, h3, h4, h5, h6⟩ := d
  cases e : es.toList with
  | nil => exact ⟨o, es, ep, h1, h2, h3, e, (fun _ z => nomatch z), List.nodup_nil⟩
  | cons x r => rw [e] at h5; nomatch h5
theorem dict_nil_K {P : Program} {w : World} {h : Heap} {a : Addr} (d : h.DictOfH (tupleKind (mixKind P w)) a []) : h.DictOf (mixKind P w) a [] := by
  obtain ⟨o, es, ep, h1, h2, h3, h4, h5, h6⟩ := d
  refine ⟨o, es, ep, h1, h2, h3, fun e he => ?_, by rw [h4]; exact .nil, List.nodup_nil⟩
  have : e ∈ es.toList := by first | exact he | exact Array.mem_toList_iff.mpr he | simpa using he
  rw [h4] at this
  exact nomatch this
/-- a dict beside a key that fits it -/
inductive DK (X : Cx) (c : Cn) (F H : Hp) (h : Heap) (a : Addr) (y : V) (o : Option D) : Prop
  | k (q : List (Key × V)) (x : Key) (vs : List (Key × Value)) : y = kV x → q.length ≤ sizeLine → (a == sysModules) = false → KV q vs → h.DictOf (mixKind X.prog X.w) a vs → LookOk c F o (valV q x) → DK X c F H h a y o
  | t (q : List (List Key × V)) (ks : List Key) (b : Addr) (xs : List (List Key × Addr × Value)) : y = .ref b → (tupleKind (mixKind X.prog X.w)).is h ks b → q.length ≤ sizeLine → (a == sysModules) = false → KT H q xs →
      h.DictOfH (tupleKind (mixKind X.prog X.w)) a xs → LookOk c F o (valV q ks) → DK X c F H h a y o
theorem RpK.fits {c : Cn} {F : Hp} {kvs : List (D × D)} {q : List (Key × V)} {xs : List D} {ks : List Key} (r : RpK c F kvs q) (hk : keysOf xs = some ks) (h : D.fits kvs (.tup xs) = true) : kvs = [] ∧ q = [] := by
  cases kvs with
  | nil => unfold RpK at r; exact ⟨rfl, r⟩
  | cons p kvs =>
    obtain ⟨k, d⟩ := p
    unfold RpK at r
    obtain ⟨x, v, q', _, e, _⟩ := r
    have z : (k.isT == true) = true := ((Bool.and_eq_true _ _).mp h).2
    cases k with
    | tup _ => cases e
    | _ => cases z
theorem RpT.fits {c : Cn} {F : Hp} {kvs : List (D × D)} {q : List (List Key × V)} {k : D} {x : Key} (r : RpT c F kvs q) (hk : keyOf k = some x) (h : D.fits kvs k = true) : kvs = [] ∧ q = [] := by
  cases kvs with
  | nil => unfold RpT at r; exact ⟨rfl, r⟩
  | cons p kvs =>
    obtain ⟨k', d⟩ := p
    unfold RpT at r
    obtain ⟨xs, ks, v, q', _, rfl, _⟩ := r
    have z : (true == k.isT) = true := ((Bool.and_eq_true _ _).mp h).2
    cases k with
    | int _ => cases z
    | str _ => cases z
    | _ => cases hk
theorem dict_key {pins : List (Addr × Obj)} {t : Shared} {τ : L2.St} {s : S} {σ : L2.St} {H : Hp} {ω : Wd} {a : Addr} {kvs : List (D × D)} {k : D} {y : V} (kd : KdOk X A.c) (hK : X.K = A.c.K) (I : Inv X pins τ H t) (h : SR A s σ H ω)
    (hd : Vw A.c ω.F H (.dic kvs) (.ref a)) (hy : Vw A.c ω.F H k y) (hf : D.fits kvs k = true) : DK X A.c ω.F H t.heap a y (D.look kvs k) := by
  obtain ⟨a', e, hd⟩ := hd
  cases e
  have hk : k.keyOk = true := ((Bool.and_eq_true _ _).mp hf).1
  rcases keyOk_cases hk with ⟨x, ex⟩ | ⟨xs, ks, rfl, ex⟩
  · have ey : y = kV x := by
      cases k with
      | int i => exact keyOf_rp (c := A.c) (F := ω.F) ex hy
      | str i => exact keyOf_rp (c := A.c) (F := ω.F) ex hy
      | _ => cases ex
    rcases hd with ⟨q, e, r⟩ | ⟨q, e, r⟩
    · obtain ⟨z, hs, vs, rel, dd⟩ := dk_at kd I e
      exact .k q x vs ey z hs rel dd (lookK ex r)
    · obtain ⟨rfl, rfl⟩ := r.fits ex hf
      obtain ⟨z, hs, ys, rel, dd⟩ := dt_rd I.hok e
      cases rel
      exact .k [] x [] ey (Nat.zero_le _) hs .nil (dict_nil_K dd) rfl
  · obtain ⟨b, vs, rfl, hb, rb, _⟩ := hy
    have hi : (tupleKind (mixKind X.prog X.w)).is t.heap ks b := key_sq I (by rw [hK, ← keysOf_rp ex rb]; exact hb)
    rcases hd with ⟨q, e, r⟩ | ⟨q, e, r⟩
    · obtain ⟨rfl, rfl⟩ := r.fits ex hf
      obtain ⟨z, hs, vs, rel, dd⟩ := dk_at kd I e
      cases rel
      exact .t [] ks b [] rfl hi (Nat.zero_le _) hs .nil (dict_nil_T dd) rfl
    · obtain ⟨z, hs, ys, rel, dd⟩ := dt_rd I.hok e
      exact .t q ks b ys rfl hi z hs rel dd (lookT ex r)
section
variable {pins : List (Addr × Obj)} {s : Shared} {σ : L2.St} {H : Hp} {a : Addr} {c : Cn} {F : Hp} {y : V} {u : Value} {E : Value → Shared → Prop} {B : Around}
theorem DK.typeIs {o : Option D} (g : DK X c F H s.heap a y o) : s.TypeIs (.ref a) "dict" := by
  cases g with
  | k q x vs ey z hs rel dd l => exact dd.typeIs
  | t q ks b xs ey hi z hs rel dd l => exact dd.typeIs
theorem DK.get {d : D} (I : Inv X pins σ H s) (hu : B.units + 1 < cLine) (g : DK X c F H s.heap a y (some d)) (ry : RelV y u) {Q : Value → Shared → Prop} (h : ∀ v w' s', Rp c F d v → Inv X pins σ H s' → RelV v w' → Q w' s') : wpAny (model X.prog X.w) B (getItem (.ref a) u) Q E s := by
  cases g with
  | k q x vs ey z hs rel dd l =>
    subst ey
    obtain ⟨v, e, rv⟩ := l
    obtain ⟨w', hw, rw'⟩ := RelO.some_of (v := v) (o := valueAt vs x) (by rw [← e]; exact rel.val x)
    exact wpAny_getItem_of (kV_is ry) dd.mapOf hw (h v w' _ rv (I.tok _) rw')
  | t q ks b xs ey hi z hs rel dd l =>
    subst ey
    cases (show u = Value.ref b from ry)
    obtain ⟨v, e, rv⟩ := l
    obtain ⟨w', hw, rw'⟩ := RelO.some_of (v := v) (o := (atKey xs ks).map (·.2)) (by rw [← e]; exact rel.val ks)
    obtain ⟨p, hp, hp2⟩ := Option.map_eq_some_iff.mp hw
    refine wpAny_getItem_heap (tupleKind_room_in1 hu) hi dd hp ?_
    rw [hp2]
    exact h v w' _ rv (I.tok _) rw'
theorem LookOk.isSome {o : Option D} {r : Option V} (l : LookOk c F o r) : o.isSome = r.isSome := by
  cases o with
  | some d => obtain ⟨v, e, _⟩ := l; rw [e]; rfl
  | none => have l : r = none := l; rw [l]; rfl
theorem DK.isin {o : Option D} (I : Inv X pins σ H s) (hu : B.units + 1 < cLine) (g : DK X c F H s.heap a y o) (ry : RelV y u) {Q : Value → Shared → Prop} (h : ∀ s', Inv X pins σ H s' → Q (.bool o.isSome) s') : wpAny (model X.prog X.w) B (compareOp .In u (.ref a)) Q E s := by
  cases g with
  | k q x vs ey z hs rel dd l =>
    subst ey
    refine wpAny_in_of (kV_is ry) hs dd.mapOf ?_
    rw [← (rel.val x).isSome_eq, ← l.isSome]
    exact h _ (I.tok _)
  | t q ks b xs ey hi z hs rel dd l =>
    subst ey
    cases (show u = Value.ref b from ry)
    refine wpAny_in_heap (tupleKind_room_in1 hu) hi hs dd ?_
    have q := (rel.val ks).isSome_eq
    rw [Option.isSome_map] at q
    rw [← q, ← l.isSome]
    exact h _ (I.tok _)
theorem DK.notin {o : Option D} (I : Inv X pins σ H s) (hu : B.units + 1 < cLine) (g : DK X c F H s.heap a y o) (ry : RelV y u) {Q : Value → Shared → Prop} (h : ∀ s', Inv X pins σ H s' → Q (.bool (!o.isSome)) s') : wpAny (model X.prog X.w) B (compareOp .NotIn u (.ref a)) Q E s := by
  cases g with
  | k q x vs ey z hs rel dd l =>
    subst ey
    refine wpAny_notIn_of (kV_is ry) hs dd.mapOf ?_
    rw [← (rel.val x).isSome_eq, ← l.isSome]
    exact h _ (I.tok _)
  | t q ks b xs ey hi z hs rel dd l =>
    subst ey
    cases (show u = Value.ref b from ry)
    refine wpAny_notIn_heap (tupleKind_room_in1 hu) hi hs dd ?_
    have q := (rel.val ks).isSome_eq
    rw [Option.isSome_map] at q
    rw [← q, ← l.isSome]
    exact h _ (I.tok _)
theorem DK.get2 {o : Option D} {d : V} {r : Value} (I : Inv X pins σ H s) (hu : B.units + 1 < cLine) (g : DK X c F H s.heap a y o) (ry : RelV y u) (rd : RelV d r) {Q : Value → Shared → Prop}
    (h : ∀ v w' s', LookOk c F o v → Inv X pins σ H s' → RelV (v.getD d) w' → Q w' s') : wpAny (model X.prog X.w) B (call (.builtin "dict.get") [.ref a, u, r]) Q E s := by
  cases g with
  | k q x vs ey z hs rel dd l =>
    subst ey
    exact call_meetsIn PySem.F.slot_dict_get dd.typeIs PySem.F.entry_dict_get (PySem.F.args_dict_get_3 _ _ _) (meets_dict_get_default (mixKind X.prog X.w) a (kV_is ry) hs r) ⟨_, dd.mapOf, h _ _ _ l (I.tok _) ((rel.val x).getD rd)⟩
  | t q ks b xs ey hi z hs rel dd l =>
    subst ey
    cases (show u = Value.ref b from ry)
    exact call_meetsIn PySem.F.slot_dict_get dd.typeIs PySem.F.entry_dict_get (PySem.F.args_dict_get_3 _ _ _) (meetsH_dict_get_default (tupleKind (mixKind X.prog X.w)) a b hs r) ⟨tupleKind_room_in1 hu, ks, xs, hi, dd, h _ _ _ l (I.tok _) ((rel.val ks).getD rd)⟩
end
theorem in_step {neg : Bool} {d : D} {xs : List D} {as : D} {pins : List (Addr × Obj)} {t : Shared} {τ : L2.St} {H : Hp} {x y : V} {v u : Value} {s : S} {σ : L2.St} {ω : Wd} {Q : VK} (hK : X.K = A.c.K) (hu : X.A.units + 65 < cLine) (I : Inv X pins τ H t) (rx : RelV x v) (ry : RelV y u) (h : SR A s σ H ω)
    (hx : Vw A.c ω.F H d x) (hy : Vw A.c ω.F H as y) (ha : as = .tup xs ∨ as = .lst xs) (hd : d.okEq EQD = true) (hs : xs.all (D.okEq EQD) = true) (q : Ans1 A s σ ω (.bl (if neg then !(xs.any fun z => D.eqv z d) else xs.any fun z => D.eqv z d), false) Q) :
    wpAny (model X.prog X.w) X.A (compareOp (if neg then .NotIn else .In) v u) (EP X pins τ Q) X.xe t := by
  have hx' := h.dpv hd hx
  have hy' : Dp A.c.K H y (toP as) := by
    refine h.dpv (n := EQD + 1) ?_ hy
    rcases ha with rfl | rfl <;> exact hs
  rw [← hK] at hx' hy'
  obtain ⟨cs, r1⟩ := Dp.reads I _ x v hx' rx
  obtain ⟨bs, r2⟩ := Dp.reads I _ y u hy' ry
  have z := toPs_any hd xs hs
  have room := room_in_shaped (A := X.A) (xs := toP.toPs xs) (shaped_of hd) hu
  have cn := toPs_can xs hs
  have cd := SeqAt.canLay_of_shaped (shaped_of hd)
  have q' := q.b h
  rcases ha with rfl | rfl
  · cases neg with
    | false => exact SeqAt.in_tuple_reads r2 r1 cn cd room ⟨.bl _, H, I, rfl, by rw [z]; exact q'⟩
    | true => exact SeqAt.notIn_tuple_reads r2 r1 cn cd room ⟨.bl _, H, I, rfl, by rw [z]; exact q'⟩
  · cases neg with
    | false => exact SeqAt.in_list_reads r2 r1 cn cd room ⟨.bl _, H, I, rfl, by rw [z]; exact q'⟩
    | true => exact SeqAt.notIn_list_reads r2 r1 cn cd room ⟨.bl _, H, I, rfl, by rw [z]; exact q'⟩
theorem op_in_ok (hK : X.K = A.c.K) (kd : KdOk X A.c) (hu : X.A.units + 65 < cLine) : OpR X (compareOp .In) (rO2 A (ap2 .isin)) := by
  intro pins t τ H x y v u Q I rx ry ⟨s, σ, ω, d, e, r, h, hx, hy, hf, q⟩
  cases e with
  | dic kvs =>
    obtain ⟨hc, hr⟩ := of_opt (c := D.fits kvs d) (show (if D.fits kvs d then some (D.bl (D.look kvs d).isSome, false) else none) = some r by cases d <;> exact hf)
    subst hr
    have hy0 := hy
    obtain ⟨a, rfl, _⟩ := hy0
    cases (show u = Value.ref a from ry)
    exact (dict_key kd hK I h hy hx hc).isin I (by omega) rx fun s' I' => ⟨.bl _, H, I', rfl, q.b h⟩
  | gdc kvs =>
    have hy := hy.gdc
    obtain ⟨hc, hr⟩ := of_opt (c := D.fits kvs d) (show (if D.fits kvs d then some (D.bl (D.look kvs d).isSome, false) else none) = some r by cases d <;> exact hf)
    subst hr
    have hy0 := hy
    obtain ⟨a, rfl, _⟩ := hy0
    cases (show u = Value.ref a from ry)
    exact (dict_key kd hK I h hy hx hc).isin I (by omega) rx fun s' I' => ⟨.bl _, H, I', rfl, q.b h⟩
  | tup xs =>
    obtain ⟨hc, hr⟩ := of_opt (c := d.okEq EQD && xs.all (D.okEq EQD)) (show (if d.okEq EQD && xs.all (D.okEq EQD) then some (D.bl (xs.any fun x => D.eqv x d), false) else none) = some r by cases d <;> exact hf)
    subst hr
    rw [Bool.and_eq_true] at hc
    exact in_step (neg := false) hK hu I rx ry h hx hy (.inl rfl) hc.1 hc.2 q
  | lst xs =>
    obtain ⟨hc, hr⟩ := of_opt (c := d.okEq EQD && xs.all (D.okEq EQD)) (show (if d.okEq EQD && xs.all (D.okEq EQD) then some (D.bl (xs.any fun x => D.eqv x d), false) else none) = some r by cases d <;> exact hf)
    subst hr
    rw [Bool.and_eq_true] at hc
    exact in_step (neg := false) hK hu I rx ry h hx hy (.inr rfl) hc.1 hc.2 q
  | _ => cases d <;> cases hf
theorem op_notin_ok (hK : X.K = A.c.K) (kd : KdOk X A.c) (hu : X.A.units + 65 < cLine) : OpR X (compareOp .NotIn) (rO2 A (ap2 .notin)) := by
  intro pins t τ H x y v u Q I rx ry ⟨s, σ, ω, d, e, r, h, hx, hy, hf, q⟩
  cases e with
  | dic kvs =>
    obtain ⟨hc, hr⟩ := of_opt (c := D.fits kvs d) (show (if D.fits kvs d then some (D.bl (!(D.look kvs d).isSome), false) else none) = some r by cases d <;> exact hf)
    subst hr
    have hy0 := hy
    obtain ⟨a, rfl, _⟩ := hy0
    cases (show u = Value.ref a from ry)
    exact (dict_key kd hK I h hy hx hc).notin I (by omega) rx fun s' I' => ⟨.bl _, H, I', rfl, q.b h⟩
  | gdc kvs =>
    have hy := hy.gdc
    obtain ⟨hc, hr⟩ := of_opt (c := D.fits kvs d) (show (if D.fits kvs d then some (D.bl (!(D.look kvs d).isSome), false) else none) = some r by cases d <;> exact hf)
    subst hr
    have hy0 := hy
    obtain ⟨a, rfl, _⟩ := hy0
    cases (show u = Value.ref a from ry)
    exact (dict_key kd hK I h hy hx hc).notin I (by omega) rx fun s' I' => ⟨.bl _, H, I', rfl, q.b h⟩
  | tup xs =>
    obtain ⟨hc, hr⟩ := of_opt (c := d.okEq EQD && xs.all (D.okEq EQD)) (show (if d.okEq EQD && xs.all (D.okEq EQD) then some (D.bl (!(xs.any fun x => D.eqv x d)), false) else none) = some r by cases d <;> exact hf)
    subst hr
    rw [Bool.and_eq_true] at hc
    exact in_step (neg := true) hK hu I rx ry h hx hy (.inl rfl) hc.1 hc.2 q
  | lst xs =>
    obtain ⟨hc, hr⟩ := of_opt (c := d.okEq EQD && xs.all (D.okEq EQD)) (show (if d.okEq EQD && xs.all (D.okEq EQD) then some (D.bl (!(xs.any fun x => D.eqv x d)), false) else none) = some r by cases d <;> exact hf)
    subst hr
    rw [Bool.and_eq_true] at hc
    exact in_step (neg := true) hK hu I rx ry h hx hy (.inr rfl) hc.1 hc.2 q
  | _ => cases d <;> cases hf
/-! ### places -/
theorem ixN_eq (n : Nat) (i : Int) : Mp.ixN n i = L2.ixN n i := rfl
theorem ix_ok (hK : X.K = A.c.K) (kd : KdOk X A.c) (hu : X.A.units + 65 < cLine) : IxR X (rO2 A (ap2 .idx)) := by
  intro value slice pins t τ H x y v u Q I rx ry ⟨s, σ, ω, d, e, r, h, hx, hy, hf, q⟩ hs
  cases d with
  | tup xs =>
    cases e with
    | int i =>
      obtain ⟨z, h1, h2⟩ := bind_some (show ((Mp.ixN xs.length i).bind fun j => xs[j]?).bind (fun d => some (d, false)) = some r from hf)
      cases h2
      obtain ⟨j, e1, e2⟩ := bind_some h1
      obtain ⟨a, vs, rfl, hq, rq, _⟩ := hx
      obtain ⟨v', e3, r3⟩ := rq.get e2
      exact ix_tup value slice pins t τ H _ y v u Q I rx ry ⟨a, vs, i, v', rfl, hy, by rw [hK]; exact hq, by unfold atI; rw [rq.length, ← ixN_eq, e1]; exact e3, q.v h r3⟩ hs
    | _ => cases hf
  | lst xs =>
    cases e with
    | int i =>
      obtain ⟨z, h1, h2⟩ := bind_some (show ((Mp.ixN xs.length i).bind fun j => xs[j]?).bind (fun d => some (d, false)) = some r from hf)
      cases h2
      obtain ⟨j, e1, e2⟩ := bind_some h1
      obtain ⟨a, vs, rfl, hq, rq⟩ := hx
      obtain ⟨v', e3, r3⟩ := rq.get e2
      exact ix_list value slice pins t τ H _ y v u Q I rx ry ⟨a, vs, i, v', rfl, hy, .inl hq, by unfold atI; rw [rq.length, ← ixN_eq, e1]; exact e3, q.v h r3⟩ hs
    | _ => cases hf
  | dic kvs =>
    obtain ⟨hc, hr⟩ := of_opt' (c := D.fits kvs e) (show (if D.fits kvs e then (D.look kvs e).bind (fun d => some (d, false)) else none) = some r by cases e <;> exact hf)
    obtain ⟨d, e1, e2⟩ := bind_some hr
    cases e2
    have hx0 := hx
    obtain ⟨a, rfl, _⟩ := hx0
    cases (show v = Value.ref a from rx)
    have g := dict_key kd hK I h hx hy hc
    rw [e1] at g
    exact tail_any g.typeIs slot_dict_getitem.lookup (g.get I (by omega) ry fun v' w' s' rv I' rw' => ⟨v', H, I', rw', q.v h rv⟩) hs
  | gdc kvs =>
    have hx := hx.gdc
    obtain ⟨hc, hr⟩ := of_opt' (c := D.fits kvs e) (show (if D.fits kvs e then (D.look kvs e).bind (fun d => some (d, false)) else none) = some r by cases e <;> exact hf)
    obtain ⟨d, e1, e2⟩ := bind_some hr
    cases e2
    have hx0 := hx
    obtain ⟨a, rfl, _⟩ := hx0
    cases (show v = Value.ref a from rx)
    have g := dict_key kd hK I h hx hy hc
    rw [e1] at g
    exact tail_any g.typeIs slot_dict_getitem.lookup (g.get I (by omega) ry fun v' w' s' rv I' rw' => ⟨v', H, I', rw', q.v h rv⟩) hs
  | _ => cases hf
end
end Mp
end
section
set_option Elab.async false
set_option linter.all false
set_option maxRecDepth 100000
set_option maxHeartbeats 2000000
/-! MpEx: expressions, one form after the other. -/
namespace Mp
open PySem PySem.Spec PyProof.Rows L2

section
variable {E : CE} {A : Act} {W : L2.WX} {X : Cx}
theorem Out.re {c : Cn} {ω ω1 ω' : Wd} {d : D} {o : Bool} {v : V} (e : ω1.pd = ω.pd) (h : Out c ω1 ω' d o v) : Out c ω ω' d o v := by
  cases o with
  | false => exact ⟨h.1, h.2.trans e⟩
  | true =>
    obtain ⟨a, h1, h2⟩ := h
    exact ⟨a, h1, h2.trans (by rw [e])⟩
/-- a promise of an answer, as Ans1 -/
theorem QE.ans {s s1 : S} {σ : L2.St} {ω ω1 : Wd} {r : D × Bool} {Q : VK} (sm : Sm ω.F ω1.F) (e : ω1.pd = ω.pd) (q : ∀ v H' ω', Sm ω.F ω'.F → SR A s σ H' ω' → Out A.c ω ω' r.1 r.2 v → Q v H') : Ans1 A s σ ω1 r Q :=
  fun v H' ω' sm' h o => q v H' ω' (sm.trans sm') h (o.re e)

/-! ### names, constants -/
theorem e_var {i : Nat} {x : Str} {pos : Pos} (hN : X.N[i]? = some x) (hv : Vis X.env.scope x) (hd : (x == ("__debug__" : Str)) = false) (hcd : (x == ("__classdict__" : Str)) = false) :
    PE X (.Name x pos) (tE E A W fun s => match s.get i with | some (d, _) => .ok (d, false) (s.put i d false) | none => .no) := by
  refine ⟨fun pins t σ H Q I h => (pe_var hN hv hd hcd).run pins t σ H Q I ?_⟩
  obtain ⟨s, ω, sr, q⟩ := h
  dsimp only at q
  cases g : s.get i with
  | none => rw [g] at q; exact q.elim
  | some p =>
    obtain ⟨d, o⟩ := p
    rw [g] at q
    cases o with
    | false =>
      obtain ⟨v, e, r, _⟩ := sr.val g
      have z := sr.putV (i := i) r
      have e2 : σ.set i (some v) = σ := by
        apply List.ext_getElem?
        intro j
        by_cases hj : j = i
        · subst hj
          rw [List.getElem?_set_self (List.getElem?_eq_some_iff.mp e).1, e]
        · rw [List.getElem?_set_ne (Ne.symm hj)]
      rw [e2] at z
      exact ⟨v, e, q v H { ω with ow := ω.ow.set i none } (Sm.refl _) z ⟨r, rfl⟩⟩
    | true =>
      obtain ⟨a, e, z⟩ := sr.takeO g
      obtain ⟨F', sm, z', r⟩ := z.freeze rfl
      have z2 := z'.putV (i := i) r
      have e2 : σ.set i (some (.ref a)) = σ := by
        apply List.ext_getElem?
        intro j
        by_cases hj : j = i
        · subst hj
          rw [List.getElem?_set_self (List.getElem?_eq_some_iff.mp e).1, e]
        · rw [List.getElem?_set_ne (Ne.symm hj)]
      rw [e2] at z2
      have e3 : (s.clr i).put i d false = s.put i d false := by
        unfold S.clr S.put
        simp
      rw [e3] at z2
      exact ⟨.ref a, e, q (.ref a) H ⟨F', (ω.ow.set i none).set i none, ω.pd⟩ sm z2 ⟨r, rfl⟩⟩
theorem e_mov {i : Nat} {x : Str} {pos : Pos} (hN : X.N[i]? = some x) (hv : Vis X.env.scope x) (hd : (x == ("__debug__" : Str)) = false) (hcd : (x == ("__classdict__" : Str)) = false) :
    PE X (.Name x pos) (tE E A W fun s => match s.get i with | some (d, true) => .ok (d, true) (s.clr i) | some (d, false) => .ok (d, false) s | none => .no) := by
  refine ⟨fun pins t σ H Q I h => (pe_var hN hv hd hcd).run pins t σ H Q I ?_⟩
  obtain ⟨s, ω, sr, q⟩ := h
  dsimp only at q
  cases g : s.get i with
  | none => rw [g] at q; exact q.elim
  | some p =>
    obtain ⟨d, o⟩ := p
    rw [g] at q
    cases o with
    | false =>
      obtain ⟨v, e, r, _⟩ := sr.val g
      exact ⟨v, e, q v H _ (Sm.refl _) sr ⟨r, rfl⟩⟩
    | true =>
      obtain ⟨a, e, z⟩ := sr.takeO g
      exact ⟨.ref a, e, q (.ref a) H ⟨ω.F, ω.ow.set i none, (a, d) :: ω.pd⟩ (Sm.refl _) z ⟨a, rfl, rfl⟩⟩
theorem h_peek {i : Nat} {x : Str} {pos : Pos} (hN : X.N[i]? = some x) (hv : Vis X.env.scope x) (hd : (x == ("__debug__" : Str)) = false) (hcd : (x == ("__classdict__" : Str)) = false) :
    PE X (.Name x pos) (tH E A W fun s => match s.get i with | some (_, true) => .ok (.sl i) s | some (d, false) => .ok (.v d) s | none => .no) := by
  refine ⟨fun pins t σ H Q I h => (pe_var hN hv hd hcd).run pins t σ H Q I ?_⟩
  obtain ⟨s, ω, sr, q⟩ := h
  dsimp only at q
  cases g : s.get i with
  | none => rw [g] at q; exact q.elim
  | some p =>
    obtain ⟨d, o⟩ := p
    rw [g] at q
    cases o with
    | false =>
      obtain ⟨v, e, r, _⟩ := sr.val g
      exact ⟨v, e, q v H _ (Sm.refl _) sr rfl r⟩
    | true =>
      obtain ⟨a, e, _, _⟩ := sr.obj g
      exact ⟨.ref a, e, q (.ref a) H _ (Sm.refl _) sr rfl e⟩
theorem e_of {e : Expr} {d : D} {v : V} {t : TE} (he : PE X e t) (ht : ∀ σ H Q, Q v H → t σ H Q) (r : ∀ F, Rp A.c F d v) : PE X e (tE E A W fun s => .ok (d, false) s) := by
  refine ⟨fun pins t' σ H Q I h => he.run pins t' σ H Q I ?_⟩
  obtain ⟨s, ω, sr, q⟩ := h
  exact ht σ H Q (q v H ω (Sm.refl _) sr ⟨r _, rfl⟩)
theorem h_of {e : Expr} {f : S → R (D × Bool)} (he : PE X e (tE E A W f)) : PE X e (tH E A W fun s => (f s).bind fun d s => .ok (.v d.1) s) := by
  refine ⟨fun pins t' σ H Q I h => he.run pins t' σ H Q I ?_⟩
  obtain ⟨s, ω, sr, q⟩ := h
  exact QR.val sr q.bind fun d o s' v H' ω' _ z sm sr' e' r => z v H' ω' sm sr' e' r

/-! ### operators -/
theorem op_use {f : D → D → Option (D × Bool)} {ta tb : S → R Hd} {σ : L2.St} {H : Hp} {Q : VK} (h : tE E A W (fun s => (ta s).bind fun h s1 => (tb s1).bind fun k s2 => liftO (res2 h k s2 f) s2) σ H Q) :
    tOp (rO2 A f) (tH E A W ta) (tH E A W tb) σ H Q := by
  obtain ⟨s, ω, sr, q⟩ := h
  refine QR.hd sr q.bind fun h1 s1 v1 H1 ω1 _ z1 sm1 sr1 e1 r1 => ?_
  refine QR.hd sr1 z1.bind fun h2 s2 v2 H2 ω2 _ z2 sm2 sr2 e2 r2 => ?_
  obtain ⟨r, er, p⟩ := z2.liftO
  obtain ⟨d, ed, er⟩ := bind_some er
  obtain ⟨d', ed', er⟩ := bind_some er
  exact ⟨s2, σ, ω2, d, d', r, sr2, sr2.res (r1.up sm2) ed, sr2.res r2 ed', er, QE.ans (s1 := s) (sm1.trans sm2) (e2.trans e1) p⟩
theorem e_bin {op : Operator} {f : D → D → Option (D × Bool)} {a b : Expr} {pos : Pos} {ta tb : S → R Hd} (ho : OpR X (binaryOp op) (rO2 A f)) (ha : PE X a (tH E A W ta)) (hb : PE X b (tH E A W tb)) :
    PE X (.BinOp a op b pos) (tE E A W fun s => (ta s).bind fun h s1 => (tb s1).bind fun k s2 => liftO (res2 h k s2 f) s2) :=
  ⟨fun pins t σ H Q I h => (pe_op ho ha hb).run pins t σ H Q I (op_use h)⟩
theorem e_cmp {op : CmpOp} {f : D → D → Option (D × Bool)} {a b : Expr} {pos : Pos} {ta tb : S → R Hd} (ho : OpR X (compareOp op) (rO2 A f)) (ha : PE X a (tH E A W ta)) (hb : PE X b (tH E A W tb)) (hm : behindInMarks op b = false) :
    PE X (.Compare a [op] [b] pos) (tE E A W fun s => (ta s).bind fun h s1 => (tb s1).bind fun k s2 => liftO (res2 h k s2 f) s2) :=
  ⟨fun pins t σ H Q I h => (pe_cmpR ho ha hb hm).run pins t σ H Q I (op_use h)⟩
theorem e_ix {f : D → D → Option (D × Bool)} {a b : Expr} {pos : Pos} {ta tb : S → R Hd} (ho : IxR X (rO2 A f)) (ha : PE X a (tH E A W ta)) (hb : PE X b (tH E A W tb)) (hs : PlainIx b) :
    PE X (.Subscript a b pos) (tE E A W fun s => (ta s).bind fun h s1 => (tb s1).bind fun k s2 => liftO (res2 h k s2 f) s2) :=
  ⟨fun pins t σ H Q I h => (pe_ix ho ha hb hs).run pins t σ H Q I (op_use h)⟩
theorem un_use {f : D → Option (D × Bool)} {ta : S → R Hd} {σ : L2.St} {H : Hp} {Q : VK} (h : tE E A W (fun s => (ta s).bind fun h s1 => liftO (res1 h s1 f) s1) σ H Q) :
    tUn (rO1 A f) (tH E A W ta) σ H Q := by
  obtain ⟨s, ω, sr, q⟩ := h
  refine QR.hd sr q.bind fun h1 s1 v1 H1 ω1 _ z1 sm1 sr1 e1 r1 => ?_
  obtain ⟨r, er, p⟩ := z1.liftO
  obtain ⟨d, ed, er⟩ := bind_some er
  exact ⟨s1, σ, ω1, d, r, sr1, sr1.res r1 ed, er, QE.ans (s1 := s) sm1 e1 p⟩
theorem e_un {op : UnaryOp} {f : D → Option (D × Bool)} {a : Expr} {pos : Pos} {ta : S → R Hd} (ho : UnR X (unaryOp op) (rO1 A f)) (ha : PE X a (tH E A W ta)) :
    PE X (.UnaryOp op a pos) (tE E A W fun s => (ta s).bind fun h s1 => liftO (res1 h s1 f) s1) :=
  ⟨fun pins t σ H Q I h => (pe_un ho ha).run pins t σ H Q I (un_use h)⟩

/-! ### truth -/
def tT (E : CE) (A : Act) (W : L2.WX) (f : S → R (D × Bool)) : TT := fun σ H Q => ∃ s ω, SR A s σ H ω ∧ QR E A W σ (f s) fun x s' => ∃ b, x.1 = .bl b ∧ ∀ H' ω', Sm ω.F ω'.F → SR A s' σ H' ω' → ω'.pd = ω.pd → Q b H'
theorem QR.tst {s : S} {ω : Wd} {σ : L2.St} {H : Hp} {f : S → R (D × Bool)} {Q : Bool → Hp → Prop} (h : SR A s σ H ω) {P : D × Bool → S → Prop} (q : QR E A W σ (f s) P)
    (k : ∀ d o s', f s = .ok (d, o) s' → P (d, o) s' → ∃ b, d = .bl b ∧ ∀ H' ω', Sm ω.F ω'.F → SR A s' σ H' ω' → ω'.pd = ω.pd → Q b H') : tT E A W f σ H Q :=
  ⟨s, ω, h, QR.mono q fun x s' e z => k x.1 x.2 s' e z⟩
/-- a test's promise, from the value's -/
theorem tT.e {f : S → R (D × Bool)} {σ : L2.St} {H : Hp} {Q : Bool → Hp → Prop} (h : tT E A W f σ H Q) : tE E A W f σ H (fun x H1 => ∃ c, x = .bl c ∧ Q c H1) := by
  obtain ⟨s, ω, sr, q⟩ := h
  refine QR.val sr q fun d o s' v H' ω' _ ⟨b, eb, z⟩ sm sr' e' r => ?_
  have eb : d = .bl b := eb
  subst eb
  exact ⟨b, r, z H' ω' sm sr' e'⟩
theorem t_val {e : Expr} {f : S → R (D × Bool)} (he : PE X e (tE E A W f)) (hp : ∀ whole, isTrue e X.env whole = (do let v ← whole; standAt e.pos; holding [v] (truthy v))) : PT X e (tT E A W f) :=
  ⟨fun pins t σ H Q I h => (pt_val he hp).run pins t σ H Q I h.e⟩
theorem t_cmp {op : CmpOp} {f : D → D → Option (D × Bool)} {a b : Expr} {pos : Pos} {ta tb : S → R Hd} (ho : OpR X (compareOp op) (rO2 A f)) (ha : PE X a (tH E A W ta)) (hb : PE X b (tH E A W tb)) (hm : behindInMarks op b = false) :
    PT X (.Compare a [op] [b] pos) (tT E A W fun s => (ta s).bind fun h s1 => (tb s1).bind fun k s2 => liftO (res2 h k s2 f) s2) :=
  ⟨fun pins t σ H Q I h => (pt_cmpR ho ha hb hm).run pins t σ H Q I (op_use h.e)⟩
theorem QR.er {α β : Type} {σ : L2.St} {x : D} {s : S} {P : α → S → Prop} {P' : β → S → Prop} (h : QR E A W σ (.er x s : R α) P) : QR E A W σ (.er x s : R β) P' := h
/-- a promise carried to a later place -/
theorem QE.re {σ : L2.St} {ω ω1 : Wd} {r : R (D × Bool)} {Q : VK} (sm : Sm ω.F ω1.F) (e : ω1.pd = ω.pd) (q : QE E A W σ ω r Q) : QE E A W σ ω1 r Q :=
  QR.mono q fun x s' _ z v H' ω' sm' h o => z v H' ω' (sm.trans sm') h (o.re e)
theorem QE.at {s : S} {σ : L2.St} {H : Hp} {ω ω1 : Wd} {f : S → R (D × Bool)} {Q : VK} (sm : Sm ω.F ω1.F) (e : ω1.pd = ω.pd) (h : SR A s σ H ω1) (q : QE E A W σ ω (f s) Q) : tE E A W f σ H Q := ⟨s, ω1, h, q.re sm e⟩
/-- .. where only the value counts -/
theorem QE.atV {s : S} {σ : L2.St} {H : Hp} {ω ω1 : Wd} {f : S → R (D × Bool)} {Q : VK} (sm : Sm ω.F ω1.F) (e : ω1.pd = ω.pd) (h : SR A s σ H ω1) (q : QE E A W σ ω ((f s).bind fun y s2 => .ok (y.1, false) s2) Q) : tE E A W f σ H Q :=
  QR.val h q.bind fun d o s' v H' ω' _ z sm' h' e' r => z v H' ω' (sm.trans sm') h' ⟨r, e'.trans e⟩
theorem bl_cases {x : D} {α : Type} {σ : L2.St} {s : S} {P : α → S → Prop} {f : Bool → R α} (q : QR E A W σ (match x with | .bl true => f true | .bl false => f false | _ => .no) P) : ∃ b, x = .bl b ∧ QR E A W σ (f b) P := by
  cases x with
  | bl b => cases b <;> exact ⟨_, rfl, q⟩
  | _ => exact q.elim
theorem e_not {a : Expr} {pos : Pos} {fa : S → R (D × Bool)} (ha : PE X a (tE E A W fa)) :
    PE X (.UnaryOp .Not a pos) (tE E A W fun s => (fa s).bind fun x s1 => match x.1 with | .bl b => .ok (.bl (!b), false) s1 | _ => .no) := by
  refine ⟨fun pins t σ H Q I h => (pe_not ha).run pins t σ H Q I ?_⟩
  obtain ⟨s, ω, sr, q⟩ := h
  refine QR.val sr q.bind fun d o s1 v H1 ω1 _ z sm sr1 e r => ?_
  cases d with
  | bl b => exact ⟨b, r, z _ H1 ω1 sm sr1 ⟨.b _, e⟩⟩
  | _ => exact z.elim
theorem e_and {a b : Expr} {rest : List Expr} {pos : Pos} {fa fb : S → R (D × Bool)} (ha : PE X a (tE E A W fa)) (hb : PE X (.BoolOp .And (b :: rest) pos) (tE E A W fb)) :
    PE X (.BoolOp .And (a :: b :: rest) pos) (tE E A W fun s => (fa s).bind fun x s1 => match x.1 with | .bl true => (fb s1).bind fun y s2 => .ok (y.1, false) s2 | .bl false => .ok (.bl false, false) s1 | _ => .no) := by
  refine ⟨fun pins t σ H Q I h => (pe_and ha hb).run pins t σ H Q I ?_⟩
  obtain ⟨s, ω, sr, q⟩ := h
  refine QR.val sr q.bind fun d o s1 v H1 ω1 _ z sm sr1 e r => ?_
  cases d with
  | bl c =>
    refine ⟨c, r, ?_⟩
    cases c with
    | true => exact QE.atV sm e sr1 z
    | false => exact z _ H1 ω1 sm sr1 ⟨.b _, e⟩
  | _ => exact z.elim
theorem e_or {a b : Expr} {rest : List Expr} {pos : Pos} {fa fb : S → R (D × Bool)} (ha : PE X a (tE E A W fa)) (hb : PE X (.BoolOp .Or (b :: rest) pos) (tE E A W fb)) :
    PE X (.BoolOp .Or (a :: b :: rest) pos) (tE E A W fun s => (fa s).bind fun x s1 => match x.1 with | .bl false => (fb s1).bind fun y s2 => .ok (y.1, false) s2 | .bl true => .ok (.bl true, false) s1 | _ => .no) := by
  refine ⟨fun pins t σ H Q I h => (pe_or ha hb).run pins t σ H Q I ?_⟩
  obtain ⟨s, ω, sr, q⟩ := h
  refine QR.val sr q.bind fun d o s1 v H1 ω1 _ z sm sr1 e r => ?_
  cases d with
  | bl c =>
    refine ⟨c, r, ?_⟩
    cases c with
    | false => exact QE.atV sm e sr1 z
    | true => exact z _ H1 ω1 sm sr1 ⟨.b _, e⟩
  | _ => exact z.elim
theorem e_one {op : PySem.BoolOp} {a : Expr} {pos : Pos} {t : TE} (ha : PE X a t) : PE X (.BoolOp op [a] pos) t := pe_one ha
theorem e_ife {c a b : Expr} {pos : Pos} {fc fa fb : S → R (D × Bool)} (hc : PT X c (tT E A W fc)) (ha : PE X a (tE E A W fa)) (hb : PE X b (tE E A W fb)) :
    PE X (.IfExp c a b pos) (tE E A W fun s => (fc s).bind fun x s1 => match x.1 with | .bl true => fa s1 | .bl false => fb s1 | _ => .no) := by
  refine ⟨fun pins t σ H Q I h => (pe_ifExp hc ha hb).run pins t σ H Q I ?_⟩
  obtain ⟨s, ω, sr, q⟩ := h
  refine QR.tst sr q.bind fun d o s1 _ z => ?_
  cases d with
  | bl c =>
    refine ⟨c, rfl, fun H1 ω1 sm sr1 e => ?_⟩
    cases c with
    | true => exact QE.at sm e sr1 z
    | false => exact QE.at sm e sr1 z
  | _ => exact z.elim
/-! tests -/
theorem tT.re {s : S} {σ : L2.St} {H : Hp} {ω ω1 : Wd} {f : S → R (D × Bool)} {Q : Bool → Hp → Prop} {P : D × Bool → S → Prop} (sm : Sm ω.F ω1.F) (e : ω1.pd = ω.pd) (h : SR A s σ H ω1) (q : QR E A W σ (f s) P)
    (k : ∀ d o s', f s = .ok (d, o) s' → P (d, o) s' → ∃ b, d = .bl b ∧ ∀ H' ω', Sm ω.F ω'.F → SR A s' σ H' ω' → ω'.pd = ω.pd → Q b H') : tT E A W f σ H Q :=
  ⟨s, ω1, h, QR.mono q fun x s' e' z => by
    obtain ⟨b, eb, z⟩ := k x.1 x.2 s' e' z
    exact ⟨b, eb, fun H' ω' sm' h' e2 => z H' ω' (sm.trans sm') h' (e2.trans e)⟩⟩
theorem t_not {a : Expr} {pos : Pos} {fa : S → R (D × Bool)} (ha : PT X a (tT E A W fa)) :
    PT X (.UnaryOp .Not a pos) (tT E A W fun s => (fa s).bind fun x s1 => match x.1 with | .bl b => .ok (.bl (!b), false) s1 | _ => .no) := by
  refine ⟨fun pins t σ H Q I h => (pt_not ha).run pins t σ H Q I ?_⟩
  obtain ⟨s, ω, sr, q⟩ := h
  refine QR.tst sr q.bind fun d o s1 _ z => ?_
  cases d with
  | bl c =>
    refine ⟨c, rfl, fun H1 ω1 sm sr1 e => ?_⟩
    obtain ⟨b, eb, z⟩ := z
    cases eb
    exact z H1 ω1 sm sr1 e
  | _ => exact z.elim
theorem PT.pw {op : PySem.BoolOp} {vs : List Expr} {pos : Pos} {t : TT} (h : PT X (.BoolOp op vs pos) t) : PW X (.BoolOp op vs pos) t := ⟨fun wh pins s σ H Q I q => h.run pins s σ H Q I q⟩
theorem t_and {a b : Expr} {rest : List Expr} {pos : Pos} {fa fb : S → R (D × Bool)} (ha : PT X a (tT E A W fa)) (hb : PT X (.BoolOp .And (b :: rest) pos) (tT E A W fb)) :
    PT X (.BoolOp .And (a :: b :: rest) pos) (tT E A W fun s => (fa s).bind fun x s1 => match x.1 with | .bl true => (fb s1).bind fun y s2 => .ok (y.1, false) s2 | .bl false => .ok (.bl false, false) s1 | _ => .no) := by
  refine ⟨fun pins t σ H Q I h => (pw_and ha (PT.pw hb)).pt.run pins t σ H Q I ?_⟩
  obtain ⟨s, ω, sr, q⟩ := h
  refine QR.tst sr q.bind fun d o s1 _ z => ?_
  cases d with
  | bl c =>
    refine ⟨c, rfl, fun H1 ω1 sm sr1 e => ?_⟩
    cases c with
    | true =>
      exact tT.re sm e sr1 (QR.bind z) fun d o s2 _ z2 => z2
    | false =>
      obtain ⟨b, eb, z⟩ := z
      cases eb
      exact z H1 ω1 sm sr1 e
  | _ => exact z.elim
theorem t_or {a b : Expr} {rest : List Expr} {pos : Pos} {fa fb : S → R (D × Bool)} (ha : PT X a (tT E A W fa)) (hb : PT X (.BoolOp .Or (b :: rest) pos) (tT E A W fb)) :
    PT X (.BoolOp .Or (a :: b :: rest) pos) (tT E A W fun s => (fa s).bind fun x s1 => match x.1 with | .bl false => (fb s1).bind fun y s2 => .ok (y.1, false) s2 | .bl true => .ok (.bl true, false) s1 | _ => .no) := by
  refine ⟨fun pins t σ H Q I h => (pw_or ha (PT.pw hb)).pt.run pins t σ H Q I ?_⟩
  obtain ⟨s, ω, sr, q⟩ := h
  refine QR.tst sr q.bind fun d o s1 _ z => ?_
  cases d with
  | bl c =>
    refine ⟨c, rfl, fun H1 ω1 sm sr1 e => ?_⟩
    cases c with
    | false =>
      exact tT.re sm e sr1 (QR.bind z) fun d o s2 _ z2 => z2
    | true =>
      obtain ⟨b, eb, z⟩ := z
      cases eb
      exact z H1 ω1 sm sr1 e
  | _ => exact z.elim
theorem t_one_and {a : Expr} {pos : Pos} {t : TT} (ha : PT X a t) : PT X (.BoolOp .And [a] pos) t := (pw_and1 ha).pt
theorem t_one_or {a : Expr} {pos : Pos} {t : TT} (ha : PT X a t) : PT X (.BoolOp .Or [a] pos) t := (pw_or1 ha).pt

/-! ### a < b < c -/
theorem chain_use {f f' : D → D → Option (D × Bool)} {fa fb fc : S → R (D × Bool)} {σ : L2.St} {H : Hp} {Q : VK}
    (h : tE E A W (fun s => (fa s).bind fun x s1 => (fb s1).bind fun y s2 => match f x.1 y.1 with | some (.bl true, _) => (fc s2).bind fun z s3 => liftO (f' y.1 z.1) s3 | some (.bl false, _) => .ok (.bl false, false) s2 | _ => .no) σ H Q) :
    tChain (rO2 A f) (rO2 A f') (tE E A W fa) (tE E A W fb) (tE E A W fc) σ H Q := by
  obtain ⟨s, ω, sr, q⟩ := h
  refine QR.val sr q.bind fun d o s1 v1 H1 ω1 _ z1 sm1 sr1 e1 r1 => ?_
  refine QR.val sr1 z1.bind fun d2 o2 s2 v2 H2 ω2 _ z2 sm2 sr2 e2 r2 => ?_
  dsimp only at z2
  have v1' := sr2.vw (r1.up sm2)
  have v2' := sr2.vw r2
  cases ef : f d d2 with
  | none => rw [ef] at z2; exact z2.elim
  | some p =>
    obtain ⟨d3, o3⟩ := p
    rw [ef] at z2
    cases d3 with
    | bl c =>
      refine ⟨s2, σ, ω2, d, d2, _, sr2, v1', v2', ef, fun v3 H3 ω3 sm3 sr3 ou => ?_⟩
      obtain ⟨F', sm4, sr4, r3⟩ := sr3.outV (ω := ω2) ou
      refine ⟨c, r3, ?_⟩
      cases c with
      | true =>
        refine QR.val sr4 (QR.bind z2) fun d5 o5 s5 v5 H5 ω5 _ z5 sm5 sr5 e5 r5 => ?_
        obtain ⟨r, er, p⟩ := z5.liftO
        have sm6 := (sm3.trans sm4).trans sm5
        refine ⟨s5, σ, ω5, d2, d5, r, sr5, sr5.vw (r2.up sm6), sr5.vw r5, er, ?_⟩
        exact QE.ans (s1 := s) ((sm1.trans sm2).trans sm6) (e5.trans (e2.trans e1)) p
      | false => exact z2 _ H3 ⟨F', ω3.ow, ω2.pd⟩ ((sm1.trans sm2).trans (sm3.trans sm4)) sr4 ⟨.b _, e2.trans e1⟩
    | _ => exact z2.elim
theorem e_chain {op op' : CmpOp} {f f' : D → D → Option (D × Bool)} {a b c : Expr} {pos : Pos} {fa fb fc : S → R (D × Bool)} (ho : OpR X (compareOp op) (rO2 A f)) (ho' : OpR X (compareOp op') (rO2 A f'))
    (ha : PE X a (tE E A W fa)) (hb : PE X b (tE E A W fb)) (hc : PE X c (tE E A W fc)) (hm : behindInMarks op' c = false) :
    PE X (.Compare a [op, op'] [b, c] pos) (tE E A W fun s => (fa s).bind fun x s1 => (fb s1).bind fun y s2 => match f x.1 y.1 with | some (.bl true, _) => (fc s2).bind fun z s3 => liftO (f' y.1 z.1) s3 | some (.bl false, _) => .ok (.bl false, false) s2 | _ => .no) :=
  ⟨fun pins t σ H Q I h => (pe_chain ho ho' ha hb hc hm).run pins t σ H Q I (chain_use h)⟩
theorem t_chain {op op' : CmpOp} {f f' : D → D → Option (D × Bool)} {a b c : Expr} {pos : Pos} {fa fb fc : S → R (D × Bool)} (ho : OpR X (compareOp op) (rO2 A f)) (ho' : OpR X (compareOp op') (rO2 A f'))
    (ha : PE X a (tE E A W fa)) (hb : PE X b (tE E A W fb)) (hc : PE X c (tE E A W fc)) (hm : behindInMarks op' c = false) :
    PT X (.Compare a [op, op'] [b, c] pos) (tT E A W fun s => (fa s).bind fun x s1 => (fb s1).bind fun y s2 => match f x.1 y.1 with | some (.bl true, _) => (fc s2).bind fun z s3 => liftO (f' y.1 z.1) s3 | some (.bl false, _) => .ok (.bl false, false) s2 | _ => .no) :=
  ⟨fun pins t σ H Q I h => (pt_chain ho ho' ha hb hc hm).run pins t σ H Q I (chain_use h.e)⟩
end
end Mp
end
section
set_option Elab.async false
set_option linter.all false
set_option maxRecDepth 100000
set_option maxHeartbeats 2000000
/-! MpAr: arguments, displays, calls of built-ins. -/
namespace Mp
open PySem PySem.Spec PyProof.Rows L2

def noStar : Expr → Bool
  | .Starred _ _ => false
  | _ => true
/-- answers in a row; ps: those that are objects of one's own -/
def OutL (c : Cn) (F : Hp) : List (D × Bool) → List V → List (Addr × D) → Prop
  | [], vs, ps => vs = [] ∧ ps = []
  | (d, false) :: xs, vs, ps => ∃ v vs', vs = v :: vs' ∧ Rp c F d v ∧ OutL c F xs vs' ps
  | (d, true) :: xs, vs, ps => ∃ a vs' ps', vs = .ref a :: vs' ∧ ps = (a, d) :: ps' ∧ OutL c F xs vs' ps'
def Outs (c : Cn) (pd : List (Addr × D)) (ω' : Wd) (xs : List (D × Bool)) (vs : List V) : Prop := ∃ ps, OutL c ω'.F xs vs ps ∧ ω'.pd = ps.reverse ++ pd
theorem OutL.rp {c : Cn} {F F' : Hp} (sm : Sm F F') : ∀ {xs : List (D × Bool)} {vs : List V} {ps : List (Addr × D)}, OutL c F xs vs ps → (∀ p ∈ ps, Rp c F' p.2 (.ref p.1)) → RpL c F' (fsts xs) vs
  | [], vs, ps, h, _ => by rw [h.1]; exact .nil
  | (d, false) :: xs, vs, ps, h, k => by
    obtain ⟨v, vs', rfl, r, h⟩ := h
    exact .cons (r.up sm) (OutL.rp sm h k)
  | (d, true) :: xs, vs, ps, h, k => by
    obtain ⟨a, vs', ps', rfl, rfl, h⟩ := h
    exact .cons (k (a, d) List.mem_cons_self) (OutL.rp sm h fun p hp => k p (List.mem_cons_of_mem _ hp))
theorem OutL.of_rp {c : Cn} {F : Hp} : ∀ {xs : List D} {vs : List V} {ys : List (D × Bool)} {ws : List V} {ps : List (Addr × D)}, RpL c F xs vs → OutL c F ys ws ps → OutL c F (xs.map (fun d => (d, false)) ++ ys) (vs ++ ws) ps
  | [], vs, _, _, _, r, h => by cases r.nil_out; exact h
  | d :: xs, vs, _, _, _, r, h => by
    obtain ⟨v, vs', rfl, r1, r2⟩ := r.out
    exact ⟨v, _, rfl, r1, OutL.of_rp r2 h⟩
section
variable {E : CE} {A : Act} {W : L2.WX} {X : Cx}
theorem SR.freezes {s : S} {σ : L2.St} {H : Hp} : ∀ {qs : List (Addr × D)} {ω : Wd} {pd : List (Addr × D)}, SR A s σ H ω → ω.pd = qs ++ pd → ∃ F', Sm ω.F F' ∧ SR A s σ H ⟨F', ω.ow, pd⟩ ∧ ∀ p ∈ qs, Rp A.c F' p.2 (.ref p.1)
  | [], ω, pd, h, e => by
    have e : ω.pd = pd := e
    refine ⟨ω.F, Sm.refl _, ?_, fun _ z => nomatch z⟩
    rw [← e]
    exact h
  | (a, d) :: qs, ω, pd, h, e => by
    obtain ⟨F1, sm1, h1, r1⟩ := h.freeze (a := a) (d := d) (pd := qs ++ pd) e
    obtain ⟨F2, sm2, h2, r2⟩ := SR.freezes (qs := qs) h1 rfl
    refine ⟨F2, sm1.trans sm2, h2, fun p hp => ?_⟩
    rcases List.mem_cons.mp hp with rfl | hp
    · exact r1.up sm2
    · exact r2 p hp
theorem SR.outsV {s : S} {σ : L2.St} {H : Hp} {ω' : Wd} {pd : List (Addr × D)} {xs : List (D × Bool)} {vs : List V} (h : SR A s σ H ω') (o : Outs A.c pd ω' xs vs) : ∃ F', Sm ω'.F F' ∧ SR A s σ H ⟨F', ω'.ow, pd⟩ ∧ RpL A.c F' (fsts xs) vs := by
  obtain ⟨ps, ol, e⟩ := o
  obtain ⟨F', sm, h', r⟩ := h.freezes e
  exact ⟨F', sm, h', ol.rp sm fun p hp => r p (List.mem_reverse.mpr hp)⟩

def tA (E : CE) (A : Act) (W : L2.WX) (f : S → R (List (D × Bool))) : TA := fun σ H Q => ∃ s ω, SR A s σ H ω ∧ QR E A W σ (f s) fun xs s' => ∀ vs H' ω', Sm ω.F ω'.F → SR A s' σ H' ω' → Outs A.c ω.pd ω' xs vs → Q vs H'
theorem tA.vals {s : S} {σ : L2.St} {H : Hp} {ω : Wd} {f : S → R (List (D × Bool))} {Q : List V → Hp → Prop} {P : List (D × Bool) → S → Prop} (h : SR A s σ H ω) (q : QR E A W σ (f s) P)
    (k : ∀ xs s' vs H' ω', f s = .ok xs s' → P xs s' → Sm ω.F ω'.F → SR A s' σ H' ω' → ω'.pd = ω.pd → RpL A.c ω'.F (fsts xs) vs → Q vs H') : tA E A W f σ H Q :=
  ⟨s, ω, h, QR.mono q fun xs s' e z vs H' ω' sm h' o => by
    obtain ⟨F', sm', h'', r⟩ := h'.outsV o
    exact k xs s' vs H' ⟨F', ω'.ow, ω.pd⟩ e z (sm.trans sm') h'' rfl r⟩
theorem a_nil : PA X [] (tA E A W fun s => .ok [] s) := by
  refine ⟨fun pos pins t σ H Q I h => pa_nil.run pos pins t σ H Q I ?_⟩
  obtain ⟨s, ω, sr, q⟩ := h
  exact q [] H ω (Sm.refl _) sr ⟨[], ⟨rfl, rfl⟩, rfl⟩
theorem a_cons {e : Expr} {es : List Expr} {fa : S → R (D × Bool)} {fr : S → R (List (D × Bool))} (ha : PE X e (tE E A W fa)) (hr : PA X es (tA E A W fr)) (hs : starEach (e :: es) X.env = (false, eval e X.env) :: starEach es X.env) :
    PA X (e :: es) (tA E A W fun s => (fa s).bind fun x s1 => (fr s1).bind fun ys s2 => .ok (x :: ys) s2) := by
  refine ⟨fun pos pins t σ H Q I h => (pa_cons ha hr hs).run pos pins t σ H Q I ?_⟩
  obtain ⟨s, ω, sr, q⟩ := h
  refine ⟨s, ω, sr, QR.mono q.bind fun x s1 _ z v H1 ω1 sm sr1 o => ⟨s1, ω1, sr1, QR.mono z.bind fun ys s2 _ z2 vs H2 ω2 sm2 sr2 ⟨ps, ol, e2⟩ => ?_⟩⟩
  obtain ⟨d, b⟩ := x
  cases b with
  | false =>
    obtain ⟨r, e1⟩ := o
    exact z2 (v :: vs) H2 ω2 (sm.trans sm2) sr2 ⟨ps, ⟨v, vs, rfl, r.up sm2, ol⟩, by rw [e2, e1]⟩
  | true =>
    obtain ⟨a, rfl, e1⟩ := o
    exact z2 (.ref a :: vs) H2 ω2 (sm.trans sm2) sr2 ⟨(a, d) :: ps, ⟨a, vs, ps, rfl, rfl, ol⟩, by rw [e2, e1, List.reverse_cons, List.append_assoc]; rfl⟩
theorem seq_view {c : Cn} {F H : Hp} {d : D} {v : V} {xs : List D} (h : Vw c F H d v) (e : seqItems? d = some xs) : ∃ a vs, v = .ref a ∧ (SqT c.K H a vs ∨ SqL c.K H a vs) ∧ RpL c F xs vs := by
  cases d with
  | tup ys =>
    cases e
    obtain ⟨a, vs, e, q, r, _⟩ := h
    exact ⟨a, vs, e, .inl q, r⟩
  | lst ys =>
    cases e
    obtain ⟨a, vs, e, q, r⟩ := h
    exact ⟨a, vs, e, .inr (.inl q), r⟩
  | _ => cases e
theorem a_star {e : Expr} {p : Pos} {es : List Expr} {fa : S → R Hd} {fr : S → R (List (D × Bool))} (hK : X.K = A.c.K) (ha : PE X e (tH E A W fa)) (hr : PA X es (tA E A W fr)) :
    PA X (.Starred e p :: es) (tA E A W fun s => (fa s).bind fun h s1 => match (h.res s1).bind seqItems? with
      | some xs => (fr s1).bind fun ys s2 => .ok (xs.map (fun d => (d, false)) ++ ys) s2
      | none => .no) := by
  refine ⟨fun pos pins t σ H Q I h => (StX.pa_star ha hr rfl).run pos pins t σ H Q I ?_⟩
  obtain ⟨s, ω, sr, q⟩ := h
  refine QR.hd sr q.bind fun h1 s1 v1 H1 ω1 _ z1 sm1 sr1 e1 r1 => ?_
  cases er : (h1.res s1).bind seqItems? with
  | none => rw [er] at z1; exact z1.elim
  | some xs =>
    rw [er] at z1
    obtain ⟨d, ed, es⟩ := bind_some er
    obtain ⟨a, vs, ev, sq, rl⟩ := seq_view (sr1.res r1 ed) es
    refine ⟨a, vs, ev, by rw [hK]; exact sq, s1, ω1, sr1, QR.mono (QR.bind z1) fun ys s2 _ z2 ws H2 ω2 sm2 sr2 ⟨ps, ol, e2⟩ => ?_⟩
    exact z2 (vs ++ ws) H2 ω2 (sm1.trans sm2) sr2 ⟨ps, OutL.of_rp (rl.up sm2) ol, by rw [e2, e1]⟩

/-! ### displays -/
theorem e_tup {es : List Expr} {x1 : Nat} {pos : Pos} {fr : S → R (List (D × Bool))} (h : PA X es (tA E A W fr)) :
    PE X (.Tuple es x1 pos) (tE E A W fun s => (fr s).bind fun xs s1 => if short (fsts xs) then .ok (.tup (fsts xs), false) s1 else .no) := by
  refine ⟨fun pins t σ H Q I hq => (pe_tupN h).run pins t σ H Q I ?_⟩
  obtain ⟨s, ω, sr, q⟩ := hq
  refine tA.vals sr q.bind fun xs s1 vs H1 ω1 _ z sm sr1 e r => ?_
  by_cases hs : short (fsts xs) = true
  · rw [if_pos hs] at z
    exact ⟨by rw [r.length]; exact line_of hs, Ans1.tup sr1 r (QE.ans (s1 := s) sm e z)⟩
  · rw [if_neg hs] at z
    exact z.elim
theorem e_lst {es : List Expr} {pos : Pos} {fr : S → R (List (D × Bool))} (h : PA X es (tA E A W fr)) :
    PE X (.List es pos) (tE E A W fun s => (fr s).bind fun xs s1 => if short (fsts xs) then .ok (.lst (fsts xs), true) s1 else .no) := by
  refine ⟨fun pins t σ H Q I hq => (pe_lst h).run pins t σ H Q I ?_⟩
  obtain ⟨s, ω, sr, q⟩ := hq
  refine tA.vals sr q.bind fun xs s1 vs H1 ω1 _ z sm sr1 e r => ?_
  by_cases hs : short (fsts xs) = true
  · rw [if_pos hs] at z
    exact ⟨by rw [r.length]; exact line_of hs, Ans1.lst sr1 r (QE.ans (s1 := s) sm e z)⟩
  · rw [if_neg hs] at z
    exact z.elim

/-! ### calls of built-ins -/
def rC1 (A : Act) (f : D → Option (D × Bool)) : List V → Hp → VK → Prop := fun xs H Q => ∃ x, xs = [x] ∧ rO1 A f x H Q
def rC2 (A : Act) (f : D → D → Option (D × Bool)) : List V → Hp → VK → Prop := fun xs H Q => ∃ x y, xs = [x, y] ∧ rO2 A f x y H Q
theorem notStar {e : Expr} {es : List Expr} {env : Env} (h : noStar e = true) : starEach (e :: es) env = (false, eval e env) :: starEach es env := by
  cases e <;> first | rfl | cases h
theorem e_callB1 {id : String} {x : Str} {f : D → Option (D × Bool)} {a : Expr} {p pos : Pos} {fa : S → R Hd} (hc : CallR X (.builtin id) (rC1 A f)) (hg : Gl X x) (hm : X.mg x = none) (hv : bootBuiltins x = some (.builtin id)) (ha : PE X a (tH E A W fa))
    (hs : noStar a = true) (hn : x ≠ "__name__" := by decide) (hdb : (x == ("__debug__" : Str)) = false := by decide) :
    PE X (.Call (.Name x p) [a] [] pos) (tE E A W fun s => (fa s).bind fun h s1 => liftO (res1 h s1 f) s1) := by
  refine ⟨fun pins t σ H Q I h => (pe_callB hc hg hm hv (pa_cons ha pa_nil (notStar hs)) hn hdb (notStar hs) rfl).run pins t σ H Q I ?_⟩
  obtain ⟨s0, ω0, sr0, q0⟩ := un_use h
  exact ⟨s0, ω0, sr0, QR.mono q0 fun x s' _ z v H' ω' sm h' e r => ⟨v, rfl, z v H' ω' sm h' e r⟩⟩
theorem e_callTy1 {T : String} {x : Str} {f : D → Option (D × Bool)} {a : Expr} {p pos : Pos} {fa : S → R Hd} (hc : CallR X (.type T) (rC1 A f)) (hg : Gl X x) (hm : X.mg x = none) (hv : bootBuiltins x = some (.type T)) (ha : PE X a (tH E A W fa))
    (hs : noStar a = true) (hn : x ≠ "__name__" := by decide) (hdb : (x == ("__debug__" : Str)) = false := by decide) :
    PE X (.Call (.Name x p) [a] [] pos) (tE E A W fun s => (fa s).bind fun h s1 => liftO (res1 h s1 f) s1) := by
  refine ⟨fun pins t σ H Q I h => (pe_callTy hc hg hm hv (pa_cons ha pa_nil (notStar hs)) hn hdb (notStar hs) rfl).run pins t σ H Q I ?_⟩
  obtain ⟨s0, ω0, sr0, q0⟩ := un_use h
  exact ⟨s0, ω0, sr0, QR.mono q0 fun x s' _ z v H' ω' sm h' e r => ⟨v, rfl, z v H' ω' sm h' e r⟩⟩
theorem star1 {b : Expr} {env : Env} {pos : Pos} (hs : noStar b = true) : (backTo pos (starEach [b] env)).any (·.1) = false := by
  rw [notStar hs]
  rfl
theorem e_callB2 {id : String} {x : Str} {f : D → D → Option (D × Bool)} {a b : Expr} {p pos : Pos} {fa fb : S → R Hd} (hc : CallR X (.builtin id) (rC2 A f)) (hg : Gl X x) (hm : X.mg x = none) (hv : bootBuiltins x = some (.builtin id)) (ha : PE X a (tH E A W fa)) (hb : PE X b (tH E A W fb))
    (hs : noStar a = true) (hs2 : noStar b = true) (hn : x ≠ "__name__" := by decide) (hdb : (x == ("__debug__" : Str)) = false := by decide) :
    PE X (.Call (.Name x p) [a, b] [] pos) (tE E A W fun s => (fa s).bind fun h s1 => (fb s1).bind fun k s2 => liftO (res2 h k s2 f) s2) := by
  refine ⟨fun pins t σ H Q I h => (pe_callB hc hg hm hv (pa_cons ha (pa_cons hb pa_nil (notStar hs2)) (notStar hs)) hn hdb (notStar hs) (star1 hs2)).run pins t σ H Q I ?_⟩
  obtain ⟨s0, ω0, sr0, q0⟩ := op_use h
  refine ⟨s0, ω0, sr0, QR.mono q0 fun x s' _ z v H' ω' sm h' e r => ?_⟩
  obtain ⟨s1, ω1, sr1, q1⟩ := z v H' ω' sm h' e r
  exact ⟨s1, ω1, sr1, QR.mono q1 fun x s' _ z v' H' ω' sm h' e r => ⟨v, v', rfl, z v' H' ω' sm h' e r⟩⟩
end
end Mp
end
section
set_option Elab.async false
set_option linter.all false
set_option maxRecDepth 100000
set_option maxHeartbeats 2000000
/-! MpCall: built-ins on data. -/
namespace Mp
open PySem PySem.Spec PyProof.Rows L2
section
variable {A : Act} {X : Cx}
theorem len_ok (hK : X.K = A.c.K) (kd : KdOk X A.c) : CallR X (.builtin "len") (rC1 A (ap1 .len)) := by
  intro pins t τ H xs us Q I r ⟨x, ex, s, σ, ω, d, res, h, hx, hf, q⟩
  subst ex
  cases d with
  | str z =>
    obtain ⟨hc, hr⟩ := of_opt (c := Nat.ble z.cps.size LINE) hf
    subst hr
    exact call_len_str pins t τ H [x] us Q I r ⟨z, congrArg (fun v => [v]) hx, line_of hc, q.i h⟩
  | tup ys =>
    cases hf
    obtain ⟨a, vs, rfl, hq, rq, _⟩ := hx
    exact call_len_seq pins t τ H _ us Q I r ⟨a, vs, rfl, .inr (by rw [hK]; exact hq), by rw [rq.length]; exact q.i h⟩
  | lst ys =>
    cases hf
    obtain ⟨a, vs, rfl, hq, rq⟩ := hx
    exact call_len_seq pins t τ H _ us Q I r ⟨a, vs, rfl, .inl (.inl hq), by rw [rq.length]; exact q.i h⟩
  | dic kvs =>
    cases hf
    obtain ⟨a, rfl, hd⟩ := hx
    obtain ⟨u, rfl, ru⟩ := vals1 r
    cases (show u = Value.ref a from ru)
    have lenK : ∀ {kvs : List (D × D)} {qs : List (Key × V)}, RpK A.c ω.F kvs qs → qs.length = kvs.length := fun {kvs} => by
      induction kvs with
      | nil => intro qs r; unfold RpK at r; rw [r]; rfl
      | cons p kvs ih =>
        intro qs r
        obtain ⟨k, d⟩ := p
        unfold RpK at r
        obtain ⟨_, _, q', rfl, _, _, r⟩ := r
        rw [List.length_cons, List.length_cons, ih r]
    have lenT : ∀ {kvs : List (D × D)} {qs : List (List Key × V)}, RpT A.c ω.F kvs qs → qs.length = kvs.length := fun {kvs} => by
      induction kvs with
      | nil => intro qs r; unfold RpT at r; rw [r]; rfl
      | cons p kvs ih =>
        intro qs r
        obtain ⟨k, d⟩ := p
        unfold RpT at r
        obtain ⟨_, _, _, q', rfl, _, _, _, r⟩ := r
        rw [List.length_cons, List.length_cons, ih r]
    rcases hd with ⟨qs, e, r⟩ | ⟨qs, e, r⟩
    · obtain ⟨z, hs, vs, rel, dd⟩ := dk_at kd I e
      refine call_len_dict hs dd (by rw [← rel.length]; rw [sizeLine_eq] at z; omega) ?_
      exact ⟨.int kvs.length, H, I.tok _, ⟨_, by rw [← rel.length, lenK r]⟩, q.i h⟩
    · obtain ⟨z, hs, ys, rel, dd⟩ := dt_rd I.hok e
      refine call_len_dictH hs dd (by rw [← Paired.length rel]; rw [sizeLine_eq] at z; omega) ?_
      exact ⟨.int kvs.length, H, I.tok _, ⟨_, by rw [← Paired.length rel, lenT r]⟩, q.i h⟩
  | _ => cases hf
theorem abs_ok : CallR X (.builtin "abs") (rC1 A (ap1 .abs)) := by
  intro pins t τ H xs us Q I r ⟨x, ex, s, σ, ω, d, res, h, hx, hf, q⟩
  subst ex
  cases d with
  | int i =>
    cases hf
    exact call_abs pins t τ H [x] us Q I r ⟨i, congrArg (fun v => [v]) hx, q.i h⟩
  | _ => cases hf
theorem int_ok : CallR X (.type "int") (rC1 A (ap1 .int)) := by
  intro pins t τ H xs us Q I r ⟨x, ex, s, σ, ω, d, res, h, hx, hf, q⟩
  subst ex
  cases d with
  | int i =>
    cases hf
    exact call_int1 pins t τ H [x] us Q I r (.inl ⟨i, congrArg (fun v => [v]) hx, q.i h⟩)
  | bl b =>
    cases hf
    exact call_int1 pins t τ H [x] us Q I r (.inr ⟨b, congrArg (fun v => [v]) hx, q.i h⟩)
  | _ => cases hf
theorem tuple_ok (hK : X.K = A.c.K) : CallR X (.type "tuple") (rC1 A (ap1 .tuple)) := by
  intro pins t τ H xs us Q I r ⟨x, ex, s, σ, ω, d, res, h, hx, hf, q⟩
  subst ex
  cases d with
  | tup ys =>
    cases hf
    obtain ⟨a, vs, rfl, hq, rq, rp⟩ := hx
    exact call_tupleN pins t τ H _ us Q I r ⟨a, vs, rfl, .inr ⟨by rw [hK]; exact hq, q.v h rp⟩⟩
  | lst ys =>
    cases hf
    obtain ⟨a, vs, rfl, hq, rq⟩ := hx
    exact call_tupleN pins t τ H _ us Q I r ⟨a, vs, rfl, .inl ⟨.inl hq, q.tup h rq⟩⟩
  | _ => cases hf
theorem list_ok (hK : X.K = A.c.K) : CallR X (.type "list") (rC1 A (ap1 .list)) := by
  intro pins t τ H xs us Q I r ⟨x, ex, s, σ, ω, d, res, h, hx, hf, q⟩
  subst ex
  cases d with
  | tup ys =>
    cases hf
    obtain ⟨a, vs, rfl, hq, rq, rp⟩ := hx
    exact call_list_of pins t τ H _ us Q I r ⟨a, vs, rfl, .inr (by rw [hK]; exact hq), q.lst h rq⟩
  | lst ys =>
    cases hf
    obtain ⟨a, vs, rfl, hq, rq⟩ := hx
    exact call_list_of pins t τ H _ us Q I r ⟨a, vs, rfl, .inl (.inl hq), q.lst h rq⟩
  | _ => cases hf
theorem sum_ok (hK : X.K = A.c.K) (hc : X.calm = true) : CallR X (.builtin "sum") (rC1 A (ap1 .sum)) := by
  intro pins t τ H xs us Q I r ⟨x, ex, s, σ, ω, d, res, h, hx, hf, q⟩
  subst ex
  cases d with
  | tup ys =>
    obtain ⟨is, h1, h2⟩ := bind_some (show (ints? ys).bind (fun is => some (D.int is.sum, false)) = some res from hf)
    cases h2
    obtain ⟨a, vs, rfl, hq, rq, _⟩ := hx
    rw [RpL.ints h1 rq, ← hK] at hq
    obtain ⟨its, rv, ht, _⟩ := I.tuple hq
    rw [Vals.ref1 r]
    obtain ⟨ys', e⟩ := rv.ints.allInts.items
    have hn : numsOf (intItems ys').toList = is := by rw [← e]; exact rv.ints.numsOf
    rw [nums_intItems] at hn
    rw [e] at ht
    refine PySem.W.ktm_sumG (I.ok.hd hc) ht fun h' tk t' hk => ?_
    rw [preSum_eq, List.take_of_length_le (by simp), hn]
    exact ⟨.int _, H, I.kept hk, ⟨_, rfl⟩, q.i h⟩
  | lst ys =>
    obtain ⟨is, h1, h2⟩ := bind_some (show (ints? ys).bind (fun is => some (D.int is.sum, false)) = some res from hf)
    cases h2
    obtain ⟨a, vs, rfl, hq, rq⟩ := hx
    rw [RpL.ints h1 rq] at hq
    exact cr_sum hc pins t τ H _ us Q I r ⟨a, is, rfl, .inl hq, q.i h⟩
  | _ => cases hf
theorem all_ok (hc : X.calm = true) : CallR X (.builtin "all") (rC1 A (ap1 .all)) := by
  intro pins t τ H xs us Q I r ⟨x, ex, s, σ, ω, d, res, h, hx, hf, q⟩
  subst ex
  cases d with
  | lst ys =>
    obtain ⟨is, h1, h2⟩ := bind_some (show (bools? ys).bind (fun is => some (D.bl (is.all id), false)) = some res from hf)
    cases h2
    obtain ⟨a, vs, rfl, hq, rq⟩ := hx
    rw [RpL.bools h1 rq] at hq
    exact cr_all hc pins t τ H _ us Q I r ⟨a, is, rfl, .inl hq, q.b h⟩
  | _ => cases hf
theorem any_ok (hc : X.calm = true) : CallR X (.builtin "any") (rC1 A (ap1 .any)) := by
  intro pins t τ H xs us Q I r ⟨x, ex, s, σ, ω, d, res, h, hx, hf, q⟩
  subst ex
  cases d with
  | lst ys =>
    obtain ⟨is, h1, h2⟩ := bind_some (show (bools? ys).bind (fun is => some (D.bl (is.any id), false)) = some res from hf)
    cases h2
    obtain ⟨a, vs, rfl, hq, rq⟩ := hx
    rw [RpL.bools h1 rq] at hq
    exact cr_any hc pins t τ H _ us Q I r ⟨a, is, rfl, .inl hq, q.b h⟩
  | _ => cases hf
theorem min2_ok (hc : X.calm = true) : CallR X (.builtin "min") (rC2 A (ap2 .min2)) := by
  intro pins t τ H xs us Q I r ⟨x, y, ex, s, σ, ω, d, e, res, h, hx, hy, hf, q⟩
  subst ex
  cases d with
  | int i => cases e with
    | int j =>
      cases hf
      have hx : x = .int i := hx
      have hy : y = .int j := hy
      subst hx hy
      exact call_min2 hc pins t τ H _ us Q I r ⟨i, j, rfl, q.i h⟩
    | _ => cases hf
  | _ => cases hf
theorem max2_ok (hc : X.calm = true) : CallR X (.builtin "max") (rC2 A (ap2 .max2)) := by
  intro pins t τ H xs us Q I r ⟨x, y, ex, s, σ, ω, d, e, res, h, hx, hy, hf, q⟩
  subst ex
  cases d with
  | int i => cases e with
    | int j =>
      cases hf
      have hx : x = .int i := hx
      have hy : y = .int j := hy
      subst hx hy
      exact call_max2 hc pins t τ H _ us Q I r ⟨i, j, rfl, q.i h⟩
    | _ => cases hf
  | _ => cases hf
/-! isinstance -/
def tyNm : D → Option String
  | .non => some "NoneType" | .bl _ => some "bool" | .int _ => some "int" | .str _ => some "str" | .tup _ => some "tuple" | .lst _ => some "list" | _ => none
theorem ty_of (hK : X.K = A.c.K) {s : S} {σ : L2.St} {H : Hp} {ω : Wd} {d : D} {v : V} (h : SR A s σ H ω) (r : Vw A.c ω.F H d v) {n : String} (hd : tyNm d = some n) : TyX X.K H v (.type n) := by
  cases d with
  | non => cases hd; have r : v = .non := r; subst r; exact .base .non
  | bl b => cases hd; have r : v = .bl b := r; subst r; exact .base (.bl b)
  | int b => cases hd; have r : v = .int b := r; subst r; exact .base (.int b)
  | str b => cases hd; have r : v = .str b := r; subst r; exact .base (.str b)
  | tup xs =>
    cases hd
    obtain ⟨a, vs, rfl, q, _, _⟩ := r
    rw [← hK] at q
    rcases q with (q | ⟨o, q⟩) | ⟨o, its, n, e, c, _⟩
    · exact .base (.tup q)
    · exact .fTuple q
    · exact .kTuple e c
  | lst xs =>
    cases hd
    obtain ⟨a, vs, rfl, q, _⟩ := r
    rcases q with q | ⟨o, q⟩
    · exact .base (.lst q)
    · exact .base (.frz q)
  | _ => cases hd
def tyName : Nat → String
  | 0 => "NoneType" | 1 => "bool" | 2 => "int" | 3 => "str" | 4 => "tuple" | 5 => "list" | _ => ""
theorem tyN_of {d : D} {n : Nat} (h : d.tyN = some n) : tyNm d = some (tyName n) ∧ n < 6 := by
  cases d <;> first | (cases h; exact ⟨rfl, by decide⟩) | cases h
/-- isinstance(e, T) -/
theorem e_isi {E : CE} {W : L2.WX} {T : String} {g : Nat → Bool} {x : Str} {a : Expr} {p p2 pos : Pos} {fa : S → R Hd} (hK : X.K = A.c.K) (hg : Gl X "isinstance") (hm : X.mg "isinstance" = none) (hT : Gl X x) (hTm : X.mg x = none) (hTv : bootBuiltins x = some (.type T)) (hTn : x ≠ "__name__") (hTd : (x == ("__debug__" : Str)) = false)
    (ht : (List.range 6).all (fun n => decide (kitB (tyName n) T = some (g n))) = true) (ha : PE X a (tH E A W fa)) (hs : noStar a = true) :
    PE X (.Call (.Name "isinstance" p) [a, .Name x p2] [] pos) (tE E A W fun s => (fa s).bind fun h s1 => liftO (res1 h s1 fun d => (D.tyN d).bind fun n => val (.bl (g n))) s1) := by
  refine ⟨fun pins t σ H Q I h => (pe_callB call_isi hg hm (by kernel_rfl) (pa_cons ha (pa_cons (pe_bltn (v := .ty T) hT hTm hTv rfl hTn hTd) pa_nil rfl) (notStar hs)) (by decide) (by decide) (notStar hs) rfl).run pins t σ H Q I ?_⟩
  obtain ⟨s0, ω0, sr0, q0⟩ := un_use h
  refine ⟨s0, ω0, sr0, QR.mono q0 fun x s' _ z v H' ω' sm h' e r => ?_⟩
  obtain ⟨s1, σ1, ω1, d, res, h1, hx, hf, q⟩ := z v H' ω' sm h' e r
  obtain ⟨n, en, e2⟩ := bind_some hf
  cases e2
  obtain ⟨e3, hn⟩ := tyN_of en
  have kb := of_decide_eq_true (List.all_eq_true.mp ht n (List.mem_range.mpr hn))
  exact ⟨v, .ty T, .type (tyName n), .type T, g n, rfl, .ty T, ty_of hK h1 hx e3, kit_ty kb, q.b h1⟩
theorem isi_int : (List.range 6).all (fun n => decide (kitB (tyName n) "int" = some (n == 2 || n == 1))) = true := by decide +kernel
theorem isi_bool : (List.range 6).all (fun n => decide (kitB (tyName n) "bool" = some (n == 1))) = true := by decide +kernel
theorem isi_tup : (List.range 6).all (fun n => decide (kitB (tyName n) "tuple" = some (n == 4))) = true := by decide +kernel
theorem isi_lst : (List.range 6).all (fun n => decide (kitB (tyName n) "list" = some (n == 5))) = true := by decide +kernel
theorem isi_str : (List.range 6).all (fun n => decide (kitB (tyName n) "str" = some (n == 3))) = true := by decide +kernel
theorem isi_dic : (List.range 6).all (fun n => decide (kitB (tyName n) "dict" = some (n == 6))) = true := by decide +kernel
mutual
theorem noDict : ∀ e : PyData, e.canLay0 = true → e.hasDict = true → False
  | .none, _, h => by cases h
  | .bool _, _, h => by cases h
  | .int _, _, h => by cases h
  | .str _, _, h => by cases h
  | .list xs, c, h => noDicts xs c h
  | .tuple xs, c, h => noDicts xs c h
  | .dict _, c, _ => by cases c
theorem noDicts : ∀ es : List PyData, PyData.canLayAll0 es = true → PyData.hasDictAll es = true → False
  | [], _, h => by cases h
  | e :: es, c, h => by
    unfold PyData.canLayAll0 at c
    unfold PyData.hasDictAll at h
    rw [Bool.and_eq_true] at c
    rw [Bool.or_eq_true] at h
    rcases h with h | h
    · exact noDict e c.1 h
    · exact noDicts es c.2 h
end
theorem rep_split {d : D} {s : Str} (h : D.rep d = some s) : (d = .dic [] ∧ s = (PyData.dict []).shown) ∨ ((d.okEq EQD && (toP d).showable && Nat.ble (toP d).shown.length LINE) = true ∧ (toP d).shown = s) := by
  unfold D.rep at h
  split at h
  · exact .inl ⟨rfl, (Option.some.inj h).symm⟩
  · exact .inr (of_opt h)
/-- an empty dict stands at a -/
theorem empty_at (kd : KdOk X A.c) (hK : X.K = A.c.K) {pins : List (Addr × Obj)} {t : Shared} {τ : L2.St} {s : S} {σ : L2.St} {H : Hp} {ω : Wd} {x : V} (I : L2.Inv X pins τ H t) (v : Vw A.c ω.F H (.dic []) x) : ∃ a, x = .ref a ∧ (a == sysModules) = false ∧ ∃ o es ep, t.heap.get? a = some o ∧ o.cls = .type "dict" ∧ o.data = .dict es ep ∧ es.toList = [] := by
  obtain ⟨a, rfl, v⟩ := v
  refine ⟨a, rfl, ?_⟩
  rcases v with ⟨q, e, r⟩ | ⟨q, e, r⟩
  · unfold RpK at r
    subst r
    obtain ⟨_, h1, vs, kv, o, es, ep, h2, h3, h4, _, h5, _⟩ := dk_at kd I e
    cases kv
    refine ⟨h1, o, es, ep, h2, h3.1, h4, ?_⟩
    have z := h5
    cases hl : es.toList with
    | nil => rfl
    | cons y ys => rw [hl] at z; cases z
  · unfold RpT at r
    subst r
    have z : ObjOk X.prog X.w H t.heap a (.dT []) := by
      rcases e with e | ⟨u, e⟩
      · exact I.hok a _ e
      · exact (I.hok a _ e).2
    obtain ⟨_, h1, xs, kv, o, es, ep, h2, h3, h4, h5, _⟩ := z
    cases kv
    exact ⟨h1, o, es, ep, h2, h3.1, h4, h5⟩
/-- repr -/
theorem repr_ok (hK : X.K = A.c.K) (kd : KdOk X A.c) (hg : X.A.guards = some []) (hu : X.A.units + 65 < cLine) : CallR X (.builtin "repr") (rC1 A (ap1 .repr)) := by
  intro pins t τ H xs us Q I r ⟨x, ex, s, σ, ω, d, res, h, hx, hf, q⟩
  subst ex
  obtain ⟨z, h1, h2⟩ := bind_some (show (D.rep d).bind (fun s => some (D.str s, false)) = some res from hf)
  cases h2
  obtain ⟨u, rfl, ru⟩ := vals1 r
  have q' := q.s h
  rcases rep_split h1 with ⟨rfl, rfl⟩ | ⟨hc, hz⟩
  · obtain ⟨a, rfl, na, o, es, ep, g1, g2, g3, g4⟩ := empty_at (s := s) (σ := σ) kd hK I hx
    obtain rfl : u = Value.ref a := ru
    have rd : Reads t.heap (.ref a) (.dict []) (a :: [] ++ []) := .dict g1 g2 g3 (by rw [g4]; exact .nil) (by rw [g4]; exact .nil)
    refine repr_of_reads' rd rfl (fun _ m => ?_) hg (Nat.lt_of_le_of_lt (Nat.add_le_add_left (by decide : (PyData.dict []).depth + 1 ≤ 65) _) hu) (fun _ _ z => z) (fun h' u tk hk => ⟨.str _, H, I.kept hk, ⟨_, rfl⟩, q'⟩) (by decide)
    rw [List.append_nil, List.mem_singleton] at m
    rw [← m] at na
    simp at na
  subst hz
  simp only [Bool.and_eq_true] at hc
  obtain ⟨⟨k1, k2⟩, k3⟩ := hc
  have k3 := line_of k3
  have hx' := h.dpv k1 hx
  rw [← hK] at hx'
  obtain ⟨as, rd⟩ := Dp.reads I _ x u hx' ru
  have cn := (okEq_can _ _ k1).1
  have dp := (okEq_can _ _ k1).2
  have e12 : EQD = 12 := rfl
  rw [e12] at dp
  have nd : (toP d).hasDict = true → sysModules ∉ as := fun z => (noDict _ cn z).elim
  clear hx' hf h1 q hx k1
  generalize toP d = e at *
  have fin : ∀ (h' : Heap) (u : Tok) (tk : Nat), (∀ b o, t.heap.get? b = some o → h'.get? b = some o) → EP X pins τ Q (.str e.shown u) { t with heap := h', toks := tk } := fun h' u tk hk => ⟨.str _, H, I.kept hk, ⟨_, rfl⟩, q'⟩
  cases rd with
  | none => exact PySem.P.repr_of_none (fin _ _ _ fun _ _ z => z)
  | bool b => exact PySem.P.repr_of_bool (fin _ _ _ fun _ _ z => z)
  | int i t => exact PySem.P.repr_of_int (of_decide_eq_true k2) (fin _ _ _ fun _ _ z => z)
  | str x t => exact PySem.P.repr_of_str (fin _ _ _ fun _ _ z => z) k3
  | list a b c e => exact repr_of_reads' (.list a b c e) k2 nd hg (by omega) (fun _ _ z => z) fin k3
  | tuple a b c e => exact repr_of_reads' (.tuple a b c e) k2 nd hg (by omega) (fun _ _ z => z) fin k3
  | dict _ _ _ _ _ => cases cn
end
end Mp
end
section
set_option Elab.async false
set_option linter.all false
set_option maxRecDepth 100000
set_option maxHeartbeats 2000000
/-! MpMeth: slices, reading methods, is None. -/
namespace Mp
open PySem PySem.Spec PyProof.Rows L2
section
variable {E : CE} {A : Act} {W : L2.WX} {X : Cx}
/-! ### slices -/
def slD (d : D) (lo hi : Option Int) : Option (D × Bool) := match d with
  | .tup xs => some (.tup (cut xs (HT.sIx xs.length 0 lo) (HT.sIx xs.length xs.length hi)), false)
  | .lst xs => some (.lst (cut xs (HT.sIx xs.length 0 lo) (HT.sIx xs.length xs.length hi)), true)
  | _ => none
def rSl (A : Act) : V → Option Int → Option Int → Hp → VK → Prop := fun x lo hi H Q => ∃ s σ ω d r, SR A s σ H ω ∧ Vw A.c ω.F H d x ∧ slD d lo hi = some r ∧ Ans1 A s σ ω r Q
theorem RpL.cut {c : Cn} {F : Hp} {xs : List D} {vs : List V} (r : RpL c F xs vs) (lo hi : Option Int) : RpL c F (Mp.cut xs (HT.sIx xs.length 0 lo) (HT.sIx xs.length xs.length hi)) (cutV vs lo hi) := by
  unfold cutV Mp.cut
  rw [r.length]
  exact (r.drop _).take _
theorem sl_ok (hK : X.K = A.c.K) : SlR X (rSl A) := by
  intro pins t τ H x v vl vu lo hi sl Q I rx hs pl pu ⟨s, σ, ω, d, r, h, hx, hf, q⟩
  cases d with
  | tup xs =>
    cases hf
    obtain ⟨a, vs, rfl, hq, rq, rp⟩ := hx
    refine sl_tupN pins t τ H _ v vl vu lo hi sl Q I rx hs pl pu ⟨a, vs, rfl, by rw [hK]; exact hq, fun z => ?_, fun _ => q.tup h (rq.cut lo hi)⟩
    refine Ans1.v h rp ?_
    rw [rq.length] at z
    have e : Mp.cut xs (HT.sIx xs.length 0 lo) (HT.sIx xs.length xs.length hi) = xs := by
      unfold Mp.cut
      rw [z.1, z.2]
      simp
    rw [← e]
    exact q
  | lst xs =>
    cases hf
    obtain ⟨a, vs, rfl, hq, rq⟩ := hx
    exact sl_list pins t τ H _ v vl vu lo hi sl Q I rx hs pl pu ⟨a, vs, rfl, .inl hq, q.lst h (rq.cut lo hi)⟩
  | _ => cases hf
theorem int_of {c : Cn} {F H : Hp} {d : D} {v : V} (h : Vw c F H d v) {i : Int} (e : d = .int i) : v = .int i := by
  subst e
  exact h
theorem slL_eq {d e : D} {r : D × Bool} (h : ap2 .slL d e = some r) : ∃ i, e = .int i ∧ slD d (some i) none = some r := by
  cases d with
  | tup xs => cases e with
    | int i => exact ⟨i, rfl, h⟩
    | _ => cases h
  | lst xs => cases e with
    | int i => exact ⟨i, rfl, h⟩
    | _ => cases h
  | _ => cases h
theorem slU_eq {d e : D} {r : D × Bool} (h : ap2 .slU d e = some r) : ∃ i, e = .int i ∧ slD d none (some i) = some r := by
  cases d with
  | tup xs => cases e with
    | int i => exact ⟨i, rfl, h⟩
    | _ => cases h
  | lst xs => cases e with
    | int i => exact ⟨i, rfl, h⟩
    | _ => cases h
  | _ => cases h
theorem slLU_eq {d e g : D} {r : D × Bool} (h : ap3 .slLU d e g = some r) : ∃ i j, e = .int i ∧ g = .int j ∧ slD d (some i) (some j) = some r := by
  cases d with
  | tup xs => cases e with
    | int i => cases g with
      | int j => exact ⟨i, j, rfl, rfl, h⟩
      | _ => cases h
    | _ => cases h
  | lst xs => cases e with
    | int i => cases g with
      | int j => exact ⟨i, j, rfl, rfl, h⟩
      | _ => cases h
    | _ => cases h
  | _ => cases h
theorem e_slL {a b : Expr} {p2 pos : Pos} {ta tb : S → R Hd} (hK : X.K = A.c.K) (ha : PE X a (tH E A W ta)) (hb : PE X b (tH E A W tb)) :
    PE X (.Subscript a (.Slice (some b) none none p2) pos) (tE E A W fun s => (ta s).bind fun h s1 => (tb s1).bind fun k s2 => liftO (res2 h k s2 (ap2 .slL)) s2) := by
  refine ⟨fun pins t σ H Q I h => (pe_slice (sl_ok hK) ha (po_some hb) po_none).run pins t σ H Q I ?_⟩
  obtain ⟨s0, ω0, sr0, q0⟩ := op_use h
  refine ⟨s0, ω0, sr0, QR.mono q0 fun x s' _ z v H' ω' sm h' e r => ?_⟩
  obtain ⟨s1, ω1, sr1, q1⟩ := z v H' ω' sm h' e r
  refine ⟨s1, ω1, sr1, QR.mono q1 fun x s' _ z v' H' ω' sm h' e r => ?_⟩
  obtain ⟨s2, σ2, ω2, d, d', r, h2, hx, hy, hf, q⟩ := z v' H' ω' sm h' e r
  obtain ⟨i, ei, hf2⟩ := slL_eq hf
  exact ⟨i, int_of hy ei, s2, σ2, ω2, d, r, h2, hx, hf2, q⟩
theorem e_slU {a b : Expr} {p2 pos : Pos} {ta tb : S → R Hd} (hK : X.K = A.c.K) (ha : PE X a (tH E A W ta)) (hb : PE X b (tH E A W tb)) :
    PE X (.Subscript a (.Slice none (some b) none p2) pos) (tE E A W fun s => (ta s).bind fun h s1 => (tb s1).bind fun k s2 => liftO (res2 h k s2 (ap2 .slU)) s2) := by
  refine ⟨fun pins t σ H Q I h => (pe_slice (sl_ok hK) ha po_none (po_some hb)).run pins t σ H Q I ?_⟩
  obtain ⟨s0, ω0, sr0, q0⟩ := op_use h
  refine ⟨s0, ω0, sr0, QR.mono q0 fun x s' _ z v H' ω' sm h' e r => ?_⟩
  obtain ⟨s1, ω1, sr1, q1⟩ := z v H' ω' sm h' e r
  refine ⟨s1, ω1, sr1, QR.mono q1 fun x s' _ z v' H' ω' sm h' e r => ?_⟩
  obtain ⟨s2, σ2, ω2, d, d', r, h2, hx, hy, hf, q⟩ := z v' H' ω' sm h' e r
  obtain ⟨i, ei, hf2⟩ := slU_eq hf
  exact ⟨i, int_of hy ei, s2, σ2, ω2, d, r, h2, hx, hf2, q⟩
/-- three operands -/
theorem op3_use {f : D → D → D → Option (D × Bool)} {ta tb tc : S → R Hd} {σ : L2.St} {H : Hp} {Q : VK} (h : tE E A W (fun s => (ta s).bind fun h s1 => (tb s1).bind fun k s2 => (tc s2).bind fun l s3 => liftO (res3 h k l s3 f) s3) σ H Q) :
    tH E A W ta σ H fun x H1 => tH E A W tb σ H1 fun y H2 => tH E A W tc σ H2 fun z H3 => ∃ s' ω d e g r, SR A s' σ H3 ω ∧ Vw A.c ω.F H3 d x ∧ Vw A.c ω.F H3 e y ∧ Vw A.c ω.F H3 g z ∧ f d e g = some r ∧ Ans1 A s' σ ω r Q := by
  obtain ⟨s, ω, sr, q⟩ := h
  refine QR.hd sr q.bind fun h1 s1 v1 H1 ω1 _ z1 sm1 sr1 e1 r1 => ?_
  refine QR.hd sr1 z1.bind fun h2 s2 v2 H2 ω2 _ z2 sm2 sr2 e2 r2 => ?_
  refine QR.hd sr2 z2.bind fun h3 s3 v3 H3 ω3 _ z3 sm3 sr3 e3 r3 => ?_
  obtain ⟨r, er, p⟩ := z3.liftO
  obtain ⟨d, ed, er⟩ := bind_some er
  obtain ⟨d', ed', er⟩ := bind_some er
  obtain ⟨d2, ed2, er⟩ := bind_some er
  exact ⟨s3, ω3, d, d', d2, r, sr3, sr3.res (r1.up (sm2.trans sm3)) ed, sr3.res (r2.up sm3) ed', sr3.res r3 ed2, er, QE.ans (s1 := s) ((sm1.trans sm2).trans sm3) (e3.trans (e2.trans e1)) p⟩
theorem e_slLU {a b c : Expr} {p2 pos : Pos} {ta : S → R Hd} {fb fc : S → R (D × Bool)} (hK : X.K = A.c.K) (ha : PE X a (tH E A W ta)) (hb : PE X b (tE E A W fb)) (hc : PE X c (tE E A W fc)) :
    PE X (.Subscript a (.Slice (some b) (some c) none p2) pos) (tE E A W fun s => (ta s).bind fun h s1 => (fb s1).bind fun x s2 => match x.1 with
      | .int i => (fc s2).bind fun y s3 => liftO (res1 h s3 fun d => ap3 .slLU d (.int i) y.1) s3
      | _ => .no) := by
  refine ⟨fun pins t σ H Q I h => (pe_slice (sl_ok hK) ha (po_some hb) (po_some hc)).run pins t σ H Q I ?_⟩
  obtain ⟨s, ω, sr, q⟩ := h
  refine QR.hd sr q.bind fun h1 s1 v1 H1 ω1 _ z1 sm1 sr1 e1 r1 => ?_
  refine QR.val sr1 z1.bind fun d2 o2 s2 v2 H2 ω2 _ z2 sm2 sr2 e2 r2 => ?_
  cases d2 with
  | int i =>
    refine ⟨i, r2, ?_⟩
    refine QR.val sr2 (QR.bind z2) fun d3 o3 s3 v3 H3 ω3 _ z3 sm3 sr3 e3 r3 => ?_
    obtain ⟨r, er, p⟩ := z3.liftO
    obtain ⟨d, ed, er⟩ := bind_some er
    obtain ⟨i', j, e4, e5, hf⟩ := slLU_eq er
    cases e4
    have e5 : d3 = .int j := e5
    subst e5
    exact ⟨j, r3, s3, σ, ω3, d, r, sr3, sr3.res (r1.up (sm2.trans sm3)) ed, hf, QE.ans (s1 := s) ((sm1.trans sm2).trans sm3) (e3.trans (e2.trans e1)) p⟩
  | _ => exact z2.elim
/-! ### methods -/
/-- what may stand ahead of the dot -/
def abOk : Expr → Bool
  | .Call (.Name id _) [] [] _ => id != ("super" : Str)
  | _ => true
theorem attrBase {o : Expr} {m : Str} {env : Env} {w : Sem Value} (h : abOk o = true) : attributeBase o m env w = w := by
  unfold attributeBase
  split
  · rename_i id _ _
    have h : (id != ("super" : Str)) = true := h
    rw [h]
    simp
  · rfl
theorem g1_cases {d : D} {o : Op2} (h : g1 (some d.kind) o = true) : (∃ xs, d = .tup xs ∧ (o = .count ∨ o = .index)) ∨ (∃ xs, d = .lst xs ∧ o = .index) ∨ ∃ kvs, d = .dic kvs ∧ o = .get1 := by
  cases d with
  | tup xs => cases o <;> first | (exact .inl ⟨xs, rfl, .inl rfl⟩) | (exact .inl ⟨xs, rfl, .inr rfl⟩) | cases h
  | lst xs => cases o <;> first | (exact .inr (.inl ⟨xs, rfl, rfl⟩)) | cases h
  | dic xs => cases o <;> first | (exact .inr (.inr ⟨xs, rfl, rfl⟩)) | cases h
  | _ => cases o <;> cases h
end
end Mp
end
section
set_option Elab.async false
set_option linter.all false
set_option maxRecDepth 100000
set_option maxHeartbeats 2000000
/-! MpStm: statements. -/
namespace Mp
open PySem PySem.Spec PyProof.Rows L2
section
variable (E : CE) (A : Act) (W : L2.WX)
def ErS (x : D) (s' : S) : Prop := match x with
  | .exc k d => ∀ cls od σ' H' ω', SR A s' σ' H' ω' → XR E A.c ω'.F k d cls od → W cls od σ' H'
  | _ => False
def QSt {α : Type} (r : R α) (P : α → S → Prop) : Prop := match r with
  | .ok a s' => P a s'
  | .er x s' => ErS E A W x s'
  | .no => False
def EndsOk (ω : Wd) (fl : Fl) (s' : S) (D : Ends) : Prop := match fl with
  | .nx => ∀ σ' H' ω', Sm ω.F ω'.F → SR A s' σ' H' ω' → ω'.pd = [] → D.nx σ' H'
  | .bk => ∀ σ' H' ω', Sm ω.F ω'.F → SR A s' σ' H' ω' → ω'.pd = [] → D.bk σ' H'
  | .ct => ∀ σ' H' ω', Sm ω.F ω'.F → SR A s' σ' H' ω' → ω'.pd = [] → D.ct σ' H'
  | .rt d o => ∀ v σ' H' ω', Sm ω.F ω'.F → SR A s' σ' H' ω' → Out A.c { ω with pd := [] } ω' d o v → D.rt v H'
def tS (f : S → R Fl) : TS := fun D σ H => ∃ s ω, SR A s σ H ω ∧ ω.pd = [] ∧ QSt E A W (f s) fun fl s' => EndsOk A ω fl s' D
end
section
variable {E : CE} {A : Act} {W : L2.WX} {X : Cx}
theorem QSt.bind {α β : Type} {r : R α} {f : α → S → R β} {P : β → S → Prop} (h : QSt E A W (r.bind f) P) : QSt E A W r fun a s' => QSt E A W (f a s') P := by
  cases r with
  | ok a s' => exact h
  | er x s' => exact h
  | no => exact h
theorem QSt.mono {α : Type} {r : R α} {P P' : α → S → Prop} (h : QSt E A W r P) (k : ∀ a s', r = .ok a s' → P a s' → P' a s') : QSt E A W r P' := by
  cases r with
  | ok a s' => exact k a s' rfl h
  | er x s' => exact h
  | no => exact h
theorem QSt.qr {α : Type} {r : R α} {P : α → S → Prop} {σ : L2.St} (h : QSt E A W r P) : QR E A W σ r P := by
  cases r with
  | ok a s' => exact h
  | er x s' => cases x with
    | exc k d => exact h
    | _ => exact h
  | no => exact h
theorem EndsOk.re {ω ω1 : Wd} {fl : Fl} {s' : S} {D : Ends} (sm : Sm ω.F ω1.F) (h : EndsOk A ω fl s' D) : EndsOk A ω1 fl s' D := by
  cases fl with
  | nx => exact fun σ' H' ω' s => h σ' H' ω' (sm.trans s)
  | bk => exact fun σ' H' ω' s => h σ' H' ω' (sm.trans s)
  | ct => exact fun σ' H' ω' s => h σ' H' ω' (sm.trans s)
  | rt d o => exact fun v σ' H' ω' s r o' => h v σ' H' ω' (sm.trans s) r (by cases o <;> exact o')
theorem ss_nil : PSs X [] (tS E A W fun s => .ok .nx s) := by
  refine ⟨fun pins t σ H D I h => pss_nil.run pins t σ H D I ?_⟩
  obtain ⟨s, ω, sr, pd, q⟩ := h
  exact q σ H ω (Sm.refl _) sr pd
theorem ss_cons {st : Stmt} {rest : List Stmt} {f g : S → R Fl} (h1 : PS X st (tS E A W f)) (h2 : PSs X rest (tS E A W g)) :
    PSs X (st :: rest) (tS E A W fun s => (f s).bind fun fl s1 => match fl with | .nx => g s1 | fl => .ok fl s1) := by
  refine ⟨fun pins t σ H D I h => (pss_cons h1 h2).run pins t σ H D I ?_⟩
  obtain ⟨s, ω, sr, pd, q⟩ := h
  refine ⟨s, ω, sr, pd, QSt.mono q.bind fun fl s1 _ z => ?_⟩
  cases fl with
  | nx => exact fun σ' H' ω' sm sr' pd' => ⟨s1, ω', sr', pd', QSt.mono z fun fl s2 _ z2 => z2.re sm⟩
  | bk => exact z
  | ct => exact z
  | rt d o => exact z
/-- a value, for a statement -/
theorem QSt.use {f : S → R (D × Bool)} {s : S} {σ : L2.St} {H : Hp} {ω : Wd} {Q : VK} {P : D × Bool → S → Prop} (h : SR A s σ H ω) (q : QSt E A W (f s) P)
    (k : ∀ d o s' v H' ω', P (d, o) s' → Sm ω.F ω'.F → SR A s' σ H' ω' → Out A.c ω ω' d o v → Q v H') : tE E A W f σ H Q :=
  ⟨s, ω, h, QR.mono q.qr fun x s' _ z v H' ω' sm sr o => k x.1 x.2 s' v H' ω' z sm sr o⟩
theorem QSt.useV {f : S → R (D × Bool)} {s : S} {σ : L2.St} {H : Hp} {ω : Wd} {Q : VK} {P : D × Bool → S → Prop} (h : SR A s σ H ω) (q : QSt E A W (f s) P)
    (k : ∀ d o s' v H' ω', P (d, o) s' → Sm ω.F ω'.F → SR A s' σ H' ω' → ω'.pd = ω.pd → Rp A.c ω'.F d v → Q v H') : tE E A W f σ H Q :=
  QR.val h q.qr fun d o s' v H' ω' _ z sm sr e r => k d o s' v H' ω' z sm sr e r
theorem SR.pdE {s : S} {σ : L2.St} {H : Hp} {ω : Wd} (h : SR A s σ H ω) (e : ω.pd = []) : SR A s σ H ⟨ω.F, ω.ow, []⟩ := by
  rw [← e]
  exact h
/-! ### name = e -/
theorem s_set {i : Nat} {x : Str} {e : Expr} {px pos : Pos} {f : S → R (D × Bool)} (hN : X.N.Nodup) (hi : X.N[i]? = some x) (hx : Loc X.env.scope x) (he : PE X e (tE E A W f)) (hs : swapsWith e (some (.Name x px)) pos.line X.env = pure false) (hf : X.fn x = true ∨ X.env.scope.names.lookup x = some .local) :
    PS X (.Assign [.Name x px] e pos) (tS E A W fun s => (f s).bind fun x s1 => if i < s1.ρ.length then .ok .nx (s1.put i x.1 x.2) else .no) := by
  refine ⟨fun pins t σ H D I h => (ps_set hN hi hx he hs hf).run pins t σ H D I ?_⟩
  obtain ⟨s, ω, sr, pd, q⟩ := h
  refine QSt.use sr q.bind fun d o s1 v H1 ω1 z sm sr1 out => ?_
  by_cases hl : i < s1.ρ.length
  · rw [if_pos hl] at z
    cases o with
    | false =>
      obtain ⟨r, e1⟩ := out
      exact z _ _ { ω1 with ow := ω1.ow.set i none } sm (sr1.putV (i := i) r) (e1.trans pd)
    | true =>
      obtain ⟨a, rfl, e1⟩ := out
      exact z (σ.set i (some (.ref a))) H1 ⟨ω1.F, ω1.ow.set i (some a), ω.pd⟩ sm (sr1.putO e1 hl) pd
  · rw [if_neg hl] at z
    exact z.elim
/-! ### (names) = e -/
def gNames : List Nat → TGs
  | [] => gNil
  | i :: is => gCons (gName i) (gNames is)
theorem names_ok : ∀ {is : List Nat} {xs : List D} {vs : List V} {s s' : S} {σ : L2.St} {H : Hp} {ω : Wd} {Q : L2.St → Hp → Prop}, setNames is xs s = some s' → SR A s σ H ω → RpL A.c ω.F xs vs →
    (∀ σ' ow', SR A s' σ' H ⟨ω.F, ow', ω.pd⟩ → Q σ' H) → gNames is vs σ H Q
  | [], [], vs, s, s', σ, H, ω, Q, e, sr, r, k => by
    cases e
    cases r.nil_out
    exact ⟨rfl, k σ ω.ow sr⟩
  | i :: is, d :: ds, vs, s, s', σ, H, ω, Q, e, sr, r, k => by
    obtain ⟨v, vs', rfl, r1, r2⟩ := r.out
    have e : (if i < s.ρ.length then setNames is ds (s.put i d false) else none) = some s' := e
    by_cases hl : i < s.ρ.length
    · rw [if_pos hl] at e
      exact ⟨v, vs', rfl, names_ok e (sr.putV (i := i) r1) r2 fun σ' ow' h => k σ' ow' h⟩
    · rw [if_neg hl] at e
      cases e
  | [], _ :: _, _, _, _, _, _, _, _, e, _, _, _ => by cases e
  | _ :: _, [], _, _, _, _, _, _, _, e, _, _, _ => by cases e
theorem setNames_len : ∀ {is : List Nat} {xs : List D} {s s' : S}, setNames is xs s = some s' → xs.length = is.length
  | [], [], _, _, _ => rfl
  | i :: is, d :: ds, s, s', e => by
    have e : (if i < s.ρ.length then setNames is ds (s.put i d false) else none) = some s' := e
    by_cases hl : i < s.ρ.length
    · rw [if_pos hl] at e
      rw [List.length_cons, List.length_cons, setNames_len e]
    · rw [if_neg hl] at e
      cases e
  | [], _ :: _, _, _, e => by cases e
  | _ :: _, [], _, _, e => by cases e
/-- a target gets a value -/
def gT (K : PySem.W.Frag) : Tg → TG
  | .n i => gName i
  | .t is => gTup K is.length (gNames is)
/-- an item that is walked: a value, or a row that is taken apart at once -/
def RpI (c : Cn) (F : Hp) (tp : Bool) (d : D) (v : V) : Prop := match tp with
  | false => Rp c F d v
  | true => ∃ xs a vs, d = .tup xs ∧ v = .ref a ∧ SqT c.K F a vs ∧ RpL c F xs vs
theorem RpI.up {c : Cn} {F F' : Hp} {tp : Bool} {d : D} {v : V} (sm : Sm F F') (h : RpI c F tp d v) : RpI c F' tp d v := by
  cases tp with
  | false => exact Rp.up sm h
  | true =>
    obtain ⟨xs, a, vs, e1, e2, q, r⟩ := h
    exact ⟨xs, a, vs, e1, e2, sm.sqT q, r.up sm⟩
def tpOk (tp : Bool) (t : Tg) : Prop := tp = true → ∃ is, t = .t is
theorem tpOk.no {t : Tg} : tpOk false t := fun z => nomatch z
theorem setT_ok {tp : Bool} {t : Tg} {d : D} {v : V} {s s' : S} {σ : L2.St} {H : Hp} {ω : Wd} {Q : L2.St → Hp → Prop} (hK : X.K = A.c.K) (ht : tpOk tp t) (e : setT t d s = some s') (sr : SR A s σ H ω) (r : RpI A.c ω.F tp d v)
    (k : ∀ σ' ow', SR A s' σ' H ⟨ω.F, ow', ω.pd⟩ → Q σ' H) : gT X.K t v σ H Q := by
  cases t with
  | n i =>
    have e : (if i < s.ρ.length then some (s.put i d false) else none) = some s' := e
    cases tp with
    | true =>
      obtain ⟨_, z⟩ := ht rfl
      cases z
    | false =>
      by_cases hl : i < s.ρ.length
      · rw [if_pos hl] at e
        cases e
        exact k _ _ (sr.putV (i := i) r)
      · rw [if_neg hl] at e
        cases e
  | t is =>
    cases d with
    | tup xs =>
      have r : ∃ a vs, v = .ref a ∧ SqT A.c.K ω.F a vs ∧ RpL A.c ω.F xs vs := by
        cases tp with
        | true =>
          obtain ⟨xs', a, vs, e1, e2, q, r⟩ := r
          cases e1
          exact ⟨a, vs, e2, q, r⟩
        | false =>
          have r : Rp A.c ω.F (.tup xs) v := r
          unfold Rp at r
          obtain ⟨a, vs, e2, q, r⟩ := r
          exact ⟨a, vs, e2, q.1, r⟩
      obtain ⟨a, vs, rfl, q, r⟩ := r
      exact ⟨a, vs, rfl, by rw [hK]; exact sr.sqT q, by rw [r.length, setNames_len (s := s) (s' := s') e], names_ok (s := s) e sr r k⟩
    | _ => cases e
theorem s_setT {is : List Nat} {tg e : Expr} {pos : Pos} {f : S → R (D × Bool)} (hK : X.K = A.c.K) (hg : PG X tg (gT X.K (.t is))) (he : PE X e (tE E A W f)) (hs : swapsWithSole [tg] e pos.line X.env = pure false) (hw : swappedStores [tg] e X.env = pure none) (h1 : (assignEach [tg] X.env).map (·.2) = [assign tg X.env]) :
    PS X (.Assign [tg] e pos) (tS E A W fun s => (f s).bind fun x s1 => match setT (.t is) x.1 s1 with | some s2 => .ok .nx s2 | none => .no) := by
  refine ⟨fun pins t σ H D I h => (ps_asg he hg hs hw h1).run pins t σ H D I ?_⟩
  obtain ⟨s, ω, sr, pd, q⟩ := h
  refine QSt.useV sr q.bind fun d o s1 v H1 ω1 z sm sr1 e1 r => ?_
  dsimp only at z
  cases es : setT (.t is) d s1 with
  | none => rw [es] at z; exact z.elim
  | some s2 =>
    rw [es] at z
    exact setT_ok (tp := false) hK .no es sr1 r fun σ' ow' h => z σ' H1 ⟨ω1.F, ow', ω1.pd⟩ sm h (e1.trans pd)
/-! ### simple ones -/
theorem s_expr {e : Expr} {pos : Pos} {f : S → R (D × Bool)} (he : PE X e (tE E A W f)) (hs : swapsWith e none pos.line X.env = pure false) : PS X (.Expr e pos) (tS E A W fun s => (f s).bind fun _ s1 => .ok .nx s1) := by
  refine ⟨fun pins t σ H D I h => (ps_expr he hs).run pins t σ H D I ?_⟩
  obtain ⟨s, ω, sr, pd, q⟩ := h
  exact QSt.useV sr q.bind fun d o s1 v H1 ω1 z sm sr1 e1 r => z σ H1 ω1 sm sr1 (e1.trans pd)
theorem s_ret {e : Expr} {pos : Pos} {f : S → R (D × Bool)} (he : PE X e (tE E A W f)) : PS X (.Return (some e) pos) (tS E A W fun s => (f s).bind fun x s1 => .ok (.rt x.1 x.2) s1) := by
  refine ⟨fun pins t σ H D I h => (ps_ret he).run pins t σ H D I ?_⟩
  obtain ⟨s, ω, sr, pd, q⟩ := h
  exact QSt.use sr q.bind fun d o s1 v H1 ω1 z sm sr1 out => z v σ H1 ω1 sm sr1 (by cases o <;> (first | exact ⟨out.1, out.2.trans pd⟩ | (obtain ⟨a, e, e2⟩ := out; exact ⟨a, e, e2.trans (by rw [pd])⟩)))
theorem s_retn {pos : Pos} : PS X (.Return none pos) (tS E A W fun s => .ok (.rt .non false) s) := by
  refine ⟨fun pins t σ H D I h => ps_retN.run pins t σ H D I ?_⟩
  obtain ⟨s, ω, sr, pd, q⟩ := h
  exact q .non σ H ω (Sm.refl _) sr ⟨.n, pd⟩
theorem s_pass {pos : Pos} : PS X (.Pass pos) (tS E A W fun s => .ok .nx s) := by
  refine ⟨fun pins t σ H D I h => ps_pass.run pins t σ H D I ?_⟩
  obtain ⟨s, ω, sr, pd, q⟩ := h
  exact q σ H ω (Sm.refl _) sr pd
theorem s_brk {pos : Pos} : PS X (.Break pos) (tS E A W fun s => .ok .bk s) := by
  refine ⟨fun pins t σ H D I h => ps_break.run pins t σ H D I ?_⟩
  obtain ⟨s, ω, sr, pd, q⟩ := h
  exact q σ H ω (Sm.refl _) sr pd
theorem s_cont {pos : Pos} : PS X (.Continue pos) (tS E A W fun s => .ok .ct s) := by
  refine ⟨fun pins t σ H D I h => ps_continue.run pins t σ H D I ?_⟩
  obtain ⟨s, ω, sr, pd, q⟩ := h
  exact q σ H ω (Sm.refl _) sr pd
theorem QSt.tst {f : S → R (D × Bool)} {s : S} {σ : L2.St} {H : Hp} {ω : Wd} {Q : Bool → Hp → Prop} {P : D × Bool → S → Prop} (h : SR A s σ H ω) (q : QSt E A W (f s) P)
    (k : ∀ d o s', P (d, o) s' → ∃ b, d = .bl b ∧ ∀ H' ω', Sm ω.F ω'.F → SR A s' σ H' ω' → ω'.pd = ω.pd → Q b H') : tT E A W f σ H Q := QR.tst h q.qr fun d o s' _ z => k d o s' z
theorem s_if {c : Expr} {a b : List Stmt} {pos : Pos} {fc : S → R (D × Bool)} {fa fb : S → R Fl} (hc : PT X c (tT E A W fc)) (ha : PSs X a (tS E A W fa)) (hb : PSs X b (tS E A W fb)) :
    PS X (.If c a b pos) (tS E A W fun s => (fc s).bind fun x s1 => match x.1 with | .bl true => fa s1 | .bl false => fb s1 | _ => .no) := by
  refine ⟨fun pins t σ H D I h => (ps_if hc ha hb).run pins t σ H D I ?_⟩
  obtain ⟨s, ω, sr, pd, q⟩ := h
  refine QSt.tst sr q.bind fun d o s1 z => ?_
  cases d with
  | bl c =>
    refine ⟨c, rfl, fun H1 ω1 sm sr1 e => ?_⟩
    cases c with
    | true => exact ⟨s1, ω1, sr1, e.trans pd, QSt.mono z fun fl s2 _ z2 => z2.re sm⟩
    | false => exact ⟨s1, ω1, sr1, e.trans pd, QSt.mono z fun fl s2 _ z2 => z2.re sm⟩
  | _ => exact z.elim
/-- code that is never come to -/
theorem s_dead {st : Stmt} : PS X st (tS E A W fun _ => .no) := ⟨fun pins t σ H D I ⟨_, _, _, _, q⟩ => q.elim⟩
theorem e_dead {e : Expr} : PE X e (tE E A W fun _ => .no) := ⟨fun pins t σ H D I ⟨_, _, _, q⟩ => q.elim⟩
/-! ### loops -/
/-- J walks the data xs, whatever else changes -/
def Walk (A : Act) (F0 : Hp) (tp : Bool) (J : It) (xs : List D) : Prop :=
  ∀ s σ H ω, SR A s σ H ω → Sm F0 ω.F → J.stop xs.length H ∧ ∀ i d, xs[i]? = some d → J.go i H ∧ ∀ x H', J.yld i H x H' → ∃ ω', Sm ω.F ω'.F ∧ ω'.pd = ω.pd ∧ SR A s σ H' ω' ∧ RpI A.c ω'.F tp d x
def tI (E : CE) (A : Act) (W : L2.WX) (tp : Bool) (f : S → R (List D)) : TI := fun σ H R => ∃ s ω, SR A s σ H ω ∧ QR E A W σ (f s) fun xs s' => ∀ J H' ω', Sm ω.F ω'.F → SR A s' σ H' ω' → ω'.pd = ω.pd → Walk A ω'.F tp J xs → R J H'
theorem drop_get {α : Type} {xs : List α} {i : Nat} (h : i < xs.length) : xs.drop i = xs[i] :: xs.drop (i + 1) := List.drop_eq_getElem_cons h
theorem body_cases {f : S → R Fl} {s : S} {g : S → R Fl} {P : Fl → S → Prop}
    (q : QSt E A W (match f s with | .ok .nx s2 => g s2 | .ok .ct s2 => g s2 | .ok .bk s2 => .ok .nx s2 | .ok (.rt d o) s2 => .ok (.rt d o) s2 | .er x s2 => .er x s2 | .no => .no) P) :
    QSt E A W (f s) fun fl s2 => match fl with | .nx => QSt E A W (g s2) P | .ct => QSt E A W (g s2) P | .bk => P .nx s2 | .rt d o => P (.rt d o) s2 := by
  cases e : f s with
  | ok fl s2 =>
    rw [e] at q
    cases fl <;> exact q
  | er x s2 =>
    rw [e] at q
    exact q
  | no =>
    rw [e] at q
    exact q
theorem s_for {tp : Bool} {t : Tg} {tg iter : Expr} {body : List Stmt} {pos : Pos} {fi : S → R (List D)} {fb : S → R Fl} (hK : X.K = A.c.K) (ht : tpOk tp t) (hp : PassesOwn (model X.prog X.w) X.A X.env X.xe) (hc : X.calm = true) (hi : PI X tg iter (tI E A W tp fi)) (hg : PG X tg (gT X.K t)) (hb : PSs X body (tS E A W fb))
    (hs : ∀ x, foldedSetIterable iter X.env x = pure x) : PS X (.For tg iter body [] pos) (tS E A W fun s => (fi s).bind fun xs s1 => forLoop t fb xs s1) := by
  refine ⟨fun pins t0 σ H D I h => (ps_for hp hc hi hg hb hs).run pins t0 σ H D I ?_⟩
  obtain ⟨s, ω, sr, pd, q⟩ := h
  refine ⟨s, ω, sr, QR.mono q.bind.qr fun xs s1 _ z J H1 ω1 sm1 sr1 e1 wk => ?_⟩
  refine ⟨fun i m σ H => m = xs.length - i ∧ i ≤ xs.length ∧ ∃ s2 ω2, SR A s2 σ H ω2 ∧ Sm ω1.F ω2.F ∧ ω2.pd = [] ∧ QSt E A W (forLoop t fb (xs.drop i) s2) (fun fl s' => EndsOk A ω fl s' D),
    ⟨xs.length, by simp, Nat.zero_le _, s1, ω1, sr1, Sm.refl _, e1.trans pd, by simpa using z⟩, ?_⟩
  rintro i m σ2 H2 ⟨rfl, hle, s2, ω2, sr2, sm2, pd2, z2⟩
  obtain ⟨k1, k2⟩ := wk s2 σ2 H2 ω2 sr2 sm2
  by_cases hlt : i < xs.length
  · right
    obtain ⟨g1, g2⟩ := k2 i xs[i] (List.getElem?_eq_getElem hlt)
    rw [drop_get hlt] at z2
    refine ⟨g1, fun σ' H' => ∃ m', m' < xs.length - i ∧ m' = xs.length - (i + 1) ∧ i + 1 ≤ xs.length ∧ ∃ s2 ω2, SR A s2 σ' H' ω2 ∧ Sm ω1.F ω2.F ∧ ω2.pd = [] ∧ QSt E A W (forLoop t fb (xs.drop (i + 1)) s2) (fun fl s' => EndsOk A ω fl s' D), fun σ' H' h => h, fun x H3 y => ?_⟩
    obtain ⟨ω3, sm3, e3, sr3, r3⟩ := g2 x H3 y
    unfold forLoop at z2
    cases es : setT t xs[i] s2 with
    | none => rw [es] at z2; exact z2.elim
    | some s3 =>
      rw [es] at z2
      have z3 := body_cases z2
      refine setT_ok hK ht es sr3 r3 fun σ' ow' h => ⟨s3, ⟨ω3.F, ow', ω3.pd⟩, h, e3.trans pd2, QSt.mono z3 fun fl s4 _ z4 => ?_⟩
      have sm13 : Sm ω1.F ω3.F := sm2.trans sm3
      have sm03 : Sm ω.F ω3.F := sm1.trans sm13
      cases fl with
      | nx => exact fun σ5 H5 ω5 sm5 sr5 pd5 => ⟨xs.length - (i + 1), by omega, rfl, hlt, s4, ω5, sr5, sm13.trans sm5, pd5, z4⟩
      | ct => exact fun σ5 H5 ω5 sm5 sr5 pd5 => ⟨xs.length - (i + 1), by omega, rfl, hlt, s4, ω5, sr5, sm13.trans sm5, pd5, z4⟩
      | bk => exact fun σ5 H5 ω5 sm5 sr5 pd5 => z4 σ5 H5 ω5 (sm03.trans sm5) sr5 pd5
      | rt d o => exact fun v σ5 H5 ω5 sm5 sr5 out => z4 v σ5 H5 ω5 (sm03.trans sm5) sr5 out
  · left
    have e : i = xs.length := by omega
    subst e
    refine ⟨k1, ?_⟩
    rw [List.drop_length] at z2
    exact z2 σ2 H2 ω2 (sm1.trans sm2) sr2 pd2
theorem s_whl {c : Expr} {body : List Stmt} {pos : Pos} {fc : S → R (D × Bool)} {fb : S → R Fl} {fuel : Nat} (hp : PassesOwn (model X.prog X.w) X.A X.env X.xe) (hc : PT X c (tT E A W fc)) (hb : PSs X body (tS E A W fb)) :
    PS X (.While c body [] pos) (tS E A W fun s => whileLoop fc fb fuel s) := by
  refine ⟨fun pins t0 σ H D I h => (ps_while hp hc hb).run pins t0 σ H D I ?_⟩
  obtain ⟨s, ω, sr, pd, q⟩ := h
  refine ⟨fun m σ H => ∃ s2 ω2, SR A s2 σ H ω2 ∧ Sm ω.F ω2.F ∧ ω2.pd = [] ∧ QSt E A W (whileLoop fc fb m s2) (fun fl s' => EndsOk A ω fl s' D), ⟨fuel, s, ω, sr, Sm.refl _, pd, q⟩, ?_⟩
  rintro m σ2 H2 ⟨s2, ω2, sr2, sm2, pd2, z2⟩
  cases m with
  | zero => exact z2.elim
  | succ m =>
    unfold whileLoop at z2
    have z3 : QSt E A W (fc s2) fun x s3 => ∃ b, x.1 = .bl b ∧ (if b = true then QSt E A W (fb s3) (fun fl s2 => match fl with | .nx => QSt E A W (whileLoop fc fb m s2) (fun fl s' => EndsOk A ω fl s' D) | .ct => QSt E A W (whileLoop fc fb m s2) (fun fl s' => EndsOk A ω fl s' D) | .bk => EndsOk A ω .nx s2 D | .rt d o => EndsOk A ω (.rt d o) s2 D) else EndsOk A ω .nx s3 D) := by
      cases e : fc s2 with
      | ok x s3 =>
        rw [e] at z2
        obtain ⟨d, o⟩ := x
        cases d with
        | bl b =>
          cases b with
          | true => exact ⟨true, rfl, body_cases z2⟩
          | false => exact ⟨false, rfl, z2⟩
        | _ => exact z2.elim
      | er x s3 => rw [e] at z2; exact z2
      | no => rw [e] at z2; exact z2
    refine QSt.tst sr2 z3 fun d o s3 ⟨b, eb, z4⟩ => ⟨b, eb, fun H3 ω3 sm3 sr3 e3 => ?_⟩
    have sm03 : Sm ω.F ω3.F := sm2.trans sm3
    cases b with
    | true =>
      rw [if_pos rfl] at z4
      rw [if_pos rfl]
      refine ⟨fun σ' H' => ∃ m', m' < m + 1 ∧ ∃ s2 ω2, SR A s2 σ' H' ω2 ∧ Sm ω.F ω2.F ∧ ω2.pd = [] ∧ QSt E A W (whileLoop fc fb m' s2) (fun fl s' => EndsOk A ω fl s' D), fun σ' H' h => h, ⟨s3, ω3, sr3, e3.trans pd2, QSt.mono z4 fun fl s4 _ z5 => ?_⟩⟩
      cases fl with
      | nx => exact fun σ5 H5 ω5 sm5 sr5 pd5 => ⟨m, Nat.lt_succ_self _, s4, ω5, sr5, sm03.trans sm5, pd5, z5⟩
      | ct => exact fun σ5 H5 ω5 sm5 sr5 pd5 => ⟨m, Nat.lt_succ_self _, s4, ω5, sr5, sm03.trans sm5, pd5, z5⟩
      | bk => exact fun σ5 H5 ω5 sm5 sr5 pd5 => z5 σ5 H5 ω5 (sm03.trans sm5) sr5 pd5
      | rt d o => exact fun v σ5 H5 ω5 sm5 sr5 out => z5 v σ5 H5 ω5 (sm03.trans sm5) sr5 out
    | false =>
      rw [if_neg Bool.false_ne_true] at z4
      rw [if_neg Bool.false_ne_true]
      exact z4 σ2 H3 ω3 sm03 sr3 (e3.trans pd2)
end
end Mp
end
section
set_option Elab.async false
set_option linter.all false
set_option maxRecDepth 100000
set_option maxHeartbeats 2000000
/-! MpIt: what is walked. -/
namespace Mp
open PySem PySem.Spec PyProof.Rows L2
section
variable {E : CE} {A : Act} {W : L2.WX} {X : Cx} {tg : Expr}
theorem SqL.inj_of {pins : List (Addr × Obj)} {t : Shared} {τ : L2.St} {H : Hp} {a : Addr} {xs ys : List V} (I : Inv X pins τ H t) (h : SqL X.K H a xs) (h' : SqL X.K H a ys) : xs = ys := I.list_inj h h'
theorem walk_lst {F0 : Hp} {a : Addr} {xs : List D} {vs : List V} (r : Rd F0 a (.lst vs)) (rl : RpL A.c F0 xs vs) : Walk A F0 false (Itl A.c.K a) xs := fun s σ H ω sr sm => by
  have q : Rd H a (.lst vs) := sr.rd (sm.rd r)
  have q' : SqL A.c.K H a vs := .inl q
  refine ⟨⟨vs, q', by rw [rl.length]; exact Nat.le_refl _⟩, fun i d hd => ?_⟩
  obtain ⟨v, hv, rv⟩ := rl.get hd
  refine ⟨⟨vs, v, q', hv⟩, fun x H' ⟨e, y⟩ => ?_⟩
  subst e
  have := y vs q'
  rw [hv] at this
  cases this
  exact ⟨ω, Sm.refl _, rfl, sr, rv.up sm⟩
theorem walk_tup {F0 : Hp} {a : Addr} {xs : List D} {vs : List V} (r : SqT A.c.K F0 a vs) (rl : RpL A.c F0 xs vs) : Walk A F0 false (Itt A.c.K a) xs := fun s σ H ω sr sm => by
  have q' : SqT A.c.K H a vs := sr.sqT (sm.sqT r)
  refine ⟨⟨vs, q', by rw [rl.length]; exact Nat.le_refl _⟩, fun i d hd => ?_⟩
  obtain ⟨v, hv, rv⟩ := rl.get hd
  refine ⟨⟨vs, v, q', hv⟩, fun x H' ⟨e, y⟩ => ?_⟩
  subst e
  have := y vs q'
  rw [hv] at this
  cases this
  exact ⟨ω, Sm.refl _, rfl, sr, rv.up sm⟩
theorem Walk.up {F0 F1 : Hp} {tp : Bool} {J : It} {xs : List D} (h : Walk A F0 tp J xs) (s : Sm F0 F1) : Walk A F1 tp J xs := fun s' σ H ω sr sm => h s' σ H ω sr (s.trans sm)
/-! ### ranges -/
theorem ints_get (lo st : Int) : ∀ (n i : Nat), i < n → (intsR lo st n)[i]? = some (.int (lo + i * st))
  | 0, i, h => by omega
  | n + 1, 0, h => by
    show (D.int lo :: intsR (lo + st) st n)[0]? = _
    simp
  | n + 1, i + 1, h => by
    show (D.int lo :: intsR (lo + st) st n)[i + 1]? = _
    rw [List.getElem?_cons_succ, ints_get (lo + st) st n i (by omega)]
    congr 2
    have : ((i + 1 : Nat) : Int) = (i : Int) + 1 := by omega
    rw [this, Int.add_mul]
    omega
theorem ints_len (lo st : Int) : ∀ n : Nat, (intsR lo st n).length = n
  | 0 => rfl
  | n + 1 => by show (intsR (lo + st) st n).length + 1 = n + 1; rw [ints_len]
theorem walk_rng {F0 : Hp} {lo st : Int} {n : Nat} : Walk A F0 false (Itc lo st n) (intsR lo st n) := fun s σ H ω sr sm => by
  refine ⟨by rw [ints_len]; exact Nat.le_refl _, fun i d hd => ?_⟩
  have hi : i < n := by
    have := (List.getElem?_eq_some_iff.mp hd).1
    rw [ints_len] at this
    exact this
  rw [ints_get lo st n i hi] at hd
  cases hd
  refine ⟨hi, fun x H' ⟨e, y⟩ => ?_⟩
  subst e
  subst y
  exact ⟨ω, Sm.refl _, rfl, sr, Rp.i (c := A.c) (F := ω.F) _⟩
theorem walk_rng1 {F0 : Hp} {lo : Int} {n : Nat} : Walk A F0 false (Itr lo n) (intsR lo 1 n) := fun s σ H ω sr sm => by
  obtain ⟨a, b⟩ := walk_rng (A := A) (F0 := F0) (lo := lo) (st := 1) (n := n) s σ H ω sr sm
  refine ⟨a, fun i d hd => ?_⟩
  obtain ⟨c, e⟩ := b i d hd
  refine ⟨c, fun x H' ⟨e1, e2⟩ => e x H' ⟨e1, ?_⟩⟩
  rw [e2, Int.mul_one]
theorem rng_ok {i : Int} (h : rngOk i = true) : -(2 ^ 62) ≤ i ∧ i < 2 ^ 62 := by
  unfold rngOk at h
  simp only [Bool.and_eq_true, decide_eq_true_eq] at h
  omega
theorem i_rng1 {a : Expr} {p pos : Pos} {f : S → R (D × Bool)} (hg : Gl X "range") (hm : X.mg "range" = none) (ha : PE X a (tE E A W f)) (hs : noStar a = true) :
    PI X tg (.Call (.Name "range" p) [a] [] pos) (tI E A W false fun s => (f s).bind fun x s1 => match x.1 with | .int j => if rngOk j then .ok (intsR 0 1 j.toNat) s1 else .no | _ => .no) := by
  refine ⟨fun pins t σ H R I h => (pi_range1 hg hm (pa_cons ha pa_nil (notStar hs)) (notStar hs)).run pins t σ H R I ?_⟩
  obtain ⟨s, ω, sr, q⟩ := h
  refine QR.val sr q.bind fun d o s1 v H1 ω1 _ z sm sr1 e r => ?_
  cases d with
  | int j =>
    dsimp only at z
    by_cases hr : rngOk j = true
    · rw [if_pos hr] at z
      have r : v = .int j := r
      subst r
      exact ⟨j, rfl, (rng_ok hr).1, (rng_ok hr).2, z _ H1 ω1 sm sr1 e walk_rng1⟩
    · rw [if_neg hr] at z
      exact z.elim
  | _ => exact z.elim
theorem i_rng2 {a b : Expr} {p pos : Pos} {f g : S → R (D × Bool)} (hg : Gl X "range") (hm : X.mg "range" = none) (ha : PE X a (tE E A W f)) (hb : PE X b (tE E A W g)) (hs : noStar a = true) (hs2 : noStar b = true) :
    PI X tg (.Call (.Name "range" p) [a, b] [] pos) (tI E A W false fun s => (f s).bind fun x s1 => (g s1).bind fun y s2 => match x.1, y.1 with | .int i, .int j => if rngOk i && rngOk j then .ok (intsR i 1 (j - i).toNat) s2 else .no | _, _ => .no) := by
  refine ⟨fun pins t σ H R I h => (pi_range2 hg hm (pa_cons ha (pa_cons hb pa_nil (notStar hs2)) (notStar hs)) (by rw [notStar hs, notStar hs2]; rfl) (notStar hs2)).run pins t σ H R I ?_⟩
  obtain ⟨s, ω, sr, q⟩ := h
  refine QR.val sr q.bind fun d o s1 v H1 ω1 _ z sm sr1 e r => ?_
  refine QR.val sr1 z.bind fun d2 o2 s2 v2 H2 ω2 _ z2 sm2 sr2 e2 r2 => ?_
  cases d with
  | int i =>
    cases d2 with
    | int j =>
      dsimp only at z2
      by_cases hr : (rngOk i && rngOk j) = true
      · rw [if_pos hr] at z2
        rw [Bool.and_eq_true] at hr
        have r : v = .int i := r
        subst r
        have r2 : v2 = .int j := r2
        subst r2
        exact ⟨i, j, rfl, ⟨(rng_ok hr.1).1, (rng_ok hr.1).2, (rng_ok hr.2).1, (rng_ok hr.2).2⟩, z2 _ H2 ω2 (sm.trans sm2) sr2 (e2.trans e) walk_rng1⟩
      · rw [if_neg hr] at z2
        exact z2.elim
    | _ => exact z2.elim
  | _ => exact z2.elim
theorem i_rng3 {a b c : Expr} {p pos : Pos} {f g k : S → R (D × Bool)} (hg : Gl X "range") (hm : X.mg "range" = none) (ha : PE X a (tE E A W f)) (hb : PE X b (tE E A W g)) (hc : PE X c (tE E A W k)) (hs : noStar a = true) (hs2 : noStar b = true) (hs3 : noStar c = true) :
    PI X tg (.Call (.Name "range" p) [a, b, c] [] pos) (tI E A W false fun s => (f s).bind fun x s1 => (g s1).bind fun y s2 => (k s2).bind fun z s3 => match x.1, y.1, z.1 with
      | .int i, .int j, .int k => if k != 0 && Nat.blt k.natAbs 1073741824 && Builtin.Range.small i j k && decide (0 ≤ Builtin.Range.rangeSize i j k) then .ok (intsR i k (Builtin.Range.rangeSize i j k).toNat) s3 else .no
      | _, _, _ => .no) := by
  refine ⟨fun pins t σ H R I h => (pi_range3 hg hm (pa_cons ha (pa_cons hb (pa_cons hc pa_nil (notStar hs3)) (notStar hs2)) (notStar hs)) (notStar hs) (by rw [notStar hs2, notStar hs3]; rfl)).run pins t σ H R I ?_⟩
  obtain ⟨s, ω, sr, q⟩ := h
  refine QR.val sr q.bind fun d o s1 v H1 ω1 _ z sm sr1 e r => ?_
  refine QR.val sr1 z.bind fun d2 o2 s2 v2 H2 ω2 _ z2 sm2 sr2 e2 r2 => ?_
  refine QR.val sr2 z2.bind fun d3 o3 s3 v3 H3 ω3 _ z3 sm3 sr3 e3 r3 => ?_
  cases d with
  | int i =>
    cases d2 with
    | int j =>
      cases d3 with
      | int k =>
        dsimp only at z3
        by_cases hr : (k != 0 && Nat.blt k.natAbs 1073741824 && Builtin.Range.small i j k && decide (0 ≤ Builtin.Range.rangeSize i j k)) = true
        · rw [if_pos hr] at z3
          simp only [Bool.and_eq_true, decide_eq_true_eq, bne_iff_ne, ne_eq, Nat.blt_eq] at hr
          have r : v = .int i := r
          subst r
          have r2 : v2 = .int j := r2
          subst r2
          have r3 : v3 = .int k := r3
          subst r3
          exact ⟨i, j, k, (Builtin.Range.rangeSize i j k).toNat, rfl, ⟨hr.1.1.1, hr.1.1.2, hr.1.2, by omega⟩, z3 _ H3 ω3 ((sm.trans sm2).trans sm3) sr3 (e3.trans (e2.trans e)) walk_rng⟩
        · rw [if_neg hr] at z3
          exact z3.elim
      | _ => exact z3.elim
    | _ => exact z3.elim
  | _ => exact z3.elim
end
end Mp
end
section
set_option Elab.async false
set_option linter.all false
set_option maxRecDepth 100000
set_option maxHeartbeats 2000000
/-! MpCl: the calls of defs: into a def's activation and out of it. -/
namespace Mp
open PySem PySem.Spec PyProof.Rows L2
section
variable {A : Act} {s : S} {σ : L2.St} {H : Hp} {ω : Wd}
/-- the activation of a def that is called now -/
def Act.inn (A : Act) (H : Hp) (ω : Wd) : Act := ⟨A.c, H, ω.F, A.T⟩
def Wd.inn (ω : Wd) (n : Nat) : Wd := ⟨ω.F, List.replicate n none, []⟩
theorem filter_none (n : Nat) : (List.replicate n (none : Option Addr)).filterMap id = [] := by
  induction n with
  | zero => rfl
  | succ n ih => rw [List.replicate_succ, List.filterMap_cons]; exact ih
theorem Wd.inn_adr (ω : Wd) (n : Nat) : (ω.inn n).adr = [] := by
  unfold Wd.adr Wd.inn
  rw [filter_none]
  rfl
theorem SR.enter (h : SR A s σ H ω) {ds : List D} {vs : List V} {n : Nat} (r : RpL A.c ω.F ds vs) (hn : vs.length ≤ n) :
    SR (A.inn H ω) ⟨ds.map (fun d => some (d, false)) ++ List.replicate (n - ds.length) none, s.st⟩ (vs.map some ++ List.replicate (n - vs.length) none) H (ω.inn n) := by
  have hl := r.length
  refine ⟨Sm.refl _, fun a o q z => ?_, h.sub, fun a o q _ _ => .inl q, fun a o q n => ⟨o, q, n⟩, h.ntb, h.tab, ?_, ?_, fun i o a w e1 e2 e3 => ?_, (fun p hp => nomatch hp), h.stl, h.sts, ?_, fun a m => ?_, fun a m => ?_⟩
  · have q : ω.F a = some o := q
    have z : ω.F a = none := z
    rw [q] at z
    cases z
  · simp only [List.length_append, List.length_map, List.length_replicate]; omega
  · show (List.replicate n none).length = _
    simp only [List.length_append, List.length_map, List.length_replicate]; omega
  · have e2 : (List.replicate n (none : Option Addr))[i]? = some a := e2
    have ea : a = none := by
      rw [List.getElem?_replicate] at e2
      split at e2
      · cases e2; rfl
      · cases e2
    subst ea
    by_cases hi : i < ds.length
    · rw [List.getElem?_append_left (by simpa using hi), List.getElem?_map] at e1
      rw [List.getElem?_append_left (by simp; omega), List.getElem?_map] at e3
      cases ed : ds[i]? with
      | none => rw [ed] at e1; cases e1
      | some d =>
        rw [ed] at e1
        cases e1
        obtain ⟨v, ev, rv⟩ := r.get ed
        rw [ev] at e3
        cases e3
        exact ⟨rfl, v, rfl, rv⟩
    · rw [List.getElem?_append_right (by simp; omega)] at e1
      rw [List.getElem?_replicate] at e1
      split at e1
      · cases e1; rfl
      · cases e1
  · rw [Wd.inn_adr]
    have nd := h.nd
    rw [List.nodup_append] at nd
    exact nd.2.1
  · rw [Wd.inn_adr] at m
    exact h.fre a (List.mem_append_right _ m)
  · rw [Wd.inn_adr] at m
    exact nomatch m

/-- back in the caller -/
theorem SR.exit (h : SR A s σ H ω) {s' : S} {σ' : L2.St} {H' : Hp} {ω' : Wd} (k : SR (A.inn H ω) s' σ' H' ω') : SR A ⟨s.ρ, s'.st⟩ σ H' ⟨ω'.F, ω.ow, ω.pd⟩ := by
  have sm : Sm ω.F ω'.F := k.f0
  have stay : ∀ b, b ∈ ω.adr → H' b = H b := fun b m => by
    obtain ⟨o, e, ld⟩ := h.ob (List.mem_append_left _ m)
    rw [e]
    have ni : b ∉ A.c.ι := fun z => by
      have nd := h.nd
      rw [List.nodup_append] at nd
      exact nd.2.2 b m b z rfl
    rcases k.fr b o e (fun ps z => by rw [z] at ld; exact ld) ni with z | ⟨_, ⟨u, z⟩, _⟩
    · exact z
    · have z : ω.F b = some u := z
      rw [h.fre b (List.mem_append_left _ m)] at z
      cases z
  refine ⟨h.f0.trans sm, fun a o q z => ?_, k.sub, fun a o q n m => ?_, fun a o q n => ?_, k.ntb, k.tab, h.len, h.olen, fun i o a w e1 e2 e3 => (h.slot i o a w e1 e2 e3).up sm fun b eb => stay b (ow_mem (by rw [e2, eb])), fun p hp => (h.pds p hp).up sm (stay p.1 (pd_mem hp)), k.stl, k.sts, h.nd, fun a m => ?_, h.own⟩
  · cases q0 : ω.F a with
    | some u => exact h.new a u q0 z
    | none => exact h.no0 (k.new a o q q0)
  · rcases h.fr a o q n m with z | ⟨z1, z2, od, z3⟩
    · rcases k.fr a o z n m with y | ⟨y1, ⟨u, y2⟩, y3⟩
      · exact .inl y
      · refine .inr ⟨y1, ?_, y3⟩
        cases w : A.F0 a with
        | some v => exact ⟨v, rfl⟩
        | none =>
          have z2 := h.new a u y2 w
          exact (z2.no q n).elim
    · rcases k.fr a _ z3 (fun ps z => nomatch z) m with y | ⟨y1, _⟩
      · exact .inr ⟨z1, z2, od, y⟩
      · exact y1.elim
  · obtain ⟨o', e, n'⟩ := h.old a o q n
    exact k.old a o' e n'
  · cases q : ω'.F a with
    | none => rfl
    | some u =>
      have e := k.new a u q (h.fre a m)
      obtain ⟨o, e', l⟩ := h.ob m
      have e : NT (H a) := e
      exact (e.no e' l.nt).elim
/-- .. with an object of one's own that came back -/
theorem SR.exitO (h : SR A s σ H ω) {s' : S} {σ' : L2.St} {H' : Hp} {ω' : Wd} {a : Addr} {d : D} {pd : List (Addr × D)} (k : SR (A.inn H ω) s' σ' H' ω') (e : ω'.pd = (a, d) :: pd) : SR A ⟨s.ρ, s'.st⟩ σ H' ⟨ω'.F, ω.ow, (a, d) :: ω.pd⟩ := by
  have x := h.exit k
  have am : a ∈ ω'.adr := pd_mem (p := (a, d)) (by rw [e]; exact List.mem_cons_self)
  have a0 : NT (H a) := k.own a am
  have na : a ∉ ω.adr ++ A.c.ι := h.apartN a0
  have key : (⟨ω'.F, ω.ow, (a, d) :: ω.pd⟩ : Wd).adr ++ A.c.ι = ω.ow.filterMap id ++ (a :: (ω.pd.map (·.1) ++ A.c.ι)) := by
    unfold Wd.adr
    simp
  have key0 : ω.adr ++ A.c.ι = ω.ow.filterMap id ++ (ω.pd.map (·.1) ++ A.c.ι) := by
    unfold Wd.adr
    simp
  have perm : (ω.ow.filterMap id ++ (a :: (ω.pd.map (·.1) ++ A.c.ι))).Perm (a :: (ω.adr ++ A.c.ι)) := by
    rw [key0]
    exact List.perm_middle
  have memi : ∀ b, b ∈ (⟨ω'.F, ω.ow, (a, d) :: ω.pd⟩ : Wd).adr ++ A.c.ι → b = a ∨ b ∈ ω.adr ++ A.c.ι := fun b m => by
    rw [key] at m
    exact List.mem_cons.mp (perm.mem_iff.mp m)
  refine ⟨x.f0, x.new, x.sub, x.fr, x.old, x.ntb, x.tab, x.len, x.olen, x.slot, fun p hp => ?_, x.stl, x.sts, ?_, fun b m => ?_, fun b m => ?_⟩
  · rcases List.mem_cons.mp hp with rfl | hp
    · exact k.pds (a, d) (by rw [e]; exact List.mem_cons_self)
    · exact x.pds p hp
  · rw [key, perm.nodup_iff, List.nodup_cons]
    exact ⟨na, h.nd⟩
  · rcases memi b m with rfl | m
    · exact k.fre b (List.mem_append_left _ am)
    · exact x.fre b m
  · unfold Wd.adr at m
    rcases List.mem_append.mp m with m | m
    · exact h.own b (by unfold Wd.adr; exact List.mem_append_left _ m)
    · rcases List.mem_cons.mp m with rfl | m
      · exact h.no0 a0
      · exact h.own b (by unfold Wd.adr; exact List.mem_append_right _ m)
end
/-- what a call promises, for the activation of its caller -/
def QC (E : CE) (A : Act) (s : S) (σ : L2.St) (ω : Wd) (r : RC) (Q : VK) (Ex : XK) : Prop := match r with
  | .ok d o st' => ∀ v H' ω', Sm ω.F ω'.F → SR A ⟨s.ρ, st'⟩ σ H' ω' → Out A.c ω ω' d o v → Q v H'
  | .er (.exc k d) st' => ∀ cls od H' ω', SR A ⟨s.ρ, st'⟩ σ H' ω' → XR E A.c ω'.F k d cls od → Ex cls od H'
  | _ => False
/-- the promise of a def, as HandS's -/
def spF (E : CE) (P : Act → Prop) (r : List D → List D → RC) : Sp := fun vs H Q Ex => ∃ A s σ ω ds, SR A s σ H ω ∧ P A ∧ RpL A.c ω.F ds vs ∧ QC E A s σ ω (r ds s.st) Q Ex
/-- .. made from the body's -/
theorem QC.body {E : CE} {A : Act} {s : S} {σ : L2.St} {H : Hp} {ω : Wd} {Q : VK} {Ex : XK} {r : R Fl} (h : SR A s σ H ω) (q : QC E A s σ ω (ends s.st.length r) Q Ex) {n : Nat} :
    QSt E (A.inn H ω) (fun cls od _ H => Ex cls od H) r fun fl s' => EndsOk (A.inn H ω) (ω.inn n) fl s' { nx := fun _ H' => Q .non H', rt := Q } := by
  cases r with
  | ok fl s' =>
    cases fl with
    | nx =>
      have q : QC E A s σ ω (if s'.st.length = s.st.length then .ok .non false s'.st else .no) Q Ex := q
      by_cases hl : s'.st.length = s.st.length
      · rw [if_pos hl] at q
        exact fun σ' H' ω' sm sr pd => q .non H' ⟨ω'.F, ω.ow, ω.pd⟩ sm (h.exit sr) ⟨.n, rfl⟩
      · rw [if_neg hl] at q
        exact q.elim
    | bk => exact q.elim
    | ct => exact q.elim
    | rt d o =>
      have q : QC E A s σ ω (if s'.st.length = s.st.length then .ok d o s'.st else .no) Q Ex := q
      by_cases hl : s'.st.length = s.st.length
      · rw [if_pos hl] at q
        intro v σ' H' ω' sm sr out
        cases o with
        | false =>
          obtain ⟨r, e⟩ := out
          exact q v H' ⟨ω'.F, ω.ow, ω.pd⟩ sm (h.exit sr) ⟨r, rfl⟩
        | true =>
          obtain ⟨a, e, e2⟩ := out
          exact q v H' ⟨ω'.F, ω.ow, (a, d) :: ω.pd⟩ sm (h.exitO sr e2) ⟨a, e, rfl⟩
      · rw [if_neg hl] at q
        exact q.elim
  | er x s' =>
    have q : QC E A s σ ω (if s'.st.length = s.st.length then .er x s'.st else .no) Q Ex := q
    by_cases hl : s'.st.length = s.st.length
    · rw [if_pos hl] at q
      cases x with
      | exc k d => exact fun cls od σ' H' ω' sr xr => q cls od H' ⟨ω'.F, ω.ow, ω.pd⟩ (h.exit sr) xr
      | _ => exact q.elim
    · rw [if_neg hl] at q
      exact q.elim
  | no => exact q.elim
section
variable {E : CE} {A : Act} {W : L2.WX} {X : Cx} {P : Act → Prop}
/-- a call's outcome, from the caller's reading of it -/
theorem QC.of {s0 s : S} {σ : L2.St} {ω ω1 : Wd} {r : RC} {Q : VK} (sm : Sm ω.F ω1.F) (e : ω1.pd = ω.pd) (q : QR E A W σ (liftC s r) fun x s' => ∀ v H' ω', Sm ω.F ω'.F → SR A s' σ H' ω' → Out A.c ω ω' x.1 x.2 v → Q v H') : QC E A s σ ω1 r Q (WE W σ) := by
  cases r with
  | ok d o st' => exact fun v H' ω' sm' h o' => q v H' ω' (sm.trans sm') h (o'.re e)
  | er x st' =>
    cases x with
    | exc k d => exact fun cls od H' ω' h x => q cls od σ H' ω' h x
    | _ => exact q.elim
  | no => exact q.elim
theorem call_use {f : List D → List D → RC} {fr : S → R (List (D × Bool))} {σ : L2.St} {H : Hp} {Q : VK} (hP : P A) (h : tE E A W (fun s => (fr s).bind fun xs s1 => liftC s1 (f (fsts xs) s1.st)) σ H Q) :
    tCallS (spF E P f) (WE W) (tA E A W fr) σ H Q := by
  obtain ⟨s, ω, sr, q⟩ := h
  refine tA.vals sr q.bind fun xs s1 vs H1 ω1 _ z sm sr1 e r => ?_
  exact ⟨A, s1, σ, ω1, fsts xs, sr1, hP, r, QC.of (s0 := s) sm e z⟩
theorem e_call {n : Nat} {fa : Addr} {fd : FuncData} {ps : List Str} {f : List D → List D → RC} {x : Str} {p pos : Pos} {e : Expr} {es : List Expr} {fr : S → R (List (D × Bool))} (hP : P A) (tk : Takes X W) (F : FnOk X.prog X.w X.K X.mg X.base (L2.CX X.prog X.w) n fa fd ps (spF E P f)) (hr : Room n X.A) (hg : Gl X x) (hm : X.mg x = some (.ref fa)) (hk : PySem.W.keepIn X.K (.ref fa) = true) (hb : Binds X.K fd ps [])
    (ha : PA X (e :: es) (tA E A W fr)) (hdb : (x == ("__debug__" : Str)) = false) (he : noStar e = true) (hpl : (backTo pos (starEach es X.env)).any (·.1) = false) :
    PE X (.Call (.Name x p) (e :: es) [] pos) (tE E A W fun s => (fr s).bind fun xs s1 => liftC s1 (f (fsts xs) s1.st)) :=
  ⟨fun pins t σ H Q I h => (pe_callS F hr hg hm hk hb (fun σ => passAt tk σ) ha hdb (notStar he) hpl).run pins t σ H Q I (call_use hP h)⟩
theorem e_callS {n : Nat} {fa : Addr} {fd : FuncData} {ps : List Str} {f : List D → List D → RC} {x : Str} {p pos : Pos} {e : Expr} {es : List Expr} {fr : S → R (List (D × Bool))} (hP : P A) (tk : Takes X W) (F : FnOk X.prog X.w X.K X.mg X.base (L2.CX X.prog X.w) n fa fd ps (spF E P f)) (hr : Room n X.A) (hg : Gl X x) (hm : X.mg x = some (.ref fa)) (hk : PySem.W.keepIn X.K (.ref fa) = true) (hb : Binds X.K fd ps [])
    (ha : PA X (e :: es) (tA E A W fr)) (hdb : (x == ("__debug__" : Str)) = false) (he : noStar e = true) (hst : (backTo pos (starEach es X.env)).any (·.1) = true) :
    PE X (.Call (.Name x p) (e :: es) [] pos) (tE E A W fun s => (fr s).bind fun xs s1 => liftC s1 (f (fsts xs) s1.st)) := by
  refine ⟨fun pins t σ H Q I h => ?_⟩
  have h := call_use hP h
  refine wpAny_Call_Name_kw (ld_glob I hg hm ?_ hdb)
  refine PySem.W.callWith_S2 (h₀ := X.base) I.ok.mod.kin hk (thn (ha.run pos pins t σ H _ I h) fun us s1 ⟨vs, H1, I1, r, q⟩ => ⟨I1.kIn, ?_⟩) (notStar he) hst
  exact run_fnS F hr hb (passAt tk σ) I1 r q
theorem e_call0 {n : Nat} {fa : Addr} {fd : FuncData} {ps : List Str} {f : List D → List D → RC} {x : Str} {p pos : Pos} (hP : P A) (tk : Takes X W) (F : FnOk X.prog X.w X.K X.mg X.base (L2.CX X.prog X.w) n fa fd ps (spF E P f)) (hr : Room n X.A) (hg : Gl X x) (hm : X.mg x = some (.ref fa)) (hk : PySem.W.keepIn X.K (.ref fa) = true) (hb : Binds X.K fd ps [])
    (hdb : (x == ("__debug__" : Str)) = false) :
    PE X (.Call (.Name x p) [] [] pos) (tE E A W fun s => (R.ok ([] : List (D × Bool)) s).bind fun xs s1 => liftC s1 (f (fsts xs) s1.st)) := by
  refine ⟨fun pins t σ H Q I h => ?_⟩
  obtain ⟨s, ω, sr, q⟩ := h
  refine wpAny_Call_Name_kw (ld_glob I hg hm ?_ hdb)
  exact PySem.W.callWith_K0 I.kIn hk (run_fnS (us := []) F hr hb (passAt tk σ) I .nil ⟨A, s, σ, ω, [], sr, hP, .nil, QC.of (s0 := s) (Sm.refl _) rfl q⟩)
end
end Mp
end
section
set_option Elab.async false
set_option linter.all false
set_option maxRecDepth 100000
set_option maxHeartbeats 2000000
/-! MpComp: list comprehensions. -/
namespace Mp
open PySem PySem.Spec PyProof.Rows L2
section
variable {A : Act} {s : S} {σ : L2.St} {H : Hp} {ω : Wd}
/-- the newest of the own objects without a name is changed -/
theorem SR.chgP (h : SR A s σ H ω) {a : Addr} {d d' : D} {o : HO} {pd : List (Addr × D)} (e : ω.pd = (a, d) :: pd) (mo : ∀ ps, o ≠ .tbl ps) (ob : ObAt A.c ω.F (upd H a o) a d') : SR A s σ (upd H a o) { ω with pd := (a, d') :: pd } := by
  have am : a ∈ ω.adr := pd_mem (p := (a, d)) (by rw [e]; exact List.mem_cons_self)
  obtain ⟨c0, c1, c2, c3, c4⟩ := h.chg (o := o) (List.mem_append_left _ am) mo
  have e0 : ∀ b, b ≠ a → upd H a o b = H b := fun b n => upd_ne n
  have eadr : ({ ω with pd := (a, d') :: pd } : Wd).adr = ω.adr := by
    unfold Wd.adr
    rw [e]
    rfl
  have nd := h.nd
  have key : ω.adr ++ A.c.ι = ω.ow.filterMap id ++ (a :: (pd.map (·.1) ++ A.c.ι)) := by
    unfold Wd.adr
    rw [e]
    simp
  rw [key] at nd
  obtain ⟨n1, n2⟩ := nodup_mid nd
  refine ⟨h.f0, h.new, c1, c2, c3, h.ntb, c4, h.len, h.olen, fun i o' b w e1 e2 e3 => (h.slot i o' b w e1 e2 e3).up (Sm.refl _) fun c ec => e0 c fun z => n1 (by rw [← z]; exact List.mem_filterMap.mpr ⟨b, List.mem_of_getElem? e2, ec⟩), fun p hp => ?_, h.stl, fun n b d e1 e2 => (h.sts n b d e1 e2).up (Sm.refl _) (e0 b fun z => n2 ?_), by rw [eadr]; exact h.nd, fun b m => h.fre b (by rw [eadr] at m; exact m), fun b m => h.own b (by rw [eadr] at m; exact m)⟩
  · rcases List.mem_cons.mp hp with rfl | hp
    · exact ob
    · refine (h.pds p (by rw [e]; exact List.mem_cons_of_mem _ hp)).up (Sm.refl _) (e0 p.1 fun z => n2 ?_)
      rw [← z]
      exact List.mem_append_left _ (List.mem_map.mpr ⟨p, hp, rfl⟩)
  · rw [← z]
    exact List.mem_append_right _ (List.mem_of_getElem? e1)
/-- slots of a block forgotten -/
theorem SR.wipe : ∀ {own : List Nat} {ω : Wd}, SR A s σ H ω → ∃ ow', SR A ⟨Mp.wipe s.ρ own, s.st⟩ (L2.wipe σ own) H ⟨ω.F, ow', ω.pd⟩
  | [], ω, h => ⟨ω.ow, h⟩
  | i :: r, ω, h => by
    obtain ⟨ow', h'⟩ := SR.wipe (own := r) h
    exact ⟨_, h'.setV (i := i) (o := none) (w := none) rfl⟩
theorem wipe_getr {ρ : List (Option (D × Bool))} : ∀ {own : List Nat} {i : Nat}, i ∉ own → (Mp.wipe ρ own)[i]? = ρ[i]?
  | [], _, _ => rfl
  | j :: r, i, h => by
    have h1 : j ≠ i := fun e => h (by rw [e]; exact List.mem_cons_self)
    show ((Mp.wipe ρ r).set j none)[i]? = _
    rw [List.getElem?_set_ne h1]
    exact wipe_getr fun m => h (List.mem_cons_of_mem _ m)
/-- .. and put back -/
def backσ (σ0 σ : L2.St) : List Nat → L2.St
  | [] => σ
  | i :: r => (backσ σ0 σ r).set i (match σ0[i]? with | some w => w | none => none)
theorem backσ_len (σ0 σ : L2.St) : ∀ own : List Nat, (backσ σ0 σ own).length = σ.length
  | [] => rfl
  | i :: r => by unfold backσ; rw [List.length_set, backσ_len σ0 σ r]
theorem backσ_in {σ0 σ : L2.St} : ∀ {own : List Nat} {i : Nat}, i ∈ own → i < σ.length → (backσ σ0 σ own)[i]? = some (match σ0[i]? with | some w => w | none => none)
  | j :: r, i, h, hl => by
    unfold backσ
    by_cases e : j = i
    · subst e
      rw [List.getElem?_set_self (by rw [backσ_len]; exact hl)]
    · rw [List.getElem?_set_ne e]
      refine backσ_in ?_ hl
      rcases List.mem_cons.mp h with z | z
      · exact absurd z.symm e
      · exact z
theorem backσ_out {σ0 σ : L2.St} : ∀ {own : List Nat} {i : Nat}, i ∉ own → (backσ σ0 σ own)[i]? = σ[i]?
  | [], _, _ => rfl
  | j :: r, i, h => by
    unfold backσ
    rw [List.getElem?_set_ne (fun e => h (by rw [e]; exact List.mem_cons_self))]
    exact backσ_out fun m => h (List.mem_cons_of_mem _ m)
theorem back_wipe {σ : L2.St} {own : List Nat} : backσ σ (L2.wipe σ own) own = σ := by
  apply List.ext_getElem?
  intro i
  by_cases hi : i ∈ own
  · by_cases hl : i < σ.length
    · rw [backσ_in hi (by rw [L2.wipe_length]; exact hl), List.getElem?_eq_getElem hl]
    · rw [List.getElem?_eq_none (by rw [backσ_len, L2.wipe_length]; omega), List.getElem?_eq_none (by omega)]
  · rw [backσ_out hi, L2.wipe_out hi]
theorem SR.back {s1 s2 : S} {σ1 : L2.St} {H1 : Hp} {ω1 : Wd} (h1 : SR A s1 σ1 H1 ω1) : ∀ {own : List Nat} {ρ : List (Option (D × Bool))} {σ2 : L2.St} {st : List D} {H : Hp} {ω2 : Wd}, Sm ω1.F ω2.F → SR A ⟨ρ, st⟩ σ2 H ω2 → ∃ ow', SR A ⟨Mp.back s1.ρ ρ own, st⟩ (backσ σ1 σ2 own) H ⟨ω2.F, ow', ω2.pd⟩
  | [], ρ, σ2, st, H, ω2, sm, h => ⟨ω2.ow, h⟩
  | i :: r, ρ, σ2, st, H, ω2, sm, h => by
    obtain ⟨ow', h'⟩ := SR.back (s2 := s2) h1 (own := r) sm h
    refine ⟨_, h'.setV (i := i) (o := _) (w := _) ?_⟩
    split
    · rename_i d e
      have l1 : i < s1.ρ.length := (List.getElem?_eq_some_iff.mp e).1
      have l2 : i < ω1.ow.length := by rw [h1.olen, ← h1.len]; exact l1
      have l3 : i < σ1.length := by rw [← h1.len]; exact l1
      obtain ⟨ea, v, ev, rv⟩ := h1.slot i _ _ _ e (List.getElem?_eq_getElem l2) (List.getElem?_eq_getElem l3)
      rw [List.getElem?_eq_getElem l3]
      exact ⟨rfl, v, ev, rv.up sm⟩
    · exact rfl
end
theorem quiet_bind {α β : Type} {r : R α} {f : α → S → R β} : (r.bind f).quiet = r.quiet.bind fun a s => (f a s).quiet := by
  cases r <;> rfl
section
variable {E : CE} {A : Act} {W W0 : L2.WX} {X : Cx}
theorem QR.loud {α : Type} {σ σ' : L2.St} {r : R α} {P : α → S → Prop} (h : QR E A W σ r.quiet P) : QR E A W0 σ' r P := by
  cases r with
  | ok a s => exact h
  | er x s => exact h.elim
  | no => exact h.elim
/-- a clause's tests -/
def tTs (E : CE) (A : Act) (W : L2.WX) : Option (S → R (D × Bool)) → TT
  | none => tYes
  | some f => tT E A W f
/-- the slots but those of a target are as they were -/
def Same (is : List Nat) (σ σ' : L2.St) : Prop := σ'.length = σ.length ∧ ∀ j, j ∉ is → σ'[j]? = σ[j]?
theorem Same.wipe {is own : List Nat} {σ σ' : L2.St} (h : Same is σ σ') (hs : ∀ i ∈ is, i ∈ own) : L2.wipe σ' own = L2.wipe σ own := by
  have wi : ∀ (τ : L2.St) (vs : List Nat) (i : Nat), i ∈ vs → i < τ.length → (L2.wipe τ vs)[i]? = some none := fun τ vs => by
    induction vs with
    | nil => intro i m; exact nomatch m
    | cons v vs ih =>
      intro i m hl
      unfold L2.wipe
      by_cases e : v = i
      · subst e
        rw [List.getElem?_set_self (by rw [L2.wipe_length]; exact hl)]
      · rw [List.getElem?_set_ne e]
        exact ih i ((List.mem_cons.mp m).resolve_left fun z => e z.symm) hl
  apply List.ext_getElem?
  intro i
  by_cases hi : i ∈ own
  · by_cases hl : i < σ.length
    · rw [wi σ' own i hi (by rw [h.1]; exact hl), wi σ own i hi hl]
    · rw [List.getElem?_eq_none (by rw [L2.wipe_length, h.1]; omega), List.getElem?_eq_none (by rw [L2.wipe_length]; omega)]
  · rw [L2.wipe_out hi, L2.wipe_out hi]
    exact h.2 i fun m => hi (hs i m)
def tgs : Tg → List Nat
  | .n i => [i]
  | .t is => is
theorem names_ok2 : ∀ {is : List Nat} {xs : List D} {vs : List V} {s s' : S} {σ : L2.St} {H : Hp} {ω : Wd} {Q : L2.St → Hp → Prop}, setNames is xs s = some s' → SR A s σ H ω → RpL A.c ω.F xs vs →
    (∀ σ' ow', SR A s' σ' H ⟨ω.F, ow', ω.pd⟩ → Same is σ σ' → Q σ' H) → gNames is vs σ H Q
  | [], [], vs, s, s', σ, H, ω, Q, e, sr, r, k => by
    cases e
    cases r.nil_out
    exact ⟨rfl, k σ ω.ow sr ⟨rfl, fun _ _ => rfl⟩⟩
  | i :: is, d :: ds, vs, s, s', σ, H, ω, Q, e, sr, r, k => by
    obtain ⟨v, vs', rfl, r1, r2⟩ := r.out
    have e : (if i < s.ρ.length then setNames is ds (s.put i d false) else none) = some s' := e
    by_cases hl : i < s.ρ.length
    · rw [if_pos hl] at e
      refine ⟨v, vs', rfl, names_ok2 e (sr.putV (i := i) r1) r2 fun σ' ow' h sm => k σ' ow' h ⟨by rw [sm.1, List.length_set], fun j hj => ?_⟩⟩
      rw [sm.2 j fun m => hj (List.mem_cons_of_mem _ m), List.getElem?_set_ne fun e => hj (by rw [e]; exact List.mem_cons_self)]
    · rw [if_neg hl] at e
      cases e
  | [], _ :: _, _, _, _, _, _, _, _, e, _, _, _ => by cases e
  | _ :: _, [], _, _, _, _, _, _, _, e, _, _, _ => by cases e
theorem setT_ok2 {tp : Bool} {t : Tg} {d : D} {v : V} {s s' : S} {σ : L2.St} {H : Hp} {ω : Wd} {Q : L2.St → Hp → Prop} (hK : X.K = A.c.K) (ht : tpOk tp t) (e : setT t d s = some s') (sr : SR A s σ H ω) (r : RpI A.c ω.F tp d v)
    (k : ∀ σ' ow', SR A s' σ' H ⟨ω.F, ow', ω.pd⟩ → Same (tgs t) σ σ' → Q σ' H) : gT X.K t v σ H Q := by
  cases t with
  | n i =>
    have e : (if i < s.ρ.length then some (s.put i d false) else none) = some s' := e
    cases tp with
    | true =>
      obtain ⟨_, z⟩ := ht rfl
      cases z
    | false =>
      by_cases hl : i < s.ρ.length
      · rw [if_pos hl] at e
        cases e
        exact k _ _ (sr.putV (i := i) r) ⟨List.length_set, fun j hj => List.getElem?_set_ne fun e => hj (by rw [e]; exact List.mem_cons_self)⟩
      · rw [if_neg hl] at e
        cases e
  | t is =>
    cases d with
    | tup xs =>
      have r : ∃ a vs, v = .ref a ∧ SqT A.c.K ω.F a vs ∧ RpL A.c ω.F xs vs := by
        cases tp with
        | true =>
          obtain ⟨xs', a, vs, e1, e2, q, r⟩ := r
          cases e1
          exact ⟨a, vs, e2, q, r⟩
        | false =>
          have r : Rp A.c ω.F (.tup xs) v := r
          unfold Rp at r
          obtain ⟨a, vs, e2, q, r⟩ := r
          exact ⟨a, vs, e2, q.1, r⟩
      obtain ⟨a, vs, rfl, q, r⟩ := r
      exact ⟨a, vs, rfl, by rw [hK]; exact sr.sqT q, by rw [r.length, setNames_len (s := s) (s' := s') e], names_ok2 (s := s) e sr r k⟩
    | _ => cases e
theorem compLoop_cons {step : D → S → R (List D)} {x : D} {xs : List D} {s : S} : compLoop step (x :: xs) s = (step x s).bind fun ys s1 => (compLoop step xs s1).bind fun zs s2 => .ok (ys ++ zs) s2 := rfl
theorem back_len (ρ0 ρ : List (Option (D × Bool))) : ∀ own : List Nat, (Mp.back ρ0 ρ own).length = ρ.length
  | [] => rfl
  | i :: r => by unfold Mp.back; rw [List.length_set, back_len ρ0 ρ r]
theorem wipe_len (ρ : List (Option (D × Bool))) : ∀ own : List Nat, (Mp.wipe ρ own).length = ρ.length
  | [] => rfl
  | i :: r => by unfold Mp.wipe; rw [List.length_set, wipe_len ρ r]
theorem back_in {ρ0 ρ : List (Option (D × Bool))} : ∀ {own : List Nat} {i : Nat}, i ∈ own → i < ρ.length → (Mp.back ρ0 ρ own)[i]? = some (match ρ0[i]? with | some (some (d, false)) => some (d, false) | _ => none)
  | j :: r, i, h, hl => by
    unfold Mp.back
    by_cases e : j = i
    · subst e
      rw [List.getElem?_set_self (by rw [back_len]; exact hl)]
      try rfl
    · rw [List.getElem?_set_ne e]
      refine back_in ?_ hl
      rcases List.mem_cons.mp h with z | z
      · exact absurd z.symm e
      · exact z
theorem back_out {ρ0 ρ : List (Option (D × Bool))} : ∀ {own : List Nat} {i : Nat}, i ∉ own → (Mp.back ρ0 ρ own)[i]? = ρ[i]?
  | [], _, _ => rfl
  | j :: r, i, h => by
    unfold Mp.back
    rw [List.getElem?_set_ne (fun e => h (by rw [e]; exact List.mem_cons_self))]
    exact back_out fun m => h (List.mem_cons_of_mem _ m)
theorem back_of_wipe {ρ0 ρ : List (Option (D × Bool))} {own : List Nat} : Mp.back ρ0 (Mp.wipe ρ own) own = Mp.back ρ0 ρ own := by
  apply List.ext_getElem?
  intro i
  by_cases hi : i ∈ own
  · by_cases hl : i < ρ.length
    · rw [back_in hi (by rw [wipe_len]; exact hl), back_in hi hl]
    · rw [List.getElem?_eq_none (by rw [back_len, wipe_len]; omega), List.getElem?_eq_none (by rw [back_len]; omega)]
  · rw [back_out hi, back_out hi, wipe_getr hi]

theorem wipe_in {own : List Nat} {ρ : List (Option (D × Bool))} : ∀ {i : Nat}, i ∈ own → i < ρ.length → (Mp.wipe ρ own)[i]? = some none := by
  induction own with
  | nil => intro i m; exact nomatch m
  | cons v vs ih =>
    intro i m hl
    unfold Mp.wipe
    by_cases e : v = i
    · subst e
      rw [List.getElem?_set_self (by rw [wipe_len]; exact hl)]
    · rw [List.getElem?_set_ne e]
      exact ih ((List.mem_cons.mp m).resolve_left fun z => e z.symm) hl
theorem wipe_wipe {own ws : List Nat} {ρ : List (Option (D × Bool))} (h : ∀ i ∈ ws, i ∈ own) : Mp.wipe (Mp.wipe ρ ws) own = Mp.wipe ρ own := by
  apply List.ext_getElem?
  intro i
  by_cases hi : i ∈ own
  · by_cases hl : i < ρ.length
    · rw [wipe_in hi (by rw [wipe_len]; exact hl), wipe_in hi hl]
    · rw [List.getElem?_eq_none (by rw [wipe_len, wipe_len]; omega), List.getElem?_eq_none (by rw [wipe_len]; omega)]
  · rw [wipe_getr hi, wipe_getr hi, wipe_getr fun z => hi (h i z)]
theorem wipe_wipeσ {own ws : List Nat} {σ : L2.St} (h : ∀ i ∈ ws, i ∈ own) : L2.wipe (L2.wipe σ ws) own = L2.wipe σ own := Same.wipe (is := ws) ⟨L2.wipe_length σ ws, fun j hj => L2.wipe_out hj⟩ h
/-! ### what the inside of a comprehension does: it puts items into the new object at La -/
def PEm (E : CE) (A : Act) (La : Addr) (fin : List D → Option D) (ws : List Nat) (em : L2.St → Hp → (Hp → Prop) → Prop) (e : S → R (List D)) : Prop :=
  ∀ (s : S) (σ : L2.St) (H : Hp) (ω : Wd) (ys : List D) (acc : D) (pd : List (Addr × D)) (P : List D → S → Prop) (N : Hp → Prop) (W : L2.WX) (σ' : L2.St),
    SR A s σ H ω → ω.pd = (La, acc) :: pd → fin ys = some acc → QR E A W σ' (e s).quiet P → (∀ zs s3, P zs s3 → ∃ d, fin (ys ++ zs) = some d) →
    (∀ zs s3 H' ω' acc', P zs s3 → fin (ys ++ zs) = some acc' → Sm ω.F ω'.F → SR A ⟨Mp.wipe s3.ρ ws, s3.st⟩ (L2.wipe σ ws) H' ω' → ω'.pd = (La, acc') :: pd → N H') → em σ H N
/-- one turn -/
theorem turnG {tp : Bool} {own ws : List Nat} {t : Tg} {tst : Option (S → R (D × Bool))} {e : S → R (List D)} {em : L2.St → Hp → (Hp → Prop) → Prop} {La : Addr} {fin : List D → Option D} {x : V} {d : D} {s2 : S} {σ' σw : L2.St} {H : Hp} {ω2 : Wd} {ys : List D} {acc : D} {pd : List (Addr × D)} {P : List D → S → Prop} {N : Hp → Prop}
    (hK : X.K = A.c.K) (ht : tpOk tp t) (pe : PEm E A La fin ws em e) (hws : ∀ i ∈ ws, i ∈ own) (sr : SR A ⟨Mp.wipe s2.ρ own, s2.st⟩ σw H ω2) (r : RpI A.c ω2.F tp d x) (epd : ω2.pd = (La, acc) :: pd) (ef : fin ys = some acc)
    (q : QR E A W σ' ((turn own t tst e d s2).quiet) P) (tot : ∀ zs s3, P zs s3 → ∃ d, fin (ys ++ zs) = some d)
    (k : ∀ zs s3 H' ω' acc', P zs s3 → fin (ys ++ zs) = some acc' → Sm ω2.F ω'.F → SR A ⟨Mp.wipe s3.ρ own, s3.st⟩ σw H' ω' → ω'.pd = (La, acc') :: pd → N H')
    (hown : ∀ i ∈ tgs t, i ∈ own) (ww : L2.wipe σw own = σw) :
    gT X.K t x σw H fun σ2 H2 => L2.wipe σ2 own = σw ∧ tTs E A W0 tst σ2 H2 fun b H3 => if b = true then em σ2 H3 N else N H3 := by
  unfold turn at q
  cases es : setT t d ⟨Mp.wipe s2.ρ own, s2.st⟩ with
  | none => rw [es] at q; exact q.elim
  | some s1 =>
    rw [es] at q
    refine setT_ok2 hK ht es sr r fun σ2 ow' h sm => ?_
    have hw := (sm.wipe hown).trans ww
    refine ⟨hw, ?_⟩
    have fin_ : ∀ {zs : List D} {s3 : S} {H' : Hp} {ω' : Wd} {acc' : D} {ws : List Nat} {σ3 : L2.St}, (∀ i ∈ ws, i ∈ own) → L2.wipe σ3 own = σw → P zs s3 → fin (ys ++ zs) = some acc' → Sm ω2.F ω'.F → SR A ⟨Mp.wipe s3.ρ ws, s3.st⟩ (L2.wipe σ3 ws) H' ω' → ω'.pd = (La, acc') :: pd → N H' := fun {zs s3 H' ω' acc' ws σ3} hs e3 p f sm' sr' e' => by
      obtain ⟨ow2, g⟩ := sr'.wipe (own := own)
      rw [wipe_wipe hs, wipe_wipeσ hs, e3] at g
      exact k zs s3 H' ⟨ω'.F, ow2, ω'.pd⟩ acc' p f sm' g e'
    cases tst with
    | none =>
      have q1 : QR E A W σ' (e s1).quiet P := q
      exact pe s1 σ2 H ⟨ω2.F, ow', ω2.pd⟩ ys acc pd P N W σ' h epd ef q1 tot fun zs s3 H' ω' acc' p f sm' sr' e' => fin_ hws hw p f sm' sr' e'
    | some f =>
      have q1 : QR E A W σ' ((f s1).bind fun b s2 => match b.1 with | .bl true => e s2 | .bl false => .ok [] s2 | _ => .no).quiet P := q
      rw [quiet_bind] at q1
      refine QR.tst h (QR.loud (W := W) (σ := σ') (QR.bind q1)) fun d' o s3 _ z => ?_
      cases d' with
      | bl b =>
        refine ⟨b, rfl, fun H3 ω3 sm3 sr3 e3 => ?_⟩
        cases b with
        | true =>
          rw [if_pos rfl]
          exact pe s3 σ2 H3 ω3 ys acc pd P N W σ' sr3 (e3.trans epd) ef z tot fun zs s4 H' ω' acc' p f sm' sr' e' => fin_ hws hw p f (sm3.trans sm') sr' e'
        | false =>
          rw [if_neg Bool.false_ne_true]
          have z : P [] s3 := z
          exact fin_ (ws := []) (σ3 := σ2) (fun _ y => nomatch y) hw z (by rw [List.append_nil]; exact ef) sm3 sr3 (e3.trans epd)
      | _ => exact z.elim
/-- the loop -/
theorem loopG {tp : Bool} {own ws : List Nat} {t : Tg} {tst : Option (S → R (D × Bool))} {e : S → R (List D)} {em : L2.St → Hp → (Hp → Prop) → Prop} {La : Addr} {fin : List D → Option D} {J : It} {xs : List D} {s1 : S} {σ σ' : L2.St} {H0 F1 : Hp} {ω1 : Wd} {ys0 : List D} {acc0 : D} {pd : List (Addr × D)} {P : List D → S → Prop} {N : Hp → Prop}
    (hK : X.K = A.c.K) (ht : tpOk tp t) (pe : PEm E A La fin ws em e) (hws : ∀ i ∈ ws, i ∈ own) (hown : ∀ i ∈ tgs t, i ∈ own) (pre : ∀ ys zs d, fin (ys ++ zs) = some d → ∃ d', fin ys = some d') (wk : Walk A F1 tp J xs) (smF : Sm F1 ω1.F) (sr : SR A ⟨Mp.wipe s1.ρ own, s1.st⟩ (L2.wipe σ own) H0 ω1) (epd : ω1.pd = (La, acc0) :: pd) (ef : fin ys0 = some acc0)
    (q : QR E A W σ' (compLoop (turn own t tst e) xs s1).quiet P) (tot : ∀ zs s3, P zs s3 → ∃ d, fin (ys0 ++ zs) = some d)
    (k : ∀ zs s3 H' ω' acc', P zs s3 → fin (ys0 ++ zs) = some acc' → Sm ω1.F ω'.F → SR A ⟨Mp.wipe s3.ρ own, s3.st⟩ (L2.wipe σ own) H' ω' → ω'.pd = (La, acc') :: pd → N H') :
    ∃ Wm : Nat → Nat → Hp → Prop, (∃ m, Wm 0 m H0) ∧ ∀ i m H, Wm i m H → (J.stop i H ∧ N H) ∨ (J.go i H ∧ ∃ Nx : Hp → Prop, (∀ H', Nx H' → ∃ m', m' < m ∧ Wm (i + 1) m' H') ∧ ∀ x H', J.yld i H x H' →
      gT X.K t x (L2.wipe σ own) H' fun σ2 H2 => L2.wipe σ2 own = L2.wipe σ own ∧ tTs E A W0 tst σ2 H2 fun b H3 => if b = true then em σ2 H3 Nx else Nx H3) := by
  have ww : L2.wipe (L2.wipe σ own) own = L2.wipe σ own := wipe_wipeσ fun _ h => h
  refine ⟨fun i m H => m = xs.length - i ∧ i ≤ xs.length ∧ ∃ s2 ω2 ys acc, SR A ⟨Mp.wipe s2.ρ own, s2.st⟩ (L2.wipe σ own) H ω2 ∧ Sm ω1.F ω2.F ∧ ω2.pd = (La, acc) :: pd ∧ fin ys = some acc ∧
      QR E A W σ' (compLoop (turn own t tst e) (xs.drop i) s2).quiet (fun zs s3 => ∃ tot, ys ++ zs = ys0 ++ tot ∧ P tot s3),
    ⟨xs.length, by simp, Nat.zero_le _, s1, ω1, ys0, acc0, sr, Sm.refl _, epd, ef, QR.mono (by simpa using q) fun zs s3 _ p => ⟨zs, rfl, p⟩⟩, ?_⟩
  rintro i m H2 ⟨rfl, hle, s2, ω2, ys, acc, sr2, sm2, pd2, ef2, z2⟩
  obtain ⟨k1, k2⟩ := wk _ _ H2 ω2 sr2 (smF.trans sm2)
  by_cases hlt : i < xs.length
  · right
    obtain ⟨g1, g2⟩ := k2 i xs[i] (List.getElem?_eq_getElem hlt)
    rw [drop_get hlt, compLoop_cons, quiet_bind] at z2
    refine ⟨g1, fun H' => ∃ m', m' < xs.length - i ∧ m' = xs.length - (i + 1) ∧ i + 1 ≤ xs.length ∧ ∃ s2 ω2 ys acc, SR A ⟨Mp.wipe s2.ρ own, s2.st⟩ (L2.wipe σ own) H' ω2 ∧ Sm ω1.F ω2.F ∧ ω2.pd = (La, acc) :: pd ∧ fin ys = some acc ∧
      QR E A W σ' (compLoop (turn own t tst e) (xs.drop (i + 1)) s2).quiet (fun zs s3 => ∃ tot, ys ++ zs = ys0 ++ tot ∧ P tot s3), fun H' h => h, fun x H3 y => ?_⟩
    obtain ⟨ω3, sm3, e3, sr3, r3⟩ := g2 x H3 y
    refine turnG hK ht pe hws sr3 r3 (e3.trans pd2) ef2 z2.bind (fun zs s4 p => ?_) (fun zs s4 H' ω' acc' p f sm' sr' e' => ?_) hown ww
    · rw [quiet_bind] at p
      cases er : compLoop (turn own t tst e) (xs.drop (i + 1)) s4 with
      | ok us s5 =>
        rw [er] at p
        obtain ⟨tt, e1, p⟩ : ∃ tot, ys ++ (zs ++ us) = ys0 ++ tot ∧ P tot s5 := p
        obtain ⟨d, e2⟩ := tot tt s5 p
        rw [← e1, ← List.append_assoc] at e2
        exact pre _ _ _ e2
      | er x s5 => rw [er] at p; exact p.elim
      | no => rw [er] at p; exact p.elim
    · rw [quiet_bind] at p
      refine ⟨xs.length - (i + 1), by omega, rfl, hlt, s4, ω', ys ++ zs, acc', sr', (sm2.trans sm3).trans sm', e', f, QR.mono p.bind fun us s5 _ p5 => ?_⟩
      obtain ⟨tt, e1, p5⟩ : ∃ tot, ys ++ (zs ++ us) = ys0 ++ tot ∧ P tot s5 := p5
      exact ⟨tt, by rw [List.append_assoc]; exact e1, p5⟩
  · left
    have e : i = xs.length := by omega
    subst e
    refine ⟨k1, ?_⟩
    rw [List.drop_length] at z2
    obtain ⟨tt, e1, p⟩ : ∃ tot, ys ++ [] = ys0 ++ tot ∧ P tot s2 := z2
    rw [List.append_nil] at e1
    exact k tt s2 H2 ω2 acc p (by rw [← e1]; exact ef2) sm2 sr2 pd2
end
end Mp
end
section
set_option Elab.async false
set_option linter.all false
set_option maxRecDepth 100000
set_option maxHeartbeats 2000000
/-! MpMet2: reading methods: count, index, get. -/
namespace Mp
open PySem PySem.Spec PyProof.Rows L2
section
variable {E : CE} {A : Act} {W : L2.WX} {X : Cx}
/-- a value of that kind -/
def tyK (A : Act) (n : Nat) : V → Hp → Prop := fun x H => ∃ s σ ω d, SR A s σ H ω ∧ Vw A.c ω.F H d x ∧ d.kind = n
def kT : Nat → String
  | 1 => "tuple" | 2 => "list" | _ => "dict"
theorem kind_cases {d : D} {n : Nat} (h : d.kind = n) : (n = 0) ∨ (n = 1 ∧ ∃ xs, d = .tup xs) ∨ (n = 2 ∧ ∃ xs, d = .lst xs) ∨ (n = 3 ∧ ∃ xs, d = .dic xs) := by
  subst h
  cases d <;> first | (exact .inl rfl) | (exact .inr (.inl ⟨rfl, _, rfl⟩)) | (exact .inr (.inr (.inl ⟨rfl, _, rfl⟩))) | (exact .inr (.inr (.inr ⟨rfl, _, rfl⟩)))
theorem noD_at {ps : List (Addr × Obj)} {τ : L2.St} {J : Hp} {t : Shared} {a : Addr} (I : Inv X ps τ J t) (h : NoD X.K J a) : ∃ ob, t.heap.get? a = some ob ∧ ob.dict = none := by
  rcases h with ⟨o, u, e, z⟩ | ⟨o, e, z⟩
  · exact ⟨o, (I.hok a _ e).1, z⟩
  · exact ⟨o, I.kIn a o e, z⟩
theorem SR.noD {s : S} {σ : L2.St} {H : Hp} {ω : Wd} {a : Addr} (h : SR A s σ H ω) (q : NoD A.c.K ω.F a) : NoD A.c.K H a := by
  rcases q with ⟨o, u, e, z⟩ | q
  · exact .inl ⟨o, u, (h.sub a _ e).exact id, z⟩
  · exact .inr q
theorem ty_kind (hK : X.K = A.c.K) (kd : KdOk X A.c) {n : Nat} (hn : n ≠ 0) : TyOk X (kT n) (tyK A n) := by
  intro ps τ J t x v I r ⟨s, σ, ω, d, sr, hv, hk⟩
  rcases kind_cases hk with rfl | ⟨rfl, xs, rfl⟩ | ⟨rfl, xs, rfl⟩ | ⟨rfl, xs, rfl⟩
  · exact absurd rfl hn
  · obtain ⟨a, vs, rfl, hq, rq, rp⟩ := hv
    cases r
    rw [← hK] at hq
    obtain ⟨ws, rv, ⟨o, ho, hc, _⟩, _⟩ := I.tuple hq
    refine ⟨⟨o, ho, hc⟩, fun b e => ?_⟩
    cases e
    unfold Rp at rp
    obtain ⟨b, vs2, e, q, _⟩ := rp
    cases e
    have z := sr.noD q.2
    rw [← hK] at z
    exact noD_at I z
  · obtain ⟨a, vs, rfl, hq, rq⟩ := hv
    cases r
    obtain ⟨ws, rv, pl, _⟩ := I.list (xs := vs) (.inl hq)
    refine ⟨pl.isList.typeIs, fun b e => ?_⟩
    cases e
    obtain ⟨o, n, e, c, hd, _⟩ := pl
    exact ⟨o, e, hd⟩
  · obtain ⟨a, rfl, hv⟩ := hv
    cases r
    have z : ∃ o, t.heap.get? a = some o ∧ o.ExactDict := by
      rcases hv with ⟨q, e, _⟩ | ⟨q, e, _⟩
      · obtain ⟨_, _, vs, _, dd⟩ := dk_at kd I e
        obtain ⟨o, _, _, e, ex, _⟩ := dd
        exact ⟨o, e, ex⟩
      · obtain ⟨_, _, xs, _, dd⟩ := dt_rd I.hok e
        obtain ⟨o, _, _, e, ex, _⟩ := dd
        exact ⟨o, e, ex⟩
    obtain ⟨o, e, ex⟩ := z
    refine ⟨⟨o, e, ex.1⟩, fun b e2 => ?_⟩
    cases e2
    exact ⟨o, e, ex.2.1⟩
/-- one argument -/
def rM2 (A : Act) (n : Nat) (f : D → D → Option (D × Bool)) : V → List V → Hp → VK → Prop := fun x xs H Q => ∃ y, xs = [y] ∧ ∃ s σ ω d e r, SR A s σ H ω ∧ Vw A.c ω.F H d x ∧ Vw A.c ω.F H e y ∧ d.kind = n ∧ f d e = some r ∧ Ans1 A s σ ω r Q
def rM3 (A : Act) (n : Nat) (f : D → D → D → Option (D × Bool)) : V → List V → Hp → VK → Prop := fun x xs H Q => ∃ y z, xs = [y, z] ∧ ∃ s σ ω d e g r, SR A s σ H ω ∧ Vw A.c ω.F H d x ∧ Rp A.c ω.F g z ∧ Vw A.c ω.F H e y ∧ d.kind = n ∧ f d e g = some r ∧ Ans1 A s σ ω r Q
theorem count_eqU {k : Int} : ∀ {is : List Int} {ws : List Value}, Vals (is.map V.int) ws → ws.countP (eqU (.int k)) = is.count k
  | [], _, r => by cases r; rfl
  | i :: is, ws, r => by
    cases r with
    | cons r1 r2 =>
      obtain ⟨t, rfl⟩ := r1
      rw [List.countP_cons, List.count_cons, count_eqU r2]
      rfl
theorem flat_ints (is : List Int) : (is.map V.int).all flatV = true := by
  rw [List.all_map]
  exact List.all_eq_true.mpr fun _ _ => rfl
theorem mt_count (hK : X.K = A.c.K) : MtR X "tuple.count" (rM2 A 1 (ap2 .count)) := by
  intro ps t τ J x xs v us Q I rx rs ⟨y, ex, s, σ, ω, d, e, r, sr, hx, hy, hk, hf, q⟩
  subst ex
  cases d with
  | tup ds =>
    cases e with
    | int k =>
      obtain ⟨is, h1, h2⟩ := bind_some (show (ints? ds).bind (fun is => some (D.int (is.count k), false)) = some r from hf)
      cases h2
      obtain ⟨a, vs, rfl, hq, rq, _⟩ := hx
      have hy : y = .int k := hy
      subst hy
      rw [RpL.ints h1 rq, ← hK] at hq
      obtain ⟨ws, rv, ⟨⟨cl, dd, dt, sl⟩, ho, hc, n, hd⟩, _⟩ := I.tuple hq
      simp only at hc hd
      subst hc hd
      cases rx
      obtain ⟨u, rfl, ru⟩ := Vals.one rs
      refine call_meets PySem.F.slot_tuple_count ⟨_, ho, rfl⟩ PySem.F.entry_tuple_count (PySem.F.args_tuple_count_2 _ _) (SeqAt.tuple_countAt a ws.toArray n dd sl u (eqU (.int k))) ⟨ho, fun w hw => mem_eqAt (x := .int k) ru rfl rv (flat_ints is) w (by simpa using hw), ?_⟩
      have z : ws.toArray.toList.countP (eqU (.int k)) = is.count k := by
        rw [List.toList_toArray]
        exact count_eqU rv
      rw [z]
      exact ⟨.int (is.count k : Nat), J, I.tok _, ⟨_, rfl⟩, q.i sr⟩
    | _ => cases hf
  | _ => cases hf
theorem find_idx {is : List Int} {k : Int} {j : Nat} (h : is.findIdx? (· == k) = some j) : k ∈ is ∧ is.idxOf k = j := by
  obtain ⟨hj, e, m⟩ := List.findIdx?_eq_some_iff_getElem.mp h
  have e : is[j] = k := by simpa using e
  refine ⟨e ▸ List.getElem_mem hj, ?_⟩
  unfold List.idxOf
  rw [List.findIdx_eq hj]
  exact ⟨by simpa using e, fun i hi => by simpa using m i hi⟩
theorem mt_index1 (hK : X.K = A.c.K) : MtR X "tuple.index" (rM2 A 1 (ap2 .index)) := by
  intro ps t τ J x xs v us Q I rx rs ⟨y, ex, s, σ, ω, d, e, r, sr, hx, hy, hk, hf, q⟩
  subst ex
  cases d with
  | tup ds =>
    cases e with
    | int k =>
      obtain ⟨is, h1, h2⟩ := bind_some (show (ints? ds).bind (fun is => match is.findIdx? (· == k) with | some j => some (D.int j, false) | none => none) = some r from hf)
      cases h3 : is.findIdx? (· == k) with
      | none => rw [h3] at h2; cases h2
      | some j =>
        rw [h3] at h2
        cases h2
        obtain ⟨a, vs, rfl, hq, rq, _⟩ := hx
        have hy : y = .int k := hy
        subst hy
        rw [RpL.ints h1 rq, ← hK] at hq
        obtain ⟨ws, rv, ht, _⟩ := I.tuple hq
        cases rx
        obtain ⟨u, rfl, tk, rfl⟩ := Vals.one rs
        obtain ⟨f1, f2⟩ := find_idx h3
        refine PySem.SeqAt.tuple_index_ints ht (intsAre_of rv) f1 ?_
        rw [f2]
        exact ⟨.int j, J, I.tok _, ⟨_, rfl⟩, q.i sr⟩
    | _ => cases hf
  | lst _ => cases hk
  | _ => cases hf
theorem mt_index2 (hK : X.K = A.c.K) : MtR X "list.index" (rM2 A 2 (ap2 .index)) := by
  intro ps t τ J x xs v us Q I rx rs ⟨y, ex, s, σ, ω, d, e, r, sr, hx, hy, hk, hf, q⟩
  subst ex
  cases d with
  | lst ds =>
    cases e with
    | int k =>
      obtain ⟨is, h1, h2⟩ := bind_some (show (ints? ds).bind (fun is => match is.findIdx? (· == k) with | some j => some (D.int j, false) | none => none) = some r from hf)
      cases h3 : is.findIdx? (· == k) with
      | none => rw [h3] at h2; cases h2
      | some j =>
        rw [h3] at h2
        cases h2
        obtain ⟨a, vs, rfl, hq, rq⟩ := hx
        have hy : y = .int k := hy
        subst hy
        rw [RpL.ints h1 rq] at hq
        obtain ⟨ws, rv, pl, hz⟩ := I.list (xs := is.map V.int) (.inl hq)
        cases rx
        obtain ⟨u, rfl, tk, rfl⟩ := Vals.one rs
        obtain ⟨f1, f2⟩ := find_idx h3
        refine PySem.SeqAt.list_index_ints pl.isList (intsAre_of rv) (by have z := rv.length; rw [List.length_map] at z; rw [List.length_map] at hz; omega) f1 ?_
        rw [f2]
        exact ⟨.int j, J, I.tok _, ⟨_, rfl⟩, q.i sr⟩
    | _ => cases hf
  | tup _ => cases hk
  | _ => cases hf
theorem mt_get2 (hK : X.K = A.c.K) (kd : KdOk X A.c) (hu : X.A.units + 1 < cLine) : MtR X "dict.get" (rM3 A 3 (ap3 .get2)) := by
  intro ps t τ J x xs v us Q I rx rs ⟨y, z, ex, s, σ, ω, d, e, g, r, sr, hx, hz, hy, hk, hf, q⟩
  subst ex
  cases d with
  | dic kvs =>
    obtain ⟨hc, hr⟩ := of_opt (c := D.fits kvs e) hf
    subst hr
    obtain ⟨u, w, rfl, ru, rw'⟩ := Vals.two rs
    have hx' := hx
    obtain ⟨a, rfl, _⟩ := hx'
    cases rx
    refine (dict_key kd hK I sr hx hy hc).get2 I hu ru rw' fun o w' s' l I' r' => ⟨_, J, I', r', ?_⟩
    cases hl : D.look kvs e with
    | none =>
      rw [hl] at q l
      have l : o = none := l
      subst l
      exact q.v sr hz
    | some d =>
      rw [hl] at q l
      obtain ⟨w2, rfl, l⟩ := l
      exact q.v sr l
  | _ => cases hf
/-! ### the calls -/
theorem few1 {b : Expr} {env : Env} {pos : Pos} (hs : noStar b = true) : ((backTo pos (starEach [b] env)).all (fun x => !x.1) && (backToKw pos (keywordEach [] env)).all (fun x => x.1.isSome)
    && decide (([b] : List Expr).length + ([] : List Keyword).length + (if ([] : List Keyword).isEmpty then 0 else 1) < 30)) = true := by
  rw [notStar hs]
  rfl
theorem few2 {b c : Expr} {env : Env} {pos : Pos} (hs : noStar b = true) (hs2 : noStar c = true) : ((backTo pos (starEach [b, c] env)).all (fun x => !x.1) && (backToKw pos (keywordEach [] env)).all (fun x => x.1.isSome)
    && decide (([b, c] : List Expr).length + ([] : List Keyword).length + (if ([] : List Keyword).isEmpty then 0 else 1) < 30)) = true := by
  rw [notStar hs, notStar hs2]
  rfl
/-- one argument, the kind known -/
theorem e_methK {n : Nat} {id : String} {name : Str} {f : D → D → Option (D × Bool)} {a b : Expr} {apos cpos : Pos} {fa fb : S → R Hd} (hK : X.K = A.c.K) (kd : KdOk X A.c) (hn : n ≠ 0) (pa : PlainAttrs (kT n)) (slot : PySem.Slot (kT n) name id) (hty : typeOf (.builtin id) = pure (.type "method_descriptor"))
    (hm : MtR X id (rM2 A n f)) (ha : PE X a (tH E A W fa)) (hb : PE X b (tH E A W fb)) (hs : noStar b = true) (hab : abOk a = true) (hl : (apos.endLine == cpos.line) = true) :
    PE X (.Call (.Attribute a name apos) [b] [] cpos) (tE E A W fun s => (fa s).bind fun h s1 => if (h.res s1).map D.kind = some n then (fb s1).bind fun k s2 => if (h.res s2).map D.kind = (h.res s1).map D.kind then liftO (res2 h k s2 f) s2 else .no else .no) := by
  refine ⟨fun pins t σ H Q I hh => (pe_mG (ty_kind hK kd hn) pa slot hty hm ha (pa_cons hb pa_nil (notStar hs)) (attrBase hab) (few1 hs) hl (notStar hs) rfl).run pins t σ H Q I ?_⟩
  obtain ⟨s, ω, sr, q⟩ := hh
  refine QR.hd sr q.bind fun h1 s1 v1 H1 ω1 _ z1 sm1 sr1 e1 r1 => ?_
  by_cases hk : (h1.res s1).map D.kind = some n
  · rw [if_pos hk] at z1
    obtain ⟨d0, h0, hk0⟩ := Option.map_eq_some_iff.mp hk
    refine ⟨⟨s1, σ, ω1, d0, sr1, sr1.res r1 h0, hk0⟩, QR.hd sr1 z1.bind fun h2 s2 v2 H2 ω2 _ z2 sm2 sr2 e2 r2 => ?_⟩
    by_cases hk2 : (h1.res s2).map D.kind = (h1.res s1).map D.kind
    · rw [if_pos hk2] at z2
      obtain ⟨r, er, p⟩ := z2.liftO
      obtain ⟨d, ed, er⟩ := bind_some er
      obtain ⟨d', ed', er⟩ := bind_some er
      rw [hk] at hk2
      obtain ⟨d3, h3, hk3⟩ := Option.map_eq_some_iff.mp hk2
      rw [ed] at h3
      cases h3
      exact ⟨v2, rfl, s2, σ, ω2, d, d', r, sr2, sr2.res (r1.up sm2) ed, sr2.res r2 ed', hk3, er, QE.ans (s1 := s) (sm1.trans sm2) (e2.trans e1) p⟩
    · rw [if_neg hk2] at z2
      exact z2.elim
  · rw [if_neg hk] at z1
    exact z1.elim
theorem meth_pick {o : Op2} {a b : Expr} {name : Str} {apos cpos : Pos} {fa fb : S → R Hd} (n0 : Nat)
    (h : ∀ n, (n = n0 ∨ g1 (some n) o = true) → PE X (.Call (.Attribute a name apos) [b] [] cpos) (tE E A W fun s => (fa s).bind fun h s1 => if (h.res s1).map D.kind = some n then (fb s1).bind fun k s2 => if (h.res s2).map D.kind = (h.res s1).map D.kind then liftO (res2 h k s2 (ap2 o)) s2 else .no else .no)) :
    PE X (.Call (.Attribute a name apos) [b] [] cpos) (tE E A W fun s => (fa s).bind fun h s1 => if g1 ((h.res s1).map D.kind) o then (fb s1).bind fun k s2 => if (h.res s2).map D.kind = (h.res s1).map D.kind then liftO (res2 h k s2 (ap2 o)) s2 else .no else .no) := by
  refine ⟨fun pins t σ H Q I ⟨s, ω, sr, q⟩ => ?_⟩
  dsimp only at q
  cases e : fa s with
  | ok h1 s1 =>
    rw [e] at q
    have q : QE E A W σ ω (if g1 ((h1.res s1).map D.kind) o then (fb s1).bind fun k s2 => if (h1.res s2).map D.kind = (h1.res s1).map D.kind then liftO (res2 h1 k s2 (ap2 o)) s2 else .no else .no) Q := q
    by_cases hg : g1 ((h1.res s1).map D.kind) o = true
    · rw [if_pos hg] at q
      cases hk : (h1.res s1).map D.kind with
      | none => rw [hk] at hg; cases o <;> cases hg
      | some n =>
        refine (h n (.inr (by rw [← hk]; exact hg))).run pins t σ H Q I ⟨s, ω, sr, ?_⟩
        dsimp only
        rw [e]
        show QE E A W σ ω (if (h1.res s1).map D.kind = some n then _ else _) Q
        rw [if_pos hk]
        exact q
    · rw [if_neg hg] at q
      exact q.elim
  | er x s1 =>
    rw [e] at q
    refine (h n0 (.inl rfl)).run pins t σ H Q I ⟨s, ω, sr, ?_⟩
    dsimp only
    rw [e]
    exact q
  | no =>
    rw [e] at q
    exact q.elim
theorem e_count {a b : Expr} {apos cpos : Pos} {fa fb : S → R Hd} (hK : X.K = A.c.K) (kd : KdOk X A.c) (ha : PE X a (tH E A W fa)) (hb : PE X b (tH E A W fb)) (hs : noStar b = true) (hab : abOk a = true) (hl : (apos.endLine == cpos.line) = true) :
    PE X (.Call (.Attribute a "count" apos) [b] [] cpos) (tE E A W fun s => (fa s).bind fun h s1 => if g1 ((h.res s1).map D.kind) .count then (fb s1).bind fun k s2 => if (h.res s2).map D.kind = (h.res s1).map D.kind then liftO (res2 h k s2 (ap2 .count)) s2 else .no else .no) :=
  meth_pick 1 fun n hn => by
    have e : n = 1 := by
      rcases hn with rfl | hn
      · rfl
      · unfold g1 at hn
        split at hn <;> first | cases hn; done | (rename_i e1 e2; first | (cases e1; rfl) | (cases e2))
    subst e
    exact e_methK hK kd (by decide) PySem.F.plainAttrs_tuple PySem.F.slot_tuple_count PySem.F.type_tuple_count (mt_count hK) ha hb hs hab hl
theorem e_index {a b : Expr} {apos cpos : Pos} {fa fb : S → R Hd} (hK : X.K = A.c.K) (kd : KdOk X A.c) (ha : PE X a (tH E A W fa)) (hb : PE X b (tH E A W fb)) (hs : noStar b = true) (hab : abOk a = true) (hl : (apos.endLine == cpos.line) = true) :
    PE X (.Call (.Attribute a "index" apos) [b] [] cpos) (tE E A W fun s => (fa s).bind fun h s1 => if g1 ((h.res s1).map D.kind) .index then (fb s1).bind fun k s2 => if (h.res s2).map D.kind = (h.res s1).map D.kind then liftO (res2 h k s2 (ap2 .index)) s2 else .no else .no) :=
  meth_pick 1 fun n hn => by
    have e : n = 1 ∨ n = 2 := by
      rcases hn with rfl | hn
      · exact .inl rfl
      · unfold g1 at hn
        split at hn <;> first | cases hn; done | (rename_i e1 e2; first | (cases e2; done) | (cases e1; exact .inl rfl) | (cases e1; exact .inr rfl))
    rcases e with rfl | rfl
    · exact e_methK hK kd (by decide) PySem.F.plainAttrs_tuple PySem.F.slot_tuple_index PySem.F.type_tuple_index (mt_index1 hK) ha hb hs hab hl
    · exact e_methK hK kd (by decide) PySem.F.plainAttrs_list PySem.F.slot_list_index PySem.F.type_list_index (mt_index2 hK) ha hb hs hab hl
theorem g3_cases {x : Option Nat} (h : g3 x .get2 = true) : x = some 3 := by
  match x, h with
  | some 3, _ => rfl
theorem e_get2 {a b c : Expr} {apos cpos : Pos} {fa fb : S → R Hd} {fc : S → R (D × Bool)} (hK : X.K = A.c.K) (kd : KdOk X A.c) (hu : X.A.units + 1 < cLine) (ha : PE X a (tH E A W fa)) (hb : PE X b (tH E A W fb)) (hc : PE X c (tE E A W fc)) (hs : noStar b = true) (hs2 : noStar c = true) (hab : abOk a = true) (hl : (apos.endLine == cpos.line) = true) :
    PE X (.Call (.Attribute a "get" apos) [b, c] [] cpos) (tE E A W fun s => (fa s).bind fun h s1 => if g3 ((h.res s1).map D.kind) .get2 then (fb s1).bind fun k s2 => (fc s2).bind fun l s3 => liftO (res2 h k s3 fun d e => ap3 .get2 d e l.1) s3 else .no) := by
  refine ⟨fun pins t σ H Q I hh => (pe_mG (ty_kind hK kd (n := 3) (by decide)) PySem.F.plainAttrs_dict PySem.F.slot_dict_get PySem.F.type_dict_get (mt_get2 hK kd hu) ha (pa_cons hb (pa_cons hc pa_nil (notStar hs2)) (notStar hs)) (attrBase hab) (few2 hs hs2) hl (notStar hs) (star1 hs2)).run pins t σ H Q I ?_⟩
  obtain ⟨s, ω, sr, q⟩ := hh
  refine QR.hd sr q.bind fun h1 s1 v1 H1 ω1 _ z1 sm1 sr1 e1 r1 => ?_
  by_cases hk : g3 ((h1.res s1).map D.kind) .get2 = true
  · rw [if_pos hk] at z1
    obtain ⟨d0, h0, hk0⟩ := Option.map_eq_some_iff.mp (g3_cases hk)
    refine ⟨⟨s1, σ, ω1, d0, sr1, sr1.res r1 h0, hk0⟩, QR.hd sr1 z1.bind fun h2 s2 v2 H2 ω2 _ z2 sm2 sr2 e2 r2 => ?_⟩
    refine QR.val sr2 z2.bind fun d3 o3 s3 v3 H3 ω3 _ z3 sm3 sr3 e3 r3 => ?_
    obtain ⟨r, er, p⟩ := z3.liftO
    obtain ⟨d, ed, er⟩ := bind_some er
    obtain ⟨d', ed', er⟩ := bind_some er
    have hk3 : d.kind = 3 := by
      cases d <;> first | rfl | cases er
    exact ⟨v2, v3, rfl, s3, σ, ω3, d, d', d3, r, sr3, sr3.res (r1.up (sm2.trans sm3)) ed, r3, sr3.res (r2.up sm3) ed', hk3, er, QE.ans (s1 := s) ((sm1.trans sm2).trans sm3) (e3.trans (e2.trans e1)) p⟩
  · rw [if_neg hk] at z1
    exact z1.elim
end
end Mp
end
section
set_option Elab.async false
set_option linter.all false
set_option maxRecDepth 100000
set_option maxHeartbeats 2000000
/-! MpMut: append, pop. -/
namespace Mp
open PySem PySem.Spec PyProof.Rows L2
section
variable {E : CE} {A : Act} {W : L2.WX} {X : Cx}
/-- the object at a name, or behind a reference at it, is about to change -/
theorem chg_use {i : Nat} {f : D → Option (D × D)} {s : S} {σ : L2.St} {H : Hp} {ω : Wd} {P : D × Bool → S → Prop} (sr : SR A s σ H ω) (q : QR E A W σ (chg s i f) P) :
    ∃ a o r o' s2, σ[i]? = some (some (.ref a)) ∧ ObAt A.c ω.F H a o ∧ f o = some (r, o') ∧ P (r, false) s2 ∧ ∀ ho, (∀ ps, ho ≠ .tbl ps) → ObAt A.c ω.F (upd H a ho) a o' → SR A s2 σ (upd H a ho) ω := by
  unfold chg at q
  cases g : s.get i with
  | none => rw [g] at q; exact q.elim
  | some p =>
    obtain ⟨d, w⟩ := p
    rw [g] at q
    cases w with
    | true =>
      have q : QR E A W σ (match f d with | some (r, o') => R.ok (r, false) (s.put i o' true) | none => .no) P := by
        cases d <;> exact q
      cases e : f d with
      | none => rw [e] at q; exact q.elim
      | some p =>
        obtain ⟨r, o'⟩ := p
        rw [e] at q
        obtain ⟨a, ea, ob, _⟩ := sr.obj g
        exact ⟨a, d, r, o', _, ea, ob, e, q, fun ho mo ob' => sr.chgO g ea mo ob'⟩
    | false =>
      cases d with
      | ref n =>
        have q : QR E A W σ (match s.st[n]? with | some o => (match f o with | some (r, o') => R.ok (r, false) ⟨s.ρ, s.st.set n o'⟩ | none => .no) | none => .no) P := q
        cases h : s.st[n]? with
        | none => rw [h] at q; exact q.elim
        | some o =>
          rw [h] at q
          have q : QR E A W σ (match f o with | some (r, o') => R.ok (r, false) ⟨s.ρ, s.st.set n o'⟩ | none => .no) P := q
          cases e : f o with
          | none => rw [e] at q; exact q.elim
          | some p =>
            obtain ⟨r, o'⟩ := p
            rw [e] at q
            obtain ⟨v, ev, rv, _⟩ := sr.val g
            unfold Rp at rv
            obtain ⟨a, ea, rfl⟩ := rv
            exact ⟨a, o, r, o', _, ev, sr.sts n a o ea h, e, q, fun ho mo ob' => sr.chgS ea mo ob'⟩
      | _ => exact q.elim
/-- what a changing method of a list asks -/
def rMut (A : Act) (m : Mu) : V → List V → Hp → VK → Prop := fun x vs H Q => ∃ s2 σ ω a ds o r o', x = .ref a ∧ RpL A.c ω.F ds vs ∧ ObAt A.c ω.F H a o ∧ muts m o ds = some (r, o') ∧
  (∀ ho, (∀ ps, ho ≠ .tbl ps) → ObAt A.c ω.F (upd H a ho) a o' → SR A s2 σ (upd H a ho) ω) ∧ ∀ v H', SR A s2 σ H' ω → Rp A.c ω.F r v → Q v H'
theorem mu_append : MtR X "list.append" (rMut A .append) := by
  intro ps t τ J x vs v us Q I rx rs ⟨s2, σ, ω, a, ds, o, r, o', ex, rd, ob, hm, k, q⟩
  subst ex
  cases o with
  | lst xs =>
    match ds, hm with
    | [d], hm =>
      obtain ⟨y, vs', rfl, ry, rn⟩ := rd.out
      cases rn.nil_out
      by_cases hc : Nat.ble (xs.length + 1) LINE = true
      · have hm : (if Nat.ble (xs.length + 1) LINE then some (D.non, D.lst (xs ++ [d])) else none) = some (r, o') := hm
        rw [if_pos hc] at hm
        cases hm
        obtain ⟨ws, e, rw'⟩ := ob
        have hz : xs.length + 1 ≤ sizeLine := line_of hc
        refine mt_append ps t τ J (.ref a) _ v us Q I rx rs ⟨a, ws, y, rfl, rfl, e, by rw [rw'.length]; omega, ?_⟩
        refine q .non _ (k (.lst (ws ++ [y])) (fun _ z => nomatch z) ⟨_, upd_same, rw'.append ?_⟩) ?_
        · unfold RpL
          exact ⟨y, [], rfl, ry, by unfold RpL; rfl⟩
        · unfold Rp; rfl
      · have hm : (if Nat.ble (xs.length + 1) LINE then some (D.non, D.lst (xs ++ [d])) else none) = some (r, o') := hm
        rw [if_neg hc] at hm
        cases hm
    | [], hm => cases hm
    | _ :: _ :: _, hm => cases hm
  | dic _ => cases ds <;> cases hm
  | _ => exact ob.elim
theorem rpL_rev {c : Cn} {F : Hp} : ∀ {xs : List D} {vs : List V}, RpL c F xs vs → RpL c F xs.reverse vs.reverse
  | [], vs, r => by cases r.nil_out; exact r
  | x :: xs, vs, r => by
    obtain ⟨v, ws, rfl, r1, r2⟩ := r.out
    rw [List.reverse_cons, List.reverse_cons]
    refine (rpL_rev r2).append ?_
    unfold RpL
    exact ⟨v, [], rfl, r1, by unfold RpL; rfl⟩
theorem mu_pop0 : MtR X "list.pop" (rMut A .pop0) := by
  intro ps t τ J x vs v us Q I rx rs ⟨s2, σ, ω, a, ds, o, r, o', ex, rd, ob, hm, k, q⟩
  subst ex
  cases o with
  | lst xs =>
    match ds, hm with
    | [], hm =>
      cases rd.nil_out
      have hm : (match xs.reverse with | [] => none | y :: r => some (y, D.lst r.reverse)) = some (r, o') := hm
      cases hx : xs.reverse with
      | nil => rw [hx] at hm; cases hm
      | cons y zs =>
        rw [hx] at hm
        cases hm
        obtain ⟨ws, e, rw'⟩ := ob
        have z := rpL_rev rw'
        rw [hx] at z
        obtain ⟨w, us', ew, r1, r2⟩ := z.out
        have e2 : ws = us'.reverse ++ [w] := by
          have := congrArg List.reverse ew
          rwa [List.reverse_reverse, List.reverse_cons] at this
        subst e2
        refine mt_pop ps t τ J (.ref a) _ v us Q I rx rs ⟨a, us'.reverse ++ [w], w, rfl, rfl, e, by simp, ?_⟩
        rw [List.dropLast_concat]
        exact q w _ (k (.lst us'.reverse) (fun _ z => nomatch z) ⟨_, upd_same, rpL_rev r2⟩) r1
    | _ :: _, hm => cases hm
  | dic _ => cases hm
  | _ => exact ob.elim
/-! ### the calls -/
theorem isLst_at {s : S} {σ : L2.St} {H : Hp} {ω : Wd} {i : Nat} (sr : SR A s σ H ω) (h : isLstAt s i = true) : ∃ v, σ[i]? = some (some v) ∧ tyK A 2 v H := by
  unfold isLstAt at h
  cases g : s.get i with
  | none => rw [g] at h; cases h
  | some p =>
    obtain ⟨d, w⟩ := p
    rw [g] at h
    cases w with
    | true =>
      cases d with
      | lst xs =>
        obtain ⟨a, ea, ob, _⟩ := sr.obj g
        exact ⟨_, ea, s, σ, ω, .lst xs, sr, ob.vw, rfl⟩
      | _ => cases h
    | false =>
      cases d with
      | ref n =>
        obtain ⟨v, ev, rv, _⟩ := sr.val g
        have rv' := rv
        unfold Rp at rv
        obtain ⟨a, ea, rfl⟩ := rv
        cases q : s.st[n]? with
        | none => simp [q] at h
        | some o =>
          cases o with
          | lst xs => exact ⟨_, ev, s, σ, ω, .lst xs, sr, (sr.sts n a _ ea q).vw, rfl⟩
          | _ => simp [q] at h
      | _ => cases h
theorem e_append {i : Nat} {x : Str} {b : Expr} {p apos cpos : Pos} {fr : S → R (List (D × Bool))} (hK : X.K = A.c.K) (kd : KdOk X A.c) (hN : X.N[i]? = some x) (hv : Vis X.env.scope x) (hd : (x == ("__debug__" : Str)) = false) (hcd : (x == ("__classdict__" : Str)) = false)
    (ha : PA X [b] (tA E A W fr)) (hs : noStar b = true) (hl : (apos.endLine == cpos.line) = true) :
    PE X (.Call (.Attribute (.Name x p) "append" apos) [b] [] cpos) (tE E A W fun s => if isLstAt s i then (fr s).bind fun xs s1 => chg s1 i fun o => muts .append o (fsts xs) else .no) := by
  refine ⟨fun pins t σ H Q I hh => (pe_mG (ty_kind hK kd (n := 2) (by decide)) PySem.F.plainAttrs_list PySem.F.slot_list_append PySem.F.type_list_append (mu_append (A := A)) (pe_var hN hv hd hcd) ha rfl (few1 hs) hl (notStar hs) rfl).run pins t σ H Q I ?_⟩
  obtain ⟨s, ω, sr, q⟩ := hh
  dsimp only at q
  by_cases hi : isLstAt s i = true
  · rw [if_pos hi] at q
    obtain ⟨v, ev, ty⟩ := isLst_at sr hi
    refine ⟨v, ev, ty, tA.vals sr (QR.bind q) fun xs s1 vs H1 ω1 _ z sm sr1 e1 r => ?_⟩
    obtain ⟨a, o, r', o', s2, ea, ob, hm, p, k⟩ := chg_use sr1 z
    rw [ev] at ea
    cases ea
    exact ⟨s2, σ, ω1, a, fsts xs, o, r', o', rfl, r, ob, hm, k, fun v H' sr' rv => p v H' ω1 sm sr' ⟨rv, e1⟩⟩
  · rw [if_neg hi] at q
    exact q.elim
theorem e_pop0 {i : Nat} {x : Str} {p apos cpos : Pos} (hK : X.K = A.c.K) (kd : KdOk X A.c) (hN : X.N[i]? = some x) (hv : Vis X.env.scope x) (hd : (x == ("__debug__" : Str)) = false) (hcd : (x == ("__classdict__" : Str)) = false) (hl : (apos.endLine == cpos.line) = true) :
    PE X (.Call (.Attribute (.Name x p) "pop" apos) [] [] cpos) (tE E A W fun s => if isLstAt s i then (R.ok ([] : List (D × Bool)) s).bind fun xs s1 => chg s1 i fun o => muts .pop0 o (fsts xs) else .no) := by
  refine ⟨fun pins t σ H Q I hh => (pe_mG0 (ty_kind hK kd (n := 2) (by decide)) PySem.F.plainAttrs_list PySem.F.slot_list_pop PySem.F.type_list_pop (mu_pop0 (A := A)) (pe_var hN hv hd hcd) rfl hl).run pins t σ H Q I ?_⟩
  obtain ⟨s, ω, sr, q⟩ := hh
  dsimp only at q
  by_cases hi : isLstAt s i = true
  · rw [if_pos hi] at q
    obtain ⟨v, ev, ty⟩ := isLst_at sr hi
    have q : QE E A W σ ω (chg s i fun o => muts .pop0 o []) Q := q
    obtain ⟨a, o, r', o', s2, ea, ob, hm, p, k⟩ := chg_use sr q
    rw [ev] at ea
    cases ea
    exact ⟨.ref a, ev, ty, s2, σ, ω, a, [], o, r', o', rfl, by unfold RpL; rfl, ob, hm, k, fun v H' sr' rv => p v H' ω (Sm.refl _) sr' ⟨rv, rfl⟩⟩
  · rw [if_neg hi] at q
    exact q.elim
end
end Mp
end
section
set_option Elab.async false
set_option linter.all false
set_option maxRecDepth 100000
set_option maxHeartbeats 2000000
/-! MpSet: o[k] = v. -/
namespace Mp
open PySem PySem.Spec PyProof.Rows L2
theorem putK_ne {k k' : Key} {v v' : V} {q : List (Key × V)} (h : k' ≠ k) : putK ((k', v') :: q) k v = (k', v') :: putK q k v := by
  unfold putK
  rw [List.any_cons, decide_eq_false h, Bool.false_or, List.map_cons, if_neg h]
  split <;> rfl
theorem putK_eq {k : Key} {v v' : V} : ∀ {q : List (Key × V)}, k ∉ q.map (·.1) → putK ((k, v') :: q) k v = (k, v) :: q := fun {q} h => by
  unfold putK
  rw [List.any_cons, decide_eq_true rfl, Bool.true_or, if_pos rfl, List.map_cons, if_pos rfl]
  refine congrArg _ ?_
  have e : ∀ p ∈ q, (if p.1 = k then (p.1, v) else p) = p := fun p hp => if_neg fun z => h (List.mem_map.mpr ⟨p, hp, z⟩)
  rw [List.map_congr_left e]
  exact List.map_id _
theorem rpK_put {c : Cn} {F : Hp} {k : D} {x : Key} {d : D} {v : V} (h : keyOf k = some x) (r : Rp c F d v) : ∀ {kvs : List (D × D)} {q : List (Key × V)}, (q.map (·.1)).Nodup → RpK c F kvs q → RpK c F (D.put kvs k d) (putK q x v)
  | [], q, _, rk => by
    unfold RpK at rk
    subst rk
    show RpK c F [(k, d)] _
    unfold RpK
    exact ⟨x, v, [], rfl, h, r, by unfold RpK; rfl⟩
  | (k', d') :: kvs, q, nd, rk => by
    unfold RpK at rk
    obtain ⟨x', v', q', rfl, e, rd, rk⟩ := rk
    rw [List.map_cons, List.nodup_cons] at nd
    have ek : D.put ((k', d') :: kvs) k d = if D.eqv k' k then (k', d) :: kvs else (k', d') :: D.put kvs k d := rfl
    rw [ek, eqv_key e h]
    by_cases z : x' = x
    · rw [decide_eq_true z, if_pos rfl]
      subst z
      rw [putK_eq nd.1]
      unfold RpK
      exact ⟨x', v, q', rfl, e, r, rk⟩
    · rw [decide_eq_false z, if_neg Bool.false_ne_true, putK_ne z]
      unfold RpK
      exact ⟨x', v', _, rfl, e, rd, rpK_put h r nd.2 rk⟩
theorem RpK.length {c : Cn} {F : Hp} : ∀ {kvs : List (D × D)} {q : List (Key × V)}, RpK c F kvs q → q.length = kvs.length
  | [], q, r => by unfold RpK at r; subst r; rfl
  | (k, d) :: kvs, q, r => by
    unfold RpK at r
    obtain ⟨x, v, q', rfl, _, _, r⟩ := r
    rw [List.length_cons, List.length_cons, RpK.length r]
theorem key1_cases {k : D} (h : k.key1 = true) : ∃ x, keyOf k = some x := by
  cases k with
  | int i => exact ⟨_, rfl⟩
  | str i => exact ⟨_, rfl⟩
  | _ => cases h
section
variable {E : CE} {A : Act} {W : L2.WX} {X : Cx}
theorem KV.keys {q : List (Key × V)} {vs : List (Key × Value)} (r : KV q vs) : vs.map (·.1) = q.map (·.1) := by
  induction r with
  | nil => rfl
  | cons h t ih => rw [List.map_cons, List.map_cons, ih, h.1]
/-- what a store asks -/
def rSt (A : Act) : TSet := fun o i v H Q => ∃ s2 σ ω a ob k d o', o = .ref a ∧ ObAt A.c ω.F H a ob ∧ Rp A.c ω.F k i ∧ Rp A.c ω.F d v ∧ seti? ob k d = some o' ∧
  (∀ ho, (∀ ps, ho ≠ .tbl ps) → ObAt A.c ω.F (upd H a ho) a o' → SR A s2 σ (upd H a ho) ω) ∧ ∀ H', SR A s2 σ H' ω → Q H'
/-- an empty dict may be of the other form -/
theorem inv_dK {ps : List (Addr × Obj)} {τ : L2.St} {J : Hp} {t : Shared} {a : Addr} (I : Inv X ps τ J t) (e : J a = some (.dT [])) : Inv X ps τ (upd J a (.dK [])) t := by
  obtain ⟨z, hs, xs, rel, dd⟩ := dt_rd I.hok (.inl e)
  cases rel
  have d2 := dict_nil_K dd
  have he : ∃ u, t.heap.get? a = some u := by
    obtain ⟨o, _, _, e, _⟩ := id d2
    exact ⟨o, e⟩
  exact I.write (t' := t.toks) (x := a) (e := a) (h' := t.heap) (by rw [e]; trivial) (.inl rfl) (fun _ _ _ q => q) he ⟨Nat.zero_le _, hs, [], .nil, d2⟩
theorem set_ok (hu : X.A.units + 1 < cLine) : PSet X (rSt A) := by
  intro ps t τ J o i v ov iv u Q I ro ri rv ⟨s2, σ, ω, a, ob, k, d, o', eo, hob, rk, rd, hs, kk, q⟩
  subst eo
  cases ob with
  | lst xs =>
    cases k with
    | int n =>
      obtain ⟨j, ej, eo⟩ := Option.map_eq_some_iff.mp (show (Mp.ixN xs.length n).map (fun j => D.lst (xs.set j d)) = some o' from hs)
      obtain ⟨ws, e, r⟩ := hob
      have ei : i = .int n := rk
      subst ei eo
      exact set_list ps t τ J (.ref a) _ v ov iv u Q I ro ri rv ⟨a, ws, n, j, rfl, rfl, e, by rw [r.length, ← ixN_eq]; exact ej, q _ (kk _ (fun _ z => nomatch z) ⟨_, upd_same, r.set j rd⟩)⟩
    | _ => cases hs
  | dic kvs =>
    by_cases hc : (k.key1 && D.fits kvs k && Nat.ble (kvs.length + 1) LINE) = true
    · have hs : (if k.key1 && D.fits kvs k && Nat.ble (kvs.length + 1) LINE then some (D.dic (D.put kvs k d)) else none) = some o' := hs
      rw [if_pos hc] at hs
      cases hs
      rw [Bool.and_eq_true, Bool.and_eq_true] at hc
      obtain ⟨x, ex⟩ := key1_cases hc.1.1
      have ei : i = kV x := keyOf_rp ex rk
      subst ei
      have hz : kvs.length + 1 ≤ sizeLine := line_of hc.2
      rcases hob with ⟨q', e, r⟩ | ⟨q', e, r⟩
      · obtain ⟨z, hs, vs, rel, dd⟩ := dk_rd I.hok (.inl e)
        have nd : (q'.map (·.1)).Nodup := by
          rw [← KV.keys rel]
          obtain ⟨_, _, _, _, _, _, _, _, nd⟩ := dd
          exact nd
        have hl : q'.length < sizeLine := by rw [r.length]; omega
        exact set_dict hu ps t τ J (.ref a) _ v ov iv u Q I ro ri rv ⟨a, _, rfl, .inl ⟨q', x, e, rfl, hl, rfl⟩, q _ (kk _ (fun _ z => nomatch z) (.inl ⟨_, upd_same, rpK_put ex rd nd r⟩))⟩
      · exact absurd (r.2.fits ex hc.1.2).1 r.1
    · have hs : (if k.key1 && D.fits kvs k && Nat.ble (kvs.length + 1) LINE then some (D.dic (D.put kvs k d)) else none) = some o' := hs
      rw [if_neg hc] at hs
      cases hs
  | _ => exact hob.elim
theorem SR.bound {s : S} {σ : L2.St} {H : Hp} {ω : Wd} {i : Nat} (sr : SR A s σ H ω) (h : (s.get i).isSome = true) : ∃ v, σ[i]? = some (some v) := by
  cases g : s.get i with
  | none => rw [g] at h; cases h
  | some p =>
    obtain ⟨d, w⟩ := p
    cases w with
    | true => obtain ⟨a, e, _⟩ := sr.obj g; exact ⟨_, e⟩
    | false => obtain ⟨v, e, _⟩ := sr.val g; exact ⟨_, e⟩
/-- x[k] = e -/
theorem s_seti {i : Nat} {x : Str} {ek e : Expr} {px ps pos : Pos} {fk fe : S → R (D × Bool)} (hu : X.A.units + 1 < cLine) (hN : X.N[i]? = some x) (hv : Vis X.env.scope x) (hd : (x == ("__debug__" : Str)) = false) (hcd : (x == ("__classdict__" : Str)) = false)
    (he : PE X e (tE E A W fe)) (hk : PE X ek (tE E A W fk)) (ha : ∀ v, assign (.Subscript (.Name x px) ek ps) X.env v = (do
      let ov ← holding [v] (eval (.Name x px) X.env)
      let iv ← holding [v, ov] (eval ek X.env)
      standAt ps
      holding [v, ov, iv] (setItem ov iv v)
      release [v, ov, iv] [])) (hs : swapsWithSole [.Subscript (.Name x px) ek ps] e pos.line X.env = pure false) (hw : swappedStores [.Subscript (.Name x px) ek ps] e X.env = pure none)
    (h1 : (assignEach [.Subscript (.Name x px) ek ps] X.env).map (·.2) = [assign (.Subscript (.Name x px) ek ps) X.env]) :
    PS X (.Assign [.Subscript (.Name x px) ek ps] e pos) (tS E A W fun s => (fe s).bind fun y s1 => if (s1.get i).isSome then (fk s1).bind fun x s2 => (chg s2 i fun o => (seti? o x.1 y.1).map fun o' => (.non, o')).bind fun _ s3 => .ok .nx s3 else .no) := by
  refine ⟨fun pins t σ H D I h => (ps_asg he (pg_sub (pe_var hN hv hd hcd) hk (set_ok (A := A) hu) ha) hs hw h1).run pins t σ H D I ?_⟩
  obtain ⟨s, ω, sr, pd, q⟩ := h
  refine QSt.useV sr q.bind fun d o s1 v H1 ω1 z sm sr1 e1 r => ?_
  dsimp only at z
  by_cases hi : (s1.get i).isSome = true
  · rw [if_pos hi] at z
    obtain ⟨w, ew⟩ := sr1.bound hi
    refine ⟨w, ew, QSt.useV sr1 z.bind fun d2 o2 s2 v2 H2 ω2 z2 sm2 sr2 e2 r2 => ?_⟩
    obtain ⟨a, ob, r', o', s3, ea, hob, hm, p, k⟩ := chg_use (W := W) (E := E) sr2 (QSt.bind z2).qr
    rw [ew] at ea
    cases ea
    obtain ⟨ob', hm, ho⟩ := Option.map_eq_some_iff.mp hm
    cases ho
    exact ⟨s3, σ, ω2, a, ob, d2, d, _, rfl, hob, r2, r.up sm2, hm, k, fun H' sr' => p σ H' ω2 (sm.trans sm2) sr' ((e2.trans e1).trans pd)⟩
  · rw [if_neg hi] at z
    exact z.elim
end
end Mp
end
section
set_option Elab.async false
set_option linter.all false
set_option maxRecDepth 100000
set_option maxHeartbeats 2000000
/-! MpCom2: comprehensions of lists and of dicts, of one clause and of two. -/
namespace Mp
open PySem PySem.Spec PyProof.Rows L2
def finD (ys : List D) : Option D := if short ys then (mkDic false ys []).map .dic else none
theorem finL_pre {ys zs : List D} {d : D} (h : finL (ys ++ zs) = some d) : ∃ d', finL ys = some d' := by
  unfold finL at h ⊢
  by_cases hs : short (ys ++ zs) = true
  · have : short ys = true := by
      unfold short at hs ⊢
      rw [Nat.ble_eq, List.length_append] at *
      omega
    exact ⟨_, if_pos this⟩
  · rw [if_neg hs] at h
    cases h
theorem finL_eq {ys : List D} {d : D} (h : finL ys = some d) : d = .lst ys ∧ ys.length ≤ sizeLine := by
  unfold finL at h
  by_cases hs : short ys = true
  · rw [if_pos hs] at h
    cases h
    exact ⟨rfl, line_of hs⟩
  · rw [if_neg hs] at h
    cases h
theorem mkDic_app {tk : Bool} : ∀ {ys zs : List D} {acc : List (D × D)}, mkDic tk (ys ++ zs) acc = (mkDic tk ys acc).bind fun a => mkDic tk zs a
  | [], zs, acc => rfl
  | y :: ys, zs, acc => by
    show (mk1 tk y acc).bind (fun a => mkDic tk (ys ++ zs) a) = ((mk1 tk y acc).bind fun a => mkDic tk ys a).bind fun a => mkDic tk zs a
    cases mk1 tk y acc with
    | none => rfl
    | some a => exact mkDic_app
theorem finD_pre {ys zs : List D} {d : D} (h : finD (ys ++ zs) = some d) : ∃ d', finD ys = some d' := by
  unfold finD at h ⊢
  by_cases hs : short (ys ++ zs) = true
  · rw [if_pos hs, mkDic_app] at h
    have hy : short ys = true := by
      unfold short at hs ⊢
      rw [Nat.ble_eq, List.length_append] at *
      omega
    rw [if_pos hy]
    cases e : mkDic false ys [] with
    | none => rw [e] at h; cases h
    | some a => exact ⟨_, rfl⟩
  · rw [if_neg hs] at h
    cases h
/-- the keys of a dict whose keys are ints and texts -/
structure KN (kvs : List (D × D)) : Prop where
  k1 : ∀ p ∈ kvs, p.1.key1 = true
  nd : (kvs.map fun p => keyOf p.1).Nodup
theorem KN.nil : KN [] := ⟨(fun _ z => nomatch z), List.nodup_nil⟩
theorem put_keys {k v : D} {x : Key} (h : keyOf k = some x) : ∀ {kvs : List (D × D)}, (∀ p ∈ kvs, p.1.key1 = true) → (∀ p ∈ D.put kvs k v, p.1.key1 = true) ∧ (D.put kvs k v).length ≤ kvs.length + 1 ∧
    ((D.put kvs k v).map (fun p => keyOf p.1) = kvs.map (fun p => keyOf p.1) ∨ (some x ∉ kvs.map (fun p => keyOf p.1) ∧ (D.put kvs k v).map (fun p => keyOf p.1) = kvs.map (fun p => keyOf p.1) ++ [some x]))
  | [], _ => by
    have hk : k.key1 = true := by cases k <;> first | rfl | cases h
    refine ⟨fun p hp => ?_, Nat.le_refl _, .inr ⟨(fun z => nomatch z), ?_⟩⟩
    · obtain rfl := List.mem_singleton.mp (show p ∈ [(k, v)] from hp)
      exact hk
    · show [keyOf k] = _
      rw [h]
      rfl
  | (k', v') :: r, hk => by
    obtain ⟨x', e'⟩ := key1_cases (hk (k', v') List.mem_cons_self)
    obtain ⟨i1, i2, i3⟩ := put_keys (v := v) h (kvs := r) fun p hp => hk p (List.mem_cons_of_mem _ hp)
    have e : D.put ((k', v') :: r) k v = if D.eqv k' k then (k', v) :: r else (k', v') :: D.put r k v := rfl
    rw [e, eqv_key e' h]
    by_cases z : x' = x
    · rw [decide_eq_true z, if_pos rfl]
      refine ⟨fun p hp => ?_, by simp only [List.length_cons]; omega, .inl rfl⟩
      rcases List.mem_cons.mp hp with rfl | hp
      · exact hk (k', v') List.mem_cons_self
      · exact hk p (List.mem_cons_of_mem _ hp)
    · rw [decide_eq_false z, if_neg Bool.false_ne_true]
      refine ⟨fun p hp => ?_, by simp only [List.length_cons]; omega, ?_⟩
      · rcases List.mem_cons.mp hp with rfl | hp
        · exact hk (k', v') List.mem_cons_self
        · exact i1 p hp
      · rcases i3 with i3 | ⟨i3, i4⟩
        · exact .inl (by rw [List.map_cons, i3, List.map_cons])
        · refine .inr ⟨fun m => ?_, by rw [List.map_cons, i4, List.map_cons]; rfl⟩
          rw [List.map_cons] at m
          rcases List.mem_cons.mp m with m | m
          · have m : some x = keyOf k' := m
            rw [e'] at m
            exact z (Option.some.inj m).symm
          · exact i3 m
theorem KN.put {kvs : List (D × D)} {k v : D} (h : KN kvs) (hk : k.key1 = true) : KN (D.put kvs k v) ∧ (D.put kvs k v).length ≤ kvs.length + 1 := by
  obtain ⟨x, ex⟩ := key1_cases hk
  obtain ⟨i1, i2, i3⟩ := put_keys (v := v) ex h.k1
  refine ⟨⟨i1, ?_⟩, i2⟩
  rcases i3 with i3 | ⟨i3, i4⟩
  · rw [i3]; exact h.nd
  · rw [i4, List.nodup_append]
    refine ⟨h.nd, List.nodup_cons.mpr ⟨(fun z => nomatch z), List.nodup_nil⟩, fun a ha b hb e => ?_⟩
    obtain rfl := List.mem_singleton.mp hb
    exact i3 (by rw [← e]; exact ha)
theorem mkDic_kn : ∀ {ys : List D} {acc r : List (D × D)}, KN acc → mkDic false ys acc = some r → KN r ∧ r.length ≤ acc.length + ys.length
  | [], acc, r, h, e => by cases e; exact ⟨h, Nat.le_refl _⟩
  | y :: ys, acc, r, h, e => by
    obtain ⟨a, e1, e2⟩ := bind_some (show (mk1 false y acc).bind (fun a => mkDic false ys a) = some r from e)
    unfold mk1 at e1
    split at e1
    · obtain ⟨hc, rfl⟩ := of_opt e1
      rename_i k v
      have hk : k.key1 = true := by
        cases k <;> first | exact hc | cases hc
      obtain ⟨h1, h2⟩ := h.put (v := v) hk
      obtain ⟨h3, h4⟩ := mkDic_kn h1 e2
      exact ⟨h3, by simp only [List.length_cons]; omega⟩
    · cases e1
theorem RpK.keys {c : Cn} {F : Hp} : ∀ {kvs : List (D × D)} {q : List (Key × V)}, RpK c F kvs q → kvs.map (fun p => keyOf p.1) = (q.map (·.1)).map some
  | [], q, r => by unfold RpK at r; subst r; rfl
  | (k, d) :: kvs, q, r => by
    unfold RpK at r
    obtain ⟨x, v, q', rfl, h, _, r⟩ := r
    rw [List.map_cons, RpK.keys r, List.map_cons, List.map_cons, h]
theorem KN.q {c : Cn} {F : Hp} {kvs : List (D × D)} {q : List (Key × V)} (h : KN kvs) (r : RpK c F kvs q) : (q.map (·.1)).Nodup := by
  have z := h.nd
  rw [r.keys] at z
  exact nodup_of_map_some z
where nodup_of_map_some {α : Type} : ∀ {l : List α}, (l.map some).Nodup → l.Nodup
  | [], _ => List.nodup_nil
  | a :: l, h => by
    rw [List.map_cons, List.nodup_cons] at h
    exact List.nodup_cons.mpr ⟨fun m => h.1 (List.mem_map.mpr ⟨a, m, rfl⟩), nodup_of_map_some h.2⟩
theorem KN.noT {c : Cn} {F : Hp} {kvs : List (D × D)} {q : List (List Key × V)} (h : KN kvs) (r : RpN c F kvs q) : False := by
  obtain ⟨n, r⟩ := r
  cases kvs with
  | nil => exact n rfl
  | cons p kvs =>
    obtain ⟨k, d⟩ := p
    unfold RpT at r
    obtain ⟨_, _, _, _, _, e, _⟩ := r
    have z := h.k1 (k, d) List.mem_cons_self
    rw [e] at z
    cases z
theorem finD_one {ys : List D} {k v : D} {acc acc' : D} (h : finD ys = some acc) (h' : finD (ys ++ [.tup [k, v]]) = some acc') : ∃ kvs, acc = .dic kvs ∧ acc' = .dic (D.put kvs k v) ∧ k.key1 = true ∧ KN kvs ∧ kvs.length < sizeLine := by
  unfold finD at h h'
  obtain ⟨hs, h⟩ := of_opt' h
  obtain ⟨hs', h'⟩ := of_opt' h'
  rw [mkDic_app] at h'
  cases e : mkDic false ys [] with
  | none => rw [e] at h; cases h
  | some a =>
    rw [e] at h h'
    cases h
    obtain ⟨kn, hl⟩ := mkDic_kn .nil e
    have hz := line_of hs'
    rw [List.length_append] at hz
    simp only [List.length_cons, List.length_nil] at hz hl
    have h' : ((if keyIsT false k then some (D.put a k v) else none).bind fun a => some a).map D.dic = some acc' := h'
    by_cases hk : keyIsT false k = true
    · rw [if_pos hk] at h'
      cases h'
      refine ⟨a, rfl, rfl, ?_, kn, by omega⟩
      cases k with
      | tup xs => cases hk
      | _ => exact hk
    · rw [if_neg hk] at h'
      cases h'
section
variable {E : CE} {A : Act} {W W0 : L2.WX} {X : Cx}
def emL (D : Addr) (te : TE) : L2.St → Hp → (Hp → Prop) → Prop := fun σ H N => te σ H fun y H4 => ∃ acc, H4 D = some (.lst acc) ∧ acc.length < sizeLine ∧ N (upd H4 D (.lst (acc ++ [y])))
def emD (D : Addr) (tk tv : TE) : L2.St → Hp → (Hp → Prop) → Prop := fun σ H N => tk σ H fun y H4 => tv σ H4 fun z H5 => ∃ kvs k, y = kV k ∧ H5 D = some (.dK kvs) ∧ kvs.length < sizeLine ∧ N (upd H5 D (.dK (putK kvs k z)))
theorem em_lst {La : Addr} {fe : S → R (D × Bool)} : PEm E A La finL [] (emL La (tE E A W0 fe)) (fun s => (fe s).bind fun d s => .ok [d.1] s) := by
  intro s σ H ω ys acc pd P N W σ' sr epd ef q tot k
  obtain ⟨rfl, hlen⟩ := finL_eq ef
  have q1 : QR E A W0 σ ((fe s).bind fun d s => .ok [d.1] s) P := q.loud
  refine QR.val sr q1.bind fun d' o s3 v H3 ω3 _ z sm3 sr3 e3 r3 => ?_
  have z : P [d'] s3 := z
  obtain ⟨a2, f2⟩ := tot _ _ z
  obtain ⟨rfl, h2⟩ := finL_eq f2
  have pd3 := e3.trans epd
  obtain ⟨vs, hv, rl⟩ := sr3.pds (La, .lst ys) (by rw [pd3]; exact List.mem_cons_self)
  have hv : H3 La = some (.lst vs) := hv
  rw [List.length_append] at h2
  refine ⟨vs, hv, by rw [rl.length]; exact h2, ?_⟩
  have ob : ObAt A.c ω3.F (upd H3 La (.lst (vs ++ [v]))) La (.lst (ys ++ [d'])) := ⟨vs ++ [v], upd_same, rl.append (.cons r3 .nil)⟩
  exact k _ _ _ { ω3 with pd := (La, .lst (ys ++ [d'])) :: pd } _ z f2 sm3 (sr3.chgP pd3 (fun _ z => nomatch z) ob) rfl
theorem em_dic {La : Addr} {fk fv : S → R (D × Bool)} : PEm E A La finD [] (emD La (tE E A W0 fk) (tE E A W0 fv)) (fun s => (fk s).bind fun d s => (fv s).bind fun e s => .ok [.tup [d.1, e.1]] s) := by
  intro s σ H ω ys acc pd P N W σ' sr epd ef q tot k
  have q1 : QR E A W0 σ ((fk s).bind fun d s => (fv s).bind fun e s => .ok [.tup [d.1, e.1]] s) P := q.loud
  refine QR.val sr q1.bind fun d1 o1 s3 v1 H3 ω3 _ z3 sm3 sr3 e3 r3 => ?_
  refine QR.val sr3 z3.bind fun d2 o2 s4 v2 H4 ω4 _ z sm4 sr4 e4 r4 => ?_
  have z : P [.tup [d1, d2]] s4 := z
  obtain ⟨a2, f2⟩ := tot _ _ z
  obtain ⟨kvs, rfl, rfl, hk, kn, hlen⟩ := finD_one ef f2
  have pd4 := e4.trans (e3.trans epd)
  obtain ⟨x, ex⟩ := key1_cases hk
  have ev : v1 = kV x := keyOf_rp ex r3
  rcases sr4.pds (La, .dic kvs) (by rw [pd4]; exact List.mem_cons_self) with ⟨q, hv, rk⟩ | ⟨q, hv, rk⟩
  · refine ⟨q, x, ev, hv, ?_, ?_⟩
    · rw [rk.length]; exact hlen
    · have ob : ObAt A.c ω4.F (upd H4 La (.dK (putK q x v2))) La (.dic (D.put kvs d1 d2)) := .inl ⟨_, upd_same, rpK_put ex r4 (kn.q rk) rk⟩
      exact k _ _ _ { ω4 with pd := (La, .dic (D.put kvs d1 d2)) :: pd } _ z f2 (sm3.trans sm4) (sr4.chgP pd4 (fun _ z => nomatch z) ob) rfl
  · exact (kn.noT rk).elim
/-- a further clause's loop -/
def inL (wi1 : TI) (g1 : TG) (tt1 : TT) (em : L2.St → Hp → (Hp → Prop) → Prop) (vs1 : List Nat) : L2.St → Hp → (Hp → Prop) → Prop := fun σ H N => wi1 σ H fun J1 H4 => ∃ W1 : Nat → Nat → Hp → Prop, (∃ m, W1 0 m H4) ∧ ∀ j k H, W1 j k H →
  (J1.stop j H ∧ N H) ∨ (J1.go j H ∧ ∃ Nx1 : Hp → Prop, (∀ H', Nx1 H' → ∃ k', k' < k ∧ W1 (j + 1) k' H') ∧ ∀ x H', J1.yld j H x H' → g1 x (L2.wipe σ vs1) H' fun σ3 H5 => L2.wipe σ3 vs1 = L2.wipe σ vs1 ∧ tt1 σ3 H5 fun b H6 =>
    if b = true then em σ3 H6 Nx1 else Nx1 H6)
theorem em_in {tp : Bool} {own ws : List Nat} {t : Tg} {tst : Option (S → R (D × Bool))} {fi : S → R (List D)} {e : S → R (List D)} {em : L2.St → Hp → (Hp → Prop) → Prop} {La : Addr} {fin : List D → Option D} (hK : X.K = A.c.K) (ht : tpOk tp t) (pe : PEm E A La fin ws em e) (hws : ∀ i ∈ ws, i ∈ own) (hown : ∀ i ∈ tgs t, i ∈ own)
    (pre : ∀ ys zs d, fin (ys ++ zs) = some d → ∃ d', fin ys = some d') : PEm E A La fin own (inL (tI E A W0 tp fi) (gT X.K t) (tTs E A W0 tst) em own) (fun s => (fi s).bind fun zs s => compLoop (turn own t tst e) zs s) := by
  intro s σ H ω ys acc pd P N W σ' sr epd ef q tot k
  have q : QR E A W σ' ((fi s).bind fun zs s => compLoop (turn own t tst e) zs s).quiet P := q
  rw [quiet_bind] at q
  refine ⟨s, ω, sr, QR.mono (QR.loud (W := W) (σ := σ') (QR.bind q)) fun xs s1 _ z J H1 ω1 sm1 sr1 e1 wk => ?_⟩
  obtain ⟨ow0, hw0⟩ := sr1.wipe (own := own)
  exact loopG (ω1 := ⟨ω1.F, ow0, ω1.pd⟩) hK ht pe hws hown pre wk (Sm.refl _) hw0 (e1.trans epd) ef z tot fun zs s3 H' ω' acc' p f sm' sr' e' => k zs s3 H' ω' acc' p f (sm1.trans sm') sr' e'
def outL (wi : TI) (g : TG) (tt : TT) (o0 : HO) (em : Addr → L2.St → Hp → (Hp → Prop) → Prop) (vs : List Nat) : TE := fun σ H Q => wi σ H fun J H1 => ∀ D, H1 D = none → ∃ W : Nat → Nat → Hp → Prop, (∃ m, W 0 m (upd H1 D o0)) ∧ ∀ i m H, W i m H →
  (J.stop i H ∧ Q (.ref D) H) ∨ (J.go i H ∧ ∃ Nx : Hp → Prop, (∀ H', Nx H' → ∃ m', m' < m ∧ W (i + 1) m' H') ∧ ∀ x H', J.yld i H x H' → g x (L2.wipe σ vs) H' fun σ2 H2 => L2.wipe σ2 vs = L2.wipe σ vs ∧ tt σ2 H2 fun b H3 =>
    if b = true then em D σ2 H3 Nx else Nx H3)
theorem comp_use {tp : Bool} {own ws : List Nat} {t : Tg} {tst : Option (S → R (D × Bool))} {fi : S → R (List D)} {e : S → R (List D)} {em : Addr → L2.St → Hp → (Hp → Prop) → Prop} {fin : List D → Option D} {acc0 : D} {o0 : HO} {σ : L2.St} {H : Hp} {Q : VK} (hK : X.K = A.c.K) (ht : tpOk tp t) (pe : ∀ La, PEm E A La fin ws (em La) e) (hws : ∀ i ∈ ws, i ∈ own) (hown : ∀ i ∈ tgs t, i ∈ own)
    (pre : ∀ ys zs d, fin (ys ++ zs) = some d → ∃ d', fin ys = some d') (e0 : fin [] = some acc0) (ob0 : ∀ (F H : Hp) (La : Addr), H La = some o0 → ObAt A.c F H La acc0) (h : tE E A W (compG fin own t tst fi e) σ H Q) :
    outL (tI E A W tp fi) (gT X.K t) (tTs E A W0 tst) o0 em own σ H Q := by
  obtain ⟨s, ω, sr, q⟩ := h
  refine ⟨s, ω, sr, QR.mono q.bind fun xs s1 _ z J H1 ω1 sm1 sr1 e1 wk La hD => ?_⟩
  have h0 := sr1.fresh (H' := upd H1 La o0) (d := acc0) hD (fun b o q => by rw [upd_ne (ne_of_none q hD)]; exact q) (ob0 _ _ _ upd_same)
  obtain ⟨ow0, hw0⟩ := h0.wipe (own := own)
  refine loopG (s1 := s1) (ω1 := ⟨ω1.F, ow0, (La, acc0) :: ω1.pd⟩) (pd := ω1.pd) (ys0 := []) hK ht (pe La) hws hown pre wk (Sm.refl _) hw0 rfl e0 z.bind (fun zs s3 p => ?_) (fun zs s3 H' ω' acc' p f sm' sr' e' => ?_)
  · cases f : fin zs with
    | none => rw [f] at p; exact p.elim
    | some d => exact ⟨d, f⟩
  · have f : fin zs = some acc' := f
    rw [f] at p
    obtain ⟨ow', hb⟩ := SR.back (s2 := s3) sr1 (own := own) sm' sr'
    rw [back_wipe, back_of_wipe] at hb
    exact p (.ref La) H' ⟨ω'.F, ow', ω'.pd⟩ (sm1.trans sm') hb ⟨La, rfl, by rw [e', e1]⟩
theorem ob_lst {c : Cn} (F H : Hp) (La : Addr) (e : H La = some (.lst [])) : ObAt c F H La (.lst []) := ⟨[], e, .nil⟩
theorem ob_dic {c : Cn} (F H : Hp) (La : Addr) (e : H La = some (.dK [])) : ObAt c F H La (.dic []) := .inl ⟨[], e, by unfold RpK; rfl⟩
/-! ### as expressions -/
abbrev Blks (X : Cx) (scope : Scope) (P : Cx → Prop) : Prop := ∀ (s : Shared) (H : Hp) (C : Addr) (cl : List (Str × Addr)) (fp : List Addr), P (X.blk s H scope (compEnvC scope cl C X.env) fp)
theorem e_comp {tp : Bool} {t : Tg} {tst : Option (S → R (D × Bool))} {fi : S → R (List D)} {fe : S → R (D × Bool)} {elt tg iter : Expr} {ifs : List Expr} {scope : Scope} {own : List (Str × Nat)} {pos : Pos} (hK : X.K = A.c.K) (htp : tpOk tp t) (hown : ∀ i ∈ tgs t, i ∈ own.map (·.2)) (hc : X.calm = true) (hN : X.N.Nodup) (hi : PI X tg iter (tI E A W tp fi)) (ok : BlkOk X.N X.env.scope scope own)
    (hg : Blks X scope fun Y => PG Y tg (gT X.K t)) (ht : Blks X scope fun Y => PTs Y ifs (tTs E A W0 tst)) (he : Blks X scope fun Y => PE Y elt (tE E A W0 fe)) (hs : ∀ x, foldedSetIterable iter X.env x = pure x) :
    PE X (.ListComp elt [⟨tg, iter, ifs, 0⟩] scope pos) (tE E A W (compG finL (own.map (·.2)) t tst fi (fun s => (fe s).bind fun d s => .ok [d.1] s))) :=
  ⟨fun pins t0 σ H Q I h => (pe_lc hc hN hi ok hg ht he hs).run pins t0 σ H Q I (comp_use hK htp (fun _ => em_lst) (fun _ z => nomatch z) hown (fun _ _ _ => finL_pre) rfl ob_lst h)⟩
theorem e_comp2 {tp tp2 : Bool} {t t2 : Tg} {tst : Option (S → R (D × Bool))} {fi fi2 : S → R (List D)} {fe : S → R (D × Bool)} {elt tg iter tg1 iter1 : Expr} {ifs1 : List Expr} {scope : Scope} {own : List (Str × Nat)} {own2 : List Nat} {pos : Pos} (hK : X.K = A.c.K) (htp : tpOk tp t) (htp2 : tpOk tp2 t2) (hown : ∀ i ∈ tgs t, i ∈ own.map (·.2)) (hown2 : ∀ i ∈ tgs t2, i ∈ own2) (hsub : ∀ i ∈ own2, i ∈ own.map (·.2)) (hc : X.calm = true) (hN : X.N.Nodup)
    (hi : PI X tg iter (tI E A W tp fi)) (ok : BlkOk X.N X.env.scope scope own) (hg : Blks X scope fun Y => PG Y tg (gT X.K t)) (hi1 : Blks X scope fun Y => PI Y tg1 iter1 (tI E A W0 tp2 fi2)) (hg1 : Blks X scope fun Y => PG Y tg1 (gT X.K t2)) (ht1 : Blks X scope fun Y => PTs Y ifs1 (tTs E A W0 tst)) (he : Blks X scope fun Y => PE Y elt (tE E A W0 fe)) (hs : ∀ x, foldedSetIterable iter X.env x = pure x) (hs1 : ∀ env x, foldedSetIterable iter1 env x = pure x) :
    PE X (.ListComp elt [⟨tg, iter, [], 0⟩, ⟨tg1, iter1, ifs1, 0⟩] scope pos) (tE E A W (compG finL (own.map (·.2)) t none fi (fun s => (fi2 s).bind fun zs s => compLoop (turn own2 t2 tst (fun s => (fe s).bind fun d s => .ok [d.1] s)) zs s))) :=
  ⟨fun pins t0 σ H Q I h => (pe_lc2 (vs1 := own2) hc hN hi ok hsub hg (fun _ _ _ _ _ => pts_nil) hi1 hg1 ht1 he hs hs1).run pins t0 σ H Q I
    (comp_use (W0 := W0) hK htp (fun _ => em_in (X := X) (W0 := W0) hK htp2 (em_lst (W0 := W0)) (fun _ z => nomatch z) hown2 (fun _ _ _ => finL_pre)) hsub hown (fun _ _ _ => finL_pre) rfl ob_lst h)⟩
theorem e_dcomp {tp : Bool} {t : Tg} {tst : Option (S → R (D × Bool))} {fi : S → R (List D)} {fk fv : S → R (D × Bool)} {kx vx tg iter : Expr} {ifs : List Expr} {scope : Scope} {own : List (Str × Nat)} {pos : Pos} (hK : X.K = A.c.K) (htp : tpOk tp t) (hown : ∀ i ∈ tgs t, i ∈ own.map (·.2)) (hc : X.calm = true) (hN : X.N.Nodup) (hi : PI X tg iter (tI E A W tp fi)) (ok : BlkOk X.N X.env.scope scope own)
    (hg : Blks X scope fun Y => PG Y tg (gT X.K t)) (ht : Blks X scope fun Y => PTs Y ifs (tTs E A W0 tst)) (hk : Blks X scope fun Y => PE Y kx (tE E A W0 fk)) (hv : Blks X scope fun Y => PE Y vx (tE E A W0 fv)) (hs : ∀ x, foldedSetIterable iter X.env x = pure x) :
    PE X (.DictComp kx vx [⟨tg, iter, ifs, 0⟩] scope pos) (tE E A W (compG finD (own.map (·.2)) t tst fi (fun s => (fk s).bind fun d s => (fv s).bind fun e s => .ok [.tup [d.1, e.1]] s))) :=
  ⟨fun pins t0 σ H Q I h => (pe_dc hc hN hi ok hg ht hk hv hs).run pins t0 σ H Q I (comp_use hK htp (fun _ => em_dic) (fun _ z => nomatch z) hown (fun _ _ _ => finD_pre) rfl ob_dic h)⟩
/-! ### name = comprehension, on one line -/
theorem setC_use {i : Nat} {tp : Bool} {own ws : List Nat} {t : Tg} {tst : Option (S → R (D × Bool))} {fi : S → R (List D)} {e : S → R (List D)} {em : Addr → L2.St → Hp → (Hp → Prop) → Prop} {fin : List D → Option D} {acc0 : D} {o0 : HO} {σ : L2.St} {H : Hp} {D : Ends} (hK : X.K = A.c.K) (ht : tpOk tp t) (pe : ∀ La, PEm E A La fin ws (em La) e) (hws : ∀ i ∈ ws, i ∈ own) (hown : ∀ i ∈ tgs t, i ∈ own)
    (pre : ∀ ys zs d, fin (ys ++ zs) = some d → ∃ d', fin ys = some d') (e0 : fin [] = some acc0) (ob0 : ∀ (F H : Hp) (La : Addr), H La = some o0 → ObAt A.c F H La acc0) (h : tS E A W (fun s => (compG fin own t tst fi e s).bind fun x s1 => if i < s1.ρ.length then .ok .nx (s1.put i x.1 x.2) else .no) D σ H) :
    outL (tI E A W tp fi) (gT X.K t) (tTs E A W0 tst) o0 em own σ H (fun x H1 => gName i x σ H1 D.nx) := by
  obtain ⟨s, ω, sr, pd, q⟩ := h
  refine comp_use hK ht pe hws hown pre e0 ob0 (QSt.use sr q.bind fun d o s1 v H1 ω1 z sm sr1 out => ?_)
  by_cases hl : i < s1.ρ.length
  · rw [if_pos hl] at z
    cases o with
    | false =>
      obtain ⟨r, e1⟩ := out
      exact z _ _ { ω1 with ow := ω1.ow.set i none } sm (sr1.putV (i := i) r) (e1.trans pd)
    | true =>
      obtain ⟨a, rfl, e1⟩ := out
      exact z (σ.set i (some (.ref a))) H1 ⟨ω1.F, ω1.ow.set i (some a), ω.pd⟩ sm (sr1.putO e1 hl) pd
  · rw [if_neg hl] at z
    exact z.elim
theorem ps_setDc1 {i : Nat} {y : Str} {yp : Pos} {kx vx tg iter : Expr} {ifs : List Expr} {scope : Scope} {own : List (Str × Nat)} {cp sp : Pos} {wi : TI} {g : TG} {tt : TT} {tk tv : TE} (hc : X.calm = true) (hN : X.N.Nodup) (hy : X.N[i]? = some y) (hyl : X.env.scope.names.lookup y = some .local)
    (hsw : swapsWith (.DictComp kx vx [⟨tg, iter, ifs, 0⟩] scope cp) (some (.Name y yp)) sp.line X.env = pure true) (hi : PI X tg iter wi) (ok : BlkOk X.N X.env.scope scope own)
    (hg : Blks X scope fun Y => PG Y tg g) (ht : Blks X scope fun Y => PTs Y ifs tt) (hk : Blks X scope fun Y => PE Y kx tk) (hv : Blks X scope fun Y => PE Y vx tv) (hs : ∀ x, foldedSetIterable iter X.env x = pure x) :
    PS X (.Assign [.Name y yp] (.DictComp kx vx [⟨tg, iter, ifs, 0⟩] scope cp) sp) (fun D σ H => tDc wi g tt tk tv (own.map (·.2)) σ H (fun x H1 => gName i x σ H1 D.nx)) := by
  refine ⟨fun ps t0 τ J D I0 h => ?_⟩
  rw [exec_Assign_Name_used _ _ _ _ hsw]
  refine wpAny_bind (wpAny_standAt (wpAny_bind ?_))
  show wpAny _ X.A (do let _ ← comprehension (.DictComp kx vx [⟨tg, iter, ifs, 0⟩] scope cp) scope X.env (firstIterPos [⟨tg, iter, ifs, 0⟩] cp) newDict false (eval iter X.env) (some (assign (.Name y yp) X.env))) _ _ t0
  refine wpAny_bind (thn (dc_core (Qf := fun _ t' => SP X ps D .next t') hc hN I0 hi ok hg ht hk hv hs h fun La C t1 m J1 I1 q hn f => ?_) fun _ t' hq => wpAny_pure (wpAny_pure hq))
  show wpAny _ _ (assign (.Name y yp) X.env (.ref La)) _ _ _
  refine wpAny_assign_Name (store_ok2 (v := V.ref La) I1 hN hy (.inl hyl) rfl (fun t2 I2 ⟨a, sb, ha⟩ => ?_) (.inr hyl))
  obtain ⟨f0, f1, f2, f3, f4, f5⟩ := f
  have naC : C ≠ a := by
    rcases ha with z | z
    · rw [z]; exact f1
    · exact fun e => f4 y a z e.symm
  refine ⟨m, hn.sameBut sb naC, fun h3 sb3 => ?_⟩
  exact ⟨_, J1, I2.turned (t' := t2.toks) (fun b o hb e => (sb3.2 b hb).trans e) f0 f1 f3 f4 f5, q⟩
section
variable {i : Nat} {y : Str} {py spos : Pos} (hy : X.N[i]? = some y) (hyl : X.env.scope.names.lookup y = some .local)
include hy hyl
theorem s_setLc {tp : Bool} {t : Tg} {tst : Option (S → R (D × Bool))} {fi : S → R (List D)} {fe : S → R (D × Bool)} {elt tg iter : Expr} {ifs : List Expr} {scope : Scope} {own : List (Str × Nat)} {pos : Pos} (hK : X.K = A.c.K) (htp : tpOk tp t) (hown : ∀ i ∈ tgs t, i ∈ own.map (·.2)) (hc : X.calm = true) (hN : X.N.Nodup) (hsw : swapsWith (.ListComp elt [⟨tg, iter, ifs, 0⟩] scope pos) (some (.Name y py)) spos.line X.env = pure true)
    (hi : PI X tg iter (tI E A W tp fi)) (ok : BlkOk X.N X.env.scope scope own) (hg : Blks X scope fun Y => PG Y tg (gT X.K t)) (ht : Blks X scope fun Y => PTs Y ifs (tTs E A W0 tst)) (he : Blks X scope fun Y => PE Y elt (tE E A W0 fe)) (hs : ∀ x, foldedSetIterable iter X.env x = pure x) :
    PS X (.Assign [.Name y py] (.ListComp elt [⟨tg, iter, ifs, 0⟩] scope pos) spos) (tS E A W fun s => (compG finL (own.map (·.2)) t tst fi (fun s => (fe s).bind fun d s => .ok [d.1] s) s).bind fun x s1 => if i < s1.ρ.length then .ok .nx (s1.put i x.1 x.2) else .no) :=
  ⟨fun pins t0 σ H D I h => (ps_setLc hc hN hy hyl hsw hi ok hg ht he hs).run pins t0 σ H D I (setC_use hK htp (fun _ => em_lst) (fun _ z => nomatch z) hown (fun _ _ _ => finL_pre) rfl ob_lst h)⟩
theorem s_setLc2 {tp tp2 : Bool} {t t2 : Tg} {tst : Option (S → R (D × Bool))} {fi fi2 : S → R (List D)} {fe : S → R (D × Bool)} {elt tg iter tg1 iter1 : Expr} {ifs1 : List Expr} {scope : Scope} {own : List (Str × Nat)} {own2 : List Nat} {pos : Pos} (hK : X.K = A.c.K) (htp : tpOk tp t) (htp2 : tpOk tp2 t2) (hown : ∀ i ∈ tgs t, i ∈ own.map (·.2)) (hown2 : ∀ i ∈ tgs t2, i ∈ own2) (hsub : ∀ i ∈ own2, i ∈ own.map (·.2)) (hc : X.calm = true) (hN : X.N.Nodup)
    (hsw : swapsWith (.ListComp elt [⟨tg, iter, [], 0⟩, ⟨tg1, iter1, ifs1, 0⟩] scope pos) (some (.Name y py)) spos.line X.env = pure true) (hi : PI X tg iter (tI E A W tp fi)) (ok : BlkOk X.N X.env.scope scope own) (hg : Blks X scope fun Y => PG Y tg (gT X.K t)) (hi1 : Blks X scope fun Y => PI Y tg1 iter1 (tI E A W0 tp2 fi2)) (hg1 : Blks X scope fun Y => PG Y tg1 (gT X.K t2))
    (ht1 : Blks X scope fun Y => PTs Y ifs1 (tTs E A W0 tst)) (he : Blks X scope fun Y => PE Y elt (tE E A W0 fe)) (hs : ∀ x, foldedSetIterable iter X.env x = pure x) (hs1 : ∀ env x, foldedSetIterable iter1 env x = pure x) :
    PS X (.Assign [.Name y py] (.ListComp elt [⟨tg, iter, [], 0⟩, ⟨tg1, iter1, ifs1, 0⟩] scope pos) spos) (tS E A W fun s => (compG finL (own.map (·.2)) t none fi (fun s => (fi2 s).bind fun zs s => compLoop (turn own2 t2 tst (fun s => (fe s).bind fun d s => .ok [d.1] s)) zs s) s).bind fun x s1 => if i < s1.ρ.length then .ok .nx (s1.put i x.1 x.2) else .no) :=
  ⟨fun pins t0 σ H D I h => (ps_setLc2 (vs1 := own2) hc hN hy hyl hsw hi ok hsub hg (fun _ _ _ _ _ => pts_nil) hi1 hg1 ht1 he hs hs1).run pins t0 σ H D I
    (setC_use (W0 := W0) hK htp (fun _ => em_in (X := X) (W0 := W0) hK htp2 (em_lst (W0 := W0)) (fun _ z => nomatch z) hown2 (fun _ _ _ => finL_pre)) hsub hown (fun _ _ _ => finL_pre) rfl ob_lst h)⟩
theorem s_setDc {tp : Bool} {t : Tg} {tst : Option (S → R (D × Bool))} {fi : S → R (List D)} {fk fv : S → R (D × Bool)} {kx vx tg iter : Expr} {ifs : List Expr} {scope : Scope} {own : List (Str × Nat)} {pos : Pos} (hK : X.K = A.c.K) (htp : tpOk tp t) (hown : ∀ i ∈ tgs t, i ∈ own.map (·.2)) (hc : X.calm = true) (hN : X.N.Nodup) (hsw : swapsWith (.DictComp kx vx [⟨tg, iter, ifs, 0⟩] scope pos) (some (.Name y py)) spos.line X.env = pure true)
    (hi : PI X tg iter (tI E A W tp fi)) (ok : BlkOk X.N X.env.scope scope own) (hg : Blks X scope fun Y => PG Y tg (gT X.K t)) (ht : Blks X scope fun Y => PTs Y ifs (tTs E A W0 tst)) (hk : Blks X scope fun Y => PE Y kx (tE E A W0 fk)) (hv : Blks X scope fun Y => PE Y vx (tE E A W0 fv)) (hs : ∀ x, foldedSetIterable iter X.env x = pure x) :
    PS X (.Assign [.Name y py] (.DictComp kx vx [⟨tg, iter, ifs, 0⟩] scope pos) spos) (tS E A W fun s => (compG finD (own.map (·.2)) t tst fi (fun s => (fk s).bind fun d s => (fv s).bind fun e s => .ok [.tup [d.1, e.1]] s) s).bind fun x s1 => if i < s1.ρ.length then .ok .nx (s1.put i x.1 x.2) else .no) :=
  ⟨fun pins t0 σ H D I h => (ps_setDc1 hc hN hy hyl hsw hi ok hg ht hk hv hs).run pins t0 σ H D I (setC_use hK htp (fun _ => em_dic) (fun _ z => nomatch z) hown (fun _ _ _ => finD_pre) rfl ob_dic h)⟩
end
end
end Mp
end
section
set_option Elab.async false
set_option linter.all false
set_option maxRecDepth 100000
set_option maxHeartbeats 2000000
/-! MpWalk: what is walked, further: dicts (locked for good), zip, enumerate. -/
namespace Mp
open PySem PySem.Spec PyProof.Rows L2
/-! ### a list or a tuple -/
def Sq (K : PySem.W.Frag) (t : Bool) (H : Hp) (a : Addr) (xs : List V) : Prop := match t with
  | true => SqT K H a xs
  | false => SqL K H a xs
def SqI (h : Heap) (t : Bool) (it a : Addr) (i : Nat) : Prop := match t with
  | true => h.IsTupleIter it a i
  | false => h.IsListIter it a i
def SqAt (h : Heap) (t : Bool) (a : Addr) (its : Array Value) : Prop := match t with
  | true => h.IsTuple a its
  | false => h.IsList a its
def itO (t : Bool) (a : Addr) : Obj := match t with
  | true => { cls := .type "tuple_iterator", data := .fields #[.ref a, .int 0 0] }
  | false => { cls := .type "list_iterator", data := .fields #[.ref a, .int 0 0] }
theorem sq_begins (t : Bool) (a : Addr) (its : Array Value) : Begins (.ref a) (itO t a) fun h => SqAt h t a its := by
  cases t with
  | true => exact begins_tuple a its
  | false => exact begins_list a its
theorem sq_draws {prog : Program} {w : World} {A : Around} (hh : A.handled = none) (t : Bool) (it a : Addr) (ne : a ≠ it) (its : Array Value) : Draws prog w A it [it, a] its.size (fun i v => its[i]? = some v) (fun i h => SqI h t it a i ∧ SqAt h t a its) := by
  cases t with
  | true => exact Draws.tuple hh it a ne its
  | false => exact Draws.list hh it a ne its
section
variable {X : Cx} {pins : List (Addr × Obj)} {σ : L2.St} {H : Hp} {s : Shared}
theorem sq_at (I : L2.Inv X pins σ H s) {t : Bool} {a : Addr} {xs : List V} (h : Sq X.K t H a xs) : ∃ its : List Value, Vals xs its ∧ SqAt s.heap t a its.toArray ∧ a < s.heap.objs.size := by
  cases t with
  | true =>
    obtain ⟨its, rv, p, _⟩ := I.tuple h
    exact ⟨its, rv, (show s.heap.IsTuple a its.toArray from p), p.lt⟩
  | false =>
    obtain ⟨its, rv, p, _⟩ := I.list h
    exact ⟨its, rv, p.isList, p.lt⟩
theorem sq_inj (I : L2.Inv X pins σ H s) {t : Bool} {a : Addr} {xs ys : List V} (h : Sq X.K t H a xs) (h' : Sq X.K t H a ys) : xs = ys := by
  cases t with
  | true => exact I.tuple_inj h h'
  | false => exact I.list_inj h h'
theorem sqI_at {h h' : Heap} {t : Bool} {it a : Addr} {i : Nat} (q : SqI h t it a i) (k : ∀ o, h.get? it = some o → h'.get? it = some o) : SqI h' t it a i := by
  cases t with
  | true => exact Heap.IsTupleIter.at q k
  | false => exact Heap.IsListIter.at q k
theorem sqI_obj {h : Heap} {t : Bool} {it a : Addr} {i : Nat} (q : SqI h t it a i) : ∃ o, h.get? it = some o ∧ ∀ v, o.data ≠ .cell v := by
  cases t with
  | true =>
    obtain ⟨o, e, _, d⟩ := q
    exact ⟨o, e, fun v z => by rw [d] at z; cases z⟩
  | false =>
    obtain ⟨o, e, _, d⟩ := q
    exact ⟨o, e, fun v z => by rw [d] at z; cases z⟩
theorem sqI_new {h : Heap} {t : Bool} {it a : Addr} (e : h.get? it = some (itO t a)) : SqI h t it a 0 := by
  cases t with
  | true => exact ⟨_, e, rfl, rfl⟩
  | false => exact ⟨_, e, rfl, rfl⟩
end
/-! ### zip -/
def Itz2 (K : PySem.W.Frag) (t : Bool) (a : Addr) (u : Bool) (b : Addr) : It :=
  ⟨fun i H => ∃ (xs ys : List V) (x y : V), Sq K t H a xs ∧ Sq K u H b ys ∧ xs[i]? = some x ∧ ys[i]? = some y,
   fun i H v J => ∃ T x y, v = .ref T ∧ H T = none ∧ J = upd H T (.tup [x, y]) ∧ (∀ xs, Sq K t H a xs → xs[i]? = some x) ∧ ∀ ys, Sq K u H b ys → ys[i]? = some y,
   fun i H => ∃ xs ys : List V, Sq K t H a xs ∧ Sq K u H b ys ∧ i ≤ xs.length ∧ i ≤ ys.length ∧ (i = xs.length ∨ i = ys.length)⟩
theorem turn_zip2 {P : Program} {w : World} {K : PySem.W.Frag} {elts : List Expr} {kk : Nat} {tpos : Pos} {t u : Bool} {a b z TI TO j1 j2 : Addr} (S : ZipSep2 z TI TO j1 j2 [j1, a] [j2, b]) (na : a ≠ j1) (nb : b ≠ j2) :
    Turn P w K (.Tuple elts kk tpos) (Itz2 K t a u b) [z, TI, TO, j1, j2] z (fun i h => IsZip h z TI TO .none ∧ IsTupOf2 h TI (.ref j1) (.ref j2) ∧ (∃ x y, IsTupOf2 h TO x y) ∧ SqI h t j1 a i ∧ SqI h u j2 b i) where
  mem := by simp
  obj := fun i h st c hc => by
    obtain ⟨hz, hTI, ⟨x, y, hTO⟩, h1, h2⟩ := st
    have e' : c = z ∨ c = TI ∨ c = TO ∨ c = j1 ∨ c = j2 := by simpa using hc
    rcases e' with q | q | q | q | q
    · rw [q]; exact ⟨_, hz, fun v q => nomatch q⟩
    · rw [q]; exact ⟨_, hTI, fun v q => nomatch q⟩
    · rw [q]; exact ⟨_, hTO, fun v q => nomatch q⟩
    · rw [q]; exact sqI_obj h1
    · rw [q]; exact sqI_obj h2
  keep := fun i h h' st k => by
    obtain ⟨hz, hTI, ⟨x, y, hTO⟩, h1, h2⟩ := st
    exact ⟨k z (by simp) _ hz, k TI (by simp) _ hTI, ⟨x, y, k TO (by simp) _ hTO⟩, sqI_at h1 fun o q => k j1 (by simp) o q, sqI_at h2 fun o q => k j2 (by simp) o q⟩
  item := by
    intro X hP hw hK hc i ps s τ J E I hf st hg
    subst hP hw hK
    obtain ⟨hz, hTI, ⟨x0, y0, hTO⟩, h1, h2⟩ := st
    obtain ⟨xs, ys, x, y, hqx, hqy, hx, hy⟩ := hg
    obtain ⟨its, rv, p, _⟩ := sq_at I hqx
    obtain ⟨its2, rv2, p2, _⟩ := sq_at I hqy
    obtain ⟨u1, hu, ru⟩ := rv.get hx
    obtain ⟨u2, hu2, ru2⟩ := rv2.get hy
    have hzl : z < s.heap.objs.size := Heap.lt_size hz
    have l1 : i < its.toArray.size := by rw [List.size_toArray]; exact (List.getElem?_eq_some_iff.mp hu).1
    have l2 : i < its2.toArray.size := by rw [List.size_toArray]; exact (List.getElem?_eq_some_iff.mp hu2).1
    refine wpAny_pyNext_zipD2_item S (sq_draws (show X.A.in1.handled = none from I.ok.hd hc) t j1 a na its.toArray) (sq_draws (show X.A.in1.handled = none from I.ok.hd hc) u j2 b nb its2.toArray) hz hTI hTO ⟨h1, p⟩ ⟨h2, p2⟩ l1 l2 fun v1 v2 h' tk e1 e2 z' TO' st1 st2 hT hsz hk => ?_
    have e1 : its[i]? = some v1 := by simpa using e1
    have e2 : its2[i]? = some v2 := by simpa using e2
    rw [hu] at e1
    rw [hu2] at e2
    cases e1
    cases e2
    refine ⟨_, rfl, wpAny_letOwnedTupleGo_zip (s := { s with heap := h', toks := tk }) z' fun h'' z'' sb => ?_⟩
    have hT2 : h''.get? s.heap.objs.size = some { cls := .type "tuple", data := .seq #[u1, u2] } := (sb.2 _ (Nat.ne_of_gt hzl)).trans hT
    have new : ObjOk X.prog X.w (upd J s.heap.objs.size (.tup [x, y])) h'' s.heap.objs.size (.tup [x, y]) :=
      ⟨by show 2 ≤ sizeLine; decide, [u1, u2], .cons ru (.cons ru2 .nil), ⟨_, hT2, rfl, _, rfl⟩⟩
    have I1 := I.turnedNew (t' := tk) (h' := h'') (ch := [z, TI, TO, j1, j2]) (ob := .tup [x, y]) (fun c o hb q => (sb.2 c (fun q' => hb (by simp [q']))).trans (hk c o (fun q' => hb (by simp [q'])) (fun q' => hb (by simp [q'])) (fun q' => hb (by simp [q'])) (fun q' => hb (by simp [q'])) q)) hf (Nat.le_refl _) new
    refine ⟨.ref s.heap.objs.size, _, I1, rfl, ⟨_, x, y, rfl, I.hok.fresh (Nat.le_refl _), rfl, fun l hl => by rw [sq_inj I hl hqx]; exact hx, fun l hl => by rw [sq_inj I hl hqy]; exact hy⟩, ⟨z'', ?_, ⟨u1, u2, ?_⟩, ?_, ?_⟩, fun c hcm => ?_⟩
    · exact (sb.2 _ S.TIz).trans (hk _ _ S.TIz S.TITO S.TIi1 S.TIi2 hTI)
    · exact (sb.2 _ S.TOz).trans TO'
    · exact sqI_at st1.1 fun o q => (sb.2 _ S.zi1.symm).trans q
    · exact sqI_at st2.1 fun o q => (sb.2 _ S.zi2.symm).trans q
    · have hlt : c < s.heap.objs.size := by
        have e' : c = z ∨ c = TI ∨ c = TO ∨ c = j1 ∨ c = j2 := by simpa using hcm
        rcases e' with q | q | q | q | q
        · rw [q]; exact hzl
        · rw [q]; exact Heap.lt_size hTI
        · rw [q]; exact Heap.lt_size hTO
        · rw [q]; obtain ⟨_, e1, _⟩ := sqI_obj h1; exact Heap.lt_size e1
        · rw [q]; obtain ⟨_, e2, _⟩ := sqI_obj h2; exact Heap.lt_size e2
      rw [upd_ne (Nat.ne_of_lt hlt)]
      exact (hf c hcm).1
  done := by
    intro X hP hw hK hc i ps s τ J E I hf st hg
    subst hP hw hK
    obtain ⟨hz, hTI, ⟨x0, y0, hTO⟩, h1, h2⟩ := st
    obtain ⟨xs, ys, hqx, hqy, g1, g2, hend⟩ := hg
    obtain ⟨its, rv, p, _⟩ := sq_at I hqx
    obtain ⟨its2, rv2, p2, _⟩ := sq_at I hqy
    have l1 := rv.length
    have l2 := rv2.length
    exact wpAny_pyNext_zipD2_end S (sq_draws (show X.A.in1.handled = none from I.ok.hd hc) t j1 a na its.toArray) (sq_draws (show X.A.in1.handled = none from I.ok.hd hc) u j2 b nb its2.toArray) hz hTI hTO ⟨h1, p⟩ ⟨h2, p2⟩ (by simp; omega) (by simp; omega) (by simp; omega)
      fun h' tk hk => ⟨rfl, I.turnedL (t' := tk) (ch := [z, TI, TO, j1, j2]) (fun c o hb q => hk c o (fun q' => hb (by simp [q'])) (fun q' => hb (by simp [q'])) (fun q' => hb (by simp [q'])) (fun q' => hb (by simp [q'])) q) hf⟩
  self := fun A i s Q E st h => wpAny_pyIter_zip st.1 h
/-! ### enumerate -/
set_option maxHeartbeats 4000000 in
theorem meets_enum1 {v : Value} {o : Obj} {H : Heap → Prop} (B : Begins v o H) :
    Meets (Builtin.«enumerate.__new__» ⟨[.type "enumerate", v], []⟩) (fun _ R s => H s.heap ∧
      R (.ok (.ret (.ref (s.heap.push o).objs.size))) { s with heap := (s.heap.push o).push { cls := .type "enumerate", data := .fields #[.none, .bool false, .ref s.heap.objs.size, rawInt 0, .none, .none] } }) :=
  .of_wp fun prog w A R s h => by
    obtain ⟨hp, g, d, tk, os⟩ := s
    obtain ⟨h1, h⟩ := h
    have su := sub_enumerate
    have q1 : ∀ {A' : Around} {E : Value → Shared → Prop} {Q : Value → Shared → Prop}, Q (.ref hp.objs.size) ⟨hp.push o, g, d, tk, os⟩ → wpAny (model prog w) A' (pyIter v) Q E ⟨hp, g, d, tk, os⟩ :=
      fun q => B.iter prog w _ _ ⟨hp, g, d, tk, os⟩ _ h1 q
    wp_walk using q1
    refine wpAny_stack_any fun _ => wpAny_pure ?_
    split
    · rename_i c _ _ _ _ _
      cases (c == Value.type "enumerate") <;> (wp_walk using q1; exact ⟨_, rfl, h⟩)
    · wp_walk using q1
      exact ⟨_, rfl, h⟩
theorem enum_begins1 {prog : Program} {w : World} {A : Around} {E : Value → Shared → Prop} {s : Shared} {v : Value} {o : Obj} {H : Heap → Prop} {Q : Value → Shared → Prop} (B : Begins v o H) (h1 : H s.heap)
    (h : ∀ h', IsEnum h' (s.heap.objs.size + 1) s.heap.objs.size 0 .none → h'.get? s.heap.objs.size = some o → (∀ b o, s.heap.get? b = some o → h'.get? b = some o) → Q (.ref (s.heap.objs.size + 1)) { s with heap := h' }) :
    wpAny (model prog w) A (call (.type "enumerate") [v]) Q E s := by
  refine callType_new F.called_enumerate (by decide) (F.typeCall_enumerate_1 _) (F.newCall_enumerate_1 _) (fun obj => F.args_object_init_2 obj _) F.entry_enumerate_new (meets_enum1 B) ⟨h1, ?_⟩
  have hz : (s.heap.push o).objs.size = s.heap.objs.size + 1 := Heap.size_push ..
  show _ ∧ _
  rw [hz]
  have he : IsEnum ((s.heap.push o).push { cls := .type "enumerate", data := .fields #[.none, .bool false, .ref s.heap.objs.size, rawInt 0, .none, .none] }) (s.heap.objs.size + 1) s.heap.objs.size 0 .none := by
    have z := Heap.get?_push_size (s.heap.push o) (o := { cls := .type "enumerate", data := .fields #[.none, .bool false, .ref s.heap.objs.size, rawInt 0, .none, .none] }) rfl
    rw [hz] at z
    exact z
  exact ⟨⟨_, he, rfl⟩, h _ he (Heap.get?_push_of_some _ (Heap.get?_push_size _ B.free)) fun b o x => Heap.get?_push_of_some _ (Heap.get?_push_of_some _ x)⟩
def Ite2 (K : PySem.W.Frag) (c : Int) (t : Bool) (a : Addr) : It :=
  ⟨fun i H => ∃ (xs : List V) (x : V), Sq K t H a xs ∧ xs[i]? = some x, fun i H v J => ∃ T x, v = .ref T ∧ H T = none ∧ J = upd H T (.tup [.int (c + (i : Nat)), x]) ∧ ∀ xs, Sq K t H a xs → xs[i]? = some x, fun i H => ∃ xs : List V, Sq K t H a xs ∧ i = xs.length⟩
theorem turn_enum2 {P : Program} {w : World} {K : PySem.W.Frag} {elts : List Expr} {kk : Nat} {tpos : Pos} {c : Int} {t : Bool} {a e it : Addr} (na : a ≠ it) (ne : e ≠ it) (nf : e ≠ a) :
    Turn P w K (.Tuple elts kk tpos) (Ite2 K c t a) [e, it] e (fun i h => (∃ old, IsEnum h e it (c + (i : Nat)) old) ∧ SqI h t it a i) where
  mem := by simp
  obj := fun i h st b hb => by
    obtain ⟨⟨old, he⟩, h1⟩ := st
    have e' : b = e ∨ b = it := by simpa using hb
    rcases e' with z | z
    · rw [z]; exact ⟨_, he, fun v q => nomatch q⟩
    · rw [z]; exact sqI_obj h1
  keep := fun i h h' st k => let ⟨⟨old, he⟩, hi⟩ := st; ⟨⟨old, k e (by simp) _ he⟩, sqI_at hi fun o q => k it (by simp) o q⟩
  item := by
    intro X hP hw hK hc i ps s τ J E I hf st hg
    subst hP hw hK
    obtain ⟨⟨old, he⟩, hit⟩ := st
    obtain ⟨xs, x, hq, hx⟩ := hg
    obtain ⟨its, rv, p, _⟩ := sq_at I hq
    obtain ⟨u, hu, ru⟩ := rv.get hx
    have hel : e < s.heap.objs.size := Heap.lt_size he
    have hil : it < s.heap.objs.size := by obtain ⟨_, q, _⟩ := sqI_obj hit; exact Heap.lt_size q
    refine wpAny_pyNext_enum_itemC (sq_draws (show X.A.in1.handled = none from I.ok.hd hc) t it a na its.toArray) he ⟨hit, p⟩ (by rw [List.size_toArray]; exact (List.getElem?_eq_some_iff.mp hu).1) ne (by simp [ne, nf]) fun v h' tk e1 ho st1 hT hsz hk => ?_
    have e1 : its[i]? = some v := by simpa using e1
    rw [hu] at e1
    cases e1
    refine ⟨_, rfl, wpAny_letOwnedTupleGo_enum (s := { s with heap := h', toks := tk + 1 }) ho fun h'' he' sb => ?_⟩
    have hT2 : h''.get? s.heap.objs.size = some { cls := .type "tuple", data := .seq #[.int (c + (i : Nat)) tk, u] } := (sb.2 _ (Nat.ne_of_gt hel)).trans hT
    have new : ObjOk X.prog X.w (upd J s.heap.objs.size (.tup [.int (c + (i : Nat)), x])) h'' s.heap.objs.size (.tup [.int (c + (i : Nat)), x]) :=
      ⟨by show 2 ≤ sizeLine; decide, [.int (c + (i : Nat)) tk, u], .cons ⟨_, rfl⟩ (.cons ru .nil), ⟨_, hT2, rfl, _, rfl⟩⟩
    have I1 := I.turnedNew (t' := tk + 1) (h' := h'') (ob := .tup [.int (c + (i : Nat)), x]) (ch := [e, it]) (fun b ob hb q => (sb.2 b (fun z => hb (by simp [z]))).trans (hk b ob (fun z => hb (by simp [z])) (fun z => hb (by simp [z])) q)) hf (Nat.le_refl _) new
    refine ⟨.ref s.heap.objs.size, _, I1, rfl, ⟨_, x, rfl, I.hok.fresh (Nat.le_refl _), rfl, fun ys hy => by rw [sq_inj I hy hq]; exact hx⟩, ⟨⟨u, ?_⟩, sqI_at st1.1 fun o q => (sb.2 it (Ne.symm ne)).trans q⟩, fun b hb => ?_⟩
    · have e1 : c + ((i + 1 : Nat) : Int) = c + (i : Int) + 1 := by omega
      rw [e1]; exact he'
    · have hb' : b < s.heap.objs.size := by
        have e' : b = e ∨ b = it := by simpa using hb
        rcases e' with z | z
        · rw [z]; exact hel
        · rw [z]; exact hil
      rw [upd_ne (Nat.ne_of_lt hb')]
      exact (hf b hb).1
  done := by
    intro X hP hw hK hc i ps s τ J E I hf st hg
    subst hP hw hK
    obtain ⟨⟨old, he⟩, hit⟩ := st
    obtain ⟨xs, hq, hx⟩ := hg
    obtain ⟨its, rv, p, _⟩ := sq_at I hq
    obtain ⟨f0, f1, f2, f3, f4, f5⟩ := hf it (by simp)
    have hl := rv.length
    have ei : i = its.toArray.size := by simp; omega
    rw [ei] at hit
    exact wpAny_pyNext_enum_endD (sq_draws (show X.A.in1.handled = none from I.ok.hd hc) t it a na its.toArray) he ⟨hit, p⟩ fun h' eb => ⟨rfl, I.turned (t' := s.toks) (fun b o hb q => eb b o hb q) f0 f1 f3 f4 f5⟩
  self := fun A i s Q E st h => let ⟨⟨_, he⟩, _⟩ := st; wpAny_pyIter_enum he h

/-! ### a dict is locked for good -/
section
variable {A : Act} {s : S} {σ : L2.St} {H : Hp} {ω : Wd}
theorem SR.lock (h : SR A s σ H ω) {d : Addr} {u : HO} (hu : DkO u) (e : ω.F d = some u) (eH : H d = some u) (od : Obj) : Sm ω.F (upd ω.F d (.frz od u)) ∧ SR A s σ (upd H d (.frz od u)) { ω with F := upd ω.F d (.frz od u) } := by
  have sm : Sm ω.F (upd ω.F d (.frz od u)) := fun b o q => by
    by_cases hb : b = d
    · rw [hb, e] at q
      cases q
      exact .inr ⟨hu, od, by rw [hb]; exact upd_same⟩
    · exact .inl (by rw [upd_ne hb]; exact q)
  have eo : ∀ b, b ≠ d → upd H d (.frz od u) b = H b := fun b n => upd_ne n
  have nd : ∀ {b : Addr}, b ∈ ω.adr ++ A.c.ι → b ≠ d := fun {b} m z => by
    have q := h.fre b m
    rw [z, e] at q
    cases q
  have nt : ∀ ps, u ≠ .tbl ps := fun ps z => by rw [z] at hu; exact hu
  refine ⟨sm, ⟨h.f0.trans sm, fun b o q z => ?_, fun b o q => ?_, fun b o q n m => ?_, fun b o q n => ?_, fun b ps q => ?_, fun p hp => ?_, h.len, h.olen, fun i o b w e1 e2 e3 => (h.slot i o b w e1 e2 e3).up sm fun c ec => eo c (nd (List.mem_append_left _ (ow_mem (by rw [e2, ec])))), fun p hp => (h.pds p hp).up sm (eo _ (nd (List.mem_append_left _ (pd_mem hp)))), h.stl, fun n b d' e1 e2 => (h.sts n b d' e1 e2).up sm (eo b (nd (List.mem_append_right _ (List.mem_of_getElem? e1)))), h.nd, fun b hb => ?_, h.own⟩⟩
  · by_cases hb : b = d
    · rw [hb] at z ⊢
      exact h.new d u e z
    · have q : upd ω.F d (.frz od u) b = some o := q
      rw [upd_ne hb] at q
      exact h.new b o q z
  · have q : upd ω.F d (.frz od u) b = some o := q
    by_cases hb : b = d
    · rw [hb, upd_same] at q
      cases q
      rw [hb]
      exact .inl upd_same
    · rw [upd_ne hb] at q
      exact (h.sub b o q).to fun o' w _ => by rw [eo b hb]; exact w
  · by_cases hb : b = d
    · rcases h.fr b o q n m with w | ⟨_, _, od', w⟩
      · rw [hb, eH] at w
        cases w
        refine .inr ⟨hu, ?_, od, by rw [hb]; exact upd_same⟩
        cases y : A.F0 b with
        | some v => exact ⟨v, rfl⟩
        | none =>
          have z := h.new b u (by rw [hb]; exact e) y
          exact (z.no q n).elim
      · rw [hb, eH] at w
        cases w
        exact hu.elim
    · rw [eo b hb]
      exact h.fr b o q n m
  · by_cases hb : b = d
    · rw [hb]
      exact ⟨_, upd_same, fun ps z => nomatch z⟩
    · rw [eo b hb]
      exact h.old b o q n
  · have q : upd ω.F d (.frz od u) b = some (.tbl ps) := q
    by_cases hb : b = d
    · rw [hb, upd_same] at q
      cases q
    · rw [upd_ne hb] at q
      exact h.ntb b ps q
  · obtain ⟨ps, h1, h2, h3⟩ := h.tab p hp
    refine ⟨ps, by rw [eo _ fun z => by rw [z, eH] at h1; cases h1; exact hu]; exact h1, h2, fun pos cv hc => ?_⟩
    obtain ⟨c0, e1, e2⟩ := h3 pos cv hc
    exact ⟨c0, e1, by rw [eo c0 fun z => by rw [z, eH] at e2; cases e2; exact hu]; exact e2⟩
  · show upd ω.F d (.frz od u) b = none
    rw [upd_ne (nd hb)]
    exact h.fre b hb
/-- .. it stood locked already -/
theorem SR.lockF (h : SR A s σ H ω) {d : Addr} {u : HO} {od : Obj} (hu : DkO u) (e : ω.F d = some u) (eH : H d = some (.frz od u)) : Sm ω.F (upd ω.F d (.frz od u)) ∧ SR A s σ H { ω with F := upd ω.F d (.frz od u) } := by
  have sm : Sm ω.F (upd ω.F d (.frz od u)) := fun b o q => by
    by_cases hb : b = d
    · rw [hb, e] at q
      cases q
      exact .inr ⟨hu, od, by rw [hb]; exact upd_same⟩
    · exact .inl (by rw [upd_ne hb]; exact q)
  refine ⟨sm, ⟨h.f0.trans sm, fun b o q z => ?_, fun b o q => ?_, h.fr, h.old, fun b ps q => ?_, h.tab, h.len, h.olen, fun i o b w e1 e2 e3 => (h.slot i o b w e1 e2 e3).up sm fun _ _ => rfl, fun p hp => (h.pds p hp).up sm rfl, h.stl, fun n b d' e1 e2 => (h.sts n b d' e1 e2).up sm rfl, h.nd, fun b hb => ?_, h.own⟩⟩
  · by_cases hb : b = d
    · rw [hb] at z ⊢
      exact h.new d u e z
    · have q : upd ω.F d (.frz od u) b = some o := q
      rw [upd_ne hb] at q
      exact h.new b o q z
  · have q : upd ω.F d (.frz od u) b = some o := q
    by_cases hb : b = d
    · rw [hb, upd_same] at q
      cases q
      rw [hb]
      exact .inl eH
    · rw [upd_ne hb] at q
      exact h.sub b o q
  · have q : upd ω.F d (.frz od u) b = some (.tbl ps) := q
    by_cases hb : b = d
    · rw [hb, upd_same] at q
      cases q
    · rw [upd_ne hb] at q
      exact h.ntb b ps q
  · show upd ω.F d (.frz od u) b = none
    rw [upd_ne (fun z => by
      have q := h.fre b hb
      rw [z, e] at q
      cases q)]
    exact h.fre b hb
end
section
variable {E : CE} {A : Act} {W : L2.WX} {X : Cx} {tg : Expr}
/-- a list, a tuple, a dict by its keys -/
theorem pi_walk {l : Expr} {tl : TE} (hl : PE X l tl) : PI X tg l (fun σ H R => tl σ H fun x H1 => ∃ a, x = .ref a ∧ ((∃ xs, SqL X.K H1 a xs ∧ R (Itl X.K a) H1) ∨ (∃ xs, SqT X.K H1 a xs ∧ R (Itt X.K a) H1) ∨
    (∃ o kvs, H1 a = some (.frz o (.dK kvs)) ∧ R (Itk a o kvs) H1) ∨ ∃ kvs, H1 a = some (.dK kvs) ∧ ∀ od, R (Itk a od kvs) (upd H1 a (.frz od (.dK kvs))))) := by
  refine ⟨fun pins s σ H R I h => ?_⟩
  refine thn (hl.run pins s σ H _ I h) fun v s1 ⟨x, H1, I1, r1, q1⟩ => ?_
  obtain ⟨a, e, q⟩ := q1
  subst e
  cases r1
  have fin : ∀ b ∈ [s1.heap.objs.size], FpOk X pins H1 b := fun b hb => by
    have e : b = s1.heap.objs.size := by simpa using hb
    subst e
    exact I1.fpOk (Nat.le_refl _) (I1.hok.fresh (Nat.le_refl _))
  have dic : ∀ {J : Hp} {o : Obj} {kvs : List (Key × V)}, L2.Inv X pins σ J s1 → J a = some (.frz o (.dK kvs)) → R (Itk a o kvs) J → wpAny (model X.prog X.w) X.A (pyIter (.ref a)) (PIE X pins σ tg R) X.xe s1 := fun {J o kvs} IJ hd q => by
    obtain ⟨hs, hgd, hx, es, ep, vs, hdt, hsz, kv, hm⟩ := IJ.frzK hd
    refine iter_keys hs hgd hx hdt (pi_one (tk := s1.toks) IJ _ (turn_keys _ hdt) ⟨_, Heap.get?_push_size _ rfl, rfl, ?_⟩ q)
    rw [hsz] <;> rfl
  rcases q with ⟨xs, hq, q⟩ | ⟨xs, hq, q⟩ | ⟨o, kvs, hq, q⟩ | ⟨kvs, hq, q⟩
  · obtain ⟨its, rv, p, hz⟩ := I1.list hq
    refine wpAny_pyIter_list p.isList ?_
    exact ⟨s1.heap.objs.size, [s1.heap.objs.size], _, _, H1, rfl, I1.kept (t' := s1.toks) fun b o e => Heap.get?_push_of_some _ e, turn_list a _, ⟨_, Heap.get?_push_size _ rfl, rfl, rfl⟩, fin, q⟩
  · obtain ⟨its, rv, p, hz⟩ := I1.tuple hq
    refine wpAny_pyIter_tuple (show s1.heap.IsTuple a its.toArray from p) ?_
    exact ⟨s1.heap.objs.size, [s1.heap.objs.size], _, _, H1, rfl, I1.kept (t' := s1.toks) fun b o e => Heap.get?_push_of_some _ e, turn_tuple a _, ⟨_, Heap.get?_push_size _ rfl, rfl, rfl⟩, fin, q⟩
  · exact dic I1 hq q
  · obtain ⟨od, I2⟩ := I1.lock hq trivial
    exact dic I2 upd_same (q od)
theorem pe_lk {e : Expr} {td : TE} (he : PE X e td) : PE X e (fun σ H Q => td σ H fun x H1 => ∃ d, x = .ref d ∧ ((∃ o u, H1 d = some (.frz o u) ∧ Q x H1) ∨ ∃ u, H1 d = some u ∧ Mut (some u) ∧ ∀ od, Q x (upd H1 d (.frz od u)))) := by
  refine ⟨fun pins s σ H Q I h => thn (he.run pins s σ H _ I h) fun v s1 ⟨x, H1, I1, r1, d, ex, q⟩ => ?_⟩
  rcases q with ⟨o, u, _, q⟩ | ⟨u, hu, mu, q⟩
  · exact ⟨x, H1, I1, r1, q⟩
  · obtain ⟨od, I2⟩ := I1.lock hu mu
    exact ⟨x, _, I2, r1, q od⟩
theorem keys_get {c : Cn} {F : Hp} : ∀ {kvs : List (D × D)} {q : List (Key × V)} {i : Nat} {p : D × D}, RpK c F kvs q → kvs[i]? = some p → ∃ x v, q[i]? = some (x, v) ∧ keyOf p.1 = some x ∧ Rp c F p.2 v
  | [], _, _, _, _, e => by simp at e
  | (k, d) :: kvs, q, i, p, r, e => by
    unfold RpK at r
    obtain ⟨x, v, q', rfl, h, rv, r⟩ := r
    cases i with
    | zero =>
      simp at e
      subst e
      exact ⟨x, v, rfl, h, rv⟩
    | succ i =>
      obtain ⟨x', v', e1, e2, e3⟩ := keys_get r (by simpa using e)
      exact ⟨x', v', by simpa using e1, e2, e3⟩
theorem rp_key {c : Cn} {F : Hp} {k : D} {x : Key} (h : keyOf k = some x) : Rp c F k (kV x) := by
  cases k with
  | int i => cases h; exact Rp.i i
  | str i => cases h; exact Rp.s i
  | _ => cases h
theorem walk_keys {F0 : Hp} {d : Addr} {od : Obj} {kvs : List (D × D)} {q : List (Key × V)} (hd : F0 d = some (.frz od (.dK q))) (r : RpK A.c F0 kvs q) : Walk A F0 false (Itk d od q) (kvs.map (·.1)) := fun s σ H ω sr sm => by
  have hH : H d = some (.frz od (.dK q)) := (sr.sub d _ ((sm d _ hd).exact id)).exact id
  have hl := r.length
  refine ⟨⟨hH, by rw [List.length_map]; omega⟩, fun i y hy => ?_⟩
  rw [List.getElem?_map] at hy
  cases ep : kvs[i]? with
  | none => rw [ep] at hy; cases hy
  | some p =>
    rw [ep] at hy
    cases hy
    obtain ⟨x, v, e1, e2, e3⟩ := keys_get r ep
    refine ⟨⟨hH, (List.getElem?_eq_some_iff.mp e1).1⟩, fun w H' ⟨eH, k, v', e4, ew⟩ => ?_⟩
    subst eH ew
    rw [e1] at e4
    cases e4
    exact ⟨ω, Sm.refl _, rfl, sr, rp_key e2⟩
theorem walk_items {F0 : Hp} {d : Addr} {od : Obj} {kvs : List (D × D)} {q : List (Key × V)} (hd : F0 d = some (.frz od (.dK q))) (r : RpK A.c F0 kvs q) : Walk A F0 true (Iti d od q) (kvs.map fun p => .tup [p.1, p.2]) := fun s σ H ω sr sm => by
  have hH : H d = some (.frz od (.dK q)) := (sr.sub d _ ((sm d _ hd).exact id)).exact id
  have hl := r.length
  refine ⟨⟨hH, by rw [List.length_map]; omega⟩, fun i y hy => ?_⟩
  rw [List.getElem?_map] at hy
  cases ep : kvs[i]? with
  | none => rw [ep] at hy; cases hy
  | some p =>
    rw [ep] at hy
    cases hy
    obtain ⟨x, v, e1, e2, e3⟩ := keys_get r ep
    refine ⟨⟨hH, (List.getElem?_eq_some_iff.mp e1).1⟩, fun w H' ⟨T, k, v', e4, ew, hT, eH⟩ => ?_⟩
    subst eH ew
    rw [e1] at e4
    cases e4
    obtain ⟨sm', sr'⟩ := sr.fix (o := .tup [kV x, v]) hT (fun _ z => nomatch z)
    exact ⟨{ ω with F := upd ω.F T (.tup [kV x, v]) }, sm', rfl, sr', [p.1, p.2], T, [kV x, v], rfl, rfl, .inl (.inl upd_same), .cons (rp_key e2) (.cons (e3.up (sm.trans sm')) .nil)⟩
/-- a dict that is a value, for a walk: it is locked -/
theorem dict_lock {s : S} {σ : L2.St} {H : Hp} {ω : Wd} {kvs : List (D × D)} {v : V} (sr : SR A s σ H ω) (r : Rp A.c ω.F (.dic kvs) v) (hk : headK kvs = true) :
    ∃ d q, v = .ref d ∧ RpK A.c ω.F kvs q ∧ ((∃ od ω', H d = some (.frz od (.dK q)) ∧ Sm ω.F ω'.F ∧ ω'.pd = ω.pd ∧ SR A s σ H ω' ∧ ω'.F d = some (.frz od (.dK q))) ∨
      (H d = some (.dK q) ∧ ∀ od, ∃ ω', Sm ω.F ω'.F ∧ ω'.pd = ω.pd ∧ SR A s σ (upd H d (.frz od (.dK q))) ω' ∧ ω'.F d = some (.frz od (.dK q)))) := by
  unfold Rp at r
  obtain ⟨d, rfl, r⟩ := r
  rcases r with ⟨q, rd, rk⟩ | ⟨q, _, n, rt⟩
  · refine ⟨d, q, rfl, rk, ?_⟩
    rcases rd with rd | ⟨od, rd⟩
    · rcases sr.sub d _ rd with e | ⟨_, od, e⟩
      · exact .inr ⟨e, fun od => ⟨{ ω with F := upd ω.F d (.frz od (.dK q)) }, (sr.lock (u := .dK q) trivial rd e od).1, rfl, (sr.lock (u := .dK q) trivial rd e od).2, upd_same⟩⟩
      · refine .inl ⟨od, { ω with F := upd ω.F d (.frz od (.dK q)) }, e, ?_⟩
        obtain ⟨sm, g⟩ := sr.lockF (u := .dK q) trivial rd e
        exact ⟨sm, rfl, g, upd_same⟩
    · exact .inl ⟨od, ω, (sr.sub d _ rd).exact id, Sm.refl _, rfl, sr, rd⟩
  · cases kvs with
    | nil => exact absurd rfl n
    | cons p kvs =>
      obtain ⟨k, d'⟩ := p
      unfold RpT at rt
      obtain ⟨_, _, _, _, _, e, _⟩ := rt
      have hk : k.key1 = true := hk
      rw [e] at hk
      cases hk
theorem i_walk {l : Expr} {f : S → R (D × Bool)} (hK : X.K = A.c.K) (hl : PE X l (tE E A W f)) : PI X tg l (tI E A W false fun s => (f s).bind fun x s1 => match walked? x.1 with | some xs => .ok xs s1 | none => .no) := by
  refine ⟨fun pins t σ H R I h => (pi_walk hl).run pins t σ H R I ?_⟩
  obtain ⟨s, ω, sr, q⟩ := h
  refine QR.val sr q.bind fun d o s1 v H1 ω1 _ z sm sr1 e r => ?_
  dsimp only at z
  cases es : walked? d with
  | none => rw [es] at z; exact z.elim
  | some xs =>
    rw [es] at z
    have z : ∀ J H' ω', Sm ω.F ω'.F → SR A s1 σ H' ω' → ω'.pd = ω.pd → Walk A ω'.F false J xs → R J H' := z
    cases d with
    | tup ys =>
      cases es
      unfold Rp at r
      obtain ⟨a, vs, rfl, hq, rl⟩ := r
      exact ⟨a, rfl, .inr (.inl ⟨vs, by rw [hK]; exact sr1.sqT hq.1, by rw [hK]; exact z _ H1 ω1 sm sr1 e (walk_tup hq.1 rl)⟩)⟩
    | lst ys =>
      cases es
      unfold Rp at r
      obtain ⟨a, vs, rfl, hq, rl⟩ := r
      exact ⟨a, rfl, .inl ⟨vs, .inl (sr1.rd hq), by rw [hK]; exact z _ H1 ω1 sm sr1 e (walk_lst hq rl)⟩⟩
    | dic kvs =>
      have es : (if headK kvs then some (kvs.map (·.1)) else none) = some xs := es
      obtain ⟨hk, rfl⟩ := of_opt es
      obtain ⟨d, q, rfl, rk, hd⟩ := dict_lock sr1 r hk
      refine ⟨d, rfl, .inr (.inr ?_)⟩
      rcases hd with ⟨od, ω2, h1, h2, h3, h4, h5⟩ | ⟨h1, h2⟩
      · exact .inl ⟨od, q, h1, z _ H1 ω2 (sm.trans h2) h4 (h3.trans e) (walk_keys h5 (rk.up h2))⟩
      · refine .inr ⟨q, h1, fun od => ?_⟩
        obtain ⟨ω2, h2, h3, h4, h5⟩ := h2 od
        exact z _ _ ω2 (sm.trans h2) h4 (h3.trans e) (walk_keys h5 (rk.up h2))
    | _ => cases es
theorem i_items {e : Expr} {f : S → R (D × Bool)} {apos cpos tpos : Pos} {elts : List Expr} {kk : Nat} (he : PE X e (tE E A W f)) (hab : abOk e = true) (hline : (apos.endLine == cpos.line) = true) :
    PI X (.Tuple elts kk tpos) (.Call (.Attribute e "items" apos) [] [] cpos) (tI E A W true fun s => (f s).bind fun x s1 => match x.1 with
      | .dic kvs => if headK kvs then .ok (kvs.map fun p => .tup [p.1, p.2]) s1 else .no
      | _ => .no) := by
  refine ⟨fun pins t σ H R I h => (pi_items (pe_lk he) (attrBase hab) hline).run pins t σ H R I ?_⟩
  obtain ⟨s, ω, sr, q⟩ := h
  refine QR.val sr q.bind fun d o s1 v H1 ω1 _ z sm sr1 e r => ?_
  cases d with
  | dic kvs =>
    dsimp only at z
    by_cases hk : headK kvs = true
    · rw [if_pos hk] at z
      have z : ∀ J H' ω', Sm ω.F ω'.F → SR A s1 σ H' ω' → ω'.pd = ω.pd → Walk A ω'.F true J (kvs.map fun p => .tup [p.1, p.2]) → R J H' := z
      obtain ⟨d, q, rfl, rk, hd⟩ := dict_lock sr1 r hk
      refine ⟨d, rfl, ?_⟩
      rcases hd with ⟨od, ω2, h1, h2, h3, h4, h5⟩ | ⟨h1, h2⟩
      · exact .inl ⟨od, _, h1, d, od, q, rfl, h1, z _ H1 ω2 (sm.trans h2) h4 (h3.trans e) (walk_items h5 (rk.up h2))⟩
      · refine .inr ⟨_, h1, trivial, fun od => ⟨d, od, q, rfl, upd_same, ?_⟩⟩
        obtain ⟨ω2, h2, h3, h4, h5⟩ := h2 od
        exact z _ _ ω2 (sm.trans h2) h4 (h3.trans e) (walk_items h5 (rk.up h2))
    · rw [if_neg hk] at z
      exact z.elim
  | _ => exact z.elim
/-- a list or a tuple that is a value -/
theorem sq_of {c : Cn} {F : Hp} {d : D} {v : V} {xs : List D} (e : seqItems? d = some xs) (r : Rp c F d v) : ∃ t a vs, v = .ref a ∧ Sq c.K t F a vs ∧ RpL c F xs vs := by
  cases d with
  | tup ys =>
    cases e
    unfold Rp at r
    obtain ⟨a, vs, rfl, q, r⟩ := r
    exact ⟨true, a, vs, rfl, q.1, r⟩
  | lst ys =>
    cases e
    unfold Rp at r
    obtain ⟨a, vs, rfl, q, r⟩ := r
    exact ⟨false, a, vs, rfl, .inl q, r⟩
  | _ => cases e
theorem SR.sq {s : S} {σ : L2.St} {H : Hp} {ω : Wd} (h : SR A s σ H ω) {t : Bool} {a : Addr} {vs : List V} (q : Sq A.c.K t ω.F a vs) : Sq A.c.K t H a vs := by
  cases t with
  | true => exact h.sqT q
  | false => exact h.sqL q
theorem Sm.sq {K : PySem.W.Frag} {F F' : Hp} (s : Sm F F') {t : Bool} {a : Addr} {vs : List V} (q : Sq K t F a vs) : Sq K t F' a vs := by
  cases t with
  | true => exact s.sqT q
  | false => exact s.sqL q
theorem zipD_get : ∀ {xs ys : List D} {i : Nat} {d : D}, (zipD xs ys)[i]? = some d → ∃ x y, xs[i]? = some x ∧ ys[i]? = some y ∧ d = .tup [x, y]
  | [], _, _, _, e => by simp [zipD] at e
  | _ :: _, [], _, _, e => by simp [zipD] at e
  | x :: xs, y :: ys, 0, d, e => by
    simp [zipD] at e
    exact ⟨x, y, rfl, rfl, e.symm⟩
  | x :: xs, y :: ys, i + 1, d, e => by
    have e : (zipD xs ys)[i]? = some d := by simpa [zipD] using e
    obtain ⟨a, b, h1, h2, h3⟩ := zipD_get e
    exact ⟨a, b, by simpa using h1, by simpa using h2, h3⟩
theorem zipD_len : ∀ xs ys : List D, (zipD xs ys).length = min xs.length ys.length
  | [], _ => by simp [zipD]
  | _ :: _, [] => by simp [zipD]
  | x :: xs, y :: ys => by simp [zipD, zipD_len xs ys]
theorem walk_zip {F0 : Hp} {t u : Bool} {a b : Addr} {xs ys : List D} {vs ws : List V} (q1 : Sq A.c.K t F0 a vs) (q2 : Sq A.c.K u F0 b ws) (r1 : RpL A.c F0 xs vs) (r2 : RpL A.c F0 ys ws) : Walk A F0 true (Itz2 A.c.K t a u b) (zipD xs ys) := fun s σ H ω sr sm => by
  have h1 := sr.sq (sm.sq q1)
  have h2 := sr.sq (sm.sq q2)
  have l1 := r1.length
  have l2 := r2.length
  have l := zipD_len xs ys
  refine ⟨⟨vs, ws, h1, h2, by omega, by omega, by omega⟩, fun i d hd => ?_⟩
  obtain ⟨x, y, e1, e2, rfl⟩ := zipD_get hd
  obtain ⟨v, ev, rv⟩ := r1.get e1
  obtain ⟨w, ew, rw'⟩ := r2.get e2
  refine ⟨⟨vs, ws, v, w, h1, h2, ev, ew⟩, fun p H' ⟨T, v', w', ep, hT, eH, g1, g2⟩ => ?_⟩
  subst ep eH
  have g1 := g1 vs h1
  have g2 := g2 ws h2
  rw [ev] at g1
  rw [ew] at g2
  cases g1
  cases g2
  obtain ⟨sm', sr'⟩ := sr.fix (o := .tup [v, w]) hT (fun _ z => nomatch z)
  exact ⟨{ ω with F := upd ω.F T (.tup [v, w]) }, sm', rfl, sr', [x, y], T, [v, w], rfl, rfl, .inl (.inl upd_same), .cons (rv.up (sm.trans sm')) (.cons (rw'.up (sm.trans sm')) .nil)⟩
theorem enum_get : ∀ {xs : List D} {k : Int} {i : Nat} {d : D}, (enumFrom k xs)[i]? = some d → ∃ x, xs[i]? = some x ∧ d = .tup [.int (k + (i : Nat)), x]
  | [], _, _, _, e => by simp [enumFrom] at e
  | x :: xs, k, 0, d, e => by
    simp [enumFrom] at e
    exact ⟨x, rfl, by rw [← e]; simp⟩
  | x :: xs, k, i + 1, d, e => by
    have e : (enumFrom (k + 1) xs)[i]? = some d := by simpa [enumFrom] using e
    obtain ⟨y, h1, h2⟩ := enum_get e
    refine ⟨y, by simpa using h1, ?_⟩
    rw [h2]
    have : k + 1 + (i : Int) = k + ((i + 1 : Nat) : Int) := by omega
    rw [this]
theorem enum_len : ∀ (k : Int) (xs : List D), (enumFrom k xs).length = xs.length
  | _, [] => rfl
  | k, x :: xs => by simp [enumFrom, enum_len (k + 1) xs]
theorem walk_enum {F0 : Hp} {t : Bool} {k : Int} {a : Addr} {xs : List D} {vs : List V} (q1 : Sq A.c.K t F0 a vs) (r1 : RpL A.c F0 xs vs) : Walk A F0 true (Ite2 A.c.K k t a) (enumFrom k xs) := fun s σ H ω sr sm => by
  have h1 := sr.sq (sm.sq q1)
  have l1 := r1.length
  refine ⟨⟨vs, h1, by rw [enum_len]; omega⟩, fun i d hd => ?_⟩
  obtain ⟨x, e1, rfl⟩ := enum_get hd
  obtain ⟨v, ev, rv⟩ := r1.get e1
  refine ⟨⟨vs, v, h1, ev⟩, fun p H' ⟨T, v', ep, hT, eH, g1⟩ => ?_⟩
  subst ep eH
  have g1 := g1 vs h1
  rw [ev] at g1
  cases g1
  obtain ⟨sm', sr'⟩ := sr.fix (o := .tup [.int (k + (i : Nat)), v]) hT (fun _ z => nomatch z)
  exact ⟨{ ω with F := upd ω.F T (.tup [.int (k + (i : Nat)), v]) }, sm', rfl, sr', [.int (k + (i : Nat)), x], T, [.int (k + (i : Nat)), v], rfl, rfl, .inl (.inl upd_same), .cons (.i _) (.cons (rv.up (sm.trans sm')) .nil)⟩
theorem i_zip2 {e e2 : Expr} {p pos tpos : Pos} {elts : List Expr} {kk : Nat} {f g : S → R (D × Bool)} (hK : X.K = A.c.K) (hg : Gl X "zip") (hm : X.mg "zip" = none) (ha : PE X e (tE E A W f)) (hb : PE X e2 (tE E A W g)) (hs : noStar e = true) (hs2 : noStar e2 = true) :
    PI X (.Tuple elts kk tpos) (.Call (.Name "zip" p) [e, e2] [] pos) (tI E A W true fun s => (f s).bind fun x s1 => (g s1).bind fun y s2 => match seqItems? x.1, seqItems? y.1 with
      | some xs, some ys => .ok (zipD xs ys) s2
      | _, _ => .no) := by
  refine ⟨fun pins t0 σ H R I h => ?_⟩
  refine Call_ (ld_blt I hg hm PyProof.Rows.boot_zip (PyProof.Rows.callWith_type1 (thn ((pa_cons ha (pa_cons hb pa_nil (notStar hs2)) (notStar hs)).run pos pins t0 σ H (fun vs H2 => ∃ t a u b xs ys, vs = [.ref a, .ref b] ∧ Sq X.K t H2 a xs ∧ Sq X.K u H2 b ys ∧ R (Itz2 X.K t a u b) H2) I ?_) fun us s1 hh => ?_) (notStar hs) (star1 hs2)))
  · obtain ⟨s, ω, sr, q⟩ := h
    refine QR.val sr q.bind fun d o s1 v H1 ω1 _ z sm sr1 e1 r => ?_
    refine QR.val sr1 z.bind fun d2 o2 s2 v2 H2 ω2 _ z2 sm2 sr2 e2 r2 => ?_
    dsimp only at z2
    cases es : seqItems? d with
    | none => rw [es] at z2; exact z2.elim
    | some xs =>
      cases es2 : seqItems? d2 with
      | none => rw [es, es2] at z2; exact z2.elim
      | some ys =>
        rw [es, es2] at z2
        obtain ⟨t, a, vs, rfl, q1, r1⟩ := sq_of es (r.up sm2)
        obtain ⟨u, b, ws, rfl, q2, r2⟩ := sq_of es2 r2
        rw [hK]
        exact ⟨t, a, u, b, vs, ws, rfl, sr2.sq q1, sr2.sq q2, z2 _ H2 ω2 (sm.trans sm2) sr2 (e2.trans e1) (walk_zip q1 q2 r1 r2)⟩
  · obtain ⟨vs, H1, I1, r1, t, a, u, b, xs, ys, ex, hqx, hqy, q⟩ := hh
    subst ex
    cases r1 with
    | cons r rr =>
      cases rr with
      | cons r' rr =>
        cases rr
        cases r
        cases r'
        obtain ⟨its, rv, p1, la⟩ := sq_at I1 hqx
        obtain ⟨its2, rv2, p2, lb⟩ := sq_at I1 hqy
        refine zip_begins2 (sq_begins t a its.toArray) (sq_begins u b its2.toArray) p1 p2 fun h' hz hTI hTO h1 h2 hsz hk => wpAny_pyIter_zip hz ?_
        have I2 : L2.Inv X pins σ H1 { s1 with heap := h' } := I1.kept (t' := s1.toks) hk
        refine ⟨s1.heap.objs.size + 4, [s1.heap.objs.size + 4, s1.heap.objs.size + 2, s1.heap.objs.size + 3, s1.heap.objs.size, s1.heap.objs.size + 1], _, _, H1, rfl, I2, turn_zip2 (zip_sep2 (fp1 := [a]) (fp2 := [b]) (by simpa using la) (by simpa using lb)) (Nat.ne_of_lt la) (Nat.ne_of_lt (Nat.lt_succ_of_lt lb)), ⟨hz, hTI, ⟨_, _, hTO⟩, sqI_new h1, sqI_new h2⟩, fun c hc => ?_, q⟩
        have hle : s1.heap.objs.size ≤ c := by
          simp only [List.mem_cons, List.not_mem_nil, or_false] at hc
          rcases hc with z | z | z | z | z <;> (rw [z]; first | exact Nat.le_add_right _ _ | exact Nat.le_refl _)
        exact I1.fpOk hle (I1.hok.fresh hle)
theorem i_enum {e : Expr} {p pos tpos : Pos} {elts : List Expr} {kk : Nat} {f : S → R (D × Bool)} (hK : X.K = A.c.K) (hg : Gl X "enumerate") (hm : X.mg "enumerate" = none) (ha : PE X e (tE E A W f)) (hs : noStar e = true) :
    PI X (.Tuple elts kk tpos) (.Call (.Name "enumerate" p) [e] [] pos) (tI E A W true fun s => (f s).bind fun x s1 => match seqItems? x.1 with
      | some xs => .ok (enumFrom 0 xs) s1
      | none => .no) := by
  refine ⟨fun pins t0 σ H R I h => ?_⟩
  refine Call_ (ld_blt I hg hm boot_enumerate (PyProof.Rows.callWith_type1 (thn ((pa_cons ha pa_nil (notStar hs)).run pos pins t0 σ H (fun vs H2 => ∃ t a xs, vs = [.ref a] ∧ Sq X.K t H2 a xs ∧ R (Ite2 X.K 0 t a) H2) I ?_) fun us s1 hh => ?_) (notStar hs) rfl))
  · obtain ⟨s, ω, sr, q⟩ := h
    refine QR.val sr q.bind fun d o s1 v H1 ω1 _ z sm sr1 e1 r => ?_
    dsimp only at z
    cases es : seqItems? d with
    | none => rw [es] at z; exact z.elim
    | some xs =>
      rw [es] at z
      obtain ⟨t, a, vs, rfl, q1, r1⟩ := sq_of es r
      rw [hK]
      exact ⟨t, a, vs, rfl, sr1.sq q1, z _ H1 ω1 sm sr1 e1 (walk_enum q1 r1)⟩
  · obtain ⟨vs, H1, I1, r1, t, a, xs, ex, hq, q⟩ := hh
    subst ex
    cases r1 with
    | cons r rr =>
      cases rr
      cases r
      obtain ⟨its, rv, p1, la⟩ := sq_at I1 hq
      refine enum_begins1 (sq_begins t a its.toArray) p1 fun h' he h1 hk => wpAny_pyIter_enum he ?_
      have I2 : L2.Inv X pins σ H1 { s1 with heap := h' } := I1.kept (t' := s1.toks) hk
      refine ⟨s1.heap.objs.size + 1, [s1.heap.objs.size + 1, s1.heap.objs.size], _, _, H1, rfl, I2, turn_enum2 (c := 0) (Nat.ne_of_lt la) (Nat.succ_ne_self _) (Nat.ne_of_gt (Nat.lt_succ_of_lt la)), ⟨⟨.none, he⟩, sqI_new h1⟩, fun c hc => ?_, q⟩
      have hle : s1.heap.objs.size ≤ c := by
        simp only [List.mem_cons, List.not_mem_nil, or_false] at hc
        rcases hc with z | z <;> (rw [z]; first | exact Nat.le_add_right _ _ | exact Nat.le_refl _)
      exact I1.fpOk hle (I1.hok.fresh hle)
end
end Mp
end
section
set_option Elab.async false
set_option linter.all false
set_option maxRecDepth 100000
set_option maxHeartbeats 2000000
/-! MpSyn: what is asked of the text, as Bools. -/
namespace Mp
open PySem PySem.Spec PyProof.Rows L2
/-- no comprehension -/
def notComp : Expr → Bool
  | .ListComp .. => false
  | .SetComp .. => false
  | .DictComp .. => false
  | _ => true
theorem swaps_no {e : Expr} (h : notComp e = true) (t : Option Expr) (l : Nat) (env : Env) : swapsWith e t l env = pure false := by
  cases e <;> first | rfl | cases h
theorem swapsS_no {tg e : Expr} (h : notComp e = true) (l : Nat) (env : Env) : swapsWithSole [tg] e l env = pure false := swaps_no h _ _ _
def notSet : Expr → Bool
  | .Set .. => false
  | _ => true
theorem folded_no {e : Expr} (h : notSet e = true) (env : Env) (x : Value) : foldedSetIterable e env x = pure x := by
  cases e <;> first | rfl | cases h
theorem behind_no {op : CmpOp} {e : Expr} (h : notSet e = true) : behindInMarks op e = false := by
  cases e <;> first | rfl | cases h
def notTup : Expr → Bool
  | .Tuple .. => false
  | _ => true
theorem swapped_no {ts : List Expr} {e : Expr} (h : notTup e = true) (env : Env) : swappedStores ts e env = pure none := by
  cases e <;> first | cases h; done | (unfold swappedStores; cases ts with
    | nil => rfl
    | cons t r => cases r with
      | nil => cases t <;> rfl
      | cons _ _ => cases t <;> rfl)
/-- the names that a pair of tuples stores from the right; none: in their order -/
def swapB (sc : Scope) (ts vs : List Expr) : Option (Option (List Str)) :=
  if (!(ts.length == 2 || ts.length == 3) || vs.length != ts.length) = true then some none else
  if (vs.any fun | .Starred .. => true | _ => false) = true then some none else
  let line := (ts.head?.map (·.pos.line)).getD 0
  let names := ts.filterMap fun
    | .Name id pos => if (sc.names.lookup id == some .local && pos.line == line) = true then some id else none
    | _ => none
  if (names.length != ts.length || names.eraseDups.length != names.length) = true then some none else
  if vs.all (foldedForSure 8) = true then some none else
  if vs.all (constantsAlone 8) = true then none else
  some (some names)
theorem swapB_ok {sc : Scope} {ts vs : List Expr} {k k2 : Nat} {p p2 : Pos} {r : Option (List Str)} {env : Env} (hs : env.scope = sc) (hk : sc.kind = .function) (h : swapB sc ts vs = some r) : swappedStores [.Tuple ts k p] (.Tuple vs k2 p2) env = pure r := by
  have hb : env.blockKind = .function := by unfold Env.blockKind; rw [hs, hk]; rfl
  have e : (env.blockKind != .function) = false := by rw [hb]; rfl
  have ek : ∀ id, env.kindOf id = sc.names.lookup id := fun id => by unfold Env.kindOf; rw [hs]
  unfold swappedStores
  simp only [e, ek, Bool.or_false]
  by_cases c1 : (!(ts.length == 2 || ts.length == 3) || vs.length != ts.length) = true
  · have z := (if_pos c1).symm.trans h
    cases z
    exact if_pos c1
  have h := (if_neg c1).symm.trans h
  refine (if_neg c1).trans ?_
  by_cases c2 : (vs.any fun | .Starred .. => true | _ => false) = true
  · have z := (if_pos c2).symm.trans h
    cases z
    exact if_pos c2
  have h := (if_neg c2).symm.trans h
  refine (if_neg c2).trans ?_
  dsimp only at h ⊢
  generalize hn : ts.filterMap (fun x => match x with
    | .Name id pos => if (sc.names.lookup id == some .local && pos.line == (ts.head?.map (·.pos.line)).getD 0) = true then some id else none
    | _ => none) = ns at h
  have hn' := hn
  refine Eq.trans (b := if (ns.length != ts.length || ns.eraseDups.length != ns.length) = true then pure none else if vs.all (foldedForSure 8) = true then pure none else do
    if vs.all (constantsAlone 8) = true then unsupported "assign.tuple-of-constant-expressions:order-of-the-stores"
    pure (some ns)) ?_ ?_
  · rw [← hn]
  by_cases c3 : (ns.length != ts.length || ns.eraseDups.length != ns.length) = true
  · have z := (if_pos c3).symm.trans h
    cases z
    exact if_pos c3
  have h := (if_neg c3).symm.trans h
  refine (if_neg c3).trans ?_
  by_cases c4 : vs.all (foldedForSure 8) = true
  · have z := (if_pos c4).symm.trans h
    cases z
    exact if_pos c4
  have h := (if_neg c4).symm.trans h
  refine (if_neg c4).trans ?_
  by_cases c5 : vs.all (constantsAlone 8) = true
  · have z := (if_pos c5).symm.trans h
    cases z
  have h := (if_neg c5).symm.trans h
  cases h
  rw [if_neg c5]
/-- plain names in a row -/
def nameRow : List Expr → List Str → Bool
  | [], [] => true
  | .Name x _ :: r, y :: s => decide (x = y) && nameRow r s
  | _, _ => false
theorem assign_names : ∀ {es : List Expr} {ns : List Str} {env : Env}, nameRow es ns = true → (assignEach es env).length = ns.length ∧ (assignEach es env).findIdx? (·.1) = none
  | [], [], _, _ => ⟨rfl, rfl⟩
  | [], _ :: _, _, h => by cases h
  | e :: es, ns, env, h => by
    cases e with
    | Name x p =>
      cases ns with
      | nil => cases h
      | cons y ns =>
        have h : (decide (x = y) && nameRow es ns) = true := h
        rw [Bool.and_eq_true] at h
        obtain ⟨h1, h2⟩ := assign_names (env := env) h.2
        refine ⟨?_, ?_⟩
        · show (assignEach es env).length + 1 = _
          rw [h1]
          rfl
        · show ((false, assign (.Name x p) env) :: assignEach es env).findIdx? (·.1) = none
          rw [List.findIdx?_cons, h2]
          rfl
    | _ => cases ns <;> cases h
/-- may a name stand -/
def nmOk (x : Str) : Bool := !(x == ("__debug__" : Str)) && !(x == ("__classdict__" : Str)) && decide (x ≠ ("__name__" : Str))
theorem nmOk_ok {x : Str} (h : nmOk x = true) : (x == ("__debug__" : Str)) = false ∧ (x == ("__classdict__" : Str)) = false ∧ x ≠ ("__name__" : Str) := by
  unfold nmOk at h
  simp only [Bool.and_eq_true, Bool.not_eq_true', decide_eq_true_eq] at h
  exact ⟨h.1.1, h.1.2, h.2⟩
def visB (sc : Scope) (x : Str) : Bool := match sc.names.lookup x with
  | some .local => true
  | some .cell => true
  | some .free => true
  | _ => false
theorem visB_ok {sc : Scope} {x : Str} (h : visB sc x = true) : Vis sc x := by
  unfold visB at h
  unfold Vis
  split at h
  · rename_i e; exact .inl e
  · rename_i e; exact .inr (.inl e)
  · rename_i e; exact .inr (.inr e)
  · cases h
def locB (sc : Scope) (x : Str) : Bool := match sc.names.lookup x with
  | some .local => true
  | some .cell => true
  | _ => false
theorem locB_ok {sc : Scope} {x : Str} (h : locB sc x = true) : L2.Loc sc x := by
  unfold locB at h
  unfold L2.Loc
  split at h
  · rename_i e; exact .inl e
  · rename_i e; exact .inr e
  · cases h
/-- a subscript that is no slice -/
def ixB : Expr → Bool
  | .Slice .. => false
  | _ => true
theorem ixB_ok {b : Expr} (h : ixB b = true) : PlainIx b := fun o i => by
  cases b <;> first | rfl | cases h
end Mp
end
section
set_option Elab.async false
set_option linter.all false
set_option maxRecDepth 100000
set_option maxHeartbeats 2000000
/-! MpAug: a op= b of ints. -/
namespace Mp
open PySem PySem.Spec PyProof.Rows L2
section
variable {E : CE} {A : Act} {W : L2.WX} {X : Cx}
/-- what an augmented assignment asks -/
def rAu (o : Op2) : TIp := fun x y H Q => ∃ i j k, x = .int i ∧ y = .int j ∧ augI o (.int i) (.int j) = some (.int k) ∧ Q (.int k) H
theorem au_add : PIp X .Add (rAu .add) := by
  intro ps t τ J x y v u Q I rx ry ⟨i, j, k, ex, ey, e, q⟩
  subst ex ey
  obtain ⟨t1, rfl⟩ := rx
  obtain ⟨t2, rfl⟩ := ry
  cases e
  exact iadd_int ⟨.int _, J, I.tok _, ⟨_, rfl⟩, q⟩
theorem au_sub : PIp X .Sub (rAu .sub) := by
  intro ps t τ J x y v u Q I rx ry ⟨i, j, k, ex, ey, e, q⟩
  subst ex ey
  obtain ⟨t1, rfl⟩ := rx
  obtain ⟨t2, rfl⟩ := ry
  cases e
  exact isub_int ⟨.int _, J, I.tok _, ⟨_, rfl⟩, q⟩
theorem au_mul : PIp X .Mult (rAu .mul) := by
  intro ps t τ J x y v u Q I rx ry ⟨i, j, k, ex, ey, e, q⟩
  subst ex ey
  obtain ⟨t1, rfl⟩ := rx
  obtain ⟨t2, rfl⟩ := ry
  obtain ⟨hc, hr⟩ := of_opt (c := (small i || small j || (!big i && !big j))) e
  cases hr
  exact imul_int ⟨.int _, J, I.tok _, ⟨_, rfl⟩, q⟩ (op_mul_int hc)
theorem au_fdiv : PIp X .FloorDiv (rAu .fdiv) := by
  intro ps t τ J x y v u Q I rx ry ⟨i, j, k, ex, ey, e, q⟩
  subst ex ey
  obtain ⟨t1, rfl⟩ := rx
  obtain ⟨t2, rfl⟩ := ry
  have e : (if j = 0 then none else if (Nat.blt j.natAbs 1073741824 || (decide (0 < j) && !big j)) = true then some (D.int (i.fdiv j)) else none) = some (D.int k) := e
  have hr : j ≠ 0 ∧ Builtin.divisionGoesByPylong i j = false ∧ k = i.fdiv j := by
    split at e
    · cases e
    · rename_i hj
      split at e
      · rename_i hs
        cases e
        rw [Bool.or_eq_true] at hs
        rcases hs with hs | hs
        · exact ⟨hj, PyProof.noPylong_small ((Nat.blt_eq).mp hs), rfl⟩
        · simp only [Bool.and_eq_true, Bool.not_eq_true'] at hs
          exact ⟨hj, PyProof.noPylong_of_log2 (Nat.lt_trans (log_of hs.2) (by decide)), rfl⟩
      · cases e
  obtain ⟨h0, h1, rfl⟩ := hr
  exact ifloordiv_int h0 ⟨.int _, J, I.tok _, ⟨_, rfl⟩, q⟩ (.inl h1)
theorem augI_ints {o : Op2} {d e r : D} (h : augI o d e = some r) : ∃ i j k, d = .int i ∧ e = .int j ∧ r = .int k := by
  cases o <;> cases d <;> cases e <;> first | (cases h; done) | (cases h; exact ⟨_, _, _, rfl, rfl, rfl⟩) | skip
  · rename_i i j
    obtain ⟨_, hr⟩ := of_opt (c := (small i || small j || (!big i && !big j))) h
    exact ⟨i, j, _, rfl, rfl, hr.symm⟩
  · rename_i i j
    have h : (if j = 0 then none else if (Nat.blt j.natAbs 1073741824 || (decide (0 < j) && !big j)) = true then some (D.int (i.fdiv j)) else none) = some r := h
    split at h
    · cases h
    · split at h
      · cases h
        exact ⟨i, j, _, rfl, rfl, rfl⟩
      · cases h
theorem s_aug {i : Nat} {o : Op2} {op : Operator} {x : Str} {e : Expr} {px pos : Pos} {fe : S → R (D × Bool)} (hN : X.N.Nodup) (hi : X.N[i]? = some x) (hx : Loc X.env.scope x) (he : PE X e (tE E A W fe)) (ho : PIp X op (rAu o)) (hf : X.fn x = true ∨ X.env.scope.names.lookup x = some .local) :
    PS X (.AugAssign (.Name x px) op e pos) (tS E A W fun s => match s.get i with
      | some (d, false) => (fe s).bind fun x s1 => match augI o d x.1 with
        | some r => .ok .nx (s1.put i r false)
        | none => .no
      | _ => .no) := by
  refine ⟨fun pins t σ H D I h => (ps_aug hN hi hx he ho hf).run pins t σ H D I ?_⟩
  obtain ⟨s, ω, sr, pd, q⟩ := h
  dsimp only at q
  cases g : s.get i with
  | none => rw [g] at q; exact q.elim
  | some p =>
    obtain ⟨d, w⟩ := p
    rw [g] at q
    cases w with
    | true => exact q.elim
    | false =>
      have q : QSt E A W ((fe s).bind fun x s1 => match augI o d x.1 with | some r => R.ok Fl.nx (s1.put i r false) | none => .no) fun fl s' => EndsOk A ω fl s' D := q
      obtain ⟨v, ev, rv, _⟩ := sr.val g
      refine ⟨v, ev, QSt.useV sr q.bind fun d1 o1 s1 v1 H1 ω1 z sm sr1 e1 r1 => ?_⟩
      dsimp only at z
      cases er : augI o d d1 with
      | none => rw [er] at z; exact z.elim
      | some r =>
        rw [er] at z
        obtain ⟨a, b, k, rfl, rfl, rfl⟩ := augI_ints er
        exact ⟨a, b, k, rv, r1, er, z _ H1 { ω1 with ow := ω1.ow.set i none } sm (sr1.putV (.i k)) (e1.trans pd)⟩
end
end Mp
end
section
set_option Elab.async false
set_option linter.all false
set_option maxRecDepth 100000
set_option maxHeartbeats 2000000
/-! MpPar: a, b = x, y and a, b, c = x, y, z: stored from the right. -/
namespace Mp
open PySem PySem.Spec PyProof.Rows L2
def putN : List Nat → List V → L2.St → L2.St
  | i :: is, v :: vs, σ => (putN is vs σ).set i (some v)
  | _, _, σ => σ
section
variable {E : CE} {A : Act} {W : L2.WX} {X : Cx}
/-- names in a row get values, one after the other -/
theorem stores_ok (hN : X.N.Nodup) {ps : List (Addr × Obj)} {J : Hp} {Q : Unit → Shared → Prop} : ∀ (l : List (Nat × Str × V × Value)) {τ : L2.St} {t : Shared}, Inv X ps τ J t →
    (∀ p ∈ l, X.N[p.1]? = some p.2.1 ∧ X.env.scope.names.lookup p.2.1 = some .local ∧ RelV p.2.2.1 p.2.2.2) → (∀ t', Inv X ps (l.foldl (fun τ p => τ.set p.1 (some p.2.2.1)) τ) J t' → Q () t') →
    wpAny (model X.prog X.w) X.A (assignInOrder (l.map fun p => bindName X.env p.2.1) (l.map fun p => p.2.2.2)) Q X.xe t
  | [], τ, t, I, _, k => assignInOrder_nil (k t I)
  | p :: l, τ, t, I, h, k => by
    obtain ⟨h1, h2, h3⟩ := h p List.mem_cons_self
    exact assignInOrder_cons (wpAny_bindName (store_ok I hN h1 (.inl h2) h3 (fun t' I' => stores_ok hN l I' (fun p hp => h p (List.mem_cons_of_mem _ hp)) k) (.inr h2)))
/-- the names with their values -/
def rowN : List Nat → List Str → List V → List Value → List (Nat × Str × V × Value)
  | i :: is, n :: ns, v :: vs, u :: us => (i, n, v, u) :: rowN is ns vs us
  | _, _, _, _ => []
theorem rowN_names : ∀ {is : List Nat} {ns : List Str} {vs : List V} {us : List Value}, is.length = ns.length → vs.length = ns.length → us.length = ns.length → (rowN is ns vs us).map (fun p => p.2.1) = ns ∧ (rowN is ns vs us).map (fun p => p.2.2.2) = us
  | [], [], [], [], _, _, _ => ⟨rfl, rfl⟩
  | i :: is, n :: ns, v :: vs, u :: us, h1, h2, h3 => by
    obtain ⟨a, b⟩ := rowN_names (is := is) (ns := ns) (vs := vs) (us := us) (Nat.succ.inj h1) (Nat.succ.inj h2) (Nat.succ.inj h3)
    unfold rowN
    rw [List.map_cons, List.map_cons, a, b]
    exact ⟨rfl, rfl⟩
  | [], [], [], _ :: _, _, _, h => by cases h
  | [], [], _ :: _, _, _, h, _ => by cases h
  | [], _ :: _, _, _, h, _, _ => by cases h
  | _ :: _, [], _, _, h, _, _ => by cases h
  | _ :: _, _ :: _, [], _, _, h, _ => by cases h
  | _ :: _, _ :: _, _ :: _, [], _, _, h => by cases h
theorem rowN_put : ∀ {is : List Nat} {ns : List Str} {vs : List V} {us : List Value} {σ : L2.St}, is.length = ns.length → vs.length = ns.length → us.length = ns.length → (rowN is ns vs us).reverse.foldl (fun τ p => τ.set p.1 (some p.2.2.1)) σ = putN is vs σ
  | [], [], [], [], σ, _, _, _ => rfl
  | i :: is, n :: ns, v :: vs, u :: us, σ, h1, h2, h3 => by
    unfold rowN putN
    rw [List.reverse_cons, List.foldl_append, rowN_put (Nat.succ.inj h1) (Nat.succ.inj h2) (Nat.succ.inj h3)]
    rfl
  | [], [], [], _ :: _, _, _, _, h => by cases h
  | [], [], _ :: _, _, _, _, h, _ => by cases h
  | [], _ :: _, _, _, _, h, _, _ => by cases h
  | _ :: _, [], _, _, _, h, _, _ => by cases h
  | _ :: _, _ :: _, [], _, _, _, h, _ => by cases h
  | _ :: _, _ :: _, _ :: _, [], _, _, _, h => by cases h
theorem rowN_mem (P : Nat → Str → Prop) : ∀ {is : List Nat} {ns : List Str} {vs : List V} {us : List Value}, (∀ (j i : Nat) (n : Str), is[j]? = some i → ns[j]? = some n → P i n) → Vals vs us → ∀ p ∈ rowN is ns vs us, P p.1 p.2.1 ∧ RelV p.2.2.1 p.2.2.2
  | i :: is, n :: ns, v :: vs, u :: us, h, r, p, hp => by
    unfold rowN at hp
    cases r with
    | cons r1 r2 =>
      rcases List.mem_cons.mp hp with rfl | hp
      · exact ⟨h 0 i n rfl rfl, r1⟩
      · exact rowN_mem P (fun j i n e1 e2 => h (j + 1) i n e1 e2) r2 p hp
  | [], _, _, _, _, _, p, hp => by unfold rowN at hp; cases hp
  | _ :: _, [], _, _, _, _, p, hp => by unfold rowN at hp; cases hp
  | _ :: _, _ :: _, [], _, _, _, p, hp => by unfold rowN at hp; cases hp
  | _ :: _, _ :: _, _ :: _, [], _, _, p, hp => by unfold rowN at hp; cases hp
theorem ps_parN {is : List Nat} {ns : List Str} {tg : Expr} {es : List Expr} {ta : TA} {k2 : Nat} {pt2 pos : Pos} (hc : X.calm = true) (hN : X.N.Nodup) (hl : is.length = ns.length) (hn : es.length = ns.length) (hz : ns.length ≤ 3)
    (hi : ∀ (j i : Nat) (n : Str), is[j]? = some i → ns[j]? = some n → X.N[i]? = some n ∧ X.env.scope.names.lookup n = some .local) (ha : PA X es ta)
    (hw : swappedStores [tg] (.Tuple es k2 pt2) X.env = pure (some ns)) (hs : swapsWithSole [tg] (.Tuple es k2 pt2) pos.line X.env = pure false) :
    PS X (.Assign [tg] (.Tuple es k2 pt2) pos) (fun D σ H => ta σ H fun vs H1 => vs.length = ns.length ∧ D.nx (putN is vs σ) H1) := by
  refine ⟨fun ps t σ H D I h => ?_⟩
  rw [exec_Assign_arm]
  refine wpAny_bind (wpAny_standAt ?_)
  rw [hs]
  refine wpAny_bind (wpAny_pure ?_)
  rw [if_neg (by decide)]
  refine wpAny_bind (Tuple_ (thn (ha.run _ ps t σ H _ I h) fun us t1 hh => ?_))
  obtain ⟨vs, H1, I1, r1, lv, q1⟩ := hh
  have lu : us.length = ns.length := by rw [← r1.length]; exact lv
  refine wpAny_newObj_type ?_ (by show us.toArray.size ≤ sizeLine; rw [List.size_toArray, sizeLine_eq]; omega)
  have I2 : Inv X ps σ H1 { t1 with heap := t1.heap.push { cls := .type "tuple", data := .seq us.toArray } } := I1.kept (t' := t1.toks) fun b o e => Heap.get?_push_of_some _ e
  rw [hw]
  refine wpAny_bind (wpAny_pure ?_)
  show wpAny (model X.prog X.w) X.A (do rule "assign.swapped-stores"; let items ← unpackItems (.ref t1.heap.objs.size) ns.length none; assignInOrder (ns.reverse.map fun n => bindName X.env n) items.reverse; pure Flow.next) _ _ _
  have e0 : ns.length = us.toArray.size := by rw [List.size_toArray, lu]
  rw [e0]
  refine wpAny_bind (wpAny_rule (wpAny_bind (unpackItems_tuple (items := us.toArray) (I.ok.hd hc) (IsTup.new t1.heap _) fun h' hx' => ?_)))
  have I3 := I2.kept (h' := h') (t' := t1.toks) fun b o e => hx' b o (Nat.ne_of_lt (Heap.lt_size e)) e
  obtain ⟨n1, n2⟩ := rowN_names (is := is) (ns := ns) (vs := vs) (us := us) hl lv lu
  have st := stores_ok hN (Q := fun _ t' => wpAny (model X.prog X.w) X.A (pure Flow.next : Sem Flow) (SP X ps D) X.xe t') (rowN is ns vs us).reverse I3 (fun p hp => by
    obtain ⟨⟨a, b⟩, c⟩ := rowN_mem (fun i n => X.N[i]? = some n ∧ X.env.scope.names.lookup n = some .local) hi r1 p (List.mem_reverse.mp hp)
    exact ⟨a, b, c⟩) (fun t' I' => by
    rw [rowN_put hl lv lu] at I'
    exact wpAny_pure ⟨_, H1, I', q1⟩)
  rw [List.map_reverse, List.map_reverse, n2, show ((rowN is ns vs us).map fun p => bindName X.env p.2.1) = ns.map (fun n => bindName X.env n) by rw [← n1, List.map_map, n1]; rfl, ← List.map_reverse] at st
  exact wpAny_bind st
theorem putAll_ok : ∀ {is : List Nat} {xs : List (D × Bool)} {vs : List V} {ps : List (Addr × D)} {pd : List (Addr × D)} {s s' : S} {σ : L2.St} {H : Hp} {ω : Wd}, putAll is xs s = some s' → SR A s σ H ω → OutL A.c ω.F xs vs ps → ω.pd = ps.reverse ++ pd →
    ∃ ow', SR A s' (putN is vs σ) H ⟨ω.F, ow', pd⟩
  | [], [], vs, ps, pd, s, s', σ, H, ω, e, sr, o, ep => by
    cases e
    obtain ⟨rfl, rfl⟩ := o
    refine ⟨ω.ow, ?_⟩
    have ep : ω.pd = pd := ep
    rw [← ep]
    exact sr
  | i :: is, (d, b) :: xs, vs, ps, pd, s, s', σ, H, ω, e, sr, o, ep => by
    obtain ⟨s1, e1, e2⟩ := bind_some (show (putAll is xs s).bind (fun s1 => if i < s1.ρ.length then some (s1.put i d b) else none) = some s' from e)
    by_cases hl : i < s1.ρ.length
    · rw [if_pos hl] at e2
      cases e2
      cases b with
      | false =>
        obtain ⟨v, vs', rfl, r, o⟩ := o
        obtain ⟨ow', g⟩ := putAll_ok e1 sr o ep
        exact ⟨_, g.putV (i := i) r⟩
      | true =>
        obtain ⟨a, vs', ps', rfl, rfl, o⟩ := o
        rw [List.reverse_cons, List.append_assoc] at ep
        obtain ⟨ow', g⟩ := putAll_ok (pd := (a, d) :: pd) e1 sr o ep
        exact ⟨_, g.putO rfl hl⟩
    · rw [if_neg hl] at e2
      cases e2
  | [], _ :: _, _, _, _, _, _, _, _, _, e, _, _, _ => by cases e
  | _ :: _, [], _, _, _, _, _, _, _, _, e, _, _, _ => by cases e
theorem putAll_len : ∀ {is : List Nat} {xs : List (D × Bool)} {s s' : S}, putAll is xs s = some s' → xs.length = is.length
  | [], [], _, _, _ => rfl
  | i :: is, (d, b) :: xs, s, s', e => by
    obtain ⟨s1, e1, _⟩ := bind_some (show (putAll is xs s).bind (fun s1 => if i < s1.ρ.length then some (s1.put i d b) else none) = some s' from e)
    rw [List.length_cons, List.length_cons, putAll_len e1]
  | [], _ :: _, _, _, e => by cases e
  | _ :: _, [], _, _, e => by cases e
theorem OutL.len {c : Cn} {F : Hp} : ∀ {xs : List (D × Bool)} {vs : List V} {ps : List (Addr × D)}, OutL c F xs vs ps → vs.length = xs.length
  | [], vs, ps, h => by rw [h.1]; rfl
  | (d, false) :: xs, vs, ps, h => by
    obtain ⟨v, vs', rfl, r, h⟩ := h
    rw [List.length_cons, List.length_cons, OutL.len h]
  | (d, true) :: xs, vs, ps, h => by
    obtain ⟨a, vs', ps', rfl, rfl, h⟩ := h
    rw [List.length_cons, List.length_cons, OutL.len h]
theorem s_asgs {is : List Nat} {ns : List Str} {tg : Expr} {es : List Expr} {k2 : Nat} {pt2 pos : Pos} {fr : S → R (List (D × Bool))} (hc : X.calm = true) (hN : X.N.Nodup) (hl : is.length = ns.length) (hn : es.length = ns.length) (hz : ns.length ≤ 3)
    (hi : ∀ (j i : Nat) (n : Str), is[j]? = some i → ns[j]? = some n → X.N[i]? = some n ∧ X.env.scope.names.lookup n = some .local) (ha : PA X es (tA E A W fr))
    (hw : swappedStores [tg] (.Tuple es k2 pt2) X.env = pure (some ns)) (hs : swapsWithSole [tg] (.Tuple es k2 pt2) pos.line X.env = pure false) :
    PS X (.Assign [tg] (.Tuple es k2 pt2) pos) (tS E A W fun s => (fr s).bind fun xs s1 => match putAll is xs s1 with | some s2 => .ok .nx s2 | none => .no) := by
  refine ⟨fun pins t σ H D I h => (ps_parN hc hN hl hn hz hi ha hw hs).run pins t σ H D I ?_⟩
  obtain ⟨s, ω, sr, pd, q⟩ := h
  refine ⟨s, ω, sr, QR.mono q.bind.qr fun xs s1 _ z vs H1 ω1 sm sr1 ⟨ps, ol, e1⟩ => ?_⟩
  cases ep : putAll is xs s1 with
  | none => rw [ep] at z; exact z.elim
  | some s2 =>
    rw [ep] at z
    obtain ⟨ow', g⟩ := putAll_ok (pd := []) ep sr1 ol (by rw [e1, pd])
    exact ⟨by rw [ol.len, putAll_len ep, hl], z _ H1 ⟨ω1.F, ow', []⟩ sm g rfl⟩
end
end Mp
end
section
set_option Elab.async false
set_option linter.all false
set_option maxRecDepth 100000
set_option maxHeartbeats 2000000
/-! MpIni: an own exception whose __init__(self, x) says super().__init__(x); self.f = x. -/
namespace Mp
open PySem PySem.Spec PyProof.Rows L2
/-- what is asked of the class at C -/
structure Ini (prog : Program) (K : PySem.W.Frag) (C fI cc cda : Addr) (B i newId : String) (bmB : List Value) (sn gn f : PySem.Str) : Prop where
  KF : PySem.W.KxsFacts B i
  FB : ExcBaseFacts B newId i bmB
  SF : StoreFacts B bmB "object.__setattr__" "object"
  fn : ∃ (oc : Value) (od : Option Addr) (name qual : PySem.Str) (params : Arguments) (body : List Stmt) (scope : Scope) (dV kV doc pm ct : Value) (an : Option Addr) (osl : Array (Option Value)) (ar : Arg) (p0 p1 p2 p3 p4 p5 p6 p7 p8 p9 : Pos),
    K.lookup fI = some ⟨oc, od, .func (PySem.W.ksFn name qual params body scope dV kV doc pm an (.ref cda) ct cc), osl⟩ ∧ PySem.W.codeIn K (.ref cda) qual = true ∧
    body = [.Expr (.Call (.Attribute (.Call (.Name "super" p0) [] [] p1) "__init__" p2) [.Name gn p3] [] p4) p5, .Assign [.Attribute (.Name sn p6) f p7] (.Name gn p8) p9] ∧
    (params.posonlyargs ++ params.args).head? = some ar ∧ ar.arg = sn ∧ (∀ u v : Value, bindArgs (PySem.W.ksFn name qual params body scope dV kV doc pm an (.ref cda) ct cc) ⟨[u, v], []⟩ = pure [(sn, u), (gn, v)]) ∧
    scope.kind = .function ∧ scope.isCoroutine = false ∧ scope.isGenerator = false ∧ (∀ x ∈ scope.names, x.2 ≠ .cell) ∧ scope.names.lookup sn = some .local ∧ scope.names.lookup gn = some .local ∧
    scope.names.lookup ("super" : PySem.Str) = some .globalImplicit ∧ scope.names.lookup ("__class__" : PySem.Str) = some .free ∧ (p2.endLine == p4.line) = true
  code : ∃ (ccl : Value) (cdd : Option Addr) (vs : Array Value) (ccs : Array (Option Value)) (file : PySem.Str) (tf : Tok), K.lookup cda = some ⟨ccl, cdd, .fields vs, ccs⟩ ∧ vs[2]? = some (.str file tf) ∧ ((prog.main.file : PySem.Str) == file) = true
  cell : ∃ (cl : Value) (cld : Option Addr) (csl : Array (Option Value)), K.lookup cc = some ⟨cl, cld, .cell (some (.ref C)), csl⟩
  cls : ∃ cd, PySem.W.clsIn K C = some cd
  nsg : (sn == gn) = false
  nd : (sn == ("__debug__" : PySem.Str)) = false ∧ (gn == ("__debug__" : PySem.Str)) = false ∧ (sn == ("__classdict__" : PySem.Str)) = false ∧ (gn == ("__classdict__" : PySem.Str)) = false
  init : PySem.W.findIn K (.ref C) "__init__" = some (some (.ref fI))
  tyI : PySem.W.typeIn K (.ref fI) = some (.type "function")
  exc : PySem.W.excInitIn K C bmB newId = true
  sup : PySem.W.ks_superIn K C C "__init__" = some (some (.builtin i))
  opq : PySem.W.nsIn K cStatics "thirdparty.any" = some none
  sub : PySem.W.subIn K (.ref C) (.type B) = some true
  mro : PySem.W.mroIn K C (.ref C) = some true
  sta : PySem.W.findIn K (.ref C) "__setattr__" = some (some (.builtin "object.__setattr__"))
  ovr : PySem.W.excOver K C bmB = true
  tak : PySem.W.takerIn K C f = some none
  hdc : PySem.W.hasDictIn K C = true
  top : (prog.main.scope.names.lookup ("super" : PySem.Str)).isSome = false
  be : PySem.W.subIn K (.ref C) (.type "BaseException") = some true
  tyC : PySem.W.typeIn K (.ref C) = some (.type "type")
  kC : PySem.W.keepIn K (.ref C) = true
theorem methodCall_one {o : Expr} {name : PySem.Str} {apos pos : Pos} {x : PySem.Str} {p : Pos} {env : Env} (hl : (apos.endLine == pos.line) = true) : eval (.Call (.Attribute o name apos) [.Name x p] [] pos) env = (do
      let ov ← attributeBase o name env (eval o env)
      standAt apos.atName
      let (f, first) ← holding [ov] (getMethod ov name (do return (← importBound o env).getD true))
      callWith pos f first (backTo pos (starEach [.Name x p] env)) []) := by
  show (do
    let ov ← attributeBase o name env (eval o env)
    standAt apos.atName
    methodCall o name apos pos env ov 1 (backTo pos (starEach [.Name x p] env)) []) = _
  have e : ∀ ov, methodCall o name apos pos env ov 1 (backTo pos (starEach [.Name x p] env)) [] = (do
      let (f, first) ← holding [ov] (getMethod ov name (do return (← importBound o env).getD true))
      callWith pos f first (backTo pos (starEach [.Name x p] env)) []) := fun ov => by
    unfold methodCall
    have hf : methodCallForm 1 (backTo pos (starEach [.Name x p] env)) [] = true := rfl
    rw [hf]
    have h2 : methodCallPos true o env apos pos = pure pos := by
      unfold methodCallPos
      rw [hl]
      rfl
    rw [h2]
    rfl
  simp only [e]
section
variable {X : Cx} {C fI cc cda : Addr} {B i newId : String} {bmB : List Value} {sn gn f : PySem.Str}
/-- the call of __init__ -/
theorem ini_run (T : Ini X.prog X.K C fI cc cda B i newId bmB sn gn f) (hsup : X.mg "super" = none) {pins : List (Addr × Obj)} {σ : L2.St} {H : Hp} {s : Shared} {A : Around} {u : Value} {R : Result → Shared → Prop} (I : Inv X pins σ H s) (hA : A.depth < recursionLimit) {tp : Addr} {h2 : Heap} {t2 : Nat}
    (k2 : ∀ b o, s.heap.get? b = some o → h2.get? b = some o) {e : Addr} (hz2 : s.heap.objs.size ≤ h2.objs.size) (ne : s.heap.get? e = none) (he : h2.get? e = some (PySem.W.excObj C tp none .none))
    (q : ∀ h' dx t' tk es n, (∀ b o, s.heap.get? b = some o → h'.get? b = some o) → h'.get? e = some (PySem.W.excObj C t' (some dx) .none) → h'.get? dx = some (PySem.W.dictOf es n) → (∃ tt, (PySem.W.putL f (PyData.keyHash X.w.params f) (.str f tt) u [], PySem.W.putN f [] 0) = (es, n)) → s.heap.objs.size ≤ dx → dx ≠ e → R (.ok (.ret .none)) { s with heap := h', toks := tk }) :
    codeAny (model X.prog X.w) A (.call (.ref fI) ⟨[.ref e, u], []⟩) R { s with heap := h2, toks := t2 } := by
  obtain ⟨oc, od, name, qual, params, body, scope, dV, kV, doc, pm, ct, an, osl, ar, p0, p1, p2, p3, p4, p5, p6, p7, p8, p9, hfo, hcd, hbd, hpar, har, hbind, hk, hco, hgen, hcell, hls, hlg, hks, hkc, hline⟩ := T.fn
  obtain ⟨ccl, cdd, vs, ccs, file, tf, hcda, hvs, hfile⟩ := T.code
  obtain ⟨cl, cld, csl, hcc⟩ := T.cell
  obtain ⟨cd, hcls⟩ := T.cls
  have K0 : X.K.In s.heap := I.kIn
  have K2 : X.K.In h2 := K0.keeps k2
  refine PySem.ks_codeAny_call_defAt (s := { s with heap := h2, toks := t2 }) (fd := PySem.W.ksFn name qual params body scope dV kV doc pm an (.ref cda) ct cc) (body := body) (binds := [(sn, .ref e), (gn, u)]) hA (K2 _ _ hfo) rfl (I.nolimit.keeps k2) (PySem.W.codeRec_of K2 hcd) rfl (.of_eq (hbind _ _)) hcell (fun y hy => ?_) (fun h3 hns k3 => ?_) hco hgen hk
  · rcases List.mem_cons.mp hy with rfl | hy
    · exact hls
    · obtain rfl := List.mem_singleton.mp hy
      exact hlg
  have k3' : ∀ b o, s.heap.get? b = some o → h3.get? b = some o := fun b o z => k3 b o (k2 b o z)
  have he3 : h3.get? e = some (PySem.W.excObj C tp none .none) := k3 e _ he
  have hL : h2.objs.size ≠ e := Nat.ne_of_gt (Heap.lt_size he)
  have nL : s.heap.get? h2.objs.size = none := by
    cases z : s.heap.get? h2.objs.size with
    | none => rfl
    | some o => exact absurd (Heap.lt_size (k2 _ _ z)) (Nat.lt_irrefl _)
  have F : Fr s.heap h2.objs.size h3 (fun x => ([(sn, Value.ref e), (gn, u)] : List (PySem.Str × Value)).reverse.lookup x) := ⟨hns, k3', hz2⟩
  have N : News s.heap h2.objs.size h3 [(e, PySem.W.excObj C tp none .none)] := fun p hp => by
    obtain rfl := List.mem_singleton.mp hp
    exact ⟨he3, Ne.symm hL, ne⟩
  have hvg : (fun x => ([(sn, Value.ref e), (gn, u)] : List (PySem.Str × Value)).reverse.lookup x) gn = some u := by
    show List.lookup gn [(gn, u), (sn, Value.ref e)] = some u
    rw [List.lookup_cons]
    simp
  have hvs' : (fun x => ([(sn, Value.ref e), (gn, u)] : List (PySem.Str × Value)).reverse.lookup x) sn = some (.ref e) := by
    show List.lookup sn [(gn, u), (sn, Value.ref e)] = some (.ref e)
    rw [List.lookup_cons, T.nsg]
    show List.lookup sn [(sn, Value.ref e)] = _
    rw [List.lookup_cons]
    simp
  subst hbd
  obtain ⟨mb, hmb, hbt⟩ := I.mod.blt
  have kb : ∀ b o, X.base.get? b = some o → h3.get? b = some o := fun b o z => k3' b o (I.bk b o z)
  obtain ⟨oD, hD1, hD2⟩ : ∃ oD, h3.get? C = some oD ∧ oD.data = .cls cd := by
    unfold PySem.W.clsIn at hcls
    split at hcls
    · rename_i c d cd' sl ho
      cases hcls
      exact ⟨_, k3' _ _ (K0 _ _ ho), rfl⟩
    · cases hcls
  refine PySem.ks_wpAt_execs_cons ?_
  refine PySem.ks_wpAt_Expr_any (PySem.ks_wpAt_MethodCall ?_ (methodCall_one hline)) ?_
  · refine PySem.ks_wpAt_super_base hks hkc rfl rfl (k3' _ _ (K0 _ _ hfo)) rfl hpar rfl (k3' _ _ (K0 _ _ hcda)) rfl hvs hfile T.top ?_
    refine PySem.W.ks_loadName_global hk hks (PySem.Calls.loadGlobal_builtin (I.mod.glob.keeps kb) hsup (hmb.keeps kb) ((hbt _ (by decide +kernel)).trans rfl) ⟨rfl, ?_⟩)
    refine wpAny_loadName_free hk hkc rfl ⟨_, k3' _ _ (K0 _ _ hcc), rfl⟩ ?_
    refine wpAny_loadName_local hk (by rw [har]; exact hls) F.ns (v := .ref e) (by rw [har]; exact hvs') ?_
    refine PySem.ks_wpAny_isType_cls hD1 hD2 ⟨rfl, ?_⟩
    refine PySem.ks_wpAny_call_super hD1 hD2 he3 rfl (fun c z => nomatch z) (PySem.W.looks_mroIn (K0.keeps k3') T.mro) (fun h4 e4 k4 => ?_)
    obtain ⟨F4, N4, l4⟩ := PySem.W.ks_newsPush (s := { s with heap := h3, toks := t2 + 2 }) (h' := h4) F N rfl e4 k4
    refine PySem.W.kxs_method (s := { s with heap := h4, toks := t2 + 2 }) T.KF F4 K0 N4 (so := h3.objs.size) (D := C) (x := e) (C := C) List.mem_cons_self (PySem.W.InstAt.of_exc0 N4 (.tail _ (.head _))) T.opq T.sup T.sub rfl fun qm h5 F5 N5 l5 => ?_
    refine PySem.W.kxs_callWith1 N5 (.head _) ?_ rfl rfl
    refine Calls.spliced_cons (wpAny_Name (wpAny_loadName_local hk hlg F5.ns hvg ?_) T.nd.2.1)
    refine Calls.spliced_nil ⟨PySem.W.kxs_at N5 (.head _), ?_⟩
    have e5 : ∀ p ∈ [(h3.objs.size, PySem.W.ks_superObj C e C), (e, PySem.W.excObj C tp none .none)], p.1 < qm := l5
    have n1 : qm ≠ e := Nat.ne_of_gt (l5 _ (.tail _ (.head _)))
    have n2 : h3.objs.size ≠ e := Nat.ne_of_gt (Heap.lt_size he3)
    refine PySem.W.kxs_call (s := { s with heap := h5, toks := t2 + 2 + 1 }) F5 K0 N5 T.FB T.exc (.head _) (.tail n1 (.tail n2 (.head fun _ z => nomatch z))) (by show 1 ≤ sizeLine; decide) fun t' h6 F6 N6 l6 => ?_
    refine PySem.ks_wpAt_execs_cons (PySem.ks_wpAt_Assign_Attr (wpAt_of_wpAny (wpAny_Name (wpAny_loadName_local hk hlg F6.ns hvg (wpAny_Name (wpAny_loadName_local hk hls F6.ns hvs' ?_) T.nd.1)) T.nd.2.1)) rfl)
    have n3 : t' ≠ e := Nat.ne_of_gt (l6 _ (.tail _ (.tail _ (.head _))))
    refine PySem.W.set_exc0 (s := { s with heap := h6, toks := t2 + 2 + 1 }) T.SF F6 K0 N6 (.tail _ (.tail _ (.tail _ (.head _)))) T.sta T.ovr T.tak T.hdc rfl (.tail n3 (.tail n1 (.tail n2 (.head fun _ z => nomatch z)))) (Nat.le_of_ble_eq_true rfl) fun dx h7 F7 N7 l7 => ?_
    refine wpAt_of_wpAny (wpAny_execs_nil ?_)
    exact q h7 dx t' _ _ _ F7.keep (N7 _ (.tail _ (.tail _ (.tail _ (.tail _ (.head _)))))).1 (N7 _ (.head _)).1 ⟨_, rfl⟩ (by have a1 := l7 _ (.tail _ (.tail _ (.head _))); have a2 : h2.objs.size < h3.objs.size := F.ns.lt; have a1 : h3.objs.size < dx := a1; omega) (Nat.ne_of_gt (l7 _ (.tail _ (.tail _ (.tail _ (.head _))))))
  · unfold interactive
    show (scope.kind == .module && _) = false
    rw [hk]
    rfl
end
end Mp
end
section
set_option Elab.async false
set_option linter.all false
set_option maxRecDepth 100000
set_option maxHeartbeats 2000000
/-! MpRaise: raise. -/
namespace Mp
open PySem PySem.Spec PyProof.Rows L2
section
variable {X : Cx} {C fI cc cda : Addr} {B i newId : String} {bmB : List Value} {sn gn f : PySem.Str}
theorem ns1_one {h : Heap} {dx : Addr} {f : PySem.Str} {tt : Tok} {u : Value} {hash : Int} {es : List DictEntry} {n : Nat} (e : h.get? dx = some (PySem.W.dictOf es n)) (hes : PySem.W.putL f hash (.str f tt) u [] = es) : h.Ns1 dx (fun y => if y = f then some u else none) := by
  subst hes
  refine ⟨_, #[⟨hash, .str f tt, u⟩], n, e, rfl, ?_, ?_, fun y => ?_⟩
  · intro e he
    have : e = ⟨hash, .str f tt, u⟩ := by simpa using he
    subst this
    exact ⟨f, tt, rfl⟩
  · exact List.pairwise_singleton _ _
  · unfold nsFind findBy
    by_cases hy : y = f
    · subst hy
      simp [Value.isStr]
    · have : ¬ f = y := fun z => hy z.symm
      simp [Value.isStr, hy, this]
theorem pmk_ini (T : Ini X.prog X.K C fI cc cda B i newId bmB sn gn f) (hsup : X.mg "super" = none) {x : PySem.Str} {p pos : Pos} {ea : Expr} {ta : TE} (hr : Room 1 X.A) (hg : Gl X x) (hm : X.mg x = some (.ref C)) (he : PE X ea ta) (hs : noStar ea = true) (hdb : (x == ("__debug__" : PySem.Str)) = false) :
    PMk X (.Call (.Name x p) [ea] [] pos) (fun σ H Q => ta σ H fun v H1 => ∀ dx, H1 dx = none → Q (.ref C) (some dx) (upd H1 dx (.xd [(f, v)]))) := by
  intro pins s σ H Q I h
  refine wpAny_Call_Name_kw (ld_glob I hg hm ?_ hdb)
  have ha : PA X [ea] (tCons ta tNil) := pa_cons he pa_nil (notStar hs)
  refine PySem.W.callWith_K (h₀ := X.base) I.ok.mod.kin T.kC (thn (ha.run pos pins s σ H (fun vs H1 => match vs with | [v] => ∀ dx, H1 dx = none → Q (.ref C) (some dx) (upd H1 dx (.xd [(f, v)])) | _ => False) I h) fun us s1 hh => ?_) (notStar hs) rfl
  obtain ⟨vs, H1, I1, r1, q⟩ := hh
  obtain ⟨v, rfl⟩ : ∃ v, vs = [v] := by
    match vs, q with
    | [v], _ => exact ⟨v, rfl⟩
  have q : ∀ dx, H1 dx = none → Q (.ref C) (some dx) (upd H1 dx (.xd [(f, v)])) := q
  obtain ⟨u, rfl, ru⟩ := vals1 r1
  refine ⟨I1.kIn, ?_⟩
  show wpAny _ _ (call (.ref C) [u]) _ _ _
  obtain ⟨nm, N', qn, bs, bm, hdct, sn', sub, ab, col, dd, k0, k1, k2, k3, k5, hC, hT⟩ := PySem.W.excInit_of I1.kIn T.exc
  obtain ⟨hp, g, dr, tk, os⟩ := s1
  have kk : ∀ b o, hp.get? b = some o → ((hp.push (PySem.W.kdv_tup [u])).push (PySem.HandSPX.excO C hp.objs.size)).get? b = some o := fun b o e => Heap.get?_push_of_some _ (Heap.get?_push_of_some _ e)
  have hget : ((hp.push (PySem.W.kdv_tup [u])).push (PySem.HandSPX.excO C hp.objs.size)).get? (hp.objs.size + 1) = some (PySem.HandSPX.excO C hp.objs.size) := by heap_get
  have ne : hp.get? (hp.objs.size + 1) = none := Heap.get?_none_of_le (Nat.le_succ _)
  refine wpAny_call (PySem.HandSPX.call_own T.FB hT hC (PySem.W.looks_findIn I1.kIn T.init) (fun self => PySem.W.bind_fn I1.kIn self T.tyI) (by show 1 ≤ sizeLine; decide) ?_)
  refine ini_run T hsup I1 (hr.make C [u] []).depth kk (by rw [Heap.size_push, Heap.size_push]; show hp.objs.size ≤ _; omega) ne hget fun h' dx t' tk' es n k' he' hd' ⟨tt, hes⟩ nd nde => ⟨rfl, ?_⟩
  obtain ⟨G, g1, g2⟩ := restrict h' fun b => decide (b ≠ hp.objs.size + 1)
  have gk : ∀ b, b ≠ hp.objs.size + 1 → G.get? b = h'.get? b := fun b hb => g1 b (decide_eq_true hb)
  have ge : G.get? (hp.objs.size + 1) = none := g2 _ (by simp)
  have kG : ∀ b o, hp.get? b = some o → G.get? b = some o := fun b o z => by
    rw [gk b (fun y => by rw [y, ne] at z; cases z)]
    exact k' b o z
  have hn : H1 dx = none := I1.hok.fresh nd
  have I2 : Inv X pins σ (upd H1 dx (.xd [(f, v)])) ⟨G, g, dr, tk', os⟩ := I1.laid (t' := tk') (a := dx) (o := .xd [(f, v)]) (h' := G) kG nd ⟨_, ns1_one (by rw [gk dx nde]; exact hd') (Prod.mk.inj hes).1, fun y => by
    show RelO (List.lookup y [(f, v)]) (if y = f then some u else none)
    by_cases hy : y = f
    · subst hy
      rw [List.lookup_cons, beq_self_eq_true, if_pos rfl]
      exact ru
    · rw [List.lookup_cons, beq_eq_false_iff_ne.mpr hy, if_neg hy]
      exact True.intro⟩
  refine ⟨hp.objs.size + 1, _, _, ⟨G, g, dr, tk', os⟩, _, .ref C, some dx, rfl, I2, fun b o z => ?_, ge, he', ⟨rfl, rfl⟩, rfl, rfl, ?_, rfl, I1.bare, raises_own T.be T.tyC, q dx hn⟩
  · by_cases hb : b = hp.objs.size + 1
    · rw [hb, ge] at z
      cases z
    · rw [← gk b hb]
      exact z
  · rw [upd_ne (Ne.symm nde)]
    exact I1.hok.fresh (Nat.le_succ _)
end
end Mp
end
section
set_option Elab.async false
set_option linter.all false
set_option maxRecDepth 100000
set_option maxHeartbeats 2000000
/-! MpTry: try with several clauses, with and without a name. -/
namespace Mp
open PySem PySem.Spec PyProof.Rows L2
/-- a clause: its class, the slot of its name, its suite's reading -/
abbrev Cl := Value × Option Nat × (Addr → Value → Option Addr → TS)
/-- the ends of a suite whose name goes behind it -/
def endsGo (D : Ends) : Option Nat → Ends
  | none => D
  | some i => { nx := fun σ H => D.nx (σ.set i none) H, rt := D.rt, bk := fun σ H => D.bk (σ.set i none) H, ct := fun σ H => D.ct (σ.set i none) H }
def startGo (a : Addr) (σ : L2.St) : Option Nat → L2.St
  | none => σ
  | some i => σ.set i (some (.ref a))
def wMix (K : PySem.W.Frag) (Wout : L2.WX) (D : Ends) : List Cl → L2.WX
  | [] => Wout
  | (c, io, ts) :: r => fun cls d σ H => ∃ b, PySem.W.exmOne K cls c = some b ∧ (b = true → ∀ a, H a = none → ts a cls d (endsGo D io) (startGo a σ io) H) ∧ (b = false → wMix K Wout D r cls d σ H)
/-- a suite under whatever caught exception -/
def SuOk (X : Cx) (su : List Stmt) (ts : Addr → Value → Option Addr → TS) : Prop :=
  ∀ (a : Addr) (oe : Obj) (cls : Value) (d : Option Addr) (pn : List (Addr × Obj)), Zc cls d oe → (∃ vs, oe.data = .fields vs) → PSs (X.suite a ((a, oe) :: pn)) su (ts a cls d)
inductive HxOk (X : Cx) : List ExceptHandler → List Cl → Prop
  | nil : HxOk X [] []
  | no {x : Str} {c : Value} {ts : Addr → Value → Option Addr → TS} {b : Stmt} {su : List Stmt} {np hp : Pos} {hds : List ExceptHandler} {l : List Cl} (hc : Names X x c) (hsu : SuOk X (b :: su) ts) (r : HxOk X hds l) :
      HxOk X (.ExceptHandler (some (.Name x np)) none (b :: su) hp :: hds) ((c, none, ts) :: l)
  | as {x n : Str} {i : Nat} {c : Value} {ts : Addr → Value → Option Addr → TS} {b : Stmt} {su : List Stmt} {np hp : Pos} {hds : List ExceptHandler} {l : List Cl} (hc : Names X x c) (hi : X.N[i]? = some n) (hn : X.env.kindOf n = some .local) (hsu : SuOk X (b :: su) ts) (r : HxOk X hds l) :
      HxOk X (.ExceptHandler (some (.Name x np)) (some n) (b :: su) hp :: hds) ((c, some i, ts) :: l)
section
variable {X : Cx} {pins pins' : List (Addr × Obj)} {σ σ' : L2.St} {H H' : Hp} {s s' sI : Shared} {D : Ends} {Wout : L2.WX} {a : Addr} {B : Heap} {cls : Value} {d : Option Addr}
/-- the name of a class is read while the exception at a is handled -/
theorem names_ld {x : Str} {c : Value} {np : Pos} {pn : List (Addr × Obj)} (hc : Names X x c) (I : Inv (X.suite a pn) [] σ H s) {Q : Value → Shared → Prop} {E : Value → Shared → Prop} (q : Q c s) : wpAny (model X.prog X.w) (X.A.mark (some (.ref a))) (eval (.Name x np) X.env) Q E s := by
  obtain ⟨g, e, hm | ⟨hm, hv, hn⟩⟩ := hc
  · exact ld_glob (X := X.suite a pn) I g hm q e
  · exact ld_blt (X := X.suite a pn) I g hm hv q hn e
/-- the suite of a clause, its name stored ahead and gone behind -/
theorem SuOk.run {su : List Stmt} {ts : Addr → Value → Option Addr → TS} {oe : Obj} {De : Ends} (h : SuOk X su ts) (hz : Zc cls d oe) (hd : ∃ vs, oe.data = .fields vs) (I : Inv (X.suite a ((a, oe) :: (X.pn ++ pins))) [] σ H s) (q : ts a cls d De σ H) {Q : Flow → Shared → Prop} {E : Value → Shared → Prop}
    (k : ∀ f s', SP (X.suite a ((a, oe) :: (X.pn ++ pins))) [] De f s' → Q f s') : wpAny (model X.prog X.w) (X.suite a ((a, oe) :: (X.pn ++ pins))).A (execs su X.env) Q E s :=
  wpAny_mono ((h a oe cls d (X.pn ++ pins) hz hd).run [] s σ H De I q) k fun _ _ z => z.elim
/-- an exception lands in this frame: what is known then -/
structure Caught (X : Cx) (pins : List (Addr × Obj)) (σ : L2.St) (H : Hp) (s : Shared) (sI : Shared) (B : Heap) (a : Addr) (cls : Value) (d : Option Addr) (h3 : Heap) : Prop where
  ok : X.Ok
  st : X.stack = X.env :: X.outer
  fr : X.env.frame = some X.env.locals
  J : Inv X pins σ H sI
  nb : ∀ b o, sI.heap.get? b = some o → b ∉ frs X.stack → B.get? b = some o
  up : sI.heap.UpToSlots h3
  fl : HandSPX.FlyingZ B (X.env :: X.outer) a (Zc cls d) h3
  na : H a = none
  os : s.os = sI.os
  ag : AllBare s.gens
theorem Caught.apart {h3 : Heap} (k : Caught X pins σ H s sI B a cls d h3) : ∃ oe vs, h3.get? a = some oe ∧ Zc cls d oe ∧ oe.data = .fields vs ∧ a ≠ X.env.locals ∧ a ∉ X.fs := by
  obtain ⟨oe, vs, e1, z, e2⟩ := k.fl.there
  have off : a ∉ frs (X.env :: X.outer) := fun hm => by
    obtain ⟨_, ob, e3, nf⟩ := k.fl.2.2.1.mem hm
    rw [e1] at e3
    cases e3
    exact nf _ e2
  refine ⟨oe, vs, e1, z, e2, fun e => off (List.mem_filterMap.mpr ⟨X.env, List.mem_cons_self, by rw [k.fr, e]⟩), fun hm => ?_⟩
  obtain ⟨en, h1, h2⟩ := List.mem_filterMap.mp hm
  exact off (List.mem_filterMap.mpr ⟨en, List.mem_cons_of_mem _ h1, h2⟩)
theorem Caught.inv {h3 : Heap} (k : Caught X pins σ H s sI B a cls d h3) : Inv X pins σ H { s with heap := h3 } := k.J.landed k.nb k.fl.1 k.up k.os k.ag
/-- no clause is left -/
theorem Caught.out {h3 : Heap} (k : Caught X pins σ H s sI B a cls d h3) (tk : Takes X Wout) (w : Wout cls d σ H) {Q : Flow → Shared → Prop} : wpAny (model X.prog X.w) X.A (handleBy (.ref a) X.env []) Q X.xe { s with heap := h3 } := by
  refine wpAny_handleBy_nil ?_
  obtain ⟨_, _, _, oe, vs, T, oT, ts', he, hz, hd, h1, hr⟩ := id k.fl
  unfold PySem.passOn
  refine wpAny_bind (wpAny_field he hd h1 ?_)
  rw [if_neg (show ¬ ((Value.ref T == Value.none) = true) by simp)]
  have away : wpAny (model X.prog X.w) X.A (setFlight (.ref a) X.env.frame) (fun _ u => wpAny (model X.prog X.w) X.A (throw (.ref a) : Sem Flow) Q X.xe u) X.xe { s with heap := h3 } := by
    rw [k.fr]
    refine HandSPX.setFlight_upZ k.fl fun h5 q5 up5 => wpAny_throw (tk _ _ ?_)
    exact ⟨a, B, sI, pins, σ, H, cls, d, rfl, k.J, k.nb, k.up.trans up5, .inr (.inr (by rw [k.st]; exact q5)), k.na, k.os, k.ag, w⟩
  first
    | exact wpAny_bind (wpAny_pure (wpAny_bind away))
    | exact wpAny_bind away
/-- the clauses, one after the other -/
theorem Caught.clauses {h3 : Heap} (hN : X.N.Nodup) (k : Caught X pins σ H s sI B a cls d h3) (tk : Takes X Wout) {hds : List ExceptHandler} {l : List Cl} (hx : HxOk X hds l) (w : wMix X.K Wout D l cls d σ H) :
    wpAny (model X.prog X.w) X.A (handleBy (.ref a) X.env hds) (SP X pins D) X.xe { s with heap := h3 } := by
  obtain ⟨oe, vs, he, hz, hd, nL, nF⟩ := k.apart
  have I3 := k.inv
  have S3 := I3.suite he hd k.na nL nF
  have LT : PySem.W.Looks (model X.prog X.w) h3 (typeOf (.ref a)) cls := fun A' Q' E' s1 kk q => wpAny_typeOf_ref (kk _ _ he) (by rw [hz.1]; exact q)
  induction hx with
  | nil => exact k.out tk w
  | @no x c ts b su np hp hds l hc hsu r ih =>
    obtain ⟨t, et, yes, not⟩ := w
    refine wpAny_handleBy_cons (codeAny_handlers_test (names_ld hc S3 ((PySem.W.exm_one (M := model X.prog X.w) I3.kIn LT et).here ?_))) (by intro z; cases z)
    cases t with
    | false => exact ih (not rfl)
    | true =>
      refine codeAny_handlers_suite (HandSPX.lands_againZ k.fl fun h4 fl4 up4 => ?_)
      have k4 : Caught X pins σ H s sI B a cls d h4 := { k with up := k.up.trans up4, fl := fl4 }
      obtain ⟨oe4, vs4, he4, hz4, hd4, _, _⟩ := k4.apart
      refine SuOk.run (pins := pins) hsu hz4 ⟨_, hd4⟩ (k4.inv.suite he4 hd4 k.na nL nF) (yes rfl a k.na) fun f s6 hsp => ?_
      cases f with
      | next => obtain ⟨τ, H6, J6, q⟩ := hsp; exact ⟨τ, H6, J6.unsuite k.ok, q⟩
      | brk => obtain ⟨τ, H6, J6, q⟩ := hsp; exact ⟨τ, H6, J6.unsuite k.ok, q⟩
      | cont => obtain ⟨τ, H6, J6, q⟩ := hsp; exact ⟨τ, H6, J6.unsuite k.ok, q⟩
      | ret u => obtain ⟨v, τ, H6, J6, rv, q⟩ := hsp; exact ⟨v, τ, H6, J6.unsuite k.ok, rv, q⟩
  | @as x n i c ts b su np hp hds l hc hi hn hsu r ih =>
    obtain ⟨t, et, yes, not⟩ := w
    refine wpAny_handleBy_cons (codeAny_handlers_test (names_ld hc S3 ((PySem.W.exm_one (M := model X.prog X.w) I3.kIn LT et).here ?_))) (by intro z; cases z)
    cases t with
    | false => exact ih (not rfl)
    | true =>
      refine codeAny_handlers_suite_as (HandSPX.lands_againZ k.fl fun h4 fl4 up4 => ?_)
      have k4 : Caught X pins σ H s sI B a cls d h4 := { k with up := k.up.trans up4, fl := fl4 }
      obtain ⟨oe4, vs4, he4, hz4, hd4, _, _⟩ := k4.apart
      refine store_ok (X := X.suite a ((a, oe4) :: (X.pn ++ pins))) (v := .ref a) (k4.inv.suite he4 hd4 k.na nL nF) hN hi (.inl hn) rfl (fun s5 S5 => ?_) (.inr hn)
      refine SuOk.run (pins := pins) hsu hz4 ⟨_, hd4⟩ S5 (yes rfl a k.na) fun f s6 hsp => ?_
      cases f with
      | next => obtain ⟨τ, H6, J6, q⟩ := hsp; exact gone_ok (J6.unsuite k.ok) hN hi hn fun s7 J7 => ⟨_, _, J7, q⟩
      | brk => obtain ⟨τ, H6, J6, q⟩ := hsp; exact gone_ok (J6.unsuite k.ok) hN hi hn fun s7 J7 => ⟨_, _, J7, q⟩
      | cont => obtain ⟨τ, H6, J6, q⟩ := hsp; exact gone_ok (J6.unsuite k.ok) hN hi hn fun s7 J7 => ⟨_, _, J7, q⟩
      | ret u => obtain ⟨v, τ, H6, J6, rv, q⟩ := hsp; exact gone_ok (J6.unsuite k.ok) hN hi hn fun s7 J7 => ⟨_, _, _, J7, rv, q⟩
/-- try, with clauses of both forms -/
theorem ps_try_mix {body : List Stmt} {hds : List ExceptHandler} {l : List Cl} {pos : Pos} {tb : L2.WX → TS} (hst : X.stack = X.env :: X.outer) (hf : X.env.frame = some X.env.locals) (hN : X.N.Nodup) (tk : Takes X Wout) (hne : hds ≠ [])
    (hb : ∀ (W : L2.WX) (pn : List (Addr × Obj)) (xe : Value → Shared → Prop), Takes (X.tr pn xe) W → PassesOwn (model X.prog X.w) X.A X.env xe → PSs (X.tr pn xe) body (tb W))
    (hx : HxOk X hds l) : PS X (.Try body hds [] [] pos) (fun D σ H => tb (wMix X.K Wout D l) D σ H) := by
  refine ⟨fun pins s σ H D I h => ?_⟩
  have ok := I.ok
  obtain ⟨h0, hr, rfl⟩ : ∃ h0 hr, hds = h0 :: hr := by
    cases hds with
    | nil => exact absurd rfl hne
    | cons h0 hr => exact ⟨h0, hr, rfl⟩
  refine wpAny_Try_except ?_
  have run := (hb (wMix X.K Wout D l) (X.pn ++ pins) (fun e s1 => wpAny (model X.prog X.w) X.A (noteFrame e X.env) (fun _ s2 => wpAny (model X.prog X.w) X.A (setFlight e none) (fun _ s3 => wpAny (model X.prog X.w) X.A (handleBy e X.env (h0 :: hr)) (SP X pins D) X.xe s3) X.xe s2) X.xe s1) (fun u s' xx => ?_) PassesOwn.looking).run [] s σ H D (I.toTry _) h
  · refine wpAny_mono run (fun f s1 q => ?_) fun e s1 q => q
    cases f with
    | next => obtain ⟨τ, H1, J, q⟩ := q; exact wpAny_execs_nil ⟨τ, H1, J.ofTry ok, q⟩
    | brk => obtain ⟨τ, H1, J, q⟩ := q; exact ⟨τ, H1, J.ofTry ok, q⟩
    | cont => obtain ⟨τ, H1, J, q⟩ := q; exact ⟨τ, H1, J.ofTry ok, q⟩
    | ret u => obtain ⟨v, τ, H1, J, rv, q⟩ := q; exact ⟨v, τ, H1, J.ofTry ok, rv, q⟩
  · obtain ⟨a, B, sI, pins1, τ, H1, cls, d, rfl, J, nb, up, sky, na, os, ag, w⟩ := xx
    show wpAny (model X.prog X.w) X.A (noteFrame (.ref a) X.env) _ _ _
    refine Sky.land Zc.steady (by rw [ok.frames, hst]) hf (by rw [← hst]; exact sky) fun h3 fl3 up3 => ?_
    exact Caught.clauses (pins := pins) hN ⟨ok, hst, hf, J.ofTry ok, nb, up.trans up3, fl3, na, os, ag⟩ tk hx w
end
end Mp
end
section
set_option Elab.async false
set_option linter.all false
set_option maxRecDepth 100000
set_option maxHeartbeats 2000000
/-! MpExc: raise, try, the attribute of a caught exception. -/
namespace Mp
open PySem PySem.Spec PyProof.Rows L2
/-! ### pure data mean the same whatever the constants -/
section
variable {c c' : Cn} {F : Hp} {n : Nat}
theorem rpL_of (h : ∀ d v, D.pure n d = true → Rp c F d v → Rp c' F d v) : ∀ {xs : List D} {vs : List V}, xs.all (D.pure n) = true → RpL c F xs vs → RpL c' F xs vs
  | [], vs, _, r => by unfold RpL at r ⊢; exact r
  | x :: xs, vs, p, r => by
    unfold RpL at r ⊢
    obtain ⟨v, w, e, h1, h2⟩ := r
    rw [List.all_cons, Bool.and_eq_true] at p
    exact ⟨v, w, e, h _ _ p.1 h1, rpL_of h p.2 h2⟩
theorem rpK_of (h : ∀ d v, D.pure n d = true → Rp c F d v → Rp c' F d v) : ∀ {kvs : List (D × D)} {q : List (Key × V)}, (kvs.all fun p => D.pure n p.1 && D.pure n p.2) = true → RpK c F kvs q → RpK c' F kvs q
  | [], q, _, r => by unfold RpK at r ⊢; exact r
  | (k, d) :: xs, q, p, r => by
    unfold RpK at r ⊢
    obtain ⟨key, v, w, e, h0, h1, h2⟩ := r
    rw [List.all_cons, Bool.and_eq_true, Bool.and_eq_true] at p
    exact ⟨key, v, w, e, h0, h _ _ p.1.2 h1, rpK_of h p.2 h2⟩
theorem rpT_of (h : ∀ d v, D.pure n d = true → Rp c F d v → Rp c' F d v) : ∀ {kvs : List (D × D)} {q : List (List Key × V)}, (kvs.all fun p => D.pure n p.1 && D.pure n p.2) = true → RpT c F kvs q → RpT c' F kvs q
  | [], q, _, r => by unfold RpT at r ⊢; exact r
  | (k, d) :: xs, q, p, r => by
    unfold RpT at r ⊢
    obtain ⟨ys, key, v, w, e, h0, h0', h1, h2⟩ := r
    rw [List.all_cons, Bool.and_eq_true, Bool.and_eq_true] at p
    exact ⟨ys, key, v, w, e, h0, h0', h _ _ p.1.2 h1, rpT_of h p.2 h2⟩
end
theorem rp_pure {c c' : Cn} {F : Hp} (hK : c'.K = c.K) (hD : c'.KD = c.KD) : ∀ (n : Nat) (d : D) (v : V), D.pure n d = true → Rp c F d v → Rp c' F d v
  | 0, d, v, p, r => by
    cases d <;> first | cases p; done | (unfold Rp at r ⊢; exact r)
  | n + 1, d, v, p, r => by
    have ih := rp_pure (F := F) hK hD n
    cases d with
    | tup xs =>
      unfold Rp at r ⊢
      obtain ⟨a, vs, e, q, r⟩ := r
      exact ⟨a, vs, e, by rw [hK]; exact q, rpL_of ih p r⟩
    | lst xs =>
      unfold Rp at r ⊢
      obtain ⟨a, vs, e, q, r⟩ := r
      exact ⟨a, vs, e, q, rpL_of ih p r⟩
    | dic kvs =>
      unfold Rp at r ⊢
      obtain ⟨a, e, r⟩ := r
      refine ⟨a, e, ?_⟩
      rcases r with ⟨q, z, r⟩ | ⟨q, z, r⟩
      · exact .inl ⟨q, z, rpK_of ih p r⟩
      · exact .inr ⟨q, z, r.1, rpT_of ih p r.2⟩
    | _ => first | cases p; done | (unfold Rp at r ⊢; exact r)
theorem ob_pure {c c' : Cn} {F H : Hp} {a : Addr} {d : D} (hK : c'.K = c.K) (hD : c'.KD = c.KD) {n : Nat} (p : D.pure n d = true) (h : ObAt c F H a d) : ObAt c' F H a d := by
  cases n with
  | zero => cases d <;> first | exact h.elim | cases p
  | succ n =>
    have ih := rp_pure (F := F) hK hD n
    cases d with
    | lst xs =>
      obtain ⟨vs, e, r⟩ := h
      exact ⟨vs, e, rpL_of ih p r⟩
    | dic kvs =>
      rcases h with ⟨q, z, r⟩ | ⟨q, z, r⟩
      · exact .inl ⟨q, z, rpK_of ih p r⟩
      · exact .inr ⟨q, z, ⟨r.1, rpT_of ih p r.2⟩⟩
    | _ => exact h.elim

/-! ### the activation seen from a later place -/
def Act.at (A : Act) (F : Hp) : Act := { A with F0 := F }
def Act.cat (A : Act) (F : Hp) (a : Addr) (k : Nat) (d : D) : Act := { A with F0 := F, c := { A.c with Ξ := fun a' k' d' => a' = a ∧ k' = k ∧ d' = d } }
section
variable {A : Act} {s s' : S} {σ σ' : L2.St} {H H' : Hp} {ω ω' : Wd}
theorem SR.old0 (h : SR A s σ H ω) {a : Addr} {o : HO} (e : A.H0 a = some o) (n : ∀ ps, o ≠ .tbl ps) (k : ∃ u, ω.F a = some u) : ∃ v, A.F0 a = some v := by
  cases w : A.F0 a with
  | some v => exact ⟨v, rfl⟩
  | none =>
    obtain ⟨u, k⟩ := k
    have z := h.new a u k w
    exact (z.no e n).elim
theorem SR.at (h : SR A s σ H ω) : SR (A.at ω.F) s σ H ω :=
  ⟨Sm.refl _, fun a o e n => (by have n : ω.F a = none := n; rw [n] at e; cases e), h.sub, fun a o e n m => (h.fr a o e n m).imp id fun ⟨y1, ⟨u, y2⟩, y3⟩ => ⟨y1, (h.f0 _ _ y2).ex, y3⟩, h.old, h.ntb, h.tab, h.len, h.olen, h.slot, h.pds, h.stl, h.sts, h.nd, h.fre, h.own⟩
theorem SR.unat (h : SR A s σ H ω) (g : SR (A.at ω.F) s' σ' H' ω') : Sm ω.F ω'.F ∧ SR A s' σ' H' ω' :=
  ⟨g.f0, ⟨h.f0.trans g.f0, fun a o e n => by
    cases q : ω.F a with
    | none => exact g.new a o e q
    | some u => exact h.new a u q n, g.sub, fun a o e n m => (g.fr a o e n m).imp id fun ⟨y1, y2, y3⟩ => ⟨y1, h.old0 e n y2, y3⟩, g.old, g.ntb, g.tab, g.len, g.olen, g.slot, g.pds, g.stl, g.sts, g.nd, g.fre, g.own⟩⟩
theorem le_cat {a : Addr} {k : Nat} {d : D} {F : Hp} (hΞ : ∀ a k d, ¬ A.c.Ξ a k d) : A.c.Le (A.cat F a k d).c := ⟨rfl, rfl, rfl, fun _ _ h => h, fun _ _ _ h => h, fun a k d h => (hΞ a k d h).elim⟩
theorem ObAt.le {c c' : Cn} (l : c.Le c') {F : Hp} {a : Addr} {d : D} (h : ObAt c F H a d) : ObAt c' F H a d := by
  cases d with
  | lst xs =>
    obtain ⟨vs, e, r⟩ := h
    exact ⟨vs, e, r.mono l (Sm.refl _)⟩
  | dic kvs =>
    rcases h with ⟨q, z, r⟩ | ⟨q, z, r⟩
    · exact .inl ⟨q, z, r.mono l (Sm.refl _)⟩
    · exact .inr ⟨q, z, r.mono l (Sm.refl _)⟩
  | _ => exact h.elim
theorem Slot.le {c c' : Cn} (l : c.Le c') {F : Hp} {o : Option (D × Bool)} {a : Option Addr} {w : Option V} (h : Slot c F H o a w) : Slot c' F H o a w := by
  cases o with
  | none => exact h
  | some p =>
    obtain ⟨d, b⟩ := p
    cases b with
    | false =>
      obtain ⟨e, v, e1, r⟩ := h
      exact ⟨e, v, e1, r.mono l (Sm.refl _)⟩
    | true =>
      obtain ⟨b, e, e1, r⟩ := h
      exact ⟨b, e, e1, r.le l⟩
theorem SR.cat {a : Addr} {k : Nat} {d : D} (hΞ : ∀ a k d, ¬ A.c.Ξ a k d) (h : SR A s σ H ω) : SR (A.cat ω.F a k d) s σ H ω :=
  have g := h.at
  have l := le_cat (A := A) (F := ω.F) (a := a) (k := k) (d := d) hΞ
  ⟨g.f0, g.new, g.sub, g.fr, g.old, g.ntb, g.tab, g.len, g.olen, fun i o b w e1 e2 e3 => (g.slot i o b w e1 e2 e3).le l, fun p hp => (g.pds p hp).le l, g.stl, fun n b d e1 e2 => (g.sts n b d e1 e2).le l, g.nd, g.fre, g.own⟩
/-- back to the activation itself: the names are given up -/
theorem SR.uncat {a : Addr} {k : Nat} {d : D} (h : SR A s σ H ω) (g : SR (A.cat ω.F a k d) s' σ' H' ω') (ps : s'.st.all (D.pure PUD) = true) {pd : List (Addr × D)} (epd : ω'.pd = pd) (pp : ∀ p ∈ pd, D.pure PUD p.2 = true) :
    Sm ω.F ω'.F ∧ SR A ⟨List.replicate s'.ρ.length none, s'.st⟩ σ' H' ⟨ω'.F, List.replicate ω'.ow.length none, pd⟩ := by
  refine ⟨g.f0, ?_⟩
  subst epd
  have sub : ∀ b, b ∈ (⟨ω'.F, List.replicate ω'.ow.length none, ω'.pd⟩ : Wd).adr → b ∈ ω'.adr := fun b m => by
    unfold Wd.adr at m ⊢
    rw [filter_none] at m
    exact List.mem_append_right _ m
  have sub' : ∀ b, b ∈ (⟨ω'.F, List.replicate ω'.ow.length none, ω'.pd⟩ : Wd).adr ++ A.c.ι → b ∈ ω'.adr ++ A.c.ι := fun b m => by
    rcases List.mem_append.mp m with m | m
    · exact List.mem_append_left _ (sub b m)
    · exact List.mem_append_right _ m
  refine ⟨h.f0.trans g.f0, fun b o e n => ?_, g.sub, fun a o e n m => (g.fr a o e n m).imp id fun ⟨y1, y2, y3⟩ => ⟨y1, h.old0 e n y2, y3⟩, g.old, g.ntb, g.tab, ?_, ?_, fun i o b w e1 e2 e3 => ?_, fun p hp => ob_pure (c := (A.cat ω.F a k d).c) rfl rfl (pp p hp) (g.pds p hp), g.stl, fun n b d' e1 e2 => ?_, ?_, fun b hb => g.fre b (sub' b hb), fun b hb => g.own b (sub b hb)⟩
  · cases q : ω.F b with
    | none => exact g.new b o e q
    | some u => exact h.new b u q n
  · rw [List.length_replicate]
    exact g.len
  · rw [List.length_replicate]
    exact g.olen
  · obtain ⟨_, rfl⟩ := List.mem_replicate.mp (List.mem_of_getElem? e1)
    obtain ⟨_, rfl⟩ := List.mem_replicate.mp (List.mem_of_getElem? e2)
    exact rfl
  · exact ob_pure (c := (A.cat ω.F a k d).c) rfl rfl (List.all_eq_true.mp ps _ (List.mem_of_getElem? e2)) (g.sts n b d' e1 e2)
  · have nd := g.nd
    unfold Wd.adr at nd ⊢
    rw [filter_none]
    rw [List.append_assoc] at nd
    exact (List.nodup_append.mp nd).2.1
end

/-! ### raise -/
section
variable {E : CE} {A : Act} {W : L2.WX} {X : Cx}
theorem s_rais {C fI cc cda : Addr} {B i newId : String} {bmB : List Value} {sn gn f : PySem.Str} {x : PySem.Str} {p pos pos' : Pos} {ea : Expr} {fe : S → R (D × Bool)} {k : Nat} (T : Ini X.prog X.K C fI cc cda B i newId bmB sn gn f) (hsup : X.mg "super" = none) (hc : X.calm = true) (tk : Takes X W)
    (hr : Room 1 X.A) (hg : Gl X x) (hm : X.mg x = some (.ref C)) (hdb : (x == ("__debug__" : PySem.Str)) = false) (he : PE X ea (tE E A W fe)) (hs : noStar ea = true) (hk : k ∈ E.KS) (hC : E.CD k = C) (hA : E.AT k = f) :
    PS X (.Raise (some (.Call (.Name x p) [ea] [] pos)) none pos') (tS E A W fun s => (fe s).bind fun x s1 => .er (.exc k x.1) s1) := by
  refine ⟨fun pins t σ H D I h => (ps_raise hc tk (pmk_ini T hsup hr hg hm he hs hdb)).run pins t σ H D I ?_⟩
  obtain ⟨s, ω, sr, pd, q⟩ := h
  refine QSt.useV sr q.bind fun d o s1 v H1 ω1 z sm sr1 e1 r dx hn => ?_
  obtain ⟨sm2, sr2⟩ := sr1.fix (o := .xd [(f, v)]) hn (fun _ z => nomatch z)
  refine z (.ref C) (some dx) σ _ _ sr2 ⟨hk, by rw [hC], .inr ⟨dx, [(f, v)], v, rfl, upd_same, ?_, r.up sm2⟩⟩
  rw [hA, List.lookup_cons, beq_self_eq_true]
theorem s_raism {B newId initId : String} {bmB : List Value} {C : Addr} {x m : Str} {j : Nat} {p p2 pos pos' : Pos} {k : Nat} (F : ExcBaseFacts B newId initId bmB) (hx : PySem.W.excIn X.K C bmB newId = true) (hc : X.calm = true) (tk : Takes X W)
    (hg : Gl X x) (hm : X.mg x = some (.ref C)) (hdb : (x == ("__debug__" : PySem.Str)) = false) (kC : PySem.W.keepIn X.K (.ref C) = true) (r : Raises X (.ref C)) (hk : k ∈ E.KS) (hC : E.CD k = C) :
    PS X (.Raise (some (.Call (.Name x p) [.Constant (.str m) j p2] [] pos)) none pos') (tS E A W fun s => .er (.exc k (.cls 0)) s) := by
  refine ⟨fun pins t σ H D I h => (ps_raise hc tk (pmk_own F hx hm kC r hg hdb)).run pins t σ H D I ?_⟩
  obtain ⟨s, ω, sr, pd, q⟩ := h
  exact q (.ref C) none σ H ω sr ⟨hk, by rw [hC], .inl rfl⟩
/-! ### try -/
def NoW : L2.WX := fun _ _ _ _ => False
/-- a handler: its class, its name's slot, its suite -/
abbrev HL := List (Nat × Option Nat × (S → R Fl))
def ehL (G : Ev) : HL → Nat → D → S → R Fl
  | [], k, v, s => .er (.exc k v) s
  | (c, i, f) :: r, k, v, s => if G.sub k c then (match i with
      | none => (f s).quiet
      | some i => if i < s.ρ.length then leave (f (s.put i (.exc k v) false)) else .no)
    else ehL G r k v s
/-- the activation of a suite with a name -/
def Cat (E : CE) (A A' : Act) (a : Addr) (cls : Value) (d : Option Addr) : Prop := ∃ F k v, A' = A.cat F a k v ∧ XR E A.c F k v cls d
/-- what a suite reads as -/
def tHs (E : CE) (A : Act) : Option Nat → (S → R Fl) → Addr → Value → Option Addr → TS
  | none, f => fun _ _ _ => tS E A NoW f
  | some _, f => fun a cls d D σ H => ∃ A', Cat E A A' a cls d ∧ tS E A' NoW f D σ H
inductive HsOk (E : CE) (A : Act) (X : Cx) : List ExceptHandler → HL → Prop
  | nil : HsOk E A X [] []
  | no {x : Str} {c : Nat} {f : S → R Fl} {b : Stmt} {su : List Stmt} {np hp : Pos} {hds : List ExceptHandler} {l : HL} (hc : Names X x (.ref (E.CD c)))
      (hsu : ∀ a oe cls d pn, Zc cls d oe → (∃ vs, oe.data = .fields vs) → PSs (X.suite a ((a, oe) :: pn)) (b :: su) (tS E A NoW f)) (r : HsOk E A X hds l) :
      HsOk E A X (.ExceptHandler (some (.Name x np)) none (b :: su) hp :: hds) ((c, none, f) :: l)
  | as {x n : Str} {i c : Nat} {f : S → R Fl} {b : Stmt} {su : List Stmt} {np hp : Pos} {hds : List ExceptHandler} {l : HL} (hc : Names X x (.ref (E.CD c))) (hi : X.N[i]? = some n) (hn : X.env.kindOf n = some .local)
      (hsu : ∀ a oe cls d pn A', Zc cls d oe → (∃ vs, oe.data = .fields vs) → Cat E A A' a cls d → PSs (X.suite a ((a, oe) :: pn)) (b :: su) (tS E A' NoW f)) (r : HsOk E A X hds l) :
      HsOk E A X (.ExceptHandler (some (.Name x np)) (some n) (b :: su) hp :: hds) ((c, some i, f) :: l)
def clL (E : CE) (A : Act) (l : HL) : List Cl := l.map fun p => (.ref (E.CD p.1), p.2.1, tHs E A p.2.1 p.2.2)
theorem HsOk.hx {hds : List ExceptHandler} {l : HL} (h : HsOk E A X hds l) : HxOk X hds (clL E A l) := by
  induction h with
  | nil => exact .nil
  | no hc hsu r ih => exact .no hc (fun a oe cls d pn hz hd => hsu a oe cls d pn hz hd) ih
  | as hc hi hn hsu r ih => exact .as hc hi hn (fun a oe cls d pn hz hd => ⟨fun pins t σ H D I ⟨A', hA, q⟩ => (hsu a oe cls d pn A' hz hd hA).run pins t σ H D I q⟩) ih
theorem QSt.ofQuiet {W' : L2.WX} {α : Type} {r : R α} {P : α → S → Prop} (h : QSt E A W r.quiet P) : QSt E A W' r P := by
  cases r with
  | ok a s' => exact h
  | er x s' => exact h.elim
  | no => exact h.elim
/-- the clauses of an exception that has left the body -/
theorem catch_ok {G : Ev} {Dn : Ends} {ω0 : Wd} {cls : Value} {od : Option Addr} {k : Nat} {v : D} {s : S} {σ : L2.St} {H : Hp} {ω : Wd} (hΞ : ∀ a k d, ¬ A.c.Ξ a k d) (sr : SR A s σ H ω) (sm : Sm ω0.F ω.F) (x : XR E A.c ω.F k v cls od) :
    ∀ {l : HL}, (∀ p ∈ l, ∀ k ∈ E.KS, PySem.W.exmOne X.K (.ref (E.CD k)) (.ref (E.CD p.1)) = some (G.sub k p.1)) → QSt E A W (ehL G l k v s) (fun fl s' => EndsOk A ω0 fl s' Dn) → wMix X.K W Dn (clL E A l) cls od σ H
  | [], _, q => q cls od σ H ω sr x
  | (c, i, f) :: l, hK, q => by
    obtain ⟨hk, rfl, xx⟩ := id x
    refine ⟨G.sub k c, hK _ List.mem_cons_self k hk, fun e a na => ?_, fun e => catch_ok hΞ sr sm x (fun p hp => hK p (List.mem_cons_of_mem _ hp)) (by unfold ehL at q; rw [e] at q; exact q)⟩
    unfold ehL at q
    rw [e, if_pos rfl] at q
    cases i with
    | none =>
      have sr0 := sr.drop (pd := []) (ps := ω.pd) (by simp)
      exact ⟨s, _, sr0, rfl, QSt.mono q.ofQuiet fun fl s' _ z => z.re sm⟩
    | some i =>
      have q : QSt E A W (if i < s.ρ.length then leave (f (s.put i (.exc k v) false)) else .no) (fun fl s' => EndsOk A ω0 fl s' Dn) := q
      by_cases hl : i < s.ρ.length
      · rw [if_pos hl] at q
        have sr0 := sr.drop (pd := []) (ps := ω.pd) (by simp)
        have sr1 := sr0.cat (a := a) (k := k) (d := v) hΞ
        have sr2 := sr1.putV (i := i) (d := .exc k v) (v := .ref a) ⟨a, rfl, rfl, rfl, rfl⟩
        refine ⟨A.cat ω.F a k v, ⟨ω.F, k, v, rfl, x⟩, _, _, sr2, rfl, ?_⟩
        show QSt E _ NoW (f (s.put i (.exc k v) false)) _
        cases ef : f (s.put i (.exc k v) false) with
        | ok fl s' =>
          rw [ef] at q
          cases fl with
          | rt d o =>
            have q : QSt E A W (if d.pure PUD && s'.st.all (D.pure PUD) then .ok (.rt d o) ⟨List.replicate s'.ρ.length none, s'.st⟩ else .no) (fun fl s' => EndsOk A ω0 fl s' Dn) := q
            by_cases hp : (d.pure PUD && s'.st.all (D.pure PUD)) = true
            · rw [if_pos hp] at q
              rw [Bool.and_eq_true] at hp
              intro v' σ' H' ω' sm' sr' out
              cases o with
              | false =>
                obtain ⟨r, e'⟩ := out
                obtain ⟨sm2, g⟩ := sr0.uncat (ω := { ω with pd := [] }) sr' hp.2 e' (fun p hp => by cases hp)
                exact q v' σ' H' ⟨ω'.F, List.replicate ω'.ow.length none, []⟩ (sm.trans sm2) g ⟨rp_pure (c := (A.cat ω.F a k v).c) (c' := A.c) rfl rfl PUD d v' hp.1 r, rfl⟩
              | true =>
                obtain ⟨b, rfl, e'⟩ := out
                obtain ⟨sm2, g⟩ := sr0.uncat (ω := { ω with pd := [] }) sr' hp.2 e' (fun p hp' => by
                  have hp' : p ∈ [(b, d)] := hp'
                  obtain rfl := List.mem_singleton.mp hp'
                  exact hp.1)
                exact q _ σ' H' ⟨ω'.F, List.replicate ω'.ow.length none, [(b, d)]⟩ (sm.trans sm2) g ⟨b, rfl, rfl⟩
            · rw [if_neg hp] at q
              exact q.elim
          | nx => exact q.elim
          | bk => exact q.elim
          | ct => exact q.elim
        | er x' s' => rw [ef] at q; exact q.elim
        | no => rw [ef] at q; exact q.elim
      · rw [if_neg hl] at q
        exact q.elim
theorem EndsOk.at {ω : Wd} {fl : Fl} {s : S} {σ : L2.St} {H : Hp} {s' : S} {D : Ends} (sr : SR A s σ H ω) (h : EndsOk A ω fl s' D) : EndsOk (A.at ω.F) ω fl s' D := by
  cases fl with
  | nx => exact fun σ' H' ω' sm g pd => h σ' H' ω' sm (sr.unat g).2 pd
  | bk => exact fun σ' H' ω' sm g pd => h σ' H' ω' sm (sr.unat g).2 pd
  | ct => exact fun σ' H' ω' sm g pd => h σ' H' ω' sm (sr.unat g).2 pd
  | rt d o => exact fun v σ' H' ω' sm g out => h v σ' H' ω' sm (sr.unat g).2 (by cases o <;> exact out)
theorem s_try {G : Ev} {body : List Stmt} {hds : List ExceptHandler} {l : HL} {pos : Pos} {fb : S → R Fl} (hΞ : ∀ a k d, ¬ A.c.Ξ a k d) (hst : X.stack = X.env :: X.outer) (hf : X.env.frame = some X.env.locals) (hN : X.N.Nodup) (tk : Takes X W) (hne : hds ≠ [])
    (hK : ∀ p ∈ l, ∀ k ∈ E.KS, PySem.W.exmOne X.K (.ref (E.CD k)) (.ref (E.CD p.1)) = some (G.sub k p.1))
    (hb : ∀ (F : Hp) (W : L2.WX) (pn : List (Addr × Obj)) (xe : Value → Shared → Prop), Sm A.F0 F → Takes (X.tr pn xe) W → PassesOwn (model X.prog X.w) X.A X.env xe → PSs (X.tr pn xe) body (tS E (A.at F) W fb))
    (hh : HsOk E A X hds l) : PS X (.Try body hds [] [] pos) (tS E A W fun s => match fb s with | .er (.exc k v) s1 => ehL G l k v s1 | r => r) := by
  refine ⟨fun pins t σ H D I h => (ps_try_mix (tb := fun W D σ H => ∃ F, Sm A.F0 F ∧ tS E (A.at F) W fb D σ H) hst hf hN tk hne (fun W pn xe tk1 po => ⟨fun pins t σ H D I ⟨F, sm, q⟩ => (hb F W pn xe sm tk1 po).run pins t σ H D I q⟩) hh.hx).run pins t σ H D I ?_⟩
  obtain ⟨s, ω, sr, pd, q⟩ := h
  refine ⟨ω.F, sr.f0, s, ω, sr.at, pd, ?_⟩
  dsimp only at q
  cases e : fb s with
  | ok fl s1 =>
    rw [e] at q
    exact EndsOk.at (s' := s1) sr q
  | er x s1 =>
    rw [e] at q
    cases x with
    | exc k v =>
      intro cls od σ' H' ω' g x
      obtain ⟨sm, g⟩ := sr.unat g
      exact catch_ok hΞ g sm x hK q
    | _ => exact q.elim
  | no =>
    rw [e] at q
    exact q.elim
/-! ### e.attr -/
theorem e_attr (hΞ : ∀ a k d, ¬ A.c.Ξ a k d) {G : Ev} {a : Addr} {oe : Obj} {cls : Value} {d : Option Addr} {pn : List (Addr × Obj)} {e : Expr} {fe : S → R (D × Bool)} {pos : Pos} {nm : Nat} {n : Str} {A' : Act} (hc : Cat E A A' a cls d) (T : ∀ k ∈ E.KS, G.atr k = nm → XfC X.K (E.CD k) ∧ PySem.W.findIn X.K (.ref (E.CD k)) n = some none ∧ E.AT k = n)
    (hz : Zc cls d oe) (hf : ∃ vs, oe.data = .fields vs) (he : PE (X.suite a ((a, oe) :: pn)) e (tE E A' NoW fe)) (hb : attributeBase e n X.env (eval e X.env) = eval e X.env) :
    PE (X.suite a ((a, oe) :: pn)) (.Attribute e n pos) (tE E A' NoW fun s => (fe s).bind fun x s1 => match x.1 with | .exc k v => if G.atr k = nm && !v.isCls then .ok (v, false) s1 else .no | _ => .no) := by
  refine ⟨fun pins t σ H Q I h => ?_⟩
  obtain ⟨s, ω, sr, q⟩ := h
  obtain ⟨F, k0, v0, rfl, x⟩ := hc
  have q := QR.bind q
  -- what the name gives
  have key : ∀ (R : VK), (G.atr k0 = nm → v0.isCls = false → ∀ H', (∃ ω', Sm ω.F ω'.F ∧ SR (A.cat F a k0 v0) (match fe s with | .ok _ s1 => s1 | _ => s) σ H' ω' ∧ ω'.pd = ω.pd) →
      (∀ u ω', Sm ω.F ω'.F → SR (A.cat F a k0 v0) (match fe s with | .ok _ s1 => s1 | _ => s) σ H' ω' → ω'.pd = ω.pd → Rp (A.cat F a k0 v0).c ω'.F v0 u → Q u H') → R (.ref a) H') → tE E (A.cat F a k0 v0) NoW fe σ H R := fun R kk => by
    refine QR.val sr q fun d0 o s1 u H1 ω1 ef z sm1 sr1 e1 r => ?_
    cases d0 with
    | exc k v =>
      unfold Rp at r
      obtain ⟨b, rfl, rfl, rfl, rfl⟩ := r
      have z : QR E (A.cat F b k v) NoW σ (if G.atr k = nm && !v.isCls then .ok (v, false) s1 else .no) fun x s' => ∀ v' H' ω', Sm ω.F ω'.F → SR (A.cat F b k v) s' σ H' ω' → Out (A.cat F b k v).c ω ω' x.1 x.2 v' → Q v' H' := z
      by_cases hp : (decide (G.atr k = nm) && !v.isCls) = true
      · rw [if_pos hp] at z
        rw [Bool.and_eq_true, Bool.not_eq_true'] at hp
        refine kk (of_decide_eq_true hp.1) hp.2 H1 ⟨ω1, sm1, by rw [ef]; exact sr1, e1⟩ fun u ω' sm' sr' e' r' => ?_
        rw [ef] at sr'
        exact z u H1 ω' sm' sr' ⟨r', e'⟩
      · rw [if_neg hp] at z
        exact z.elim
    | _ => exact z.elim
  obtain ⟨hk, rfl, xx⟩ := id x
  by_cases ha : G.atr k0 = nm
  · obtain ⟨T1, T2, T3⟩ := T k0 hk ha
    refine (pe_xf T1 T2 hz hf he hb).run pins t σ H Q I (key _ fun _ hn H1 ⟨ω1, sm1, sr1, e1⟩ kk => ⟨rfl, rfl, ?_⟩)
    rcases xx with xx | ⟨dx, fs, v, h1, h2, h3, h4⟩
    · rw [xx] at hn
      cases hn
    · refine ⟨dx, fs, v, h1, ?_, by rw [← T3]; exact h3, kk v ω1 sm1 sr1 e1 ?_⟩
      · exact (sr1.sub dx _ ((sr1.f0 dx _ h2).exact id)).exact id
      · exact (h4.mono (le_cat hΞ) (Sm.refl _)).up sr1.f0
  · refine attr_of hb (thn (he.run pins t σ H _ I (key (fun _ _ => False) fun z => (ha z).elim)) fun u s1 hh => ?_)
    obtain ⟨_, _, _, _, z⟩ := hh
    exact z.elim
end
end Mp
end
section
set_option Elab.async false
set_option linter.all false
set_option maxRecDepth 100000
set_option maxHeartbeats 2000000
/-! MpLend: objects handed down by reference. -/
namespace Mp
open PySem PySem.Spec PyProof.Rows L2
/-- c' knows more than c, but nothing else of what c knows -/
structure Cn.Bk (c c' : Cn) : Prop where
  K : c.K = c'.K
  AD : c.AD = c'.AD
  KD : c.KD = c'.KD
  ι : ∀ (n : Nat) (a b : Addr), c.ι[n]? = some a → c'.ι[n]? = some b → b = a
  Γ : ∀ (n : Nat) (ds : List D) (f g : Addr), c.Γ n ds f → c'.Γ n ds g → c.Γ n ds g
  Ξ : ∀ (a b : Addr) (k : Nat) (d : D), c.Ξ a k d → c'.Ξ b k d → c.Ξ b k d
mutual
/-- what has a value in c, has its values in c' in c -/
theorem Rp.back {c c' : Cn} {F0 F : Hp} (l : c.Bk c') : ∀ {d : D} {v0 v : V}, Rp c F0 d v0 → Rp c' F d v → Rp c F d v
  | .non, _, _, _, h => h
  | .bl _, _, _, _, h => h
  | .int _, _, _, _, h => h
  | .str _, _, _, _, h => h
  | .tup xs, _, v, w, h => by
    unfold Rp at w h ⊢
    obtain ⟨_, _, _, _, w⟩ := w
    obtain ⟨a, vs, e, q, r⟩ := h
    exact ⟨a, vs, e, by rw [l.K]; exact q, RpL.back l w r⟩
  | .lst xs, _, v, w, h => by
    unfold Rp at w h ⊢
    obtain ⟨_, _, _, _, w⟩ := w
    obtain ⟨a, vs, e, q, r⟩ := h
    exact ⟨a, vs, e, q, RpL.back l w r⟩
  | .dic kvs, _, v, w, h => by
    unfold Rp at w h ⊢
    obtain ⟨_, _, w⟩ := w
    obtain ⟨a, e, h⟩ := h
    refine ⟨a, e, ?_⟩
    rcases h with ⟨q, z, r⟩ | ⟨q, z, n, r⟩
    · refine .inl ⟨q, z, ?_⟩
      rcases w with ⟨_, _, w⟩ | ⟨_, _, _, w⟩
      · exact RpK.back l (.inl ⟨_, w⟩) r
      · exact RpK.back l (.inr ⟨_, w⟩) r
    · refine .inr ⟨q, z, n, ?_⟩
      rcases w with ⟨_, _, w⟩ | ⟨_, _, _, w⟩
      · exact RpT.back l (.inl ⟨_, w⟩) r
      · exact RpT.back l (.inr ⟨_, w⟩) r
  | .gdc kvs, _, v, w, h => by
    unfold Rp at w h ⊢
    obtain ⟨_, _, _, _, w⟩ := w
    obtain ⟨a, q, e, h, r⟩ := h
    exact ⟨a, q, e, by rw [l.KD]; exact h, RpK.back l (.inl ⟨_, w⟩) r⟩
  | .ref n, _, v, w, h => by
    unfold Rp at w h ⊢
    obtain ⟨a, e1, _⟩ := w
    obtain ⟨b, e2, e3⟩ := h
    obtain rfl := l.ι n a b e1 e2
    exact ⟨b, e1, e3⟩
  | .fn n, _, v, w, h => by
    unfold Rp at h ⊢
    rw [l.AD]
    exact h
  | .cls _, _, _, w, _ => by unfold Rp at w; exact w.elim
  | .clo n ds, _, v, w, h => by
    unfold Rp at w h ⊢
    obtain ⟨f, _, w⟩ := w
    obtain ⟨g, e, h⟩ := h
    exact ⟨g, e, l.Γ _ _ _ _ w h⟩
  | .exc k d, _, v, w, h => by
    unfold Rp at w h ⊢
    obtain ⟨f, _, w⟩ := w
    obtain ⟨g, e, h⟩ := h
    exact ⟨g, e, l.Ξ _ _ _ _ w h⟩
theorem RpL.back {c c' : Cn} {F0 F : Hp} (l : c.Bk c') : ∀ {ds : List D} {v0 vs : List V}, RpL c F0 ds v0 → RpL c' F ds vs → RpL c F ds vs
  | [], _, _, _, h => h
  | d :: ds, v0, vs, w, h => by
    unfold RpL at w h ⊢
    obtain ⟨_, _, _, w1, w2⟩ := w
    obtain ⟨v, r, e, h1, h2⟩ := h
    exact ⟨v, r, e, Rp.back l w1 h1, RpL.back l w2 h2⟩
theorem RpK.back {c c' : Cn} {F0 F : Hp} (l : c.Bk c') : ∀ {kvs : List (D × D)} {q : List (Key × V)}, ((∃ q0, RpK c F0 kvs q0) ∨ ∃ q0, RpT c F0 kvs q0) → RpK c' F kvs q → RpK c F kvs q
  | [], _, _, h => by unfold RpK at h ⊢; exact h
  | (k, d) :: r, q, w, h => by
    unfold RpK at h ⊢
    obtain ⟨key, v, q', e, h0, h1, h2⟩ := h
    refine ⟨key, v, q', e, h0, ?_, ?_⟩
    · rcases w with ⟨_, w⟩ | ⟨_, w⟩
      · unfold RpK at w
        obtain ⟨_, _, _, _, _, w, _⟩ := w
        exact Rp.back l w h1
      · unfold RpT at w
        obtain ⟨_, _, _, _, _, _, _, w, _⟩ := w
        exact Rp.back l w h1
    · rcases w with ⟨_, w⟩ | ⟨_, w⟩
      · unfold RpK at w
        obtain ⟨_, _, _, _, _, _, w⟩ := w
        exact RpK.back l (.inl ⟨_, w⟩) h2
      · unfold RpT at w
        obtain ⟨_, _, _, _, _, _, _, _, w⟩ := w
        exact RpK.back l (.inr ⟨_, w⟩) h2
theorem RpT.back {c c' : Cn} {F0 F : Hp} (l : c.Bk c') : ∀ {kvs : List (D × D)} {q : List (List Key × V)}, ((∃ q0, RpK c F0 kvs q0) ∨ ∃ q0, RpT c F0 kvs q0) → RpT c' F kvs q → RpT c F kvs q
  | [], _, _, h => by unfold RpT at h ⊢; exact h
  | (k, d) :: r, q, w, h => by
    unfold RpT at h ⊢
    obtain ⟨xs, key, v, q', e, h0, h0', h1, h2⟩ := h
    refine ⟨xs, key, v, q', e, h0, h0', ?_, ?_⟩
    · rcases w with ⟨_, w⟩ | ⟨_, w⟩
      · unfold RpK at w
        obtain ⟨_, _, _, _, _, w, _⟩ := w
        exact Rp.back l w h1
      · unfold RpT at w
        obtain ⟨_, _, _, _, _, _, _, w, _⟩ := w
        exact Rp.back l w h1
    · rcases w with ⟨_, w⟩ | ⟨_, w⟩
      · unfold RpK at w
        obtain ⟨_, _, _, _, _, _, w⟩ := w
        exact RpT.back l (.inl ⟨_, w⟩) h2
      · unfold RpT at w
        obtain ⟨_, _, _, _, _, _, _, _, w⟩ := w
        exact RpT.back l (.inr ⟨_, w⟩) h2
end
theorem ObAt.back {c c' : Cn} {F0 F H0 H : Hp} {a0 a : Addr} {d : D} (l : c.Bk c') (w : ObAt c F0 H0 a0 d) (h : ObAt c' F H a d) : ObAt c F H a d := by
  cases d with
  | lst xs =>
    obtain ⟨_, _, w⟩ := w
    obtain ⟨vs, e, r⟩ := h
    exact ⟨vs, e, w.back l r⟩
  | dic kvs =>
    have w : (∃ q0, RpK c F0 kvs q0) ∨ ∃ q0, RpT c F0 kvs q0 := by
      rcases w with ⟨q, _, w⟩ | ⟨q, _, w⟩
      · exact .inl ⟨q, w⟩
      · exact .inr ⟨q, w.2⟩
    rcases h with ⟨q, z, r⟩ | ⟨q, z, r⟩
    · exact .inl ⟨q, z, RpK.back l w r⟩
    · exact .inr ⟨q, z, r.1, RpT.back l w r.2⟩
  | _ => exact w.elim
theorem Slot.back {c c' : Cn} {F0 F H0 H : Hp} {o : Option (D × Bool)} {a0 a : Option Addr} {w0 w : Option V} (l : c.Bk c') (x : Slot c F0 H0 o a0 w0) (h : Slot c' F H o a w) : Slot c F H o a w := by
  cases o with
  | none => exact h
  | some p =>
    obtain ⟨d, b⟩ := p
    cases b with
    | false =>
      obtain ⟨_, _, _, x⟩ := x
      obtain ⟨e, v, e1, r⟩ := h
      exact ⟨e, v, e1, x.back l r⟩
    | true =>
      obtain ⟨_, _, _, x⟩ := x
      obtain ⟨b, e, e1, r⟩ := h
      exact ⟨b, e, e1, x.back l r⟩
def Act.lend (A : Act) (a : Addr) : Act := { A with c := { A.c with ι := A.c.ι ++ [a] } }
section
variable {A : Act} {s s' : S} {σ : L2.St} {H H' : Hp} {ω ω' : Wd}
theorem lend_le {a : Addr} : A.c.Le (A.lend a).c := ⟨rfl, rfl, rfl, fun n b e => by
  show (A.c.ι ++ [a])[n]? = some b
  rw [List.getElem?_append_left (List.getElem?_eq_some_iff.mp e).1]
  exact e, fun _ _ _ h => h, fun _ _ _ h => h⟩
theorem lend_bk {a : Addr} : A.c.Bk (A.lend a).c := ⟨rfl, rfl, rfl, fun n b d e1 e2 => by
  have e2 : (A.c.ι ++ [a])[n]? = some d := e2
  rw [List.getElem?_append_left (List.getElem?_eq_some_iff.mp e1).1, e1] at e2
  exact (Option.some.inj e2).symm, fun _ _ _ _ _ h => h, fun _ _ _ _ _ h => h⟩
/-- a new own object is handed down -/
theorem SR.lend (h : SR A s σ H ω) {a : Addr} {d : D} {pd : List (Addr × D)} (e : ω.pd = (a, d) :: pd) : SR (A.lend a) ⟨s.ρ, s.st ++ [d]⟩ σ H { ω with pd := pd } := by
  have pm : ((({ ω with pd := pd } : Wd).adr) ++ (A.c.ι ++ [a])).Perm (ω.adr ++ A.c.ι) := by
    refine List.Perm.trans ?_ (perm_pd (ι := A.c.ι) e).symm
    rw [← List.append_assoc]
    exact List.perm_append_singleton a _
  have sub : ∀ b, b ∈ ({ ω with pd := pd } : Wd).adr → b ∈ ω.adr := fun b m => by
    unfold Wd.adr at m ⊢
    rcases List.mem_append.mp m with m | m
    · exact List.mem_append_left _ m
    · rw [e]
      exact List.mem_append_right _ (List.mem_cons_of_mem _ m)
  refine ⟨h.f0, h.new, h.sub, fun b o q n m => h.fr b o q n fun z => m (List.mem_append_left _ z), h.old, h.ntb, h.tab, h.len, h.olen, fun i o b w e1 e2 e3 => (h.slot i o b w e1 e2 e3).le lend_le, fun p hp => (h.pds p (by rw [e]; exact List.mem_cons_of_mem _ hp)).le lend_le, ?_, fun n b d' e1 e2 => ?_, ?_, fun b m => h.fre b (pm.mem_iff.mp m), fun b m => h.own b (sub b m)⟩
  · show (s.st ++ [d]).length = (A.c.ι ++ [a]).length
    rw [List.length_append, List.length_append, h.stl]
    rfl
  · have e1 : (A.c.ι ++ [a])[n]? = some b := e1
    have e2 : (s.st ++ [d])[n]? = some d' := e2
    by_cases hn : n < s.st.length
    · rw [List.getElem?_append_left hn] at e2
      rw [List.getElem?_append_left (by rw [← h.stl]; exact hn)] at e1
      exact (h.sts n b d' e1 e2).le lend_le
    · rw [List.getElem?_append_right (by omega)] at e2
      rw [List.getElem?_append_right (by rw [← h.stl]; omega), ← h.stl] at e1
      cases z : n - s.st.length with
      | zero =>
        rw [z] at e1 e2
        cases e1
        cases e2
        exact (h.pds (a, d) (by rw [e]; exact List.mem_cons_self)).le lend_le
      | succ k =>
        rw [z] at e2
        simp at e2
  · exact pm.nodup_iff.mpr h.nd
/-- .. and comes back -/
theorem SR.unlend (h : SR A s σ H ω) {a : Addr} {d o : D} {pd pr : List (Addr × D)} {st : List D} (e : ω.pd = (a, d) :: pd) (g : SR (A.lend a) ⟨s.ρ, st⟩ σ H' ω') (ep : ω'.pd = pr ++ pd) (pp : ∀ p ∈ pr, D.pure PUD p.2 = true) (hl : st.length = s.st.length + 1) (eo : st[s.st.length]? = some o) (ps : st.all (D.pure PUD) = true) :
    SR A ⟨s.ρ, st.take s.st.length⟩ σ H' { ω' with pd := (a, o) :: (pr ++ pd) } := by
  have hι := h.stl
  have ei : (A.lend a).c.ι[s.st.length]? = some a := by
    show (A.c.ι ++ [a])[s.st.length]? = some a
    rw [List.getElem?_append_right (by omega), hι]
    simp
  have pm : (({ ω' with pd := (a, o) :: (pr ++ pd) } : Wd).adr ++ A.c.ι).Perm (ω'.adr ++ (A.c.ι ++ [a])) := by
    refine List.Perm.trans (perm_pd (p := (a, o)) rfl) ?_
    have e2 : ({ ω' with pd := pr ++ pd } : Wd).adr = ω'.adr := by unfold Wd.adr; rw [ep]
    show (a :: (({ ω' with pd := pr ++ pd } : Wd).adr ++ A.c.ι)).Perm _
    rw [e2, ← List.append_assoc]
    exact (List.perm_append_singleton a _).symm
  have a0 : NT (A.H0 a) := h.own a (pd_mem (p := (a, d)) (by rw [e]; exact List.mem_cons_self))
  have pu : ∀ {n : Nat} {x : D}, st[n]? = some x → D.pure PUD x = true := fun {n x} q => List.all_eq_true.mp ps x (List.mem_of_getElem? q)
  refine ⟨g.f0, g.new, g.sub, fun b u q n m => g.fr b u q n fun z => ?_, g.old, g.ntb, g.tab, g.len, g.olen, fun i u b w e1 e2 e3 => ?_, fun p hp => ?_, ?_, fun n b x e1 e2 => ?_, pm.nodup_iff.mpr g.nd, fun b m => g.fre b (pm.mem_iff.mp m), fun b m => ?_⟩
  · rcases List.mem_append.mp z with z | z
    · exact m z
    · have q : A.H0 b = some u := q
      rw [List.mem_singleton.mp z] at q
      exact (a0.no q n).elim
  · have l : i < s.ρ.length := (List.getElem?_eq_some_iff.mp e1).1
    have l1 : i < ω.ow.length := by rw [h.olen, ← h.len]; exact l
    have l2 : i < σ.length := by rw [← h.len]; exact l
    exact (h.slot i u _ _ e1 (List.getElem?_eq_getElem l1) (List.getElem?_eq_getElem l2)).back lend_bk (g.slot i u b w e1 e2 e3)
  · rcases List.mem_cons.mp hp with rfl | hp
    · exact ob_pure (c := (A.lend a).c) rfl rfl (pu eo) (g.sts _ _ _ ei eo)
    · rcases List.mem_append.mp hp with hp | hp
      · exact ob_pure (c := (A.lend a).c) rfl rfl (pp p hp) (g.pds p (by rw [ep]; exact List.mem_append_left _ hp))
      · exact (h.pds p (by rw [e]; exact List.mem_cons_of_mem _ hp)).back lend_bk (g.pds p (by rw [ep]; exact List.mem_append_right _ hp))
  · show (st.take s.st.length).length = A.c.ι.length
    rw [List.length_take]
    omega
  · have e2 : (st.take s.st.length)[n]? = some x := e2
    rw [List.getElem?_take] at e2
    split at e2
    · refine ob_pure (c := (A.lend a).c) rfl rfl (pu e2) (g.sts n b x ?_ e2)
      show (A.c.ι ++ [a])[n]? = some b
      rw [List.getElem?_append_left (List.getElem?_eq_some_iff.mp e1).1]
      exact e1
    · cases e2
  · unfold Wd.adr at m
    rcases List.mem_append.mp m with m | m
    · exact g.own b (by unfold Wd.adr; exact List.mem_append_left _ m)
    · rcases List.mem_cons.mp m with rfl | m
      · exact a0
      · exact g.own b (by unfold Wd.adr; rw [ep]; exact List.mem_append_right _ m)
end
end Mp
end
section
set_option Elab.async false
set_option linter.all false
set_option maxRecDepth 100000
set_option maxHeartbeats 2000000
/-! MpRef: calls that get an object of the caller. -/
namespace Mp
open PySem PySem.Spec PyProof.Rows L2
section
variable {E : CE} {A : Act} {W : L2.WX} {X : Cx} {P : Act → Prop}
theorem lent_some {n : Nat} {r : RC} {d : D} {w : Bool} {o : D} {st : List D} (h : lent n r = some (d, w, o, st)) : ∃ st', r = .ok d w st' ∧ st'[n]? = some o ∧ st'.length = n + 1 ∧ d.pure PUD = true ∧ st'.all (D.pure PUD) = true ∧ st = st'.take n := by
  cases r with
  | ok d' w' st' =>
    have h : (match st'[n]? with | some o => if decide (st'.length = n + 1) && d'.pure PUD && st'.all (D.pure PUD) then some (d', w', o, st'.take n) else none | none => none) = some (d, w, o, st) := h
    cases e : st'[n]? with
    | none => rw [e] at h; cases h
    | some o' =>
      rw [e] at h
      obtain ⟨hc, hr⟩ := of_opt h
      cases hr
      simp only [Bool.and_eq_true, decide_eq_true_eq] at hc
      exact ⟨st', rfl, e, hc.1.1, hc.1.2, hc.2, rfl⟩
  | er x st' => cases h
  | no => cases h
theorem set_back {σ : L2.St} {i : Nat} {w : Option V} (e : σ[i]? = some w) : σ.set i w = σ := by
  apply List.ext_getElem?
  intro j
  by_cases hj : j = i
  · subst hj
    rw [List.getElem?_set_self (List.getElem?_eq_some_iff.mp e).1, e]
  · rw [List.getElem?_set_ne (Ne.symm hj)]
/-- the call itself: the object at a is handed down, its name was cleared -/
theorem QC.lent {s : S} {σ : L2.St} {H : Hp} {ω : Wd} {a : Addr} {o : D} {pd : List (Addr × D)} {r : RC} {Q : VK} {d : D} {w : Bool} {o' : D} {st : List D} {Ex : XK} (h : SR A s σ H ω) (e : ω.pd = (a, o) :: pd) (el : Mp.lent s.st.length r = some (d, w, o', st))
    (k : ∀ v H' ω', Sm ω.F ω'.F → SR A ⟨s.ρ, st⟩ σ H' ω' → (w = false → ω'.pd = (a, o') :: pd ∧ Rp A.c ω'.F d v) → (w = true → ∃ b, v = .ref b ∧ ω'.pd = (a, o') :: (b, d) :: pd) → Q v H') :
    QC E (A.lend a) ⟨s.ρ, s.st ++ [o]⟩ σ { ω with pd := pd } r Q Ex := by
  obtain ⟨st', rfl, e1, e2, e3, e4, rfl⟩ := lent_some el
  intro v H' ω' sm g out
  cases w with
  | false =>
    obtain ⟨rv, ep⟩ := out
    have u := h.unlend (pr := []) e g ep (fun p hp => nomatch hp) e2 e1 e4
    exact k v H' { ω' with pd := (a, o') :: pd } sm u (fun _ => ⟨rfl, rp_pure (c := (A.lend a).c) (c' := A.c) rfl rfl PUD d v e3 rv⟩) (fun z => nomatch z)
  | true =>
    obtain ⟨b, rfl, ep⟩ := out
    have u := h.unlend (pr := [(b, d)]) e g ep (fun p hp => by rw [List.mem_singleton.mp hp]; exact e3) e2 e1 e4
    exact k _ H' { ω' with pd := (a, o') :: (b, d) :: pd } sm u (fun z => nomatch z) (fun _ => ⟨b, rfl, rfl⟩)
theorem RpL.lend {a : Addr} {F : Hp} {ds : List D} {vs : List V} (h : RpL A.c F ds vs) : RpL (A.lend a).c F ds vs := RpL.mono lend_le (Sm.refl _) h
theorem rp_ref {s : S} {σ : L2.St} {H : Hp} {ω : Wd} {a : Addr} (h : SR A s σ H ω) {F : Hp} : Rp (A.lend a).c F (.ref s.st.length) (.ref a) := by
  unfold Rp
  refine ⟨a, ?_, rfl⟩
  show (A.c.ι ++ [a])[s.st.length]? = some a
  rw [List.getElem?_append_right (by rw [h.stl]; exact Nat.le_refl _), h.stl]
  simp
/-- the arguments: a name first -/
def tR (E : CE) (A : Act) (W : L2.WX) (i : Nat) (f : S → R (List (D × Bool))) : TA := fun σ H Q => ∃ s ω, SR A s σ H ω ∧ ∃ v, σ[i]? = some (some v) ∧ QR E A W σ (f s) fun xs s' => ∀ vs H' ω', Sm ω.F ω'.F → SR A s' σ H' ω' → Outs A.c ω.pd ω' xs vs → Q (v :: vs) H'
theorem a_name {i : Nat} {x : Str} {pos : Pos} {es : List Expr} {fr : S → R (List (D × Bool))} (hN : X.N[i]? = some x) (hv : Vis X.env.scope x) (hd : (x == ("__debug__" : Str)) = false) (hcd : (x == ("__classdict__" : Str)) = false) (hr : PA X es (tA E A W fr)) : PA X (.Name x pos :: es) (tR E A W i fr) := by
  refine ⟨fun pos' pins t σ H Q I h => (pa_cons (pe_var hN hv hd hcd) hr (notStar rfl)).run pos' pins t σ H Q I ?_⟩
  obtain ⟨s, ω, sr, v, e, q⟩ := h
  exact ⟨v, e, s, ω, sr, q⟩
end
end Mp
end
section
set_option Elab.async false
set_option linter.all false
set_option maxRecDepth 100000
set_option maxHeartbeats 2000000
/-! MpLam: f(lambda: ..), and the call of what f got. -/
namespace Mp
open PySem PySem.Spec PyProof.Rows L2
/-- what the activations of one text have in common -/
structure PkC where
  K : PySem.W.Frag
  AD : Nat → Addr
  KD : Addr → List (Key × V) → Prop
  T : List (Addr × Str)
structure Pk (p : PkC) (A : Act) : Prop where
  K : A.c.K = p.K
  AD : A.c.AD = p.AD
  KD : A.c.KD = p.KD
  Γ : ∀ n ds a, ¬ A.c.Γ n ds a
  Ξ : ∀ a k d, ¬ A.c.Ξ a k d
  T : A.T = p.T
theorem Pk.lend {p : PkC} {A : Act} (h : Pk p A) (a : Addr) : Pk p (A.lend a) := ⟨h.K, h.AD, h.KD, h.Γ, h.Ξ, h.T⟩
theorem Pk.at {p : PkC} {A : Act} (h : Pk p A) (F : Hp) : Pk p (A.at F) := ⟨h.K, h.AD, h.KD, h.Γ, h.Ξ, h.T⟩
theorem Pk.inn {p : PkC} {A : Act} (h : Pk p A) (H : Hp) (ω : Wd) : Pk p (A.inn H ω) := ⟨h.K, h.AD, h.KD, h.Γ, h.Ξ, h.T⟩
theorem Pk.of {p : PkC} {A B : Act} (h : Pk p A) (e : B.c = A.c) (t : B.T = A.T) : Pk p B := ⟨by rw [e]; exact h.K, by rw [e]; exact h.AD, by rw [e]; exact h.KD, by rw [e]; exact h.Γ, by rw [e]; exact h.Ξ, t.trans h.T⟩
/-- .. with the closure f -/
def Act.clo (A : Act) (f : Addr) : Act := { A with c := { A.c with Γ := fun _ _ a => a = f } }
section
variable {E : CE} {A : Act} {W : L2.WX} {X : Cx} {p : PkC}
variable {s : S} {σ : L2.St} {H : Hp} {ω : Wd}
/-- the closure is known from here on -/
theorem le_clo {f : Addr} (hΓ : ∀ n ds a, ¬ A.c.Γ n ds a) : A.c.Le (A.clo f).c := ⟨rfl, rfl, rfl, fun _ _ h => h, fun n ds a h => (hΓ n ds a h).elim, fun _ _ _ h => h⟩
theorem bk_clo {f : Addr} (hΓ : ∀ n ds a, ¬ A.c.Γ n ds a) : A.c.Bk (A.clo f).c := ⟨rfl, rfl, rfl, fun n a b e1 e2 => by
  have e2 : A.c.ι[n]? = some b := e2
  rw [e1] at e2
  exact (Option.some.inj e2).symm, fun n ds a _ h _ => (hΓ n ds a h).elim, fun _ _ _ _ _ h => h⟩
theorem SR.clo {f : Addr} (hΓ : ∀ n ds a, ¬ A.c.Γ n ds a) (g : SR A s σ H ω) : SR (A.clo f) s σ H ω :=
  have l := le_clo (A := A) (f := f) hΓ
  ⟨g.f0, g.new, g.sub, g.fr, g.old, g.ntb, g.tab, g.len, g.olen, fun i o b w e1 e2 e3 => (g.slot i o b w e1 e2 e3).le l, fun p hp => (g.pds p hp).le l, g.stl, fun n b d e1 e2 => (g.sts n b d e1 e2).le l, g.nd, g.fre, g.own⟩
/-- back: the same slots, a pure store -/
theorem SR.unclo {f : Addr} (hΓ : ∀ n ds a, ¬ A.c.Γ n ds a) (h : SR A s σ H ω) {st : List D} {H' : Hp} {ω' : Wd} (g : SR (A.clo f) ⟨s.ρ, st⟩ σ H' ω') (e : ω'.pd = ω.pd) (ps : st.all (D.pure PUD) = true) : SR A ⟨s.ρ, st⟩ σ H' ω' := by
  have l := bk_clo (A := A) (f := f) hΓ
  refine ⟨g.f0, g.new, g.sub, g.fr, g.old, g.ntb, g.tab, g.len, g.olen, fun i u b w e1 e2 e3 => ?_, fun p hp => (h.pds p (by rw [← e]; exact hp)).back l (g.pds p hp), g.stl, fun n b d e1 e2 => ob_pure (c := (A.clo f).c) rfl rfl (List.all_eq_true.mp ps d (List.mem_of_getElem? e2)) (g.sts n b d e1 e2), g.nd, g.fre, g.own⟩
  have l0 : i < s.ρ.length := (List.getElem?_eq_some_iff.mp e1).1
  have l1 : i < ω.ow.length := by rw [h.olen, ← h.len]; exact l0
  have l2 : i < σ.length := by rw [← h.len]; exact l0
  exact (h.slot i u _ _ e1 (List.getElem?_eq_getElem l1) (List.getElem?_eq_getElem l2)).back l (g.slot i u b w e1 e2 e3)
/-- nothing is known of the slots -/
theorem SR.blank (h : SR A s σ H ω) {τ : L2.St} (e : τ.length = σ.length) : SR A ⟨List.replicate s.ρ.length none, s.st⟩ τ H ⟨ω.F, List.replicate s.ρ.length none, []⟩ := by
  have sub : ∀ b, b ∈ (⟨ω.F, List.replicate s.ρ.length none, []⟩ : Wd).adr → b ∈ ω.adr := fun b m => by
    unfold Wd.adr at m
    rw [filter_none] at m
    exact nomatch m
  have sub' : ∀ b, b ∈ (⟨ω.F, List.replicate s.ρ.length none, []⟩ : Wd).adr ++ A.c.ι → b ∈ ω.adr ++ A.c.ι := fun b m => by
    rcases List.mem_append.mp m with m | m
    · exact List.mem_append_left _ (sub b m)
    · exact List.mem_append_right _ m
  refine ⟨h.f0, h.new, h.sub, h.fr, h.old, h.ntb, h.tab, ?_, ?_, fun i o b w e1 e2 e3 => ?_, (fun p hp => nomatch hp), h.stl, h.sts, ?_, fun b hb => h.fre b (sub' b hb), fun b hb => h.own b (sub b hb)⟩
  · show (List.replicate s.ρ.length (none : Option (D × Bool))).length = _
    rw [List.length_replicate, e]
    exact h.len
  · show (List.replicate s.ρ.length (none : Option Addr)).length = _
    rw [List.length_replicate, e]
    exact h.len
  · obtain ⟨_, rfl⟩ := List.mem_replicate.mp (List.mem_of_getElem? e1)
    obtain ⟨_, rfl⟩ := List.mem_replicate.mp (List.mem_of_getElem? e2)
    exact rfl
  · unfold Wd.adr
    rw [filter_none]
    exact (List.nodup_append.mp h.nd).2.1
/-- into a lambda's body: the maker's values, the store of now -/
theorem SR.enterL {f : Addr} {ρ : List (Option (D × Bool))} {τ : L2.St} (h : SR (A.clo f) s σ H ω) (ps : s.st.all (D.pure PUD) = true) (hl : ρ.length = τ.length) (hv : ∀ (i : Nat) (d : D), ρ[i]? = some (some (d, false)) → ∃ v, τ[i]? = some (some v) ∧ Rp A.c ω.F d v) :
    SR (A.inn H ω) ⟨vals ρ, s.st⟩ τ H (ω.inn ρ.length) := by
  refine ⟨Sm.refl _, fun a o q z => ?_, h.sub, fun a o q _ _ => .inl q, fun a o q n => ⟨o, q, n⟩, h.ntb, h.tab, ?_, ?_, fun i o a w e1 e2 e3 => ?_, (fun p hp => nomatch hp), h.stl, fun n b d e1 e2 => ob_pure (c := (A.clo f).c) rfl rfl (List.all_eq_true.mp ps d (List.mem_of_getElem? e2)) (h.sts n b d e1 e2), ?_, fun a m => ?_, fun a m => ?_⟩
  · have q : ω.F a = some o := q
    have z : ω.F a = none := z
    rw [q] at z
    cases z
  · show (vals ρ).length = _
    unfold vals
    rw [List.length_map]
    exact hl
  · show (List.replicate ρ.length (none : Option Addr)).length = _
    rw [List.length_replicate]
    exact hl
  · have e2 : (List.replicate ρ.length (none : Option Addr))[i]? = some a := e2
    have ea : a = none := by
      rw [List.getElem?_replicate] at e2
      split at e2
      · cases e2; rfl
      · cases e2
    subst ea
    have e1 : (vals ρ)[i]? = some o := e1
    unfold vals at e1
    rw [List.getElem?_map] at e1
    cases q : ρ[i]? with
    | none => rw [q] at e1; cases e1
    | some x =>
      rw [q] at e1
      cases x with
      | none => cases e1; rfl
      | some y =>
        obtain ⟨d, b⟩ := y
        cases b with
        | true => cases e1; rfl
        | false =>
          cases e1
          obtain ⟨v, ev, r⟩ := hv i d q
          rw [e3] at ev
          cases ev
          exact ⟨rfl, v, rfl, r⟩
  · rw [Wd.inn_adr]
    have nd := h.nd
    rw [List.nodup_append] at nd
    exact nd.2.1
  · rw [Wd.inn_adr] at m
    exact h.fre a (List.mem_append_right _ m)
  · rw [Wd.inn_adr] at m
    exact nomatch m
theorem XR.le {c c' : Cn} (l : c.Le c') {F : Hp} {k : Nat} {d : D} {cls : Value} {od : Option Addr} (h : XR E c F k d cls od) : XR E c' F k d cls od := by
  obtain ⟨m, e, h⟩ := h
  refine ⟨m, e, ?_⟩
  rcases h with h | ⟨dx, fs, v, h1, h2, h3, h4⟩
  · exact .inl h
  · exact .inr ⟨dx, fs, v, h1, h2, h3, h4.mono l (Sm.refl _)⟩
theorem Out.le {c c' : Cn} (l : c.Le c') {d : D} {o : Bool} {v : V} {ω ω' : Wd} (h : Out c ω ω' d o v) : Out c' ω ω' d o v := by
  cases o with
  | false => exact ⟨h.1.mono l (Sm.refl _), h.2⟩
  | true => exact h

/-! ### what is known of a lambda that is handed down -/
/-- how a lambda's body reads -/
def tLb (E : CE) (p : PkC) (fb : S → R (D × Bool)) (Ex : XK) : TE := fun σ H Q => ∃ A s ω, Pk p A ∧ SR A s σ H ω ∧ QE E A (fun cls od _ H' => Ex cls od H') σ ω (fb s) Q
def LamOk (E : CE) (A : Act) (F : Hp) (tl : XK → Hp → VK → Prop) (Λ : List D → RC) : Prop :=
  ∀ (f : Addr) (A1 : Act) (s1 : S) (σ1 : L2.St) (H1 : Hp) (ω1 : Wd) (Ex : XK) (Q1 : VK), A1.c = A.c → A1.T = A.T → SR (A1.clo f) s1 σ1 H1 ω1 → Sm F ω1.F → QC E (A1.clo f) s1 σ1 ω1 (Λ s1.st) Q1 Ex → tl Ex H1 Q1
theorem lam_ok {fb : S → R (D × Bool)} (hP : Pk p A) (sr : SR A s σ H ω) : LamOk E A ω.F (fun Ex H' Q' => tLb E p fb Ex σ H' Q') (lamR fb s.ρ) := by
  intro f A1 s1 σ1 H1 ω1 Ex Q1 ec eT g sm q
  have hΓ : ∀ n ds a, ¬ A1.c.Γ n ds a := by rw [ec]; exact hP.Γ
  unfold lamR at q
  by_cases hp : s1.st.all (D.pure PUD) = true
  · rw [if_pos hp] at q
    have en := g.enterL (ρ := s.ρ) (τ := σ) hp sr.len fun i d e => by
      have l0 : i < s.ρ.length := (List.getElem?_eq_some_iff.mp e).1
      have l1 : i < ω.ow.length := by rw [sr.olen, ← sr.len]; exact l0
      have l2 : i < σ.length := by rw [← sr.len]; exact l0
      obtain ⟨_, v, e1, r⟩ := sr.slot i _ _ _ e (List.getElem?_eq_getElem l1) (List.getElem?_eq_getElem l2)
      refine ⟨v, by rw [List.getElem?_eq_getElem l2, e1], ?_⟩
      rw [ec]
      exact r.up sm
    have lc : (A1.inn H1 ω1).c.Le ((A1.clo f).inn H1 ω1).c := le_clo (A := A1) (f := f) hΓ
    have up : ∀ {s' : S} {σ' : L2.St} {H' : Hp} {ω' : Wd}, SR (A1.inn H1 ω1) s' σ' H' ω' → SR ((A1.clo f).inn H1 ω1) s' σ' H' ω' := fun {s' σ' H' ω'} k => SR.clo (A := A1.inn H1 ω1) (f := f) hΓ k
    refine ⟨A1.inn H1 ω1, _, _, (hP.of ec eT).inn H1 ω1, en, ?_⟩
    show QR E _ _ σ (fb ⟨vals s.ρ, s1.st⟩) _
    cases e : fb ⟨vals s.ρ, s1.st⟩ with
    | ok x s' =>
      rw [e] at q
      obtain ⟨d, o⟩ := x
      have q : QC E (A1.clo f) s1 σ1 ω1 (if s'.st.length = s1.st.length then .ok d o s'.st else .no) Q1 Ex := q
      by_cases hl : s'.st.length = s1.st.length
      · rw [if_pos hl] at q
        intro v H' ω' sm' k out
        cases o with
        | false =>
          obtain ⟨r, e'⟩ := out
          exact q v H' ⟨ω'.F, ω1.ow, ω1.pd⟩ sm' (g.exit (up k)) ⟨r.mono lc (Sm.refl _), rfl⟩
        | true =>
          obtain ⟨b, e', e2⟩ := out
          exact q v H' ⟨ω'.F, ω1.ow, (b, d) :: ω1.pd⟩ sm' (g.exitO (up k) e2) ⟨b, e', rfl⟩
      · rw [if_neg hl] at q
        exact q.elim
    | er x s' =>
      rw [e] at q
      have q : QC E (A1.clo f) s1 σ1 ω1 (if s'.st.length = s1.st.length then .er x s'.st else .no) Q1 Ex := q
      by_cases hl : s'.st.length = s1.st.length
      · rw [if_pos hl] at q
        cases x with
        | exc kk d => exact fun cls od σ' H' ω' k xr => q cls od H' ⟨ω'.F, ω1.ow, ω1.pd⟩ (g.exit (up k)) (xr.le lc)
        | _ => exact q.elim
      · rw [if_neg hl] at q
        exact q.elim
    | no => rw [e] at q; exact q.elim
  · rw [if_neg hp] at q
    exact q.elim
/-! ### f(lambda: ..) -/
/-- what a def makes of the lambda that it gets -/
def TTc (E : CE) (p : PkC) (r : (List D → RC) → List D → List D → RC) : (XK → Hp → VK → Prop) → Hp → VK → Prop := fun tl H Q =>
  ∃ A s σ ω Λ, Pk p A ∧ SR A s σ H ω ∧ LamOk E A ω.F tl Λ ∧ QC E A s σ ω (lamC (r Λ [.clo 0 []] s.st)) Q (fun _ _ _ => False)
theorem lam_use {fb : S → R (D × Bool)} {r : (List D → RC) → List D → List D → RC} {σ : L2.St} {H : Hp} {Q : VK} (hP : Pk p A) (h : tE E A W (fun s => liftC s (lamC (r (lamR fb s.ρ) [.clo 0 []] s.st))) σ H Q) : LamX.tLam p.T (TTc E p r) (fun Ex => tLb E p fb Ex) σ H Q := by
  obtain ⟨s, ω, sr, q⟩ := h
  refine ⟨by rw [← hP.T]; exact sr.tab, fun H1 eN T1 => ?_⟩
  have g := sr.grow (H' := H1) eN (by rw [hP.T]; exact T1)
  refine ⟨A, s, σ, ω, lamR fb s.ρ, hP, g, lam_ok hP g, ?_⟩
  have q : QR E A W σ (liftC s (lamC (r (lamR fb s.ρ) [.clo 0 []] s.st))) fun x s' => ∀ v H' ω', Sm ω.F ω'.F → SR A s' σ H' ω' → Out A.c ω ω' x.1 x.2 v → Q v H' := q
  generalize r (lamR fb s.ρ) [.clo 0 []] s.st = y at q ⊢
  have key : ∀ z : RC, (∀ x st, z ≠ .er x st) → (QR E A W σ (liftC s z) fun x s' => ∀ v H' ω', Sm ω.F ω'.F → SR A s' σ H' ω' → Out A.c ω ω' x.1 x.2 v → Q v H') → QC E A s σ ω z Q (fun _ _ _ => False) := fun z hz q => by
    cases z with
    | ok d o st => exact q
    | er x st => exact (hz x st rfl).elim
    | no => exact q.elim
  refine key _ (fun x st z => ?_) q
  cases y with
  | ok d o st =>
    cases o with
    | true => cases z
    | false =>
      have z : (if d.pure PUD && st.all (D.pure PUD) then RC.ok d false st else .no) = .er x _ := z
      by_cases hc : (d.pure PUD && st.all (D.pure PUD)) = true
      · rw [if_pos hc] at z; cases z
      · rw [if_neg hc] at z; cases z
  | er _ _ => cases z
  | no => cases z
end
end Mp
end
section
set_option Elab.async false
set_option linter.all false
set_option maxRecDepth 100000
set_option maxHeartbeats 2000000
/-! MpGiv: the def that gets a lambda. -/
namespace Mp
open PySem PySem.Spec PyProof.Rows L2
/-- the call of the closure at slot 0 -/
def evA (Λ : List D → RC) (i : Nat) : S → R (D × Bool) := fun s => match s.get i with
  | some (.clo _ _, false) => callCl s (Λ s.st)
  | _ => .no
abbrev gCx (X : Cx) (Ng : List Str) (x : Str) (sg : Scope) (g : Addr) (cdg : Value) (s : Shared) (H : Hp) : Cx := cxOf C8.CX0 X.prog X.w X.K X.mg X.base Ng x sg g cdg X.A X.stack s H C8.E0
section
variable {E : CE} {X : Cx} {p : PkC}
theorem takes_len {X : Cx} {W : L2.WX} (tk : Takes X W) : Takes X (fun cls d σ H => σ.length = X.N.length → W cls d σ H) := fun u s' ⟨a, B, sI, pins, σ, H, cls, d, e, I, nb, up, sky, na, os, ag, w⟩ =>
  tk u s' ⟨a, B, sI, pins, σ, H, cls, d, e, I, nb, up, sky, na, os, ag, w I.len⟩
theorem codeO_dk {c : Addr} {q : Str} : ¬ DkO (LamX.CodeO c q) := fun h => h
theorem clo_len {A : Act} {s : S} {σ : L2.St} {H : Hp} {ω : Wd} (h : SR A s σ H ω) {a : Addr} {q : Str} (e : A.H0 a = some (LamX.CodeO a q)) (ni : a ∉ A.c.ι) : H a = some (LamX.CodeO a q) := by
  rcases h.fr a _ e (fun ps => LamX.codeO_ne ps) ni with z | ⟨z, _⟩
  · exact z
  · exact (codeO_dk z).elim
theorem gives_of {Ng : List Str} {x a q : Str} {sg : Scope} {g : Addr} {cdg : Value} {bg : List Stmt} {r : (List D → RC) → List D → List D → RC} {fb : (List D → RC) → S → R Fl} (hn : 0 < Ng.length)
    (hr : ∀ Λ st, r Λ [.clo 0 []] st = ends st.length (fb Λ ⟨[D.clo 0 []].map (fun d => some (d, false)) ++ List.replicate (Ng.length - 1) none, st⟩))
    (hfb : ∀ (Λ : List D → RC) (s : Shared) (H : Hp) (A : Act) (f : Addr), Pk p A →
      (∀ (F : Hp) (W : L2.WX) (pn : List (Addr × Obj)) (xe : Value → Shared → Prop) (p1 p2 : Pos), Sm A.F0 F → Takes ((gCx X Ng x sg g cdg s H).tr pn xe) W → PE ((gCx X Ng x sg g cdg s H).tr pn xe) (.Call (.Name a p1) [] [] p2) (tE E ((A.clo f).at F) W (evA Λ 0))) →
      PSs (gCx X Ng x sg g cdg s H).nox bg (tS E (A.clo f) NoW (fb Λ))) : LamX.GivesTo X Ng x sg g cdg bg a q (TTc E p r) := by
  intro f c' s H Q tl act hc h
  obtain ⟨A, s0, σ, ω, Λ, hP, sr, lo, qc⟩ := h
  have hΓ := hP.Γ
  have src := sr.clo (f := f) hΓ
  have nι : c' ∉ A.c.ι := fun m => by
    obtain ⟨o, e, l⟩ := sr.ob (List.mem_append_right _ m)
    rw [hc] at e
    cases e
    exact l
  refine ⟨_, hfb Λ s H (A.inn H ω) f (hP.inn H ω) (fun F W pn xe p1 p2 smF tk => ⟨fun pins t τ HZ Q1 I hq => ?_⟩), ?_⟩
  · obtain ⟨s1, ω1, sr1, q1⟩ := hq
    have q1 : QR E (((A.inn H ω).clo f).at F) W τ (match s1.get 0 with | some (.clo _ _, false) => callCl s1 (Λ s1.st) | _ => .no) fun x s' => ∀ v H' ω', Sm ω1.F ω'.F → SR (((A.inn H ω).clo f).at F) s' τ H' ω' → Out (((A.inn H ω).clo f).at F).c ω1 ω' x.1 x.2 v → Q1 v H' := q1
    cases g0 : s1.get 0 with
    | none => rw [g0] at q1; exact q1.elim
    | some y =>
      obtain ⟨d, o⟩ := y
      rw [g0] at q1
      cases o with
      | true => cases d <;> exact q1.elim
      | false =>
        cases d with
        | clo n ds =>
          have q1 : QR E (((A.inn H ω).clo f).at F) W τ (callCl s1 (Λ s1.st)) fun x s' => ∀ v H' ω', Sm ω1.F ω'.F → SR (((A.inn H ω).clo f).at F) s' τ H' ω' → Out (((A.inn H ω).clo f).at F).c ω1 ω' x.1 x.2 v → Q1 v H' := q1
          obtain ⟨v, ev, rv, _⟩ := sr1.val g0
          have rv : ∃ f', v = .ref f' ∧ f' = f := rv
          obtain ⟨_, rfl, rfl⟩ := rv
          have hl : τ.length = Ng.length := I.len
          refine (act (fun cls d σ' H' => σ'.length = Ng.length → W cls d σ' H') pn xe (fun cls d H' => ∀ σ' : L2.St, σ'.length = Ng.length → W cls d σ' H') p1 p2 (takes_len tk) (fun cls d σ' H' z => z σ')).run pins t τ HZ Q1 I ⟨ev, clo_len sr1 (a := c') hc nι, ?_⟩
          refine lo _ ((A.inn H ω).at F) s1 τ HZ ω1 _ Q1 rfl rfl sr1 (smF.trans sr1.f0) ?_
          cases eΛ : Λ s1.st with
          | ok d o st =>
            rw [eΛ] at q1
            exact q1
          | er x st =>
            rw [eΛ] at q1
            cases x with
            | exc k d =>
              intro cls od H' ω' g' xr σ' e'
              have hb := g'.blank (τ := σ') (by rw [e', hl])
              exact q1 cls od σ' H' _ hb xr
            | _ => exact q1.elim
          | no => rw [eΛ] at q1; exact q1.elim
        | _ => exact q1.elim
  · have en := src.enter (ds := [.clo 0 []]) (vs := [.ref f]) (n := Ng.length) (.cons ⟨f, rfl, rfl⟩ .nil) (by show 1 ≤ Ng.length; omega)
    refine ⟨_, _, en, rfl, ?_⟩
    rw [hr] at qc
    have qb : QC E (A.clo f) s0 σ ω (ends s0.st.length (fb Λ ⟨[D.clo 0 []].map (fun d => some (d, false)) ++ List.replicate (Ng.length - 1) none, s0.st⟩)) Q (fun _ _ _ => False) := by
      generalize ends s0.st.length (fb Λ ⟨[D.clo 0 []].map (fun d => some (d, false)) ++ List.replicate (Ng.length - 1) none, s0.st⟩) = y at qc ⊢
      cases y with
      | ok d o st =>
        cases o with
        | true => exact qc.elim
        | false =>
          have qc : QC E A s0 σ ω (if d.pure PUD && st.all (D.pure PUD) then .ok d false st else .no) Q (fun _ _ _ => False) := qc
          by_cases hc : (d.pure PUD && st.all (D.pure PUD)) = true
          · rw [if_pos hc] at qc
            rw [Bool.and_eq_true] at hc
            intro v H' ω' sm g' out
            obtain ⟨rv, e'⟩ := out
            exact qc v H' ω' sm (sr.unclo hΓ g' e' hc.2) ⟨rp_pure (c := (A.clo f).c) (c' := A.c) rfl rfl PUD d v hc.1 rv, e'⟩
          · rw [if_neg hc] at qc
            exact qc.elim
      | er x st => exact qc.elim
      | no => exact qc.elim
    have z := QC.body (n := Ng.length) src qb
    exact QSt.mono z fun fl s' _ k => k
end
section
variable {E : CE} {A : Act} {W : L2.WX} {X : Cx} {p : PkC}
/-- f(lambda: body) -/
theorem e_calll {r : (List D → RC) → List D → List D → RC} {fb : S → R (D × Bool)} {x a : Str} {g c P : Addr} {k : Nat} {pg : Arguments} {bg : List Stmt} {sg : Scope} {dV kV doc pm cdv ct oc : Value} {an od : Option Addr} {osl : Array (Option Value)} {Ng : List Str}
    {params : Arguments} {body : Expr} {scope : Scope} {ps lpos pos : Pos} (hP : Pk p A) (hg : Gl X x) (hm : X.mg x = some (.ref g)) (hk : PySem.W.keepIn X.K (.ref g) = true)
    (lk : X.K.lookup g = some ⟨oc, od, .func (PySem.W.fnOf x x pg bg sg dV kV doc pm an cdv ct), osl⟩) (hcg : PySem.W.codeIn X.K cdv x = true) (hb : L2.Binds X.K (PySem.W.fnOf x x pg bg sg dV kV doc pm an cdv ct) [a] []) (Sg : FnScope Ng [a] sg) (hNg : Ng[0]? = some a) (hva : Vis sg a)
    (hG : LamX.GivesTo X Ng x sg g cdv bg a (X.env.qual ++ "<lambda>") (TTc E p r))
    (TB : LamX.TabB X.base X.mg c P) (hcode : X.env.code = .ref c) (hmT : (P, X.env.qual ++ "<lambda>") ∈ p.T) (hu : ∀ q ∈ p.T, q.1 = P → q.2 = X.env.qual ++ "<lambda>") (hr : Room (k + 2) X.A) (L : LamX.LamS X.env.scope scope) (hdef : defaultsOf params X.env = ([], []))
    (hbind : ∀ (q : Str) (cl : List (Str × Addr)) (pm cv ctv : Value), bindArgs (PySem.W.kla_fn "<lambda>" q params body scope cl pm cv ctv) ⟨[], []⟩ = pure [])
    (hbody : ∀ (A0 : Around) (outer : List Env) (s : Shared) (H : Hp) (Ex : XK) (f c' : Addr) (A : Act), Pk p A → Room k (A0.deeper (LamX.lamEnv X scope s.heap.objs.size f c')) → PE (LamX.lamCx X A0 outer s H Ex scope f c') body (tE E A (fun cls od _ H' => Ex cls od H') fb))
    (hdb : (x == ("__debug__" : Str)) = false) (hd : (a == ("__debug__" : Str)) = false) (hcd : (a == ("__classdict__" : Str)) = false) :
    PE X (.Call (.Name x ps) [.Lambda params body scope lpos] [] pos) (tE E A W fun s => liftC s (lamC (r (lamR fb s.ρ) [.clo 0 []] s.st))) := by
  refine ⟨fun pins t σ H Q I h => (LamX.pe_lamcall (t := fun Ex => tLb E p fb Ex) hg hm hk lk hcg hb Sg hNg hva hG TB hcode hmT hu hr L hdef hbind (fun A0 outer s1 H1 Ex f c' rm => ⟨fun pins t σ H2 Q I hq => ?_⟩) hdb hd hcd).run pins t σ H Q I (lam_use hP h)⟩
  obtain ⟨A', s', ω', hP', sr, q⟩ := hq
  exact (hbody A0 outer s1 H1 Ex f c' A' hP' rm).run pins t σ _ Q I ⟨s', ω', sr, q⟩
/-- what a lambda's body lets out -/
theorem takes_lam {A0 : Around} {outer : List Env} {s : Shared} {H : Hp} {Ex : XK} {scope : Scope} {f c' : Addr} : Takes (LamX.lamCx X A0 outer s H Ex scope f c') (fun cls od _ H' => Ex cls od H') :=
  takes_of rfl rfl rfl rfl
end
end Mp
end
section
set_option Elab.async false
set_option linter.all false
set_option maxRecDepth 100000
set_option maxHeartbeats 2000000
/-! MpBare: a call whose arguments are pure data: the store plays no part. -/
namespace Mp
open PySem PySem.Spec PyProof.Rows L2
def Act.bare (A : Act) : Act := { A with c := { A.c with ι := [] } }
theorem Pk.bare {p : PkC} {A : Act} (h : Pk p A) : Pk p A.bare := ⟨h.K, h.AD, h.KD, h.Γ, h.Ξ, h.T⟩
section
variable {A : Act} {s : S} {σ : L2.St} {H : Hp} {ω : Wd}
theorem le_bare : A.bare.c.Le A.c := ⟨rfl, rfl, rfl, fun n a e => by
  have e : ([] : List Addr)[n]? = some a := e
  simp at e, fun _ _ _ h => h, fun _ _ _ h => h⟩
/-- an activation of its own, that knows nothing but what is fixed -/
def Act.sub (A : Act) (H : Hp) (ω : Wd) : Act := (A.inn H ω).bare
theorem SR.enterB (h : SR A s σ H ω) : SR (A.sub H ω) ⟨List.replicate σ.length none, []⟩ σ H ⟨ω.F, List.replicate σ.length none, []⟩ := by
  have adr0 : (⟨ω.F, List.replicate σ.length none, []⟩ : Wd).adr = [] := by
    unfold Wd.adr
    rw [filter_none]
    rfl
  refine ⟨Sm.refl _, fun a o q z => ?_, h.sub, fun a o q _ _ => .inl q, fun a o q n => ⟨o, q, n⟩, h.ntb, h.tab, ?_, ?_, fun i o a w e1 e2 e3 => ?_, (fun p hp => nomatch hp), rfl, fun n a d e1 e2 => ?_, ?_, fun a m => ?_, fun a m => ?_⟩
  · have q : ω.F a = some o := q
    have z : ω.F a = none := z
    rw [q] at z
    cases z
  · exact List.length_replicate
  · exact List.length_replicate
  · obtain ⟨_, rfl⟩ := List.mem_replicate.mp (List.mem_of_getElem? e1)
    obtain ⟨_, rfl⟩ := List.mem_replicate.mp (List.mem_of_getElem? e2)
    exact rfl
  · have e2 : ([] : List D)[n]? = some d := e2
    simp at e2
  · rw [adr0]
    exact List.nodup_nil
  · rw [adr0] at m
    exact nomatch m
  · rw [adr0] at m
    exact nomatch m
theorem SR.exitB (h : SR A s σ H ω) {s' : S} {σ' : L2.St} {H' : Hp} {ω' : Wd} (k : SR (A.sub H ω) s' σ' H' ω') : SR A s σ H' ⟨ω'.F, ω.ow, ω.pd⟩ := by
  have sm : Sm ω.F ω'.F := k.f0
  have stay : ∀ b, b ∈ ω.adr ++ A.c.ι → H' b = H b := fun b m => by
    obtain ⟨o, e, ld⟩ := h.ob m
    rw [e]
    rcases k.fr b o e ld.nt (fun z => nomatch z) with z | ⟨_, ⟨u, z⟩, _⟩
    · exact z
    · have z : ω.F b = some u := z
      rw [h.fre b m] at z
      cases z
  refine ⟨h.f0.trans sm, fun a o q z => ?_, k.sub, fun a o q n m => ?_, fun a o q n => ?_, k.ntb, k.tab, h.len, h.olen, fun i o a w e1 e2 e3 => (h.slot i o a w e1 e2 e3).up sm fun b eb => stay b (List.mem_append_left _ (ow_mem (by rw [e2, eb]))), fun p hp => (h.pds p hp).up sm (stay p.1 (List.mem_append_left _ (pd_mem hp))), h.stl, fun n b d e1 e2 => (h.sts n b d e1 e2).up sm (stay b (List.mem_append_right _ (List.mem_of_getElem? e1))), h.nd, fun a m => ?_, h.own⟩
  · cases q0 : ω.F a with
    | some u => exact h.new a u q0 z
    | none => exact h.no0 (k.new a o q q0)
  · rcases h.fr a o q n m with z | ⟨z1, z2, od, z3⟩
    · rcases k.fr a o z n (fun z => nomatch z) with y | ⟨y1, ⟨u, y2⟩, y3⟩
      · exact .inl y
      · refine .inr ⟨y1, ?_, y3⟩
        cases w : A.F0 a with
        | some v => exact ⟨v, rfl⟩
        | none => exact ((h.new a u y2 w).no q n).elim
    · rcases k.fr a _ z3 (fun ps z => nomatch z) (fun z => nomatch z) with y | ⟨y1, _⟩
      · exact .inr ⟨z1, z2, od, y⟩
      · exact y1.elim
  · obtain ⟨o', e, n'⟩ := h.old a o q n
    exact k.old a o' e n'
  · cases q : ω'.F a with
    | none => rfl
    | some u =>
      have e : NT (H a) := k.new a u q (h.fre a m)
      obtain ⟨o, e', l⟩ := h.ob m
      exact (e.no e' l.nt).elim
theorem SR.exitBO (h : SR A s σ H ω) {s' : S} {σ' : L2.St} {H' : Hp} {ω' : Wd} {a : Addr} {d : D} {pd : List (Addr × D)} (k : SR (A.sub H ω) s' σ' H' ω') (e : ω'.pd = (a, d) :: pd) : SR A s σ H' ⟨ω'.F, ω.ow, (a, d) :: ω.pd⟩ := by
  have x := h.exitB k
  have am : a ∈ ω'.adr := pd_mem (p := (a, d)) (by rw [e]; exact List.mem_cons_self)
  have a0 : NT (H a) := k.own a am
  have na : a ∉ ω.adr ++ A.c.ι := h.apartN a0
  have pm := perm_pd (ω := ⟨ω'.F, ω.ow, (a, d) :: ω.pd⟩) (ι := A.c.ι) rfl
  refine ⟨x.f0, x.new, x.sub, x.fr, x.old, x.ntb, x.tab, x.len, x.olen, x.slot, fun p hp => ?_, x.stl, x.sts, ?_, fun b m => ?_, fun b m => ?_⟩
  · rcases List.mem_cons.mp hp with rfl | hp
    · exact (k.pds (a, d) (by rw [e]; exact List.mem_cons_self)).le le_bare
    · exact x.pds p hp
  · rw [pm.nodup_iff, List.nodup_cons]
    exact ⟨na, h.nd⟩
  · rcases List.mem_cons.mp (pm.mem_iff.mp m) with rfl | m
    · exact k.fre b (List.mem_append_left _ am)
    · exact x.fre b m
  · unfold Wd.adr at m
    rcases List.mem_append.mp m with m | m
    · exact h.own b (by unfold Wd.adr; exact List.mem_append_left _ m)
    · rcases List.mem_cons.mp m with rfl | m
      · exact h.no0 a0
      · exact h.own b (by unfold Wd.adr; exact List.mem_append_right _ m)
end
section
variable {E : CE} {A : Act} {W : L2.WX} {X : Cx} {P : Act → Prop}
theorem rpl_pure {c c' : Cn} {F : Hp} (hK : c'.K = c.K) (hD : c'.KD = c.KD) {xs : List D} {vs : List V} (p : xs.all (D.pure PUD) = true) (r : RpL c F xs vs) : RpL c' F xs vs := rpL_of (fun d v => rp_pure hK hD PUD d v) p r
/-- the call: pure arguments -/
theorem call_pure {f : List D → List D → RC} {s : S} {σ : L2.St} {H : Hp} {ω ω1 : Wd} {Q : VK} {xs : List D} {vs : List V} (hP : P (A.sub H ω1)) (sr : SR A s σ H ω1) (rl : RpL A.c ω1.F xs vs) (sm : Sm ω.F ω1.F) (e : ω1.pd = ω.pd) (hp : xs.all (D.pure PUD) = true)
    (q : QR E A W σ (liftP s (f xs [])) fun x s' => ∀ v H' ω', Sm ω.F ω'.F → SR A s' σ H' ω' → Out A.c ω ω' x.1 x.2 v → Q v H') : spF E P f vs H Q (WE W σ) := by
  refine ⟨A.sub H ω1, _, σ, _, xs, sr.enterB, hP, rpl_pure (c := A.c) (c' := (A.sub H ω1).c) rfl rfl hp rl, ?_⟩
  show QC E _ _ σ _ (f xs []) Q _
  cases er : f xs [] with
  | ok d o st =>
    rw [er] at q
    cases st with
    | cons => exact q.elim
    | nil =>
      intro v H' ω' sm' k out
      cases o with
      | false => exact q v H' ⟨ω'.F, ω1.ow, ω1.pd⟩ (sm.trans k.f0) (sr.exitB k) ⟨out.1.mono le_bare (Sm.refl _), e⟩
      | true =>
        obtain ⟨a, rfl, ep⟩ := out
        exact q _ H' ⟨ω'.F, ω1.ow, (a, d) :: ω1.pd⟩ (sm.trans k.f0) (sr.exitBO k ep) ⟨a, rfl, by rw [e]⟩
  | er x st =>
    rw [er] at q
    cases st with
    | cons => exact q.elim
    | nil =>
      cases x with
      | exc k d => exact fun cls od H' ω' g xr => q cls od σ H' ⟨ω'.F, ω1.ow, ω1.pd⟩ (sr.exitB g) (xr.le le_bare)
      | _ => exact q.elim
  | no => rw [er] at q; exact q.elim
/-- .. or any -/
theorem callP_use {f : List D → List D → RC} {fr : S → R (List (D × Bool))} {σ : L2.St} {H : Hp} {Q : VK} (hP : P A) (hPs : ∀ H ω, P (A.sub H ω)) (h : tE E A W (fun s => (fr s).bind fun xs s1 => callP f (fsts xs) s1) σ H Q) :
    tCallS (spF E P f) (WE W) (tA E A W fr) σ H Q := by
  obtain ⟨s, ω, sr, q⟩ := h
  refine tA.vals sr q.bind fun xs s1 vs H1 ω1 _ z sm sr1 e r => ?_
  unfold callP at z
  by_cases hp : (fsts xs).all (D.pure PUD) = true
  · rw [if_pos hp] at z
    exact call_pure (hPs _ _) sr1 r sm e hp z
  · rw [if_neg hp] at z
    exact ⟨A, s1, σ, ω1, fsts xs, sr1, hP, r, QC.of (s0 := s) sm e z⟩
end
end Mp
end
section
set_option Elab.async false
set_option linter.all false
set_option maxRecDepth 100000
set_option maxHeartbeats 2000000
/-! MpDsp: dict displays; max(d, default=e). -/
namespace Mp
open PySem PySem.Spec PyProof.Rows L2
section
variable {E : CE} {A : Act} {W : L2.WX} {X : Cx}
theorem ob_dic0 {c : Cn} {F H : Hp} {a : Addr} (h : ObAt c F H a (.dic [])) : H a = some (.dK []) := by
  rcases h with ⟨q, e, r⟩ | ⟨q, e, r⟩
  · unfold RpK at r
    rw [r] at e
    exact e
  · exact absurd rfl r.1
/-- {} -/
theorem e_dsp0 {pos : Pos} : PE X (.Dict [] [] pos) (tE E A W fun s => .ok (.dic [], true) s) := by
  refine ⟨fun pins t σ H Q I h => pe_dnewK.run pins t σ H Q I fun p hp => ?_⟩
  obtain ⟨s, ω, sr, q⟩ := h
  exact q (.ref p) _ { ω with pd := (p, .dic []) :: ω.pd } (Sm.refl _) (sr.fresh (d := .dic []) hp (fun b o e => by rw [upd_ne (ne_of_none e hp)]; exact e) (.inl ⟨[], upd_same, by unfold RpK; rfl⟩)) ⟨p, rfl, rfl⟩
/-- {k: v} -/
theorem e_dsp1 {ek v : Expr} {pos : Pos} {fk fv : S → R (D × Bool)} (hk : PE X ek (tE E A W fk)) (hv : PE X v (tE E A W fv)) :
    PE X (.Dict [some ek] [v] pos) (tE E A W fun s => (fk s).bind fun x s1 => (fv s1).bind fun y s2 => match mkDic false [.tup [x.1, y.1]] [] with
      | some kvs => .ok (.dic kvs, true) s2
      | none => .no) := by
  refine ⟨fun pins t σ H Q I h => (pe_disp (pps_cons hk hv pps_nil) rfl rfl (by simp) (by simp)).run pins t σ H Q I fun p hp => ?_⟩
  obtain ⟨s, ω, sr, q⟩ := h
  have sr0 := sr.fresh (H' := upd H p (.dK [])) (d := .dic []) hp (fun b o e => by rw [upd_ne (ne_of_none e hp)]; exact e) (.inl ⟨[], upd_same, by unfold RpK; rfl⟩)
  refine QR.val sr0 (QR.bind q) fun d1 o1 s1 v1 H1 ω1 _ z1 sm1 sr1 e1 r1 => ?_
  refine QR.val sr1 (QR.bind z1) fun d2 o2 s2 v2 H2 ω2 _ z2 sm2 sr2 e2 r2 => ?_
  have ob := sr2.pds (p, .dic []) (by rw [e2, e1]; exact List.mem_cons_self)
  show H2 p = some (.dK []) ∧ ∃ kvs : List (Key × V), [(v1, v2)] = kvs.map (fun kv => (kV kv.1, kv.2)) ∧ kvs.length ≤ 15 ∧ Q (.ref p) (upd H2 p (.dK (mergeK [] kvs)))
  have e0 : mkDic false [.tup [d1, d2]] [] = (if keyIsT false d1 then some (D.put [] d1 d2) else none).bind fun a => some a := rfl
  have z2 : QR E A W σ (match mkDic false [.tup [d1, d2]] [] with | some kvs => .ok (.dic kvs, true) s2 | none => .no) fun x s' => ∀ v H' ω', Sm ω.F ω'.F → SR A s' σ H' ω' → Out A.c ω ω' x.1 x.2 v → Q v H' := z2
  rw [e0] at z2
  cases hc : keyIsT false d1 with
  | false =>
    rw [hc] at z2
    exact z2.elim
  | true =>
    rw [hc] at z2
    have z2 : ∀ v H' ω', Sm ω.F ω'.F → SR A s2 σ H' ω' → Out A.c ω ω' (.dic [(d1, d2)]) true v → Q v H' := z2
    have k1 : d1.key1 = true := by
      cases d1 <;> first | exact hc | cases hc
    obtain ⟨x, ex⟩ := key1_cases k1
    have ev := keyOf_rp ex (r1.up sm2)
    subst ev
    refine ⟨ob_dic0 ob, [(x, v2)], rfl, by simp, ?_⟩
    have ec := sr2.chgP (a := p) (d := .dic []) (d' := .dic [(d1, d2)]) (o := .dK (mergeK [] [(x, v2)])) (pd := ω.pd) (by rw [e2, e1]) (fun _ z => nomatch z) (.inl ⟨_, upd_same, by
      show RpK A.c ω2.F [(d1, d2)] [(x, v2)]
      unfold RpK
      exact ⟨x, v2, [], rfl, ex, r2, by unfold RpK; rfl⟩⟩)
    exact z2 _ _ { ω2 with pd := (p, .dic [(d1, d2)]) :: ω.pd } (sm1.trans sm2) ec ⟨p, rfl, rfl⟩
/-! ### max(d, default=e) -/
theorem walks_keys {prog : Program} {w : World} {B : Around} {K : Type} [DecidableEq K] {knd : KeyKind prog w K} (hh : B.handled = none) (I d : Addr) (hne : d ≠ I) (kvs : List (K × Value)) (ep : Nat) :
    WalksS prog w B I [I, d] [I] (fun a b => a = b) kvs.length (fun i v => ∃ k x, kvs[i]? = some (k, x) ∧ knd.is k v = true) (fun i s => s.heap.IsKeyIter I d i kvs.length ep ∧ s.heap.DictAt knd d kvs ep) where
  sub := fun b hb => by rw [List.mem_singleton.mp hb]; exact List.mem_cons_self
  grefl := fun _ => rfl
  gtrans := fun _ _ _ a b => a.trans b
  frame := fun _ _ _ _ st _ hk => ⟨st.1.at fun o e => hk I List.mem_cons_self o e, st.2.at' fun o e => hk d (List.mem_cons_of_mem _ List.mem_cons_self) o e⟩
  item := fun i s Q E hi st hQ => by
    have hx : kvs[i]? = some (kvs[i].1, kvs[i].2) := List.getElem?_eq_getElem hi
    refine wpAny_pyNext_dict_item st.1 st.2 hx fun key h' hkey hit' hs' => ?_
    exact hQ key _ ⟨_, _, hx, hkey⟩ ⟨hit', st.2.extBut hs'.extBut hne⟩ ⟨fun b o hb e => hs'.extBut b o (fun z => hb (List.mem_singleton.mpr z)) e, rfl, rfl, rfl, Nat.le_refl _⟩
  done := fun s Q E st hQ => wpAny_pyNext_dict_end hh st.1 st.2 (List.getElem?_eq_none (Nat.le_refl _)) fun h' he' => hQ _ ⟨fun b o hb e => he' b o (fun z => hb (List.mem_singleton.mpr z)) e, rfl, rfl, rfl, Nat.le_refl _⟩
  self := fun _ _ _ _ st hQ => wpAny_pyIter_keyiter st.1 hQ
theorem maxf_spec : ∀ (r : List Int) (i : Int), r.foldl (fun a b => if b > a then b else a) i ∈ i :: r ∧ ∀ y ∈ i :: r, y ≤ r.foldl (fun a b => if b > a then b else a) i
  | [], i => ⟨List.mem_cons_self, fun y hy => by rw [List.mem_singleton.mp hy]; exact Int.le_refl _⟩
  | j :: r, i => by
    rw [List.foldl_cons]
    by_cases h : j > i
    · rw [if_pos h]
      obtain ⟨h1, h2⟩ := maxf_spec r j
      refine ⟨List.mem_cons_of_mem _ h1, fun y hy => ?_⟩
      rcases List.mem_cons.mp hy with rfl | hy
      · exact Int.le_trans (Int.le_of_lt h) (h2 j List.mem_cons_self)
      · exact h2 y hy
    · rw [if_neg h]
      obtain ⟨h1, h2⟩ := maxf_spec r i
      refine ⟨?_, fun y hy => ?_⟩
      · rcases List.mem_cons.mp h1 with z | z
        · rw [z]; exact List.mem_cons_self
        · exact List.mem_cons_of_mem _ (List.mem_cons_of_mem _ z)
      · rcases List.mem_cons.mp hy with rfl | hy
        · exact h2 y List.mem_cons_self
        · rcases List.mem_cons.mp hy with rfl | hy
          · exact Int.le_trans (Int.not_lt.mp h) (h2 i List.mem_cons_self)
          · exact h2 y (List.mem_cons_of_mem _ hy)
theorem rpK_ints {c : Cn} {F : Hp} : ∀ {kvs : List (D × D)} {q : List (Key × V)} {is : List Int}, ints? (kvs.map (·.1)) = some is → RpK c F kvs q → q.map (·.1) = is.map Sum.inl
  | [], q, is, e, r => by
    unfold RpK at r
    cases e
    rw [r]
    rfl
  | (k, d) :: kvs, q, is, e, r => by
    unfold RpK at r
    obtain ⟨x, v, q', rfl, ex, _, r⟩ := r
    rw [List.map_cons] at e
    cases k with
    | int i =>
      unfold ints? at e
      cases q2 : ints? (kvs.map (·.1)) with
      | none => rw [q2] at e; cases e
      | some js =>
        rw [q2] at e
        cases e
        cases ex
        rw [List.map_cons, List.map_cons, rpK_ints q2 r]
    | _ => cases e
theorem rpT_ints {c : Cn} {F : Hp} {kvs : List (D × D)} {q : List (List Key × V)} {is : List Int} (e : ints? (kvs.map (·.1)) = some is) (r : RpT c F kvs q) : kvs = [] ∧ q = [] := by
  cases kvs with
  | nil =>
    unfold RpT at r
    exact ⟨rfl, r⟩
  | cons p kvs =>
    obtain ⟨k, d⟩ := p
    unfold RpT at r
    obtain ⟨_, _, _, _, _, rfl, _⟩ := r
    cases e
def rMaxDf (A : Act) : List V → List V → Hp → VK → Prop := fun xs zs H Q => ∃ x y, xs = [x] ∧ zs = [y] ∧ rO2 A (ap2 .maxD) x y H Q
theorem max_dict {pins : List (Addr × Obj)} {t : Shared} {τ : L2.St} {J : Hp} {a : Addr} {Q : VK} {vs : List (Key × Value)} {is : List Int} {e : Int} {u : Value} (hc : X.calm = true) (I : Inv X pins τ J t) (hs : (a == sysModules) = false) (dd : t.heap.DictOf (mixKind X.prog X.w) a vs) (hk : vs.map (·.1) = is.map Sum.inl) (ru : RelV (.int e) u)
    (q : Q (.int (mxD e is)) J) : wpAny (model X.prog X.w) X.A (call (.builtin "max") [.ref a] [(Str.ofString "default", u)]) (EP X pins τ Q) X.xe t := by
  obtain ⟨ep, da⟩ := dd.dictAt
  have hl : vs.length = is.length := by
    have z := congrArg List.length hk
    rw [List.length_map, List.length_map] at z
    exact z
  have ha : a < t.heap.objs.size := da.lt_size
  have fin : ∀ (o : Obj) (s' : Shared) (v : V) (u : Value), Moved [t.heap.objs.size] (fun a b => a = b) { t with heap := t.heap.push o } s' → RelV v u → Q v J → EP X pins τ Q u s' := fun o s' v u m rv hq => by
    obtain ⟨h1, h2, h3, h4, h5⟩ := m
    obtain ⟨b1, b2, b3, b4, b5⟩ := s'
    have h2 : t.gens = b2 := h2
    have h3 : b3 = t.drawn := h3
    have h4 : b5 = t.os := h4
    subst h2 h3 h4
    exact ⟨v, J, I.kept (t' := b4) (h' := b1) fun b o' z => h1 b o' (fun y => by rw [List.mem_singleton.mp y] at z; exact absurd (Heap.lt_size z) (Nat.lt_irrefl _)) (Heap.get?_push_of_some _ z), rv, hq⟩
  refine call_max_walkD (wpAny_pyIter_dict hs da ?_)
  refine ⟨t.heap.objs.size, _, _, _, vs.length, _, _, { t.heap with objs := #[] }, fun i j => decide (is.getD i 0 > is.getD j 0), rfl, walks_keys (show X.A.in1.handled = none from I.ok.hd hc) t.heap.objs.size a (Nat.ne_of_lt ha) vs ep, ⟨⟨_, Heap.get?_push_size _ rfl, rfl, rfl⟩, da.push _⟩, fun b hb => ?_, fun b o z => ?_, fun b o z => ?_, fun h0 s' m => ?_, fun h0 => ⟨fun i j vi vj s Q' E' _ hi hj hq => ?_, fun v s' hp m => ?_⟩⟩
  · rw [size_push']
    rcases List.mem_cons.mp hb with z | z
    · rw [z]; exact Nat.lt_succ_self _
    · rw [List.mem_singleton.mp z]; exact Nat.lt_succ_of_lt ha
  · simp [Heap.get?] at z
  · simp [Heap.get?] at z
  · have ei : is = [] := List.length_eq_zero_iff.mp (by omega)
    subst ei
    exact fin _ s' (.int e) u m ru q
  · have key : ∀ i v, (∃ k x, vs[i]? = some (k, x) ∧ (mixKind X.prog X.w).is k v = true) → ∃ t, v = .int (is.getD i 0) t := fun i v ⟨k, x, e1, e2⟩ => by
      have z : (vs.map (·.1))[i]? = some k := by rw [List.getElem?_map, e1]; rfl
      rw [hk, List.getElem?_map] at z
      cases e3 : is[i]? with
      | none => rw [e3] at z; cases z
      | some n =>
        rw [e3] at z
        cases z
        rw [List.getD_eq_getElem?_getD, e3]
        exact Value.isInt_shape (k := n) (v := v) e2
    exact CmpOf.ints_gt (fun i => is.getD i 0) key i j vi vj s Q' E' hi hj hq
  · obtain ⟨k, x, e1, e2⟩ := hp
    obtain ⟨m1, m2⟩ := argBest_gt (fun i => is.getD i 0) (vs.length - 1)
    have hb : argBest (fun i j => decide (is.getD i 0 > is.getD j 0)) (vs.length - 1) < is.length := by
      have z : argBest (fun i j => decide (is.getD i 0 > is.getD j 0)) (vs.length - 1) ≤ vs.length - 1 := m1
      omega
    have z : (vs.map (·.1))[argBest (fun i j => decide (is.getD i 0 > is.getD j 0)) (vs.length - 1)]? = some k := by rw [List.getElem?_map, e1]; rfl
    rw [hk, List.getElem?_map, List.getElem?_eq_getElem hb] at z
    cases z
    obtain ⟨tk, ev⟩ := Value.isInt_shape (v := v) e2
    subst ev
    cases is with
    | nil => exact absurd hl (by rw [List.length_nil]; omega)
    | cons i r =>
      obtain ⟨f1, f2⟩ := maxf_spec r i
      have em : (i :: r)[argBest (fun a b => decide ((i :: r).getD a 0 > (i :: r).getD b 0)) (vs.length - 1)] = r.foldl (fun a b => if b > a then b else a) i := by
        refine Int.le_antisymm (f2 _ (List.getElem_mem _)) ?_
        obtain ⟨j, hj, ej⟩ := List.mem_iff_getElem.mp f1
        have z := m2 j (by omega)
        have z : (i :: r).getD j 0 ≤ (i :: r).getD (argBest (fun a b => decide ((i :: r).getD a 0 > (i :: r).getD b 0)) (vs.length - 1)) 0 := z
        rw [List.getD_eq_getElem?_getD, List.getElem?_eq_getElem hj, ej, List.getD_eq_getElem?_getD, List.getElem?_eq_getElem hb] at z
        exact z
      rw [em]
      exact fin _ s' (.int _) _ m ⟨tk, rfl⟩ q
theorem max_df (hK : X.K = A.c.K) (kd : KdOk X A.c) (hc : X.calm = true) : CallRK X (.builtin "max") [Str.ofString "default"] (rMaxDf A) := by
  intro pins t τ J xs zs us ws Q I rx rz ⟨x, y, ex, ez, s, σ, ω, d, e, res, h, hx, hy, hf, q⟩
  subst ex ez
  cases d with
  | dic kvs =>
    cases e with
    | int e =>
      obtain ⟨is, h1, h2⟩ := bind_some (show (ints? (kvs.map (·.1))).bind (fun is => some (D.int (mxD e is), false)) = some res from hf)
      cases h2
      obtain ⟨a, rfl, hd⟩ := hx
      have hy : y = .int e := hy
      subst hy
      obtain ⟨u, rfl, ru⟩ := vals1 rx
      cases (show u = Value.ref a from ru)
      obtain ⟨u2, rfl, ru2⟩ := vals1 rz
      show wpAny _ _ (call (.builtin "max") [.ref a] [(Str.ofString "default", u2)]) _ _ t
      rcases hd with ⟨qs, e', r⟩ | ⟨qs, e', r⟩
      · obtain ⟨z, hs, vs, rel, dd⟩ := dk_at kd I e'
        exact max_dict hc I hs dd (by rw [KV.keys rel]; exact rpK_ints h1 r) ru2 (q.i h)
      · obtain ⟨z, hs, ys, rel, dd⟩ := dt_rd I.hok e'
        obtain ⟨rfl, rfl⟩ := rpT_ints h1 r
        cases rel
        cases h1
        exact max_dict (is := []) hc I hs (dict_nil_K dd) rfl ru2 (q.i h)
    | _ => cases hf
  | _ => cases hf
end
end Mp
end
section
set_option Elab.async false
set_option linter.all false
set_option maxRecDepth 100000
set_option maxHeartbeats 2000000
/-! MpCal: calls of defs: what a def promises in a context. -/
namespace Mp
open PySem PySem.Spec PyProof.Rows L2
/-- the def at fa, called in the context X -/
def CallS (X : Cx) (fa : Addr) (sp : Sp) (Ex : L2.St → XK) : Prop := ∀ (pins : List (Addr × Obj)) (σ : L2.St) (H : Hp) (s : Shared) (Q : VK) (us : List Value) (vs : List V), Inv X pins σ H s → Vals vs us → sp vs H Q (Ex σ) → wpAny (model X.prog X.w) X.A (call (.ref fa) us) (EP X pins σ Q) X.xe s
/-- guards are known -/
def Grd (b : Bool) (A : Around) : Prop := b = true → A.guards = some []
/-- a def's promise, at a depth; b: it asks that no repr runs -/
def FnG (P : Program) (w : World) (K : PySem.W.Frag) (mg : Str → Option Value) (base : Heap) (b : Bool) (n : Nat) (fa : Addr) (sp : Sp) : Prop :=
  ∀ (A : Around) (outer : List Env) (s : Shared) (H : Hp) (us : List Value) (vs : List V) (Q : VK) (Ex : XK), Room n A → Grd b A → Env0 P w K mg base A outer s H → Vals vs us → sp vs H Q Ex → codeAny (model P w) A (.call (.ref fa) ⟨us, []⟩) (CR (L2.CX P w) outer P w H s Q Ex) s
theorem FnG.use {X : Cx} {W : L2.WX} {b : Bool} {n : Nat} {fa : Addr} {sp : Sp} (F : FnG X.prog X.w X.K X.mg X.base b n fa sp) (hr : Room n X.A) (hg : Grd b X.A) (tk : Takes X W) : CallS X fa sp (WE W) := by
  intro pins σ H s Q us vs I r h
  refine wpAny_call (codeAny_mono (F X.A X.stack s H us vs Q _ hr hg I.env0 r h) fun res s' hq => ?_)
  cases res with
  | ok fl =>
    cases fl with
    | ret u => exact I.after hq
    | _ => exact hq.elim
  | error e => exact passAt tk σ pins H s e s' I hq
section
variable {E : CE} {A : Act} {W : L2.WX} {X : Cx} {P : Act → Prop} {fa : Addr} {f : List D → List D → RC} {x : Str} {p pos : Pos}
theorem pe_callC {sp : Sp} {Ex : L2.St → XK} {e : Expr} {es : List Expr} {t : TA} (F : CallS X fa sp Ex) (hg : Gl X x) (hm : X.mg x = some (.ref fa)) (hk : PySem.W.keepIn X.K (.ref fa) = true) (ha : PA X (e :: es) t) (hdb : (x == ("__debug__" : Str)) = false)
    (he : starEach (e :: es) X.env = (false, eval e X.env) :: starEach es X.env) (hpl : (backTo pos (starEach es X.env)).any (·.1) = false) : PE X (.Call (.Name x p) (e :: es) [] pos) (tCallS sp Ex t) :=
  ⟨fun pins s σ H Q I h => wpAny_Call_Name_kw (ld_glob I hg hm (PySem.W.callWith_K (h₀ := X.base) I.ok.mod.kin hk (thn (ha.run pos pins s σ H _ I h) fun us s1 ⟨vs, H1, I1, r, q⟩ => ⟨I1.kIn, F pins σ H1 s1 Q us vs I1 r q⟩) he hpl) hdb)⟩
theorem e_callr {κ : Nat → (List D → RC) → List D → List D → RC} {f i : Nat} {fa : Addr} {x y : Str} {p p2 pos : Pos} {es : List Expr} {fr : S → R (List (D × Bool))} (hP : P A) (hPl : ∀ a, P (A.lend a)) (F : CallS X fa (spF E P (κ f noL)) (WE W)) (hg : Gl X x) (hm : X.mg x = some (.ref fa)) (hk : PySem.W.keepIn X.K (.ref fa) = true)
    (hN : X.N[i]? = some y) (hv : Vis X.env.scope y) (hd : (y == ("__debug__" : Str)) = false) (hcd : (y == ("__classdict__" : Str)) = false) (ha : PA X es (tA E A W fr)) (hdb : (x == ("__debug__" : Str)) = false) (hpl : (backTo pos (starEach es X.env)).any (·.1) = false) :
    PE X (.Call (.Name x p) (.Name y p2 :: es) [] pos) (tE E A W fun s => if (s.get i).isSome then (fr s).bind fun xs s1 => callRef κ f 0 i (fsts xs) s1 else .no) := by
  refine ⟨fun pins t σ H Q I h => (pe_callC F hg hm hk (a_name hN hv hd hcd ha) hdb (notStar rfl) hpl).run pins t σ H Q I ?_⟩
  obtain ⟨s, ω, sr, q⟩ := h
  have q : QR E A W σ (if (s.get i).isSome then (fr s).bind fun xs s1 => callRef κ f 0 i (fsts xs) s1 else .no) fun x s' => ∀ v H' ω', Sm ω.F ω'.F → SR A s' σ H' ω' → Out A.c ω ω' x.1 x.2 v → Q v H' := q
  have hv : ∃ v, σ[i]? = some (some v) ∧ (s.get i).isSome = true := by
    cases g : s.get i with
    | none => rw [g] at q; exact q.elim
    | some z =>
      obtain ⟨d, o⟩ := z
      cases o with
      | false => obtain ⟨v, e, _⟩ := sr.val g; exact ⟨v, e, rfl⟩
      | true => obtain ⟨a, e, _⟩ := sr.obj g; exact ⟨_, e, rfl⟩
  obtain ⟨v, ev, hs⟩ := hv
  rw [if_pos hs] at q
  refine ⟨s, ω, sr, v, ev, QR.mono q.bind fun xs s1 _ z vs H1 ω1 sm1 sr1 ou => ?_⟩
  obtain ⟨F', smF, sr1, rl⟩ := sr1.outsV ou
  have z : QR E A W σ (callRef κ f 0 i (fsts xs) s1) _ := z
  unfold callRef at z
  cases g : s1.get i with
  | none => rw [g] at z; exact z.elim
  | some y =>
    obtain ⟨d, o⟩ := y
    rw [g] at z
    cases o with
    | false =>
      obtain ⟨v', e', rd, _⟩ := sr1.val g
      rw [ev] at e'
      cases e'
      exact ⟨A, s1, σ, _, d :: fsts xs, sr1, hP, .cons rd rl, QC.of (s0 := s) (sm1.trans smF) rfl z⟩
    | true =>
      obtain ⟨a, e', srt⟩ := sr1.takeO g
      rw [ev] at e'
      cases e'
      have le := srt.lend rfl
      have z : QR E A W σ (match lent s1.st.length (κ f noL (.ref s1.st.length :: fsts xs) (s1.st ++ [d])) with
        | some (d, w, o', st) => .ok (d, w) ⟨s1.ρ.set i (some (o', true)), st⟩
        | none => .no) fun x s' => ∀ v H' ω', Sm ω.F ω'.F → SR A s' σ H' ω' → Out A.c ω ω' x.1 x.2 v → Q v H' := z
      refine ⟨A.lend a, _, σ, _, .ref s1.st.length :: fsts xs, le, hPl a, .cons (rp_ref sr1) rl.lend, ?_⟩
      cases el : lent s1.st.length (κ f noL (.ref s1.st.length :: fsts xs) (s1.st ++ [d])) with
      | none => rw [el] at z; exact z.elim
      | some y =>
        obtain ⟨d', w, o', st⟩ := y
        rw [el] at z
        refine QC.lent srt rfl el fun v' H' ω' sm' g' k1 k2 => ?_
        have hl : i < ((s1.clr i).ρ).length := by
          show i < (s1.ρ.set i none).length
          rw [List.length_set]
          exact (List.getElem?_eq_some_iff.mp (get_eq g)).1
        have key : ∀ {pd' : List (Addr × D)}, ω'.pd = (a, o') :: pd' → SR A ⟨s1.ρ.set i (some (o', true)), st⟩ σ H' ⟨ω'.F, ω'.ow.set i (some a), pd'⟩ := fun {pd'} e => by
          have u := g'.putO e hl
          rw [set_back ev] at u
          have es : (S.put ⟨(s1.clr i).ρ, st⟩ i o' true) = ⟨s1.ρ.set i (some (o', true)), st⟩ := by
            show (⟨(s1.ρ.set i none).set i (some (o', true)), st⟩ : S) = _
            rw [List.set_set]
          rw [es] at u
          exact u
        cases w with
        | false =>
          obtain ⟨ep, rv⟩ := k1 rfl
          exact z v' H' ⟨ω'.F, ω'.ow.set i (some a), ω.pd⟩ ((sm1.trans smF).trans sm') (key ep) ⟨rv, rfl⟩
        | true =>
          obtain ⟨b, rfl, ep⟩ := k2 rfl
          exact z _ H' ⟨ω'.F, ω'.ow.set i (some a), (b, d') :: ω.pd⟩ ((sm1.trans smF).trans sm') (key ep) ⟨b, rfl, rfl⟩
theorem e_callP {e : Expr} {es : List Expr} {fr : S → R (List (D × Bool))} (hP : P A) (hPs : ∀ H ω, P (A.sub H ω)) (F : CallS X fa (spF E P f) (WE W)) (hg : Gl X x) (hm : X.mg x = some (.ref fa)) (hk : PySem.W.keepIn X.K (.ref fa) = true)
    (ha : PA X (e :: es) (tA E A W fr)) (hdb : (x == ("__debug__" : Str)) = false) (he : noStar e = true) (hpl : (backTo pos (starEach es X.env)).any (·.1) = false) :
    PE X (.Call (.Name x p) (e :: es) [] pos) (tE E A W fun s => (fr s).bind fun xs s1 => callP f (fsts xs) s1) :=
  ⟨fun pins t σ H Q I h => (pe_callC F hg hm hk ha hdb (notStar he) hpl).run pins t σ H Q I (callP_use hP hPs h)⟩
theorem e_callPS {e : Expr} {es : List Expr} {fr : S → R (List (D × Bool))} (hP : P A) (hPs : ∀ H ω, P (A.sub H ω)) (F : CallS X fa (spF E P f) (WE W)) (hg : Gl X x) (hm : X.mg x = some (.ref fa)) (hk : PySem.W.keepIn X.K (.ref fa) = true)
    (ha : PA X (e :: es) (tA E A W fr)) (hdb : (x == ("__debug__" : Str)) = false) (he : noStar e = true) (hst : (backTo pos (starEach es X.env)).any (·.1) = true) :
    PE X (.Call (.Name x p) (e :: es) [] pos) (tE E A W fun s => (fr s).bind fun xs s1 => callP f (fsts xs) s1) := by
  refine ⟨fun pins t σ H Q I h => ?_⟩
  have h := callP_use hP hPs h
  refine wpAny_Call_Name_kw (ld_glob I hg hm ?_ hdb)
  refine PySem.W.callWith_S2 (h₀ := X.base) I.ok.mod.kin hk (thn (ha.run pos pins t σ H _ I h) fun us s1 ⟨vs, H1, I1, r, q⟩ => ⟨I1.kIn, ?_⟩) (notStar he) hst
  exact F pins σ H1 s1 Q us vs I1 r q
theorem e_callP0 (hPs : ∀ H ω, P (A.sub H ω)) (F : CallS X fa (spF E P f) (WE W)) (hg : Gl X x) (hm : X.mg x = some (.ref fa)) (hk : PySem.W.keepIn X.K (.ref fa) = true)
    (hdb : (x == ("__debug__" : Str)) = false) :
    PE X (.Call (.Name x p) [] [] pos) (tE E A W fun s => (R.ok ([] : List (D × Bool)) s).bind fun xs s1 => callP f (fsts xs) s1) := by
  refine ⟨fun pins t σ H Q I h => ?_⟩
  obtain ⟨s, ω, sr, q⟩ := h
  refine wpAny_Call_Name_kw (ld_glob I hg hm ?_ hdb)
  exact PySem.W.callWith_K0 I.kIn hk (F pins σ H t Q [] [] I .nil (call_pure (hPs H ω) sr .nil (Sm.refl _) rfl rfl q))
/-- the call of a def that stands at a name -/
theorem e_callv {i : Nat} {κ : Nat → (List D → RC) → List D → List D → RC} {e : Expr} {es : List Expr} {fr : S → R (List (D × Bool))} (hP : P A) (hPs : ∀ H ω, P (A.sub H ω)) {G : Ev} (hF : ∀ g, G.fns g = true → CallS X (A.c.AD g) (spF E P (κ g noL)) (WE W) ∧ PySem.W.keepIn X.K (.ref (A.c.AD g)) = true) (hN : X.N[i]? = some x) (hv : Vis X.env.scope x) (hd : (x == ("__debug__" : Str)) = false) (hcd : (x == ("__classdict__" : Str)) = false)
    (ha : PA X (e :: es) (tA E A W fr)) (he : noStar e = true) (hpl : (backTo pos (starEach es X.env)).any (·.1) = false) :
    PE X (.Call (.Name x p) (e :: es) [] pos) (tE E A W fun s => match s.get i with
      | some (.fn g, false) => if G.fns g then (fr s).bind fun xs s1 => callP (κ g noL) (fsts xs) s1 else .no
      | _ => .no) := by
  refine ⟨fun pins t σ H Q I h => ?_⟩
  obtain ⟨s, ω, sr, q⟩ := h
  have q : QR E A W σ (match s.get i with | some (.fn g, false) => if G.fns g then (fr s).bind fun xs s1 => callP (κ g noL) (fsts xs) s1 else .no | _ => .no) fun x s' => ∀ v H' ω', Sm ω.F ω'.F → SR A s' σ H' ω' → Out A.c ω ω' x.1 x.2 v → Q v H' := q
  cases g0 : s.get i with
  | none => rw [g0] at q; exact q.elim
  | some y =>
    obtain ⟨d, o⟩ := y
    rw [g0] at q
    cases o with
    | true => cases d <;> exact q.elim
    | false =>
      cases d with
      | fn g =>
        obtain ⟨v, ev, rv, _⟩ := sr.val g0
        have rv : v = .ref (A.c.AD g) := rv
        subst rv
        have q : QR E A W σ (if G.fns g then (fr s).bind fun xs s1 => callP (κ g noL) (fsts xs) s1 else .no) fun x s' => ∀ v H' ω', Sm ω.F ω'.F → SR A s' σ H' ω' → Out A.c ω ω' x.1 x.2 v → Q v H' := q
        by_cases hg : G.fns g = true
        · rw [if_pos hg] at q
          have q' : tE E A W (fun s => (fr s).bind fun xs s1 => callP (κ g noL) (fsts xs) s1) σ H Q := ⟨s, ω, sr, q⟩
          obtain ⟨F, hk⟩ := hF g hg
          refine wpAny_Call_Name_kw (thn ((pe_var (pos := p) hN hv hd hcd).run pins t σ H (fun v H1 => v = .ref (A.c.AD g) ∧ H1 = H) I ⟨.ref (A.c.AD g), ev, rfl, rfl⟩) fun u s1 ⟨v, H1, I1, r1, q1⟩ => ?_)
          obtain ⟨rfl, rfl⟩ := q1
          cases r1
          refine PySem.W.callWith_K (h₀ := X.base) I.ok.mod.kin hk (thn (ha.run pos pins s1 σ _ _ I1 (callP_use hP hPs q')) fun us s2 ⟨vs, H2, I2, r, q⟩ => ⟨I2.kIn, ?_⟩) (notStar he) hpl
          exact F pins σ H2 s2 Q us vs I2 r q
        · rw [if_neg hg] at q
          exact q.elim
      | _ => exact q.elim
end
end Mp
end
section
set_option Elab.async false
set_option linter.all false
set_option maxRecDepth 100000
set_option maxHeartbeats 2000000
/-! MpMor: is None; a call that gets a new object. -/
namespace Mp
open PySem PySem.Spec PyProof.Rows L2
def isNon : D → Bool
  | .non => true
  | _ => false
theorem vw_non {c : Cn} {F H : Hp} {d : D} {v : V} (h : Vw c F H d v) : decide (v = .non) = isNon d := by
  have no : ∀ {u : V}, v = u → u ≠ .non → isNon d = false → decide (v = .non) = isNon d := fun e n z => by
    rw [z]
    exact decide_eq_false fun y => n (e.symm.trans y)
  cases d with
  | non =>
    have h : v = .non := h
    exact decide_eq_true h
  | bl b => exact no (show v = .bl b from h) (fun z => nomatch z) rfl
  | int b => exact no (show v = .int b from h) (fun z => nomatch z) rfl
  | str b => exact no (show v = .str b from h) (fun z => nomatch z) rfl
  | tup xs =>
    obtain ⟨a, _, e, _⟩ := h
    exact no e (fun z => nomatch z) rfl
  | lst xs =>
    obtain ⟨a, _, e, _⟩ := h
    exact no e (fun z => nomatch z) rfl
  | dic xs =>
    obtain ⟨a, e, _⟩ := h
    exact no e (fun z => nomatch z) rfl
  | gdc xs =>
    obtain ⟨a, _, e, _⟩ := h
    exact no e (fun z => nomatch z) rfl
  | ref n =>
    have h : Rp c F (.ref n) v := h
    unfold Rp at h
    obtain ⟨a, _, e⟩ := h
    exact no e (fun z => nomatch z) rfl
  | fn n =>
    have h : Rp c F (.fn n) v := h
    unfold Rp at h
    exact no h (fun z => nomatch z) rfl
  | cls n =>
    have h : Rp c F (.cls n) v := h
    unfold Rp at h
    exact h.elim
  | clo n xs =>
    have h : Rp c F (.clo n xs) v := h
    unfold Rp at h
    obtain ⟨a, e, _⟩ := h
    exact no e (fun z => nomatch z) rfl
  | exc n x =>
    have h : Rp c F (.exc n x) v := h
    unfold Rp at h
    obtain ⟨a, e, _⟩ := h
    exact no e (fun z => nomatch z) rfl
theorem ap1_isN (d : D) : ap1 .isN d = some (.bl (isNon d), false) := by cases d <;> rfl
theorem ap1_notN (d : D) : ap1 .notN d = some (.bl (!isNon d), false) := by cases d <;> rfl
section
variable {E : CE} {A : Act} {W : L2.WX} {X : Cx} {P : Act → Prop}
theorem isn_use {g : Bool → Bool} {f : D → Option (D × Bool)} (hf : ∀ d, f d = some (.bl (g (isNon d)), false)) {ta : S → R Hd} {σ : L2.St} {H : Hp} {Q : VK} (h : tE E A W (fun s => (ta s).bind fun h s1 => liftO (res1 h s1 f) s1) σ H Q) :
    tOp (fun x y H Q => y = .non ∧ Q (.bl (g (decide (x = .non)))) H) (tH E A W ta) (tC .non) σ H Q := by
  obtain ⟨s, ω, sr, q⟩ := h
  refine QR.hd sr q.bind fun h1 s1 v1 H1 ω1 _ z1 sm1 sr1 e1 r1 => ?_
  obtain ⟨r, er, p⟩ := z1.liftO
  obtain ⟨d, ed, er⟩ := bind_some er
  rw [hf] at er
  cases er
  have vw := sr1.res r1 ed
  refine ⟨rfl, ?_⟩
  rw [vw_non vw]
  exact (QE.ans (s1 := s) sm1 e1 p).b sr1
section
variable {a : Expr} {j : Nat} {p pos : Pos} {ta : S → R Hd}
theorem e_isN (ha : PE X a (tH E A W ta)) : PE X (.Compare a [.Is] [.Constant .none j p] pos) (tE E A W fun s => (ta s).bind fun h s1 => liftO (res1 h s1 (ap1 .isN)) s1) :=
  ⟨fun pins t σ H Q I h => (pe_cmpR op_isN ha pe_non (nomark _)).run pins t σ H Q I (isn_use (g := id) ap1_isN h)⟩
theorem e_notN (ha : PE X a (tH E A W ta)) : PE X (.Compare a [.IsNot] [.Constant .none j p] pos) (tE E A W fun s => (ta s).bind fun h s1 => liftO (res1 h s1 (ap1 .notN)) s1) :=
  ⟨fun pins t σ H Q I h => (pe_cmpR op_notN ha pe_non (nomark _)).run pins t σ H Q I (isn_use (g := not) ap1_notN h)⟩
theorem t_isN (ha : PE X a (tH E A W ta)) : PT X (.Compare a [.Is] [.Constant .none j p] pos) (tT E A W fun s => (ta s).bind fun h s1 => liftO (res1 h s1 (ap1 .isN)) s1) :=
  ⟨fun pins t σ H Q I h => (pt_cmpR op_isN ha pe_non (nomark _)).run pins t σ H Q I (isn_use (g := id) ap1_isN h.e)⟩
theorem t_notN (ha : PE X a (tH E A W ta)) : PT X (.Compare a [.IsNot] [.Constant .none j p] pos) (tT E A W fun s => (ta s).bind fun h s1 => liftO (res1 h s1 (ap1 .notN)) s1) :=
  ⟨fun pins t σ H Q I h => (pt_cmpR op_notN ha pe_non (nomark _)).run pins t σ H Q I (isn_use (g := not) ap1_notN h.e)⟩
end
/-- f(e): what e makes is handed down, and then forgotten -/
theorem e_callo {κ : Nat → (List D → RC) → List D → List D → RC} {f : Nat} {fa : Addr} {x : Str} {p pos : Pos} {e : Expr} {fr : S → R (D × Bool)} (hPl : ∀ a, P (A.lend a)) (F : CallS X fa (spF E P (κ f noL)) (WE W)) (hg : Gl X x) (hm : X.mg x = some (.ref fa)) (hk : PySem.W.keepIn X.K (.ref fa) = true)
    (ha : PE X e (tE E A W fr)) (hs : noStar e = true) (hdb : (x == ("__debug__" : Str)) = false) :
    PE X (.Call (.Name x p) [e] [] pos) (tE E A W fun s => (fr s).bind fun y s1 => callOwn κ f y s1) := by
  refine ⟨fun pins t σ H Q I h => (pe_callC F hg hm hk (pa_cons ha pa_nil (notStar hs)) hdb (notStar hs) rfl).run pins t σ H Q I ?_⟩
  obtain ⟨s, ω, sr, q⟩ := h
  refine ⟨s, ω, sr, QR.mono q.bind fun y s1 _ z v H1 ω1 sm1 sr1 out => ?_⟩
  obtain ⟨d, o⟩ := y
  cases o with
  | false => exact z.elim
  | true =>
    obtain ⟨a, rfl, e1⟩ := out
    have z : QR E A W σ (match lent s1.st.length (κ f noL [.ref s1.st.length] (s1.st ++ [d])) with
      | some (d, w, _, st) => .ok (d, w) ⟨s1.ρ, st⟩
      | none => .no) fun x s' => ∀ v H' ω', Sm ω.F ω'.F → SR A s' σ H' ω' → Out A.c ω ω' x.1 x.2 v → Q v H' := z
    refine ⟨A.lend a, _, σ, _, [.ref s1.st.length], sr1.lend e1, hPl a, .cons (rp_ref sr1) .nil, ?_⟩
    cases el : lent s1.st.length (κ f noL [.ref s1.st.length] (s1.st ++ [d])) with
    | none => rw [el] at z; exact z.elim
    | some y =>
      obtain ⟨d', w, o', st⟩ := y
      rw [el] at z
      refine QC.lent sr1 e1 el fun v' H' ω' sm' g' k1 k2 => ?_
      cases w with
      | false =>
        obtain ⟨ep, rv⟩ := k1 rfl
        exact z v' H' { ω' with pd := ω.pd } (sm1.trans sm') (g'.drop (ps := [(a, o')]) ep) ⟨rv, rfl⟩
      | true =>
        obtain ⟨b, rfl, ep⟩ := k2 rfl
        exact z _ H' { ω' with pd := (b, d') :: ω.pd } (sm1.trans sm') (g'.drop (ps := [(a, o')]) ep) ⟨b, rfl, rfl⟩
end
end Mp
end
section
set_option Elab.async false
set_option linter.all false
set_option maxRecDepth 100000
set_option maxHeartbeats 4000000
/-! MpDc2: comprehensions of dicts with two clauses (the library has none); the road is that of the lists' (L2.lc2_core), the end of a turn that of the dicts' (L2.d_dictSet). -/
namespace Mp
open PySem PySem.Spec PyProof.Rows L2
section
variable (prog : Program) (w : World) (A : Around) (env : Env) (R : Result → Shared → Prop)
abbrev Nb : Value → Shared → Prop := notedBy (model prog w) A env fun e s' => R (.error e) s'
/-- one turn: the next item, its store, the tests, what follows -/
abbrev Turn1 (it : Value) (tg : Expr) (ifs : List Expr) (stop : Shared → Prop) (yes no : Shared → Prop) (s : Shared) : Prop :=
  wpAny (model prog w) A (pyNext it) (fun r s1 => match r with
    | none => stop s1
    | some v => wpAny (model prog w) A (letOwnedTupleGo tg it v) (fun _ s2 => wpAny (model prog w) A (assign tg env v) (fun _ s3 =>
        wpAny (model prog w) A (forIn ifs true fun c r => if r = true then do let ok ← isTrue c env (eval c env); pure (ForInStep.yield ok) else pure (ForInStep.yield r)) (fun ok s4 => if ok = true then yes s4 else no s4) (Nb prog w A env R) s3) (Nb prog w A env R) s2) (Nb prog w A env R) s1) (Nb prog w A env R) s
end
section
variable {prog : Program} {w : World} {A : Around} {R : Result → Shared → Prop} {s : Shared} {kx vx t0 i0 t1 i1 : Expr} {ifs0 ifs1 : List Expr} {scope : Scope} {pos : Pos} {it acc : Value} {a : Addr} {env : Env}
theorem dcTurn0 : compTurn (.DictComp kx vx [⟨t0, i0, ifs0, 0⟩, ⟨t1, i1, ifs1, 0⟩] scope pos) 0 it acc env = (do
      standAt i0.pos
      match ← pyNext it with
      | none => pure (.done .next)
      | some v =>
        letOwnedTupleGo t0 it v
        assign t0 env v
        let mut ok := true
        for c in ifs0 do
          if ok then ok ← isTrue c env (eval c env)
        if ok then
          let x ← eval i1 env
          standAt i1.pos
          let x ← foldedSetIterable i1 env x
          let _ ← runOwn (.compStart (.DictComp kx vx [⟨t0, i0, ifs0, 0⟩, ⟨t1, i1, ifs1, 0⟩] scope pos) 1 (← holding [x] (pyIter x)) acc env) env
        again (.compLoop (.DictComp kx vx [⟨t0, i0, ifs0, 0⟩, ⟨t1, i1, ifs1, 0⟩] scope pos) 0 it acc env)) := by rfl
theorem dcTurn1 : compTurn (.DictComp kx vx [⟨t0, i0, ifs0, 0⟩, ⟨t1, i1, ifs1, 0⟩] scope pos) 1 it (.ref a) env = (do
      standAt i1.pos
      match ← pyNext it with
      | none => pure (.done .next)
      | some v =>
        letOwnedTupleGo t1 it v
        assign t1 env v
        let mut ok := true
        for c in ifs1 do
          if ok then ok ← isTrue c env (eval c env)
        if ok then
          (do
            let kv ← eval kx env
            let vv ← holding [kv] (eval vx env)
            standAt { kx.pos with endLine := vx.pos.endLine, endCol := vx.pos.endCol }
            holding [kv, vv] (dictSet a kv vv))
        again (.compLoop (.DictComp kx vx [⟨t0, i0, ifs0, 0⟩, ⟨t1, i1, ifs1, 0⟩] scope pos) 1 it (.ref a) env)) := by rfl
theorem dcLoop0 (hs : ∀ x, foldedSetIterable i1 env x = pure x) (I : Nat → Shared → Prop)
    (turn : ∀ n s, I n s → Turn1 prog w A env R it t0 ifs0 (R (.ok .next)) (fun s4 => wpAny (model prog w) A (eval i1 env) (fun x s5 => wpAny (model prog w) A (pyIter x) (fun it1 s6 => codeAny (model prog w) A (.compStart (.DictComp kx vx [⟨t0, i0, ifs0, 0⟩, ⟨t1, i1, ifs1, 0⟩] scope pos) 1 it1 acc env) (fun r s' => match r with
      | .ok _ => ∃ m, m < n ∧ I m s'
      | .error _ => False) s6) (Nb prog w A env R) s5) (Nb prog w A env R) s4) (fun s4 => ∃ m, m < n ∧ I m s4) s) (n : Nat) (h : I n s) :
    codeAny (model prog w) A (.compLoop (.DictComp kx vx [⟨t0, i0, ifs0, 0⟩, ⟨t1, i1, ifs1, 0⟩] scope pos) 0 it acc env) R s := by
  refine codeAny_loop rfl I (fun n s hI => ?_) n h
  show wpAny _ A ((compTurn (.DictComp kx vx [⟨t0, i0, ifs0, 0⟩, ⟨t1, i1, ifs1, 0⟩] scope pos) 0 it acc env).onRaise (fun x => do noteFrame x env; theTreesLotGoes x)) _ _ s
  refine wpAny_noted ?_
  rw [dcTurn0]
  have e := fun (e : Value) (s' : Shared) (z : Nb prog w A env R e s') => z
  refine wpAny_bind (wpAny_standAt (wpAny_bind (wpAny_mono (turn n s hI) (fun r s1 h1 => ?_) e)))
  cases r with
  | none => exact wpAny_pure h1
  | some v =>
    refine wpAny_bind (wpAny_mono h1 (fun _ s2 h2 => wpAny_bind (wpAny_mono h2 (fun _ s3 h3 => wpAny_bind (wpAny_mono h3 (fun ok s4 h4 => ?_) e)) e)) e)
    cases ok with
    | false => exact wpAny_pure ⟨rfl, h4⟩
    | true =>
      refine wpAny_bind (wpAny_mono h4 (fun x s5 h5 => wpAny_bind (wpAny_standAt (wpAny_bind (wpAny_of_eq (hs x) (wpAny_bind (wpAny_holding (wpAny_mono h5 (fun it1 s6 h6 => ?_) e))))))) e)
      refine wpAny_bind (wpAny_runOwn ?_)
      rw [Around.mark_none]
      refine codeAny_mono h6 fun r s' hr => ?_
      cases r with
      | ok f => first | exact wpAny_pure ⟨rfl, hr⟩ | exact wpAny_bind (wpAny_pure (wpAny_pure ⟨rfl, hr⟩))
      | error e => exact hr.elim
theorem dcLoop1 (I : Nat → Shared → Prop)
    (turn : ∀ n s, I n s → Turn1 prog w A env R it t1 ifs1 (R (.ok .next)) (fun s4 => wpAny (model prog w) A (eval kx env) (fun kv s5 => wpAny (model prog w) A (eval vx env) (fun vv s6 => wpAny (model prog w) A (dictSet a kv vv) (fun _ s7 => ∃ m, m < n ∧ I m s7) (Nb prog w A env R) s6) (Nb prog w A env R) s5) (Nb prog w A env R) s4)
      (fun s4 => ∃ m, m < n ∧ I m s4) s) (n : Nat) (h : I n s) :
    codeAny (model prog w) A (.compLoop (.DictComp kx vx [⟨t0, i0, ifs0, 0⟩, ⟨t1, i1, ifs1, 0⟩] scope pos) 1 it (.ref a) env) R s := by
  refine codeAny_loop rfl I (fun n s hI => ?_) n h
  show wpAny _ A ((compTurn (.DictComp kx vx [⟨t0, i0, ifs0, 0⟩, ⟨t1, i1, ifs1, 0⟩] scope pos) 1 it (.ref a) env).onRaise (fun x => do noteFrame x env; theTreesLotGoes x)) _ _ s
  refine wpAny_noted ?_
  rw [dcTurn1]
  have e := fun (e : Value) (s' : Shared) (z : Nb prog w A env R e s') => z
  refine wpAny_bind (wpAny_standAt (wpAny_bind (wpAny_mono (turn n s hI) (fun r s1 h1 => ?_) e)))
  cases r with
  | none => exact wpAny_pure h1
  | some v =>
    refine wpAny_bind (wpAny_mono h1 (fun _ s2 h2 => wpAny_bind (wpAny_mono h2 (fun _ s3 h3 => wpAny_bind (wpAny_mono h3 (fun ok s4 h4 => ?_) e)) e)) e)
    cases ok with
    | false => exact wpAny_pure ⟨rfl, h4⟩
    | true => exact wpAny_bind (wpAny_bind (wpAny_mono h4 (fun kv s5 h5 => wpAny_bind (wpAny_holding (wpAny_mono h5 (fun vv s6 h6 => wpAny_bind (wpAny_standAt (wpAny_holding (wpAny_mono h6 (fun _ s7 h7 => wpAny_pure ⟨rfl, h7⟩) e)))) e))) e))
theorem dcStart1 (h0 : codeAny (model prog w) A (.compLoop (.DictComp kx vx [⟨t0, i0, ifs0, 0⟩, ⟨t1, i1, ifs1, 0⟩] scope pos) 1 it acc env) R s) (h : wpAny (model prog w) A (pyIter it) (fun it' s' => codeAny (model prog w) A (.compLoop (.DictComp kx vx [⟨t0, i0, ifs0, 0⟩, ⟨t1, i1, ifs1, 0⟩] scope pos) 1 it' acc env) R s') (Nb prog w A env R) s) :
    codeAny (model prog w) A (.compStart (.DictComp kx vx [⟨t0, i0, ifs0, 0⟩, ⟨t1, i1, ifs1, 0⟩] scope pos) 1 it acc env) R s := by
  refine codeAny_of_tree ?_
  show wpAny _ _ ((compStart (.DictComp kx vx [⟨t0, i0, ifs0, 0⟩, ⟨t1, i1, ifs1, 0⟩] scope pos) 1 it acc env).onRaise (fun x => do noteFrame x env; standAt theWindowsPlace)) _ _ s
  refine wpAny_notedAt ?_
  unfold compStart
  show wpAny _ _ (ask >>= _) _ _ s
  refine wpAny_bind (wpAny_askSetting (wpAny_ite ?_))
  split
  · first | exact wpAny_bind (wpAny_pure (wpAny_pure (And.intro rfl h0))) | exact wpAny_pure (And.intro rfl h0)
  · refine wpAny_bind (wpAny_rule ?_)
    first
      | exact wpAny_bind (wpAny_standAt (wpAny_bind (wpAny_mono h (fun it' s' h' => wpAny_pure (And.intro rfl h')) fun _ _ x => x)))
      | (show wpAny _ _ (standAt i1.pos >>= _) _ _ s; exact wpAny_bind (wpAny_standAt (wpAny_bind (wpAny_mono h (fun it' s' h' => wpAny_pure (And.intro rfl h')) fun _ _ x => x))))
end
section
variable {X : Cx} {kx vx tg iter tg1 iter1 : Expr} {ifs ifs1 : List Expr} {scope : Scope} {own : List (Str × Nat)} {vs1 : List Nat} {wi wi1 : TI} {g g1 : TG} {tt tt1 : TT} {tk tv : TE}
/-- what the block keeps between two turns of a loop over it -/
abbrev Kp (Y : Cx) (pins : List (Addr × Obj)) (σ : L2.St) (T : Nat → Heap → Prop) (fp : List Addr) (W : Nat → Nat → Hp → Prop) : Nat → Shared → Prop := fun n s => ∃ i H, L2.Inv Y pins σ H s ∧ T i s.heap ∧ (∀ b ∈ fp, H b = none) ∧ W i n H
/-- a turn has come to its end -/
theorem kp_end {Y : Cx} {ps : List (Addr × Obj)} {σ τ : L2.St} {H' : Hp} {s' : Shared} {h : Heap} {T : Nat → Heap → Prop} {fp : List Addr} {W : Nat → Nat → Hp → Prop} {n i : Nat} {Nx : Hp → Prop} (keep : ∀ h', (∀ b ∈ fp, ∀ o, h.get? b = some o → h'.get? b = some o) → T (i + 1) h') (obj : ∀ b ∈ fp, ∃ o, h.get? b = some o ∧ ∀ v, o.data ≠ .cell v)
    (I : L2.Inv Y (ps ++ pinsAt fp h) τ H' s') (hl : σ.length = τ.length) (hk : ∀ (j : Nat) v, σ[j]? = some (some v) → τ[j]? = some (some v)) (hn : ∀ H', Nx H' → ∃ m, m < n ∧ W (i + 1) m H') (nx : Nx H') : ∃ m, m < n ∧ Kp Y ps σ T fp W m s' := by
  obtain ⟨m, hm, w⟩ := hn H' nx
  have pin : ∀ b ∈ fp, ∀ o, h.get? b = some o → s'.heap.get? b = some o ∧ H' b = none := fun b hb o e =>
    have z := I.pin (b, o) (List.mem_append_right _ (List.mem_append_right _ (mem_pinsAt hb e)))
    ⟨z.1, z.2.1⟩
  refine ⟨m, hm, i + 1, H', I.unpinned.weak hl hk, keep _ fun b hb o e => (pin b hb o e).1, fun b hb => ?_, w⟩
  obtain ⟨o, e, _⟩ := obj b hb
  exact (pin b hb o e).2

/-- one turn of a loop over a block -/
theorem turn_ok {Y : Cx} {R : Result → Shared → Prop} {pins : List (Addr × Obj)} {σ : L2.St} {H : Hp} {s : Shared} {it : Addr} {fp : List Addr} {tn : Nat → Heap → Prop} {J : It} {i : Nat} {stop yes no : Shared → Prop} {C : Bool → L2.St → Hp → Prop} {V : L2.St → Prop} (hc : Y.calm = true) (hx : Y.xe = fun _ _ => False) (T : Turn Y.prog Y.w Y.K tg J fp it tn)
    (hg : PG Y tg g) (ht : PTs Y ifs tt) (I : L2.Inv Y pins σ H s) (st : tn i s.heap) (fk : ∀ H', (∀ b ∈ fp, H' b = none) → ∀ b ∈ fp, FpOk Y pins H' b) (fn : ∀ b ∈ fp, H b = none)
    (h : (J.stop i H ∧ ∀ s', L2.Inv Y pins σ H s' → stop s') ∨ (J.go i H ∧ (∀ x H', J.yld i H x H' → g x σ H' fun σ2 H2 => V σ2 ∧ tt σ2 H2 fun b H3 => C b σ2 H3) ∧
      ∀ (σ2 : L2.St) (b : Bool) (H3 : Hp) (s7 s' : Shared), V σ2 → tn (i + 1) s7.heap → L2.Inv Y (pins ++ pinsAt fp s7.heap) σ2 H3 s' → C b σ2 H3 → if b = true then yes s' else no s')) :
    Turn1 Y.prog Y.w Y.A Y.env R (.ref it) tg ifs stop yes no s := by
  have f0 := fk H fn
  rcases h with ⟨js, k⟩ | ⟨jg, k, q⟩
  · refine thnF (T.done Y rfl rfl rfl hc i pins s σ H (fun _ _ => False) I f0 st js) fun r s1 ⟨e, I1⟩ => ?_
    subst e
    exact k s1 I1
  · refine thnF (T.item Y rfl rfl rfl hc i pins s σ H (fun _ _ => False) I f0 st jg) fun r s1 ⟨u, e, h1⟩ => ?_
    subst e
    refine thnF h1 fun _ s2 ⟨x, H2, I2, r2, y2, st2, n2⟩ => ?_
    have I3 := I2.pinned (fk H2 n2) (T.obj _ _ st2)
    have h3 := hg.run _ s2 σ H2 x u _ I3 r2 (k x H2 y2)
    rw [hx] at h3
    refine thnF h3 fun _ s3 ⟨σ3, H3, I3, v3, q3⟩ => ?_
    have h4 := ht.run _ s3 σ3 H3 _ I3 q3
    rw [hx] at h4
    exact thnF h4 fun b s4 ⟨H4, I4, q4⟩ => q σ3 b H4 s2 s4 v3 st2 I4 q4
theorem wipe_len2 {σ : L2.St} {vs : List Nat} : (L2.wipe σ vs).length = σ.length := L2.wipe_length σ vs
/-- {k: v for tg in iter for tg1 in iter1 if ..} -/
theorem dc2_core {pins : List (Addr × Obj)} {s : Shared} {σ : L2.St} {H : Hp} {Q : VK} {pos pos' : Pos} {use : Option (Value → Sem Unit)} {Qf : Value → Shared → Prop} (hc : X.calm = true) (hN : X.N.Nodup) (I : L2.Inv X pins σ H s) (hi : PI X tg iter wi) (ok : BlkOk X.N X.env.scope scope own) (hv : ∀ i ∈ vs1, i ∈ own.map (·.2))
    (hg : Blks X scope fun Y => PG Y tg g) (ht : Blks X scope fun Y => PTs Y ifs tt) (hi1 : Blks X scope fun Y => PI Y tg1 iter1 wi1) (hg1 : Blks X scope fun Y => PG Y tg1 g1) (ht1 : Blks X scope fun Y => PTs Y ifs1 tt1) (hk : Blks X scope fun Y => PE Y kx tk) (he : Blks X scope fun Y => PE Y vx tv)
    (hs : ∀ x, foldedSetIterable iter X.env x = pure x) (hs1 : ∀ env x, foldedSetIterable iter1 env x = pure x) (h : outL wi g tt (.dK []) (fun D => inL wi1 g1 tt1 (emD D tk tv) vs1) (own.map (·.2)) σ H Q)
    (hRR : ∀ D C s' m H', L2.Inv X pins σ H' s' → Q (.ref D) H' → s'.heap.Ns C m → FpOk X pins H' C → compPost (model X.prog X.w) X.A X.xe use Qf (.ref D) C (.ok .next) s') :
    wpAny (model X.prog X.w) X.A (comprehension (.DictComp kx vx [⟨tg, iter, ifs, 0⟩, ⟨tg1, iter1, ifs1, 0⟩] scope pos) scope X.env pos' newDict false (eval iter X.env) use) Qf X.xe s := by
  have hfree : ∀ y ∈ scope.names, y.2 = .free → ∃ c, X.env.cells.lookup y.1 = some c := fun y hy e => I.ok.has _ ((ok.free y hy e).elim .inl .inr)
  refine wpAny_comprehension_free (use := use) rfl hs (closure_ok hfree) ok.kind (fun y hy e => by rw [ok.uniq y hy, e])
    (thn (hi.run pins s σ H _ I h) fun xv s1 hx => thn hx fun itv s2 h2 => ?_)
  obtain ⟨it, fp, tn, J, H2, e, I2, T, st2, f2, q⟩ := h2
  subst e
  refine wpAny_newObj_type (newEnv_comp ?_)
  generalize hD : s2.heap.objs.size = D
  have hDn : H2 D = none := I2.hok.fresh (Nat.le_of_eq hD)
  obtain ⟨W, ⟨m0, w0⟩, turn⟩ := q D hDn
  generalize hs3 : ({ s2 with heap := s2.heap.push { cls := .type "dict", data := .dict #[] } } : Shared) = s3
  have I3 : L2.Inv X pins (σ) (upd H2 D (.dK [])) s3 := by
    rw [← hs3]
    refine I2.laid (t' := s2.toks) (fun b o e => Heap.get?_push_of_some _ e) (Nat.le_of_eq hD) ?_
    rw [← hD]
    exact dk_empty s2.heap I2.big
  have h3 : s3.heap = s2.heap.push { cls := .type "dict", data := .dict #[] } := by rw [← hs3]
  have f3 : ∀ b ∈ fp, FpOk X pins (upd H2 D (.dK [])) b ∧ b < s3.heap.objs.size := fun b hb => by
    obtain ⟨o, e, _⟩ := T.obj _ _ st2 b hb
    have hlt := Heap.lt_size e
    refine ⟨⟨?_, (f2 b hb).2⟩, by rw [h3, Heap.size_push]; exact Nat.lt_succ_of_lt hlt⟩
    rw [upd_ne (by rw [← hD]; exact Nat.ne_of_lt hlt)]
    exact (f2 b hb).1
  have I4 := block_start I3 ok hN f3
  have pg := hg s3 (upd H2 D (.dK [])) s3.heap.objs.size (cellsFrom (s3.heap.objs.size + 1) scope.names (cloFrom X.env.cells scope.names [])) fp
  have pt := ht s3 (upd H2 D (.dK [])) s3.heap.objs.size (cellsFrom (s3.heap.objs.size + 1) scope.names (cloFrom X.env.cells scope.names [])) fp
  have pi1 := hi1 s3 (upd H2 D (.dK [])) s3.heap.objs.size (cellsFrom (s3.heap.objs.size + 1) scope.names (cloFrom X.env.cells scope.names [])) fp
  have pg1 := hg1 s3 (upd H2 D (.dK [])) s3.heap.objs.size (cellsFrom (s3.heap.objs.size + 1) scope.names (cloFrom X.env.cells scope.names [])) fp
  have pt1 := ht1 s3 (upd H2 D (.dK [])) s3.heap.objs.size (cellsFrom (s3.heap.objs.size + 1) scope.names (cloFrom X.env.cells scope.names [])) fp
  have pk := hk s3 (upd H2 D (.dK [])) s3.heap.objs.size (cellsFrom (s3.heap.objs.size + 1) scope.names (cloFrom X.env.cells scope.names [])) fp
  have pe := he s3 (upd H2 D (.dK [])) s3.heap.objs.size (cellsFrom (s3.heap.objs.size + 1) scope.names (cloFrom X.env.cells scope.names [])) fp
  show codeAny _ _ (.compStart (.DictComp kx vx [⟨tg, iter, ifs, 0⟩, ⟨tg1, iter1, ifs1, 0⟩] scope pos) 0 (.ref it) (.ref D) (compEnvC scope (cellsFrom (s3.heap.objs.size + 1) scope.names (cloFrom X.env.cells scope.names [])) s3.heap.objs.size X.env))
    (compPost (model X.prog X.w) X.A X.xe use Qf (.ref D) s3.heap.objs.size) { s3 with heap := pushCells (s3.heap.push { cls := .type "dict", data := .dict #[] }) scope.names }
  generalize hce : compEnvC scope (cellsFrom (s3.heap.objs.size + 1) scope.names (cloFrom X.env.cells scope.names [])) s3.heap.objs.size X.env = ce at I4 pg pt pi1 pg1 pt1 pk pe ⊢
  have cL : ce.locals = s3.heap.objs.size := by subst hce; rfl
  generalize hH3 : upd H2 D (.dK []) = H3 at I3 I4 pg pt pi1 pg1 pt1 pk pe w0 f3
  generalize hs4 : ({ s3 with heap := pushCells (s3.heap.push { cls := .type "dict", data := .dict #[] }) scope.names } : Shared) = s4 at I4 ⊢
  generalize hY : X.blk s3 H3 scope ce fp = Y at I4 pg pt pi1 pg1 pt1 pk pe
  have yp : Y.prog = X.prog := by rw [← hY]
  have yw : Y.w = X.w := by rw [← hY]
  have yK : Y.K = X.K := by rw [← hY]
  have yA : Y.A = X.A := by rw [← hY]
  have ye : Y.env = ce := by rw [← hY]
  have yx : Y.xe = fun _ _ => False := by rw [← hY]
  have yc : Y.calm = true := by rw [← hY]; exact hc
  have TY : Turn Y.prog Y.w Y.K tg J fp it tn := by rw [yp, yw, yK]; exact T
  have st4 : tn 0 s4.heap := T.keep _ _ _ st2 fun b _ o e => by rw [← hs4]; exact pushCells_keeps _ _ _ _ (Heap.get?_push_of_some _ (by rw [h3]; exact Heap.get?_push_of_some _ e))
  have fk : ∀ H' : Hp, (∀ b ∈ fp, H' b = none) → ∀ b ∈ fp, FpOk Y [] H' b := fun H' hn b hb => by
    have a1 := I4.ok.exf b (by rw [← hY]; exact hb)
    refine ⟨hn b hb, a1.1, I4.ok.exfs b (by rw [← hY]; exact hb), .inl (by rw [← hY]; exact hb), fun x c e => a1.2 x c e, fun p hp => ?_⟩
    have z : p ∈ ([] : List (Addr × Obj)) ++ [] := by rw [← hY] at hp; exact hp
    exact absurd z (by simp)
  have loop : codeAny (model X.prog X.w) X.A (.compLoop (.DictComp kx vx [⟨tg, iter, ifs, 0⟩, ⟨tg1, iter1, ifs1, 0⟩] scope pos) 0 (.ref it) (.ref D) ce) (compPost (model X.prog X.w) X.A X.xe use Qf (.ref D) s3.heap.objs.size) s4 := by
    rw [← yp, ← yw, ← yA, ← ye]
    refine dcLoop0 (hs1 _) (Kp Y [] (L2.wipe σ (own.map (·.2))) tn fp W) ?_ m0 ⟨0, H3, I4, st4, fun b hb => (f3 b hb).1.1, w0⟩
    rintro n s5 ⟨i, H5, I5, st5, n5, w5⟩
    rcases turn i n H5 w5 with ⟨js, qq⟩ | ⟨jg, Nx, hNx, step⟩
    · refine turn_ok (V := fun _ => True) (C := fun _ _ _ => True) yc yx TY pg pt I5 st5 fk n5 (.inl ⟨js, fun s6 I6 => ?_⟩)
      -- the end: back in the def's context
      have I7 : L2.Inv X pins σ H5 s6 := by
        rw [← hY] at I6
        exact I3.call' (ch := fp) I6.os I6.base I6.hok I6.bare fun b hb => ⟨(f3 b hb).1.2.2.2.1, (f3 b hb).1.2.1, (f3 b hb).1.2.2.2.2.1, (f3 b hb).1.2.2.2.2.2⟩
      obtain ⟨m, hn, _⟩ := I6.loc
      have hn : s6.heap.Ns Y.env.locals m := hn
      have nC : H5 Y.env.locals = none := I6.free
      rw [ye, cL] at hn nC
      rw [yp, yw, yA]
      exact hRR D s3.heap.objs.size s6 m H5 I7 qq hn (I3.fpOk (Nat.le_refl _) nC)
    · refine turn_ok (V := fun σ2 => L2.wipe σ2 (own.map (·.2)) = L2.wipe σ (own.map (·.2))) (C := fun b σ2 H3 => if b = true then inL wi1 g1 tt1 (emD D tk tv) vs1 σ2 H3 Nx else Nx H3) yc yx TY pg pt I5 st5 fk n5 (.inr ⟨jg, step, fun σ8 b H9 s7 s9 v8 st7 I9 q9 => ?_⟩)
      have hl8 : (L2.wipe σ (own.map (·.2))).length = σ8.length := by rw [← v8, L2.wipe_length]
      have hk8 : ∀ (j : Nat) v, (L2.wipe σ (own.map (·.2)))[j]? = some (some v) → σ8[j]? = some (some v) := fun j v e => by
        rw [← v8] at e
        exact (wipe_some e).1
      cases b with
      | false => exact kp_end (fun h' k => T.keep _ _ _ st7 k) (T.obj _ _ st7) I9 hl8 hk8 hNx q9
      | true =>
        have hk9 : ∀ (j : Nat) v, (L2.wipe σ (own.map (·.2)))[j]? = some (some v) → (L2.wipe σ8 vs1)[j]? = some (some v) := fun j v e => by
          rw [← v8] at e
          obtain ⟨e1, e2⟩ := wipe_some e
          rw [wipe_out fun z => e2 (hv j z)]
          exact e1
        have q9 : inL wi1 g1 tt1 (emD D tk tv) vs1 σ8 H9 Nx := q9
        have r1 := pi1.run _ s9 σ8 H9 _ I9 q9
        rw [yx] at r1
        refine thnF r1 fun xv s10 hx => thnF hx fun itv s11 h11 => ?_
        obtain ⟨it1, fp1, tn1, J1, H11, e1, I11, T1, st11, f11, W1, ⟨m1, w1⟩, turn1⟩ := h11
        subst e1
        have loop1 : codeAny (model Y.prog Y.w) Y.A (.compLoop (.DictComp kx vx [⟨tg, iter, ifs, 0⟩, ⟨tg1, iter1, ifs1, 0⟩] scope pos) 1 (.ref it1) (.ref D) Y.env) (fun r s' => match r with
            | .ok _ => ∃ m, m < n ∧ Kp Y [] (L2.wipe σ (own.map (·.2))) tn fp W m s'
            | .error _ => False) s11 := by
          refine dcLoop1 (Kp Y ([] ++ pinsAt fp s7.heap) (L2.wipe σ8 vs1) tn1 fp1 W1) ?_ m1 ⟨0, H11, I11.weak (L2.wipe_length _ _) (fun j v e => (wipe_some e).1), st11, fun b hb => (f11 b hb).1, w1⟩
          rintro k s12 ⟨j, H12, I12, st12, n12, w12⟩
          rcases turn1 j k H12 w12 with ⟨js, nx⟩ | ⟨jg, Nx1, hNx1, step1⟩
          · refine turn_ok (V := fun _ => True) (C := fun _ _ _ => True) yc yx T1 pg1 pt1 I12 st12 (fun H' hn b hb => ⟨hn b hb, (f11 b hb).2⟩) n12 (.inl ⟨js, fun s13 I13 => ?_⟩)
            exact kp_end (fun h' k => T.keep _ _ _ st7 k) (T.obj _ _ st7) I13 (hl8.trans (L2.wipe_length σ8 vs1).symm) hk9 hNx nx
          · refine turn_ok (V := fun σ2 => L2.wipe σ2 vs1 = L2.wipe σ8 vs1) (C := fun b σ2 H3 => if b = true then emD D tk tv σ2 H3 Nx1 else Nx1 H3) yc yx T1 pg1 pt1 I12 st12 (fun H' hn b hb => ⟨hn b hb, (f11 b hb).2⟩) n12 (.inr ⟨jg, step1, fun σ15 b1 H16 s14 s16 v15 st14 I16 q16 => ?_⟩)
            have hl15 : (L2.wipe σ8 vs1).length = σ15.length := by rw [← v15, L2.wipe_length]
            have hk15 : ∀ (j : Nat) v, (L2.wipe σ8 vs1)[j]? = some (some v) → σ15[j]? = some (some v) := fun j v e => by
              rw [← v15] at e
              exact (wipe_some e).1
            cases b1 with
            | false => exact kp_end (fun h' k => T1.keep _ _ _ st14 k) (T1.obj _ _ st14) I16 hl15 hk15 hNx1 q16
            | true =>
              have q16 : emD D tk tv σ15 H16 Nx1 := q16
              have r2 := pk.run _ s16 σ15 H16 _ I16 q16
              rw [yx] at r2
              refine thnF r2 fun z s17 ⟨yk, H17, I17, r17, q17⟩ => ?_
              have r3 := pe.run _ s17 σ15 H17 _ I17 q17
              rw [yx] at r3
              refine thnF r3 fun z2 s18 ⟨yv, H18, I18, r18, kvs, k, ek, hD18, hz18, nx⟩ => ?_
              subst ek
              exact d_dictSet (X := Y) I18 hD18 hz18 r17 r18 fun s19 I19 => kp_end (fun h' k => T1.keep _ _ _ st14 k) (T1.obj _ _ st14) I19 hl15 hk15 hNx1 nx
        exact dcStart1 loop1 (T1.self Y.A 0 _ _ _ st11 loop1)
  exact codeAny_compStart_dict loop (T.self X.A 0 _ _ _ st4 loop)
theorem pe_dc2 {pos : Pos} (hc : X.calm = true) (hN : X.N.Nodup) (hi : PI X tg iter wi) (ok : BlkOk X.N X.env.scope scope own) (hv : ∀ i ∈ vs1, i ∈ own.map (·.2))
    (hg : Blks X scope fun Y => PG Y tg g) (ht : Blks X scope fun Y => PTs Y ifs tt) (hi1 : Blks X scope fun Y => PI Y tg1 iter1 wi1) (hg1 : Blks X scope fun Y => PG Y tg1 g1) (ht1 : Blks X scope fun Y => PTs Y ifs1 tt1) (hk : Blks X scope fun Y => PE Y kx tk) (he : Blks X scope fun Y => PE Y vx tv)
    (hs : ∀ x, foldedSetIterable iter X.env x = pure x) (hs1 : ∀ env x, foldedSetIterable iter1 env x = pure x) :
    PE X (.DictComp kx vx [⟨tg, iter, ifs, 0⟩, ⟨tg1, iter1, ifs1, 0⟩] scope pos) (outL wi g tt (.dK []) (fun D => inL wi1 g1 tt1 (emD D tk tv) vs1) (own.map (·.2))) := by
  refine ⟨fun pins s σ H Q I h => ?_⟩
  rw [arm_eval_DictComp]
  refine dc2_core hc hN I hi ok hv hg ht hi1 hg1 ht1 hk he hs hs1 h fun D C s' m H' I' q hn f => ⟨m, hn, fun h2 sb => ?_⟩
  obtain ⟨f0, f1, f2, f3, f4, f5⟩ := f
  exact ⟨.ref D, H', I'.turned (t' := s'.toks) (fun b o hb e => (sb.2 b hb).trans e) f0 f1 f3 f4 f5, rfl, q⟩
end
section
variable {E : CE} {A : Act} {W W0 : L2.WX} {X : Cx}
theorem e_dcomp2 {tp tp2 : Bool} {t t2 : Tg} {tst : Option (S → R (D × Bool))} {fi fi2 : S → R (List D)} {fk fv : S → R (D × Bool)} {kx vx tg iter tg1 iter1 : Expr} {ifs1 : List Expr} {scope : Scope} {own : List (Str × Nat)} {own2 : List Nat} {pos : Pos} (hK : X.K = A.c.K) (htp : tpOk tp t) (htp2 : tpOk tp2 t2) (hown : ∀ i ∈ tgs t, i ∈ own.map (·.2)) (hown2 : ∀ i ∈ tgs t2, i ∈ own2) (hsub : ∀ i ∈ own2, i ∈ own.map (·.2)) (hc : X.calm = true) (hN : X.N.Nodup)
    (hi : PI X tg iter (tI E A W tp fi)) (ok : BlkOk X.N X.env.scope scope own) (hg : Blks X scope fun Y => PG Y tg (gT X.K t)) (hi1 : Blks X scope fun Y => PI Y tg1 iter1 (tI E A W0 tp2 fi2)) (hg1 : Blks X scope fun Y => PG Y tg1 (gT X.K t2)) (ht1 : Blks X scope fun Y => PTs Y ifs1 (tTs E A W0 tst)) (hk : Blks X scope fun Y => PE Y kx (tE E A W0 fk)) (hv : Blks X scope fun Y => PE Y vx (tE E A W0 fv))
    (hs : ∀ x, foldedSetIterable iter X.env x = pure x) (hs1 : ∀ env x, foldedSetIterable iter1 env x = pure x) :
    PE X (.DictComp kx vx [⟨tg, iter, [], 0⟩, ⟨tg1, iter1, ifs1, 0⟩] scope pos) (tE E A W (compG finD (own.map (·.2)) t none fi (fun s => (fi2 s).bind fun zs s => compLoop (turn own2 t2 tst (fun s => (fk s).bind fun d s => (fv s).bind fun e s => .ok [.tup [d.1, e.1]] s)) zs s))) :=
  ⟨fun pins t0 σ H Q I h => (pe_dc2 (vs1 := own2) hc hN hi ok hsub hg (fun _ _ _ _ _ => pts_nil) hi1 hg1 ht1 hk hv hs hs1).run pins t0 σ H Q I
    (comp_use (W0 := W0) hK htp (fun _ => em_in (X := X) (W0 := W0) hK htp2 (em_dic (W0 := W0)) (fun _ z => nomatch z) hown2 (fun _ _ _ => finD_pre)) hsub hown (fun _ _ _ => finD_pre) rfl ob_dic h)⟩
end
end Mp
end
section
set_option Elab.async false
set_option linter.all false
set_option maxRecDepth 100000
set_option maxHeartbeats 2000000
/-! MpDsN: displays of dicts with several pairs, their keys written; xs[::-1] of a list. -/
namespace Mp
open PySem PySem.Spec PyProof.Rows L2
/-- a written key's value -/
def kVd : D → V
  | .int i => .int i
  | .str s => .str s
  | _ => .non
theorem kVd_of {d : D} {x : Key} (h : keyOf d = some x) : kVd d = kV x := by
  cases d <;> first | (cases h; rfl) | cases h
/-- the keys -/
def keysL : List D → List Key
  | [] => []
  | d :: ds => match keyOf d with
    | some x => x :: keysL ds
    | none => keysL ds
theorem mk1_key {d e : D} {acc r : List (D × D)} (h : mk1 false (.tup [d, e]) acc = some r) : ∃ x, keyOf d = some x ∧ r = D.put acc d e ∧ d.key1 = true := by
  have h : (if keyIsT false d then some (D.put acc d e) else none) = some r := h
  cases hc : keyIsT false d with
  | false => rw [hc] at h; cases h
  | true =>
    rw [hc] at h
    have k1 : d.key1 = true := by cases d <;> first | exact hc | cases hc
    obtain ⟨x, ex⟩ := key1_cases k1
    exact ⟨x, ex, (Option.some.inj h).symm, k1⟩
theorem mkDic_rp {c : Cn} {F : Hp} : ∀ {ks ds : List D} {vs : List V} {acc r : List (D × D)} {q : List (Key × V)}, ks.length = ds.length → RpL c F ds vs → KN acc → RpK c F acc q → mkDic false (zipD ks ds) acc = some r →
    ∃ kvs : List (Key × V), (ks.map kVd).zip vs = kvs.map (fun kv => (kV kv.1, kv.2)) ∧ kvs.length = ks.length ∧ RpK c F r (mergeK q kvs)
  | [], ds, vs, acc, r, q, hl, rl, kn, rk, h => by
    cases h
    exact ⟨[], rfl, rfl, rk⟩
  | k :: ks, [], vs, acc, r, q, hl, rl, kn, rk, h => by cases hl
  | k :: ks, d :: ds, vs, acc, r, q, hl, rl, kn, rk, h => by
    obtain ⟨v, vs', rfl, r1, r2⟩ := rl.out
    have h : (mk1 false (.tup [k, d]) acc).bind (fun a => mkDic false (zipD ks ds) a) = some r := h
    obtain ⟨a, h1, h2⟩ := bind_some h
    obtain ⟨x, ex, rfl, k1⟩ := mk1_key h1
    obtain ⟨kvs, e1, e2, e3⟩ := mkDic_rp (q := putK q x v) (Nat.succ.inj hl) r2 (kn.put (v := d) k1).1 (rpK_put ex r1 (kn.q rk) rk) h2
    refine ⟨(x, v) :: kvs, ?_, by rw [List.length_cons, List.length_cons, e2], e3⟩
    rw [List.map_cons, List.zip_cons_cons, e1, List.map_cons, kVd_of ex]
section
variable {E : CE} {A : Act} {W : L2.WX} {X : Cx}
theorem e_dspN {kds : List D} {kes : List (Option Expr)} {ves : List Expr} {fv : S → R (List (D × Bool))} {trs : List (TE × TE)} {pos : Pos} (pp : PPs X pos kes ves trs) (hp : ∀ σ H Q, tA E A W fv σ H (fun vs H' => Q ((kds.map kVd).zip vs) H') → tPairs trs σ H Q)
    (hl : ∀ s xs s', fv s = .ok xs s' → kds.length = xs.length) (hall : kes.all (·.isSome) = true) (hle : kes.length = ves.length) (h0 : kes ≠ []) (h15 : kes.length ≤ 15) (hk : kds.length = kes.length) :
    PE X (.Dict kes ves pos) (tE E A W fun s => (fv s).bind fun ys s2 => match mkDic false (zipD kds (fsts ys)) [] with
      | some kvs => .ok (.dic kvs, true) s2
      | none => .no) := by
  refine ⟨fun pins t σ H Q I h => (pe_disp pp hall hle h0 h15).run pins t σ H Q I fun p hpn => hp _ _ _ ?_⟩
  obtain ⟨s, ω, sr, q⟩ := h
  have sr0 := sr.fresh (H' := upd H p (.dK [])) (d := .dic []) hpn (fun b o e => by rw [upd_ne (ne_of_none e hpn)]; exact e) (.inl ⟨[], upd_same, by unfold RpK; rfl⟩)
  refine ⟨s, _, sr0, QR.mono (QR.bind q) fun ys s2 ef z vs H2 ω2 sm2 sr2 ou => ?_⟩
  obtain ⟨F', sm3, sr3, rl⟩ := sr2.outsV ou
  have ob := sr3.pds (p, .dic []) List.mem_cons_self
  have z : QR E A W σ (match mkDic false (zipD kds (fsts ys)) [] with | some kvs => .ok (.dic kvs, true) s2 | none => .no) fun x s' => ∀ v H' ω', Sm ω.F ω'.F → SR A s' σ H' ω' → Out A.c ω ω' x.1 x.2 v → Q v H' := z
  cases em : mkDic false (zipD kds (fsts ys)) [] with
  | none => rw [em] at z; exact z.elim
  | some r =>
    rw [em] at z
    have z : ∀ v H' ω', Sm ω.F ω'.F → SR A s2 σ H' ω' → Out A.c ω ω' (.dic r) true v → Q v H' := z
    obtain ⟨kvs, e1, e2, e3⟩ := mkDic_rp (q := []) (by rw [hl _ _ _ ef]; unfold fsts; rw [List.length_map]) rl .nil (by unfold RpK; rfl) em
    refine ⟨ob_dic0 ob, kvs, e1, by rw [e2, hk]; exact h15, ?_⟩
    have ec := sr3.chgP (a := p) (d := .dic []) (d' := .dic r) (o := .dK (mergeK [] kvs)) (pd := ω.pd) rfl (fun _ z => nomatch z) (.inl ⟨_, upd_same, e3⟩)
    exact z _ _ ⟨F', ω2.ow, (p, .dic r) :: ω.pd⟩ (sm2.trans sm3) ec ⟨p, rfl, rfl⟩
/-- the reading of one pair more -/
theorem pairs_cons {d : D} {kds : List D} {trs : List (TE × TE)} {fa : S → R (D × Bool)} {fr : S → R (List (D × Bool))} (hd : ∀ c F v, Rp c F d v → v = kVd d) (ih : ∀ σ H Q, tA E A W fr σ H (fun vs H' => Q ((kds.map kVd).zip vs) H') → tPairs trs σ H Q) :
    ∀ σ H Q, tA E A W (fun s => (fa s).bind fun x s1 => (fr s1).bind fun ys s2 => .ok (x :: ys) s2) σ H (fun vs H' => Q (((d :: kds).map kVd).zip vs) H') → tPairs ((tE E A W (fun s => .ok (d, false) s), tE E A W fa) :: trs) σ H Q := by
  intro σ H Q ⟨s, ω, sr, q⟩
  refine ⟨s, ω, sr, fun v0 H0 ω0 sm0 sr0 o0 => ⟨s, ω0, sr0, QR.mono q.bind fun x s1 _ z v H1 ω1 sm sr1 o => ih _ _ _ ⟨s1, ω1, sr1, QR.mono z.bind fun ys s2 _ z2 vs H2 ω2 sm2 sr2 ⟨ps, ol, e2⟩ => ?_⟩⟩⟩
  obtain ⟨r0, e0⟩ := o0
  have r0 : Rp A.c ω0.F d v0 := r0
  rw [hd _ _ _ r0]
  obtain ⟨d', b⟩ := x
  cases b with
  | false =>
    obtain ⟨r, e1⟩ := o
    exact z2 (v :: vs) H2 ω2 (sm0.trans (sm.trans sm2)) sr2 ⟨ps, ⟨v, vs, rfl, r.up sm2, ol⟩, by rw [e2, e1, e0]⟩
  | true =>
    obtain ⟨a, rfl, e1⟩ := o
    exact z2 (.ref a :: vs) H2 ω2 (sm0.trans (sm.trans sm2)) sr2 ⟨(a, d') :: ps, ⟨a, vs, ps, rfl, rfl, ol⟩, by rw [e2, e1, e0, List.reverse_cons, List.append_assoc]; rfl⟩
theorem pairs_nil : ∀ σ H Q, tA E A W (fun s => .ok [] s) σ H (fun vs H' => Q ((([] : List D).map kVd).zip vs) H') → tPairs [] σ H Q := by
  intro σ H Q ⟨s, ω, sr, q⟩
  exact q [] H ω (Sm.refl _) sr ⟨[], ⟨rfl, rfl⟩, rfl⟩
theorem RpL.rev {c : Cn} {F : Hp} : ∀ {ds : List D} {vs : List V}, RpL c F ds vs → RpL c F ds.reverse vs.reverse
  | [], _, h => by
    cases h.nil_out
    exact .nil
  | d :: ds, vs, h => by
    obtain ⟨v, r, rfl, h1, h2⟩ := h.out
    rw [List.reverse_cons, List.reverse_cons]
    exact (RpL.rev h2).append (.cons h1 .nil)
/-- xs[::-1] -/
theorem e_revL {a : Expr} {k : Nat} {p1 p2 p3 pos : Pos} {ta : S → R Hd} (hK : X.K = A.c.K) (ha : PE X a (tH E A W ta)) :
    PE X (.Subscript a (.Slice none none (some (.UnaryOp .USub (.Constant (.int 1) k p1) p2)) p3) pos) (tE E A W fun s => (ta s).bind fun h s1 => liftO (res1 h s1 (ap1 .revs)) s1) := by
  refine ⟨fun pins t σ H Q I h => (pe_revL ha).run pins t σ H Q I ?_⟩
  obtain ⟨s, ω, sr, q⟩ := h
  refine QR.hd sr q.bind fun h1 s1 v1 H1 ω1 _ z1 sm1 sr1 e1 r1 => ?_
  obtain ⟨r, er, p⟩ := z1.liftO
  obtain ⟨d, ed, er⟩ := bind_some er
  have vw := sr1.res r1 ed
  cases d with
  | lst xs =>
    cases er
    obtain ⟨a, vs, e, q, rl⟩ := vw
    exact ⟨a, vs, e, .inl (by exact q), Ans1.lst sr1 rl.rev (QE.ans (s1 := s) sm1 e1 p)⟩
  | _ => cases er
end
end Mp
end
section
set_option Elab.async false
set_option linter.all false
set_option maxRecDepth 100000
set_option maxHeartbeats 2000000
/-! MpCk: does the code C say what the text says? A look at both. -/
namespace Mp
open PySem PySem.Spec PyProof.Rows L2
/-- numbers and names -/
structure Cf where
  fn : Nat → Option Str
  ln : Nat → Option Str
  gl : Nat → Option Str
  bn : List Str
  cls : Nat → Option Str
  ini : Nat → Bool
  atr : Nat → Option Str
  gd : Nat → Bool
/-- where we stand -/
structure Kx where
  N : List Str
  sc : Scope
  fb : Str → Bool
  calm : Bool
  stm : Bool
  call : Bool
  grd : Bool
  lam : Bool
  rs : Bool
  clo0 : Option Str
  clo : Option Str
  exc : Bool
def Kx.blk (k : Kx) (scope : Scope) : Kx := { k with sc := relS scope k.sc, fb := fun x => scope.names.lookup x == some .cell, stm := false, lam := false, rs := false, clo0 := none, clo := none, exc := false }
def Kx.tr (k : Kx) : Kx := { k with lam := false, rs := false, clo0 := none, clo := k.clo0, exc := false }
def Kx.su (k : Kx) (b : Bool) : Kx := { k with calm := false, stm := false, call := false, lam := false, rs := false, clo0 := none, clo := none, exc := b }
def Kx.lm (k : Kx) (scope : Scope) : Kx := { k with sc := scope, fb := fun _ => false, stm := false, grd := false, lam := false, rs := false, clo0 := none, clo := none, exc := false, calm := true, call := true }
section
variable (cf : Cf) (k : Kx)
def slotB (i : Nat) (x : Str) : Bool := decide (k.N[i]? = some x) && visB k.sc x && nmOk x
def storeB (i : Nat) (x : Str) : Bool := decide (k.N[i]? = some x) && locB k.sc x && (k.fb x || decide (k.sc.names.lookup x = some .local))
def glB (x : Str) : Bool := decide (k.sc.names.lookup x = some .globalImplicit) && nmOk x
def isB (x y : Str) : Bool := decide (x = y) && decide (x ∈ cf.bn) && glB k x
end
def hB (c : C) (k : Kx) (e : Expr) (r : Bool) : Bool := match c with
  | .peek i => (match e with | .Name x _ => slotB k i x | _ => false)
  | _ => r
def cstB : D → Const → Bool
  | .non, .none => true
  | .bl a, .bool b => a == b
  | .int a, .int b => decide (a = b)
  | .str a, .str b => decide (a = b)
  | _, _ => false
/-- a test that is just a value -/
def plainT : Expr → Bool
  | .UnaryOp .Not _ _ => false
  | .BoolOp .. => false
  | .IfExp .. => false
  | .Compare .. => false
  | _ => true
section
variable (cf : Cf) (k : Kx)
def b1B (o : Op1) (x : Str) : Bool := match o with
  | .len => isB cf k x "len" | .abs => isB cf k x "abs" | .int => isB cf k x "int" | .tuple => isB cf k x "tuple" | .list => isB cf k x "list"
  | .sum => k.calm && isB cf k x "sum" | .all => k.calm && isB cf k x "all" | .any => k.calm && isB cf k x "any" | .repr => k.grd && isB cf k x "repr"
  | _ => false
def isiB (o : Op1) (x : Str) : Bool := match o with
  | .isInt => isB cf k x "int" | .isBool => isB cf k x "bool" | .isTup => isB cf k x "tuple" | .isLst => isB cf k x "list" | .isStr => isB cf k x "str" | .isDic => isB cf k x "dict"
  | _ => false
def o1B (o : Op1) (e : Expr) (ck : Expr → Bool) : Bool := match e with
  | .UnaryOp .USub a _ => (match o with | .neg => ck a | _ => false)
  | .Call (.Name x _) [a] [] _ => noStar a && b1B cf k o x && ck a
  | .Subscript a (.Slice none none (some (.UnaryOp .USub (.Constant (.int i) _ _) _)) _) _ => (match o with | .revs => decide (i = 1) && ck a | _ => false)
  | .Call (.Name x _) [a, .Name T _] [] _ => noStar a && isB cf k x "isinstance" && isiB cf k o T && ck a
  | _ => false
/-- is None, is not None -/
def isnB (o : Op1) (e : Expr) (ck : Expr → Bool) : Bool := match e with
  | .Compare a [.Is] [.Constant .none _ _] _ => (match o with | .isN => ck a | _ => false)
  | .Compare a [.IsNot] [.Constant .none _ _] _ => (match o with | .notN => ck a | _ => false)
  | _ => false
def binB (o : Op2) (op : Operator) : Bool := match o, op with
  | .add, .Add => true | .sub, .Sub => true | .mul, .Mult => true | .fdiv, .FloorDiv => true | .mod, .Mod => true | .pow, .Pow => true
  | _, _ => false
def cmpB (o : Op2) (op : CmpOp) : Bool := match o, op with
  | .eq, .Eq => true | .ne, .NotEq => true | .lt, .Lt => true | .le, .LtE => true | .gt, .Gt => true | .ge, .GtE => true | .isin, .In => true | .notin, .NotIn => true
  | _, _ => false
def c2B (o : Op2) (x : Str) : Bool := match o with
  | .min2 => k.calm && isB cf k x "min" | .max2 => k.calm && isB cf k x "max"
  | _ => false
/-- m: it is asked as a test -/
def o2B (o : Op2) (m : Bool) (e : Expr) (ca cb : Expr → Bool) : Bool := match e with
  | .BinOp a op b _ => binB o op && ca a && cb b
  | .Compare a [op] [b] _ => cmpB o op && notSet b && ca a && cb b
  | .Subscript a (.Slice (some b) none none _) _ => (match o with | .slL => ca a && cb b | _ => false)
  | .Subscript a (.Slice none (some b) none _) _ => (match o with | .slU => ca a && cb b | _ => false)
  | .Subscript a b _ => (match o with | .idx => ixB b && ca a && cb b | _ => false)
  | .Call (.Name x _) [a, b] [] _ => noStar a && noStar b && c2B cf k o x && ca a && cb b
  | .Call (.Name x _) [a] [⟨some y, b, _⟩] _ => (match o with | .maxD => k.calm && noStar a && isB cf k x "max" && decide (y = "default") && ca a && cb b | _ => false)
  | _ => false
def mB (o : Op2) (e : Expr) (ca cb : Expr → Bool) : Bool := match e with
  | .Call (.Attribute a name apos) [b] [] cpos => noStar b && abOk a && (apos.endLine == cpos.line) && (match o with | .count => decide (name = "count") | .index => decide (name = "index") | _ => false) && ca a && cb b
  | _ => false
def m3B (o : Op3) (e : Expr) (ca cb cc : Expr → Bool) : Bool := match e with
  | .Call (.Attribute a name apos) [b, c] [] cpos => noStar b && noStar c && abOk a && (apos.endLine == cpos.line) && (match o with | .get2 => decide (name = "get") | _ => false) && ca a && cb b && cc c
  | _ => false
def slcB (e : Expr) (ca cb cc : Expr → Bool) : Bool := match e with
  | .Subscript a (.Slice (some b) (some c) none _) _ => ca a && cb b && cc c
  | _ => false
def chB (o o' : Op2) (e : Expr) (ca cb cc : Expr → Bool) : Bool := match e with
  | .Compare a [op, op'] [b, c] _ => cmpB o op && cmpB o' op' && notSet c && ca a && cb b && cc c
  | _ => false
def tgB (t : Tg) (e : Expr) : Bool := match t, e with
  | .n i, .Name x _ => storeB k i x
  | .t is, .Tuple es _ _ => k.calm && rowB is es
  | _, _ => false
where rowB : List Nat → List Expr → Bool
  | [], [] => true
  | i :: is, .Name x _ :: es => storeB k i x && rowB is es
  | _, _ => false
def tgT : Tg → Bool
  | .t _ => true
  | _ => false
def tsB (tst : C) (ifs : List Expr) (r : Expr → Bool) : Bool := match tst, ifs with
  | .nil, [] => true
  | .nil, _ => false
  | _, [f] => r f
  | _, _ => false
/-- own names of a block, with their places -/
def ownN (own : List Nat) : List (Str × Nat) := own.map fun i => (k.N[i]?.getD "", i)
/-- what is asked of a comprehension but its parts -/
def cpB (own : List Nat) (tp : Bool) (t : Tg) (tg iter : Expr) (scope : Scope) : Bool :=
  k.calm && blkC k.N k.sc scope (ownN k own) && (tgs t).all (fun i => decide (i ∈ own)) && (!tp || tgT t) && tgB (k.blk scope) t tg && notSet iter
end
def tpC : C → Bool
  | .zip2 _ _ => true | .enum _ => true | .items _ => true | _ => false
/-- a comprehension's value goes into a name at once -/
def swB (k : Kx) (x : Str) (px : Pos) (scope : Scope) (pos : Pos) : Bool := decide (k.sc.kind = .function) && decide (k.sc.names.lookup x = some .local) && (px.line == pos.line) && !(scope.names.any fun (n, q) => n == x && (q == .local || q == .cell))
def noArgs (a : Arguments) : Bool := match a with
  | ⟨[], [], none, [], [], none, []⟩ => true
  | _ => false
def subB : Expr → Option (Str × Expr)
  | .Subscript (.Name x _) ek _ => some (x, ek)
  | _ => none

/-- two tuples whose stores go from the left -/
def swN (sc : Scope) : Expr → Expr → Bool
  | .Tuple ts _ _, .Tuple vs _ _ => (match swapB sc ts vs with | some none => true | _ => false)
  | _, _ => false
/-- written keys -/
def ckK : C → List (Option Expr) → Bool
  | .nil, [] => true
  | .cons (.cst d) r, some (.Constant v _ _) :: es => cstB d v && d.key1 && ckK r es
  | _, _ => false
mutual
def ckE (cf : Cf) : C → Bool → Kx → Expr → Bool
  | .cst d => fun m k e => (!m || plainT e) && (match e with | .Constant v _ _ => cstB d v | _ => false)
  | .var i => fun m k e => (!m || plainT e) && (match e with | .Name x _ => slotB k i x | _ => false)
  | .mov i => fun m k e => (!m || plainT e) && (match e with | .Name x _ => slotB k i x | _ => false)
  | .glob g => fun m k e => (!m || plainT e) && (match e with | .Name x _ => decide (cf.gl g = some x) && glB k x | _ => false)
  | .op1 o a => fun m k e => isnB o e (fun e => hB a k e (ckE cf a false k e)) || ((!m || plainT e) && o1B cf k o e (fun e => hB a k e (ckE cf a false k e)))
  | .op2 o a b => fun m k e => o2B cf k o m e (fun e => hB a k e (ckE cf a false k e)) (fun e => hB b k e (ckE cf b false k e))
  | .meth o a b => fun m k e => (!m || plainT e) && mB o e (fun e => hB a k e (ckE cf a false k e)) (fun e => hB b k e (ckE cf b false k e))
  | .meth3 o a b c => fun m k e => (!m || plainT e) && m3B o e (fun e => hB a k e (ckE cf a false k e)) (fun e => hB b k e (ckE cf b false k e)) (fun e => ckE cf c false k e)
  | .slc a b c => fun m k e => (!m || plainT e) && slcB e (fun e => hB a k e (ckE cf a false k e)) (fun e => ckE cf b false k e) (fun e => ckE cf c false k e)
  | .chain o o' a b c => fun m k e => chB o o' e (fun e => ckE cf a false k e) (fun e => ckE cf b false k e) (fun e => ckE cf c false k e)
  | .not a => fun m k e => (match e with | .UnaryOp .Not x _ => ckE cf a m k x | _ => false)
  | .and a b => fun m k e => (match e with
    | .BoolOp .And (x :: y :: rest) p => ckE cf a m k x && (match rest with | [] => ckE cf b m k y | _ => ckE cf b m k (.BoolOp .And (y :: rest) p))
    | _ => false)
  | .or a b => fun m k e => (match e with
    | .BoolOp .Or (x :: y :: rest) p => ckE cf a m k x && (match rest with | [] => ckE cf b m k y | _ => ckE cf b m k (.BoolOp .Or (y :: rest) p))
    | _ => false)
  | .ife c a b => fun m k e => !m && (match e with | .IfExp x y z _ => ckE cf c true k x && ckE cf a false k y && ckE cf b false k z | _ => false)
  | .tup as => fun m k e => (!m || plainT e) && (match e with | .Tuple es _ _ => ckA cf as k es | _ => false)
  | .lst as => fun m k e => (!m || plainT e) && (match e with | .List es _ => ckA cf as k es | _ => false)
  | .dsp ks vs tk => fun m k e => (!m || plainT e) && !tk && (match e with
    | .Dict [] [] _ => ckA cf ks k [] && ckA cf vs k []
    | .Dict [some x] [y] _ => noStar x && noStar y && ckA cf ks k [x] && ckA cf vs k [y]
    | .Dict kes ves _ => kes.all (·.isSome) && kes.length == ves.length && !kes.isEmpty && Nat.ble kes.length 15 && ves.all noStar && ckK ks kes && ckA cf vs k ves
    | _ => false)
  | .call f as => fun m k e => (!m || plainT e) && (match e with
    | .Call (.Name x _) es [] _ => k.call && decide (cf.fn f = some x) && glB k x && (!cf.gd f || k.grd) && (match es with | [] => true | e :: _ => noStar e) && ckA cf as k es
    | _ => false)
  | .callr f j i as => fun m k e => (!m || plainT e) && decide (j = 0) && (match e with
    | .Call (.Name x _) (.Name y _ :: es) [] _ => k.call && decide (cf.fn f = some x) && glB k x && (!cf.gd f || k.grd) && slotB k i y && es.all noStar && ckA cf as k es
    | _ => false)
  | .callo f a => fun m k e => (!m || plainT e) && (match e with
    | .Call (.Name x _) [e] [] _ => k.call && decide (cf.fn f = some x) && glB k x && (!cf.gd f || k.grd) && noStar e && ckE cf a false k e
    | _ => false)
  | .callv i as => fun m k e => (!m || plainT e) && (match e with
    | .Call (.Name x _) (e :: es) [] _ => k.call && slotB k i x && noStar e && es.all noStar && ckA cf as k (e :: es)
    | _ => false)
  | .calla i => fun m k e => (!m || plainT e) && decide (i = 0) && (match e with | .Call (.Name x _) [] [] _ => decide (k.clo = some x) | _ => false)
  | .calll f a => fun m k e => (!m || plainT e) && (match e with
    | .Call (.Name x _) [.Lambda ps body scope _] [] _ => k.lam && decide (cf.ln f = some x) && glB k x && (!cf.gd f || k.grd) && LamX.lamSB k.sc scope && noArgs ps && ckE cf a false (k.lm scope) body
    | _ => false)
  | .mut u i as => fun m k e => (!m || plainT e) && (match e with
    | .Call (.Attribute (.Name x _) name apos) [b] [] cpos => slotB k i x && noStar b && (apos.endLine == cpos.line) && (match u with | .append => decide (name = "append") | _ => false) && ckA cf as k [b]
    | .Call (.Attribute (.Name x _) name apos) [] [] cpos => slotB k i x && (apos.endLine == cpos.line) && (match u with | .pop0 => decide (name = "pop") | _ => false) && ckA cf as k []
    | _ => false)
  | .comp own t it tst el => fun m k e => (!m || plainT e) && (match e with
    | .ListComp x [⟨tg, iter, ifs, 0⟩] scope _ => cpB k own (tpC it) t tg iter scope && ckI cf it k tg iter && tsB tst ifs (fun f => ckE cf tst true (k.blk scope) f) && ckE cf el false (k.blk scope) x
    | _ => false)
  | .comp2 own own2 t it t2 it2 tst el => fun m k e => (!m || plainT e) && (match e with
    | .ListComp x [⟨tg, iter, [], 0⟩, ⟨tg2, iter2, ifs, 0⟩] scope _ => cpB k (own ++ own2) (tpC it) t tg iter scope && ckI cf it k tg iter && (tgs t2).all (fun i => decide (i ∈ own2)) && (!tpC it2 || tgT t2) && tgB (k.blk scope) t2 tg2 && notSet iter2 && ckI cf it2 (k.blk scope) tg2 iter2 &&
        tsB tst ifs (fun f => ckE cf tst true (k.blk scope) f) && ckE cf el false (k.blk scope) x
    | _ => false)
  | .dcomp own t it tst kk v tk => fun m k e => (!m || plainT e) && !tk && (match e with
    | .DictComp x y [⟨tg, iter, ifs, 0⟩] scope _ => cpB k own (tpC it) t tg iter scope && ckI cf it k tg iter && tsB tst ifs (fun f => ckE cf tst true (k.blk scope) f) && ckE cf kk false (k.blk scope) x && ckE cf v false (k.blk scope) y
    | _ => false)
  | .dcomp2 own own2 t it t2 it2 tst kk v tk => fun m k e => (!m || plainT e) && !tk && (match e with
    | .DictComp x y [⟨tg, iter, [], 0⟩, ⟨tg2, iter2, ifs, 0⟩] scope _ => cpB k (own ++ own2) (tpC it) t tg iter scope && ckI cf it k tg iter && (tgs t2).all (fun i => decide (i ∈ own2)) && (!tpC it2 || tgT t2) && tgB (k.blk scope) t2 tg2 && notSet iter2 && ckI cf it2 (k.blk scope) tg2 iter2 &&
        tsB tst ifs (fun f => ckE cf tst true (k.blk scope) f) && ckE cf kk false (k.blk scope) x && ckE cf v false (k.blk scope) y
    | _ => false)
  | .attr nm a => fun m k e => (!m || plainT e) && (match e with
    | .Attribute x n _ => k.exc && decide (cf.atr nm = some n) && abOk x && ckE cf a false k x
    | _ => false)
  | .dead => fun m k e => !m || plainT e
  | _ => fun _ _ _ => false
def ckA (cf : Cf) : C → Kx → List Expr → Bool
  | .nil => fun k es => (match es with | [] => true | _ => false)
  | .cons (.star a) r => fun k es => (match es with | .Starred e _ :: es => hB a k e (ckE cf a false k e) && ckA cf r k es | _ => false)
  | .cons a r => fun k es => (match es with | e :: es => noStar e && ckE cf a false k e && ckA cf r k es | _ => false)
  | _ => fun _ _ => false
def ckI (cf : Cf) : C → Kx → Expr → Expr → Bool
  | .itv a => fun k tg e => ckE cf a false k e
  | .rng1 a => fun k tg e => (match e with | .Call (.Name x _) [y] [] _ => isB cf k x "range" && noStar y && ckE cf a false k y | _ => false)
  | .rng2 a b => fun k tg e => (match e with | .Call (.Name x _) [y, z] [] _ => isB cf k x "range" && noStar y && noStar z && ckE cf a false k y && ckE cf b false k z | _ => false)
  | .rng3 a b c => fun k tg e => (match e with | .Call (.Name x _) [y, z, w] [] _ => isB cf k x "range" && noStar y && noStar z && noStar w && ckE cf a false k y && ckE cf b false k z && ckE cf c false k w | _ => false)
  | .zip2 a b => fun k tg e => (match tg, e with | .Tuple _ _ _, .Call (.Name x _) [y, z] [] _ => isB cf k x "zip" && noStar y && noStar z && ckE cf a false k y && ckE cf b false k z | _, _ => false)
  | .enum a => fun k tg e => (match tg, e with | .Tuple _ _ _, .Call (.Name x _) [y] [] _ => isB cf k x "enumerate" && noStar y && ckE cf a false k y | _, _ => false)
  | .items a => fun k tg e => (match tg, e with | .Tuple _ _ _, .Call (.Attribute y name apos) [] [] cpos => decide (name = "items") && abOk y && (apos.endLine == cpos.line) && ckE cf a false k y | _, _ => false)
  | _ => fun _ _ _ => false
/-- a comprehension that goes into a name at once -/
def ckC (cf : Cf) : C → Kx → Str → Pos → Expr → Bool
  | .comp own t it tst el => fun k x px e => (match e with
    | .ListComp y [⟨tg, iter, ifs, 0⟩] scope pos => swB k x px scope pos && cpB k own (tpC it) t tg iter scope && ckI cf it k tg iter && tsB tst ifs (fun f => ckE cf tst true (k.blk scope) f) && ckE cf el false (k.blk scope) y
    | _ => false)
  | .comp2 own own2 t it t2 it2 tst el => fun k x px e => (match e with
    | .ListComp y [⟨tg, iter, [], 0⟩, ⟨tg2, iter2, ifs, 0⟩] scope pos => swB k x px scope pos && cpB k (own ++ own2) (tpC it) t tg iter scope && ckI cf it k tg iter && (tgs t2).all (fun i => decide (i ∈ own2)) && (!tpC it2 || tgT t2) && tgB (k.blk scope) t2 tg2 && notSet iter2 && ckI cf it2 (k.blk scope) tg2 iter2 &&
        tsB tst ifs (fun f => ckE cf tst true (k.blk scope) f) && ckE cf el false (k.blk scope) y
    | _ => false)
  | .dcomp own t it tst kk v tk => fun k x px e => !tk && (match e with
    | .DictComp y z [⟨tg, iter, ifs, 0⟩] scope pos => swB k x px scope pos && cpB k own (tpC it) t tg iter scope && ckI cf it k tg iter && tsB tst ifs (fun f => ckE cf tst true (k.blk scope) f) && ckE cf kk false (k.blk scope) y && ckE cf v false (k.blk scope) z
    | _ => false)
  | _ => fun _ _ _ _ => false
def ckS (cf : Cf) : C → Kx → Stmt → Bool
  | .asg (.n i) a => fun k st => (match st with
    | .Assign [.Name x px] e _ => storeB k i x && ((notComp e && ckE cf a false k e) || (decide (k.sc.names.lookup x = some .local) && k.stm && ckC cf a k x px e))
    | _ => false)
  | .asg (.t is) a => fun k st => (match st with
    | .Assign [tg] e _ => tgB k (.t is) tg && notComp e && (notTup e || swN k.sc tg e) && ckE cf a false k e
    | _ => false)
  | .asgs is as => fun k st => (match st with
    | .Assign [.Tuple ts _ _] (.Tuple es _ _) _ => k.calm && (match swapB k.sc ts es with
      | some (some ns) => is.length == ns.length && es.length == ns.length && Nat.ble ns.length 3 && (is.zip ns).all (fun p => decide (k.N[p.1]? = some p.2) && decide (k.sc.names.lookup p.2 = some .local)) && ckA cf as k es
      | _ => false)
    | _ => false)
  | .aug i o a => fun k st => (match st with
    | .AugAssign (.Name x _) op e _ => storeB k i x && (match o with | .add => binB o op | .sub => binB o op | .mul => binB o op | .fdiv => binB o op | _ => false) && ckE cf a false k e
    | _ => false)
  | .seti i kk v => fun k st => (match st with
    | .Assign [.Subscript (.Name x _) ek _] e _ => slotB k i x && ixB ek && notComp e && notTup e && ckE cf kk false k ek && ckE cf v false k e
    | _ => false)
  | .xpr a => fun k st => (match st with | .Expr e _ => notComp e && ckE cf a false k e | _ => false)
  | .ret a => fun k st => (match st with | .Return (some e) _ => ckE cf a false k e | _ => false)
  | .retn => fun k st => (match st with | .Return none _ => true | _ => false)
  | .ifs c a b => fun k st => (match st with | .If x y z _ => ckE cf c true k x && ckSs cf a k y && ckSs cf b k z | _ => false)
  | .whl c b => fun k st => (match st with | .While x y [] _ => k.stm && ckE cf c true k x && ckSs cf b k y | _ => false)
  | .for_ t it b => fun k st => (match st with
    | .For tg iter y [] _ => k.stm && k.calm && tgB k t tg && (!tpC it || tgT t) && notSet iter && ckI cf it k tg iter && ckSs cf b k y
    | _ => false)
  | .rais kk a => fun k st => (match st with
    | .Raise (some (.Call (.Name x _) [e] [] _)) none _ => k.rs && decide (cf.cls kk = some x) && cf.ini kk && glB k x && noStar e && ckE cf a false k e
    | _ => false)
  | .raism kk => fun k st => (match st with
    | .Raise (some (.Call (.Name x _) [.Constant (.str _) _ _] [] _)) none _ => k.rs && decide (cf.cls kk = some x) && !cf.ini kk && glB k x
    | _ => false)
  | .try_ b hs => fun k st => (match st with
    | .Try y (h :: hds) [] [] _ => k.stm && ckSs cf b k.tr y && ckHd cf hs k (h :: hds)
    | _ => false)
  | .pass => fun k st => (match st with | .Pass _ => true | _ => false)
  | .brk => fun k st => (match st with | .Break _ => true | _ => false)
  | .cont => fun k st => (match st with | .Continue _ => true | _ => false)
  | .dead => fun _ _ => true
  | _ => fun _ _ => false
def ckSs (cf : Cf) : C → Kx → List Stmt → Bool
  | .nil => fun k b => (match b with | [] => true | _ => false)
  | .cons a r => fun k b => (match b with | s :: b => ckS cf a k s && ckSs cf r k b | _ => false)
  | _ => fun _ _ => false
def ckH1 (cf : Cf) : C → Kx → ExceptHandler → Bool
  | .hnd c none b => fun k h => (match h with
    | .ExceptHandler (some (.Name x _)) none (y :: su) _ => decide (cf.cls c = some x) && glB k x && ckSs cf b (k.su false) (y :: su)
    | _ => false)
  | .hnd c (some i) b => fun k h => (match h with
    | .ExceptHandler (some (.Name x _)) (some n) (y :: su) _ => decide (cf.cls c = some x) && glB k x && decide (k.N[i]? = some n) && decide (k.sc.names.lookup n = some .local) && ckSs cf b (k.su true) (y :: su)
    | _ => false)
  | _ => fun _ _ => false
def ckHd (cf : Cf) : C → Kx → List ExceptHandler → Bool
  | .nil => fun k hs => (match hs with | [] => true | _ => false)
  | .cons h r => fun k hs => (match hs with | x :: xs => ckH1 cf h k x && ckHd cf r k xs | _ => false)
  | _ => fun _ _ => false
end
end Mp
end
section
set_option Elab.async false
set_option linter.all false
set_option maxRecDepth 100000
set_option maxHeartbeats 2000000
/-! MpCtx: what is known of a context; the contexts within it. -/
namespace Mp
open PySem PySem.Spec PyProof.Rows L2
section
variable (cf : Cf) (p : PkC) (E : CE) (κ : Nat → (List D → RC) → List D → List D → RC) (Λ : List D → RC) (G : Ev) (n : Nat)
structure Ctx0 (k : Kx) (X : Cx) (W : L2.WX) (A : Act) : Prop where
  N : X.N = k.N
  nd : k.N.Nodup
  sc : X.env.scope = k.sc
  kd : k.sc.kind = .function
  fb : ∀ x, k.fb x = true → X.fn x = true
  K : X.K = A.c.K
  KD : KdOk X A.c
  calm : k.calm = true → X.calm = true
  un : X.A.units + 65 < cLine
  grd : Grd k.grd X.A
  tk : Takes X W
  po : k.stm = true → PassesOwn (model X.prog X.w) X.A X.env X.xe
  fr : k.stm = true → X.stack = X.env :: X.outer ∧ X.env.frame = some X.env.locals
  rm : k.call = true → Room n X.A
  pk : k.call = true → Pk p A
  Ξ : k.stm = true → ∀ a k d, ¬ A.c.Ξ a k d
  AD : A.c.AD = p.AD
  fns : ∀ f x, cf.fn f = some x → X.mg x = some (.ref (p.AD f)) ∧ PySem.W.keepIn X.K (.ref (p.AD f)) = true ∧ FnG X.prog X.w X.K X.mg X.base (cf.gd f) n (p.AD f) (spF E (Pk p) (κ f noL))
  fnv : ∀ g, G.fns g = true → ∃ x, cf.fn g = some x ∧ cf.gd g = false
  gls : ∀ g x d, cf.gl g = some x → G.glob g = some d → ∃ u v, X.mg x = some u ∧ RelV v u ∧ ∀ (c : Cn) F, c.K = p.K → c.AD = p.AD → c.KD = p.KD → Rp c F d v
  bns : ∀ x, x ∈ cf.bn → X.mg x = none
  cls : ∀ c x, cf.cls c = some x → X.mg x = some (.ref (E.CD c)) ∧ ∀ kk ∈ E.KS, PySem.W.exmOne X.K (.ref (E.CD kk)) (.ref (E.CD c)) = some (G.sub kk c)
  atF : ∀ nm x, cf.atr nm = some x → ∀ kk ∈ E.KS, G.atr kk = nm → XfC X.K (E.CD kk) ∧ PySem.W.findIn X.K (.ref (E.CD kk)) x = some none ∧ E.AT kk = x
  cK : A.c.K = p.K
  cKD : A.c.KD = p.KD
structure Ctx (k : Kx) (X : Cx) (W : L2.WX) (A : Act) : Prop extends Ctx0 cf p E κ G n k X W A where
  rsI : k.rs = true → ∀ kk x, cf.cls kk = some x → cf.ini kk = true → Gl X x → nmOk x = true → ∀ (ea : Expr) (fe : S → R (D × Bool)) (q pos pos' : Pos), PE X ea (tE E A W fe) → noStar ea = true → PS X (.Raise (some (.Call (.Name x q) [ea] [] pos)) none pos') (tS E A W fun s => (fe s).bind fun x s1 => .er (.exc kk x.1) s1)
  rsM : k.rs = true → ∀ kk x, cf.cls kk = some x → cf.ini kk = false → Gl X x → nmOk x = true → ∀ (m : Str) (j : Nat) (q p2 pos pos' : Pos), PS X (.Raise (some (.Call (.Name x q) [.Constant (.str m) j p2] [] pos)) none pos') (tS E A W fun s => .er (.exc kk (.cls 0)) s)
  cl0 : ∀ a, k.clo0 = some a → ∀ (F : Hp) (W' : L2.WX) (pn : List (Addr × Obj)) (xe : Value → Shared → Prop) (p1 p2 : Pos), Sm A.F0 F → Takes (X.tr pn xe) W' → PE (X.tr pn xe) (.Call (.Name a p1) [] [] p2) (tE E (A.at F) W' (evA Λ 0))
  cl : ∀ a, k.clo = some a → ∀ (p1 p2 : Pos), PE X (.Call (.Name a p1) [] [] p2) (tE E A W (evA Λ 0))
  lm : k.lam = true → ∀ f x, cf.ln f = some x → (!cf.gd f || k.grd) = true → Gl X x → nmOk x = true → ∀ (scope : Scope) (ps : Arguments) (body : Expr) (q lpos pos : Pos) (fb : S → R (D × Bool)), LamX.lamSB k.sc scope = true → noArgs ps = true →
    (∀ Y W' A', Ctx0 cf p E κ G n (k.lm scope) Y W' A' → PE Y body (tE E A' W' fb)) → PE X (.Call (.Name x q) [.Lambda ps body scope lpos] [] pos) (tE E A W fun s => callLam κ f (lamR fb s.ρ) s)
  at_ : k.exc = true → ∀ nm x, cf.atr nm = some x → ∀ (e : Expr) (fe : S → R (D × Bool)) (pos : Pos), PE X e (tE E A W fe) → attributeBase e x X.env (eval e X.env) = eval e X.env →
    PE X (.Attribute e x pos) (tE E A W fun s => (fe s).bind fun x s1 => match x.1 with | .exc k v => if G.atr k = nm && !v.isCls then .ok (v, false) s1 else .no | _ => .no)
end
section
variable {cf : Cf} {p : PkC} {E : CE} {κ : Nat → (List D → RC) → List D → List D → RC} {Λ : List D → RC} {G : Ev} {n : Nat} {k : Kx} {X : Cx} {W : L2.WX} {A : Act}
theorem Ctx0.up (h : Ctx0 cf p E κ G n k X W A) (h1 : k.rs = false) (h2 : k.clo0 = none) (h3 : k.clo = none) (h4 : k.lam = false) (h5 : k.exc = false) : Ctx cf p E κ Λ G n k X W A :=
  { toCtx0 := h
    rsI := fun z => by rw [h1] at z; cases z
    rsM := fun z => by rw [h1] at z; cases z
    cl0 := fun a z => by rw [h2] at z; cases z
    cl := fun a z => by rw [h3] at z; cases z
    lm := fun z => by rw [h4] at z; cases z
    at_ := fun z => by rw [h5] at z; cases z }
theorem takesNo {X : Cx} : Takes X NoW := fun _ _ x => by
  obtain ⟨_, _, _, _, _, _, _, _, _, _, _, _, _, _, _, _, z⟩ := x
  exact z.elim
/-- a comprehension's block -/
theorem Ctx0.blk (h : Ctx0 cf p E κ G n k X W A) {scope : Scope} (hk : scope.kind = .function) (s : Shared) (H : Hp) (cl : List (Str × Addr)) (C : Addr) (fp : List Addr) :
    Ctx0 cf p E κ G n (k.blk scope) (X.blk s H scope (compEnvC scope cl C X.env) fp) NoW A where
  N := h.N
  nd := h.nd
  sc := by
    have e : relS scope X.env.scope = relS scope k.sc := by rw [h.sc]
    exact e
  kd := hk
  fb := fun x z => z
  K := h.K
  KD := h.KD
  calm := h.calm
  un := h.un
  grd := h.grd
  tk := takesNo
  po := fun z => nomatch z
  fr := fun z => nomatch z
  rm := h.rm
  pk := h.pk
  Ξ := fun z => nomatch z
  AD := h.AD
  fns := h.fns
  fnv := h.fnv
  gls := h.gls
  bns := h.bns
  cls := h.cls
  atF := h.atF
  cK := h.cK
  cKD := h.cKD
/-- a body under try -/
theorem Ctx0.tr (h : Ctx0 cf p E κ G n k X W A) {F : Hp} {W' : L2.WX} {pn : List (Addr × Obj)} {xe : Value → Shared → Prop} (tk : Takes (X.tr pn xe) W') (po : PassesOwn (model X.prog X.w) X.A X.env xe) : Ctx0 cf p E κ G n k.tr (X.tr pn xe) W' (A.at F) where
  N := h.N
  nd := h.nd
  sc := h.sc
  kd := h.kd
  fb := h.fb
  K := h.K
  KD := h.KD
  calm := h.calm
  un := h.un
  grd := h.grd
  tk := tk
  po := fun _ => po
  fr := h.fr
  rm := h.rm
  pk := fun z => (h.pk z).at F
  Ξ := h.Ξ
  AD := h.AD
  fns := h.fns
  fnv := h.fnv
  gls := h.gls
  bns := h.bns
  cls := h.cls
  atF := h.atF
  cK := h.cK
  cKD := h.cKD
/-- a suite -/
theorem Ctx0.su (h : Ctx0 cf p E κ G n k X W A) {A' : Act} (b : Bool) (a : Addr) (pn : List (Addr × Obj)) (eK : A'.c.K = A.c.K) (eAD : A'.c.AD = A.c.AD) (eKD : A'.c.KD = A.c.KD) : Ctx0 cf p E κ G n (k.su b) (X.suite a pn) NoW A' where
  N := h.N
  nd := h.nd
  sc := h.sc
  kd := h.kd
  fb := h.fb
  K := h.K.trans eK.symm
  KD := fun a q z => h.KD a q (by rw [← eKD]; exact z)
  calm := fun z => nomatch z
  un := h.un
  grd := h.grd
  tk := takesNo
  po := fun z => nomatch z
  fr := fun z => nomatch z
  rm := fun z => nomatch z
  pk := fun z => nomatch z
  Ξ := fun z => nomatch z
  AD := eAD.trans h.AD
  fns := h.fns
  fnv := h.fnv
  gls := h.gls
  bns := h.bns
  cls := h.cls
  atF := h.atF
  cK := eK.trans h.cK
  cKD := eKD.trans h.cKD
/-- a lambda's body -/
theorem Ctx0.lam (h : Ctx0 cf p E κ G n k X W A) {scope : Scope} {A0 : Around} {outer : List Env} {s : Shared} {H : Hp} {Ex : XK} {f c' : Addr} {A' : Act} (hP : Pk p A') (hr : Room n (A0.deeper (LamX.lamEnv X scope s.heap.objs.size f c'))) (hk : scope.kind = .function) :
    Ctx0 cf p E κ G n (k.lm scope) (LamX.lamCx X A0 outer s H Ex scope f c') (fun cls od _ H' => Ex cls od H') A' where
  N := h.N
  nd := h.nd
  sc := rfl
  kd := hk
  fb := fun _ z => nomatch z
  K := h.K.trans (h.cK.trans hP.K.symm)
  KD := fun a q z => h.KD a q (by rw [h.cKD, ← hP.KD]; exact z)
  calm := fun _ => rfl
  un := by
    have := hr.un
    show (A0.deeper _).units + 65 < cLine
    omega
  grd := fun z => nomatch z
  tk := takes_lam
  po := fun z => nomatch z
  fr := fun z => nomatch z
  rm := fun _ => hr
  pk := fun _ => hP
  Ξ := fun z => nomatch z
  AD := hP.AD
  fns := h.fns
  fnv := h.fnv
  gls := h.gls
  bns := h.bns
  cls := h.cls
  atF := h.atF
  cK := hP.K
  cKD := hP.KD
end
end Mp
end
section
set_option Elab.async false
set_option linter.all false
set_option maxRecDepth 100000
set_option maxHeartbeats 2000000
/-! MpSnE: what the look of MpCk is worth: small steps. -/
namespace Mp
open PySem PySem.Spec PyProof.Rows L2
section
variable {cf : Cf} {p : PkC} {E : CE} {κ : Nat → (List D → RC) → List D → List D → RC} {Λ : List D → RC} {G : Ev} {n : Nat} {k : Kx} {X : Cx} {W : L2.WX} {A : Act}
/-- the promise of an expression; as a test -/
def Bo (E : CE) (X : Cx) (W : L2.WX) (A : Act) (m : Bool) (e : Expr) (f : S → R (D × Bool)) : Prop := match m with
  | false => PE X e (tE E A W f)
  | true => PT X e (tT E A W f)
theorem plain_is {e : Expr} {env : Env} (h : plainT e = true) (whole : Sem Value) : isTrue e env whole = (do let v ← whole; standAt e.pos; holding [v] (truthy v)) := by
  cases e with
  | UnaryOp op x q => cases op <;> first | rfl | cases h
  | BoolOp => cases h
  | IfExp => cases h
  | Compare => cases h
  | _ => rfl
theorem Bo.of {m : Bool} {e : Expr} {f : S → R (D × Bool)} (hm : (!m || plainT e) = true) (h : PE X e (tE E A W f)) : Bo E X W A m e f := by
  cases m with
  | false => exact h
  | true => exact t_val h fun whole => plain_is hm whole
theorem Ctx0.slot (c : Ctx0 cf p E κ G n k X W A) {i : Nat} {x : Str} (h : slotB k i x = true) : X.N[i]? = some x ∧ Vis X.env.scope x ∧ (x == ("__debug__" : Str)) = false ∧ (x == ("__classdict__" : Str)) = false := by
  unfold slotB at h
  rw [Bool.and_eq_true, Bool.and_eq_true] at h
  obtain ⟨a, b, _⟩ := nmOk_ok h.2
  exact ⟨by rw [c.N]; exact of_decide_eq_true h.1.1, by rw [c.sc]; exact visB_ok h.1.2, a, b⟩
theorem Ctx0.store (c : Ctx0 cf p E κ G n k X W A) {i : Nat} {x : Str} (h : storeB k i x = true) : X.N[i]? = some x ∧ Loc X.env.scope x ∧ (X.fn x = true ∨ X.env.scope.names.lookup x = some .local) := by
  unfold storeB at h
  rw [Bool.and_eq_true, Bool.and_eq_true, Bool.or_eq_true] at h
  refine ⟨by rw [c.N]; exact of_decide_eq_true h.1.1, by rw [c.sc]; exact locB_ok h.1.2, ?_⟩
  rcases h.2 with z | z
  · exact .inl (c.fb x z)
  · exact .inr (by rw [c.sc]; exact of_decide_eq_true z)
theorem Ctx0.gl (c : Ctx0 cf p E κ G n k X W A) {x : Str} (h : glB k x = true) : Gl X x ∧ (x == ("__debug__" : Str)) = false ∧ x ≠ ("__name__" : Str) ∧ nmOk x = true := by
  unfold glB at h
  rw [Bool.and_eq_true] at h
  obtain ⟨a, _, b⟩ := nmOk_ok h.2
  refine ⟨?_, a, b, h.2⟩
  show X.env.kindOf x = _
  unfold Env.kindOf
  rw [c.sc]
  exact of_decide_eq_true h.1
theorem Ctx0.is (c : Ctx0 cf p E κ G n k X W A) {x y : Str} (h : isB cf k x y = true) : x = y ∧ Gl X x ∧ X.mg x = none ∧ (x == ("__debug__" : Str)) = false ∧ x ≠ ("__name__" : Str) := by
  unfold isB at h
  rw [Bool.and_eq_true, Bool.and_eq_true] at h
  obtain ⟨a, b, d, _⟩ := c.gl h.2
  exact ⟨of_decide_eq_true h.1.1, a, c.bns x (of_decide_eq_true h.1.2), b, d⟩
theorem hand_ok (c : Ctx0 cf p E κ G n k X W A) {a : C} {e : Expr} {r : Bool} {f : S → R (D × Bool)} (h : hB a k e r = true) (hr : r = true → PE X e (tE E A W f)) : PE X e (tH E A W fun s => hand a (f s) s) := by
  cases a with
  | peek i =>
    cases e with
    | Name x q =>
      obtain ⟨h1, h2, h3, h4⟩ := c.slot (x := x) h
      exact h_peek h1 h2 h3 h4
    | _ => cases h
  | _ => exact h_of (hr h)
theorem kd_of (c : Ctx0 cf p E κ G n k X W A) : KdOk X A.c := c.KD
theorem u1 (c : Ctx0 cf p E κ G n k X W A) : X.A.units + 1 < cLine := by have := c.un; omega
theorem bin_ok (c : Ctx0 cf p E κ G n k X W A) {o : Op2} {op : Operator} (h : binB o op = true) : OpR X (binaryOp op) (rO2 A (ap2 o)) := by
  cases o <;> cases op <;> first | cases h; done | skip
  · exact op_add_ok c.K
  · exact op_sub_ok
  · exact op_mul_ok c.K
  · exact op_fdiv_ok
  · exact op_mod_ok
  · exact op_pow_ok
theorem cmp_ok (c : Ctx0 cf p E κ G n k X W A) {o : Op2} {op : CmpOp} (h : cmpB o op = true) : OpR X (compareOp op) (rO2 A (ap2 o)) := by
  cases o <;> cases op <;> first | cases h; done | skip
  · exact op_eq_ok c.K c.un
  · exact op_ne_ok c.K c.un
  · exact op_lt_ok
  · exact op_le_ok
  · exact op_gt_ok
  · exact op_ge_ok
  · exact op_in_ok c.K c.KD c.un
  · exact op_notin_ok c.K c.KD c.un
theorem b1_ok (c : Ctx0 cf p E κ G n k X W A) {o : Op1} {x : Str} {a : Expr} {q pos : Pos} {fa : S → R Hd} (h : b1B cf k o x = true) (ha : PE X a (tH E A W fa)) (hs : noStar a = true) :
    PE X (.Call (.Name x q) [a] [] pos) (tE E A W fun s => (fa s).bind fun h s1 => liftO (res1 h s1 (ap1 o)) s1) := by
  cases o <;> first | cases h; done | skip
  case len => obtain ⟨rfl, h1, h2, h3, h4⟩ := c.is h; exact e_callB1 (len_ok c.K c.KD) h1 h2 (by kernel_rfl) ha hs h4 h3
  case abs => obtain ⟨rfl, h1, h2, h3, h4⟩ := c.is h; exact e_callB1 abs_ok h1 h2 (by kernel_rfl) ha hs h4 h3
  case int => obtain ⟨rfl, h1, h2, h3, h4⟩ := c.is h; exact e_callTy1 int_ok h1 h2 (by kernel_rfl) ha hs h4 h3
  case tuple => obtain ⟨rfl, h1, h2, h3, h4⟩ := c.is h; exact e_callTy1 (tuple_ok c.K) h1 h2 (by kernel_rfl) ha hs h4 h3
  case list => obtain ⟨rfl, h1, h2, h3, h4⟩ := c.is h; exact e_callTy1 (list_ok c.K) h1 h2 (by kernel_rfl) ha hs h4 h3
  case sum =>
    have h : (k.calm && isB cf k x "sum") = true := h
    rw [Bool.and_eq_true] at h
    obtain ⟨rfl, h1, h2, h3, h4⟩ := c.is h.2; exact e_callB1 (sum_ok c.K (c.calm h.1)) h1 h2 (by kernel_rfl) ha hs h4 h3
  case all =>
    have h : (k.calm && isB cf k x "all") = true := h
    rw [Bool.and_eq_true] at h
    obtain ⟨rfl, h1, h2, h3, h4⟩ := c.is h.2; exact e_callB1 (all_ok (c.calm h.1)) h1 h2 (by kernel_rfl) ha hs h4 h3
  case any =>
    have h : (k.calm && isB cf k x "any") = true := h
    rw [Bool.and_eq_true] at h
    obtain ⟨rfl, h1, h2, h3, h4⟩ := c.is h.2; exact e_callB1 (any_ok (c.calm h.1)) h1 h2 (by kernel_rfl) ha hs h4 h3
  case repr =>
    have h : (k.grd && isB cf k x "repr") = true := h
    rw [Bool.and_eq_true] at h
    obtain ⟨rfl, h1, h2, h3, h4⟩ := c.is h.2; exact e_callB1 (repr_ok c.K c.KD (c.grd h.1) c.un) h1 h2 (by kernel_rfl) ha hs h4 h3
theorem isi_ok (c : Ctx0 cf p E κ G n k X W A) {o : Op1} {x T : Str} {a : Expr} {q q2 pos : Pos} {fa : S → R Hd} (hx : isB cf k x "isinstance" = true) (h : isiB cf k o T = true) (ha : PE X a (tH E A W fa)) (hs : noStar a = true) :
    PE X (.Call (.Name x q) [a, .Name T q2] [] pos) (tE E A W fun s => (fa s).bind fun h s1 => liftO (res1 h s1 (ap1 o)) s1) := by
  obtain ⟨rfl, g1, g2, g3, g4⟩ := c.is hx
  cases o <;> first | cases h; done | skip
  case isInt => obtain ⟨rfl, h1, h2, h3, h4⟩ := c.is h; exact e_isi (g := fun n => n == 2 || n == 1) c.K g1 g2 h1 h2 (by kernel_rfl) h4 h3 isi_int ha hs
  case isBool => obtain ⟨rfl, h1, h2, h3, h4⟩ := c.is h; exact e_isi (g := fun n => n == 1) c.K g1 g2 h1 h2 (by kernel_rfl) h4 h3 isi_bool ha hs
  case isTup => obtain ⟨rfl, h1, h2, h3, h4⟩ := c.is h; exact e_isi (g := fun n => n == 4) c.K g1 g2 h1 h2 (by kernel_rfl) h4 h3 isi_tup ha hs
  case isLst => obtain ⟨rfl, h1, h2, h3, h4⟩ := c.is h; exact e_isi (g := fun n => n == 5) c.K g1 g2 h1 h2 (by kernel_rfl) h4 h3 isi_lst ha hs
  case isStr => obtain ⟨rfl, h1, h2, h3, h4⟩ := c.is h; exact e_isi (g := fun n => n == 3) c.K g1 g2 h1 h2 (by kernel_rfl) h4 h3 isi_str ha hs
  case isDic => obtain ⟨rfl, h1, h2, h3, h4⟩ := c.is h; exact e_isi (g := fun n => n == 6) c.K g1 g2 h1 h2 (by kernel_rfl) h4 h3 isi_dic ha hs
theorem cst_ok {d : D} {v : Const} {j : Nat} {pos : Pos} (h : cstB d v = true) : PE X (.Constant v j pos) (tE E A W fun s => .ok (d, false) s) := by
  cases d <;> cases v <;> first | cases h; done | skip
  case non.none => exact e_of pe_non (fun _ _ _ h => h) fun _ => Rp.n
  case bl.bool a b =>
    have e : a = b := by
      have h : (a == b) = true := h
      simpa using h
    subst e
    exact e_of pe_bl (fun _ _ _ h => h) fun _ => Rp.b _
  case int.int a b =>
    have e : a = b := of_decide_eq_true h
    subst e
    exact e_of pe_int (fun _ _ _ h => h) fun _ => Rp.i _
  case str.str a b =>
    have e : a = b := of_decide_eq_true h
    subst e
    exact e_of pe_str (fun _ _ _ h => h) fun _ => Rp.s _
theorem o1_ok (c : Ctx0 cf p E κ G n k X W A) {o : Op1} {e : Expr} {ck : Expr → Bool} {fa : S → R Hd} (h : o1B cf k o e ck = true) (hc : ∀ e, ck e = true → PE X e (tH E A W fa)) : PE X e (tE E A W fun s => (fa s).bind fun h s1 => liftO (res1 h s1 (ap1 o)) s1) := by
  unfold o1B at h
  split at h
  · cases o <;> first | cases h; done | skip
    exact e_un un_neg_ok (hc _ h)
  · rw [Bool.and_eq_true, Bool.and_eq_true] at h
    exact b1_ok c h.1.2 (hc _ h.2) h.1.1
  · cases o <;> first | cases h; done | skip
    have h : (decide (_ = (1 : Int)) && ck _) = true := h
    rw [Bool.and_eq_true] at h
    have e := of_decide_eq_true h.1
    subst e
    exact e_revL c.K (hc _ h.2)
  · rw [Bool.and_eq_true, Bool.and_eq_true, Bool.and_eq_true] at h
    exact isi_ok c h.1.1.2 h.1.2 (hc _ h.2) h.1.1.1
  · cases h
theorem isn_ok {o : Op1} {m : Bool} {e : Expr} {ck : Expr → Bool} {fa : S → R Hd} (h : isnB o e ck = true) (hc : ∀ e, ck e = true → PE X e (tH E A W fa)) : Bo E X W A m e (fun s => (fa s).bind fun h s1 => liftO (res1 h s1 (ap1 o)) s1) := by
  unfold isnB at h
  split at h
  · cases o <;> first | cases h; done | skip
    cases m with
    | false => exact e_isN (hc _ h)
    | true => exact t_isN (hc _ h)
  · cases o <;> first | cases h; done | skip
    cases m with
    | false => exact e_notN (hc _ h)
    | true => exact t_notN (hc _ h)
  · cases h
theorem c2_ok (c : Ctx0 cf p E κ G n k X W A) {o : Op2} {x : Str} {a b : Expr} {q pos : Pos} {fa fb : S → R Hd} (h : c2B cf k o x = true) (ha : PE X a (tH E A W fa)) (hb : PE X b (tH E A W fb)) (hs : noStar a = true) (hs2 : noStar b = true) :
    PE X (.Call (.Name x q) [a, b] [] pos) (tE E A W fun s => (fa s).bind fun h s1 => (fb s1).bind fun k s2 => liftO (res2 h k s2 (ap2 o)) s2) := by
  cases o <;> first | cases h; done | skip
  case min2 =>
    have h : (k.calm && isB cf k x "min") = true := h
    rw [Bool.and_eq_true] at h
    obtain ⟨rfl, h1, h2, h3, h4⟩ := c.is h.2; exact e_callB2 (min2_ok (c.calm h.1)) h1 h2 (by kernel_rfl) ha hb hs hs2 h4 h3
  case max2 =>
    have h : (k.calm && isB cf k x "max") = true := h
    rw [Bool.and_eq_true] at h
    obtain ⟨rfl, h1, h2, h3, h4⟩ := c.is h.2; exact e_callB2 (max2_ok (c.calm h.1)) h1 h2 (by kernel_rfl) ha hb hs hs2 h4 h3
/-- max(d, default=e) -/
theorem e_maxD {x : Str} {a b : Expr} {q q2 pos : Pos} {fa fb : S → R Hd} (c : Ctx0 cf p E κ G n k X W A) (hk : k.calm = true) (h : isB cf k x "max" = true) (ha : PE X a (tH E A W fa)) (hb : PE X b (tH E A W fb)) (hs : noStar a = true) :
    PE X (.Call (.Name x q) [a] [⟨some (Str.ofString "default"), b, q2⟩] pos) (tE E A W fun s => (fa s).bind fun h s1 => (fb s1).bind fun k s2 => liftO (res2 h k s2 (ap2 .maxD)) s2) := by
  obtain ⟨rfl, h1, h2, h3, h4⟩ := c.is h
  refine ⟨fun pins t σ H Q I hq => (pe_callBK (max_df c.K c.KD (c.calm hk)) h1 h2 (by kernel_rfl) (pa_cons ha pa_nil (notStar hs)) (pk_cons hb pk_nil) h4 h3 (by rw [notStar hs]; rfl) (by rw [notStar hs]; rfl) rfl rfl rfl).run pins t σ H Q I ?_⟩
  obtain ⟨s0, ω0, sr0, q0⟩ := op_use hq
  refine ⟨s0, ω0, sr0, QR.mono q0 fun x s' _ z v H' ω' sm h' e r => ?_⟩
  obtain ⟨s1, ω1, sr1, q1⟩ := z v H' ω' sm h' e r
  exact ⟨s1, ω1, sr1, QR.mono q1 fun x s' _ z v' H' ω' sm h' e r => ⟨v, v', rfl, rfl, z v' H' ω' sm h' e r⟩⟩
theorem o2_ok (c : Ctx0 cf p E κ G n k X W A) {o : Op2} {m : Bool} {e : Expr} {ca cb : Expr → Bool} {fa fb : S → R Hd} (h : o2B cf k o m e ca cb = true) (ha : ∀ e, ca e = true → PE X e (tH E A W fa)) (hb : ∀ e, cb e = true → PE X e (tH E A W fb)) :
    Bo E X W A m e fun s => (fa s).bind fun h s1 => (fb s1).bind fun k s2 => liftO (res2 h k s2 (ap2 o)) s2 := by
  unfold o2B at h
  split at h
  · rw [Bool.and_eq_true, Bool.and_eq_true] at h
    exact Bo.of (by simp [plainT]) (e_bin (bin_ok c h.1.1) (ha _ h.1.2) (hb _ h.2))
  · rw [Bool.and_eq_true, Bool.and_eq_true, Bool.and_eq_true] at h
    cases m with
    | false => exact e_cmp (cmp_ok c h.1.1.1) (ha _ h.1.2) (hb _ h.2) (behind_no h.1.1.2)
    | true => exact t_cmp (cmp_ok c h.1.1.1) (ha _ h.1.2) (hb _ h.2) (behind_no h.1.1.2)
  · cases o <;> first | cases h; done | skip
    have h : (ca _ && cb _) = true := h
    rw [Bool.and_eq_true] at h
    exact Bo.of (by simp [plainT]) (e_slL c.K (ha _ h.1) (hb _ h.2))
  · cases o <;> first | cases h; done | skip
    have h : (ca _ && cb _) = true := h
    rw [Bool.and_eq_true] at h
    exact Bo.of (by simp [plainT]) (e_slU c.K (ha _ h.1) (hb _ h.2))
  · cases o <;> first | cases h; done | skip
    have h : (ixB _ && ca _ && cb _) = true := h
    rw [Bool.and_eq_true, Bool.and_eq_true] at h
    exact Bo.of (by simp [plainT]) (e_ix (ix_ok c.K c.KD c.un) (ha _ h.1.2) (hb _ h.2) (ixB_ok h.1.1))
  · simp only [Bool.and_eq_true] at h
    exact Bo.of (by simp [plainT]) (c2_ok c h.1.1.2 (ha _ h.1.2) (hb _ h.2) h.1.1.1.1 h.1.1.1.2)
  · cases o <;> first | cases h; done | skip
    have h : (k.calm && noStar _ && isB cf k _ "max" && decide (_ = ("default" : Str)) && ca _ && cb _) = true := h
    simp only [Bool.and_eq_true] at h
    have e := of_decide_eq_true h.1.1.2
    subst e
    exact Bo.of (by simp [plainT]) (e_maxD c h.1.1.1.1.1 h.1.1.1.2 (ha _ h.1.2) (hb _ h.2) h.1.1.1.1.2)
  · cases h
end
end Mp
end
section
set_option Elab.async false
set_option linter.all false
set_option maxRecDepth 100000
set_option maxHeartbeats 2000000
/-! MpSnP: what the look of MpCk is worth: the parts. -/
namespace Mp
open PySem PySem.Spec PyProof.Rows L2
section
variable {cf : Cf} {p : PkC} {E : CE} {κ : Nat → (List D → RC) → List D → List D → RC} {Λ : List D → RC} {G : Ev} {n : Nat} {k : Kx} {X : Cx} {W : L2.WX} {A : Act}
theorem m_ok (c : Ctx0 cf p E κ G n k X W A) {o : Op2} {e : Expr} {ca cb : Expr → Bool} {fa fb : S → R Hd} (h : mB o e ca cb = true) (ha : ∀ e, ca e = true → PE X e (tH E A W fa)) (hb : ∀ e, cb e = true → PE X e (tH E A W fb)) :
    PE X e (tE E A W fun s => (fa s).bind fun h s1 => if g1 ((h.res s1).map D.kind) o then (fb s1).bind fun k s2 => if (h.res s2).map D.kind = (h.res s1).map D.kind then liftO (res2 h k s2 (ap2 o)) s2 else .no else .no) := by
  unfold mB at h
  split at h
  · simp only [Bool.and_eq_true] at h
    obtain ⟨⟨⟨⟨⟨h1, h2⟩, h3⟩, h4⟩, h5⟩, h6⟩ := h
    cases o <;> first | cases h4; done | skip
    case count =>
      have e := of_decide_eq_true h4
      subst e
      exact e_count c.K c.KD (ha _ h5) (hb _ h6) h1 h2 h3
    case index =>
      have e := of_decide_eq_true h4
      subst e
      exact e_index c.K c.KD (ha _ h5) (hb _ h6) h1 h2 h3
  · cases h
theorem m3_ok (c : Ctx0 cf p E κ G n k X W A) {o : Op3} {e : Expr} {ca cb cc : Expr → Bool} {fa fb : S → R Hd} {fc : S → R (D × Bool)} (h : m3B o e ca cb cc = true) (ha : ∀ e, ca e = true → PE X e (tH E A W fa)) (hb : ∀ e, cb e = true → PE X e (tH E A W fb)) (hc : ∀ e, cc e = true → PE X e (tE E A W fc)) :
    PE X e (tE E A W fun s => (fa s).bind fun h s1 => if g3 ((h.res s1).map D.kind) o then (fb s1).bind fun k s2 => (fc s2).bind fun l s3 => liftO (res2 h k s3 fun d e => ap3 o d e l.1) s3 else .no) := by
  unfold m3B at h
  split at h
  · simp only [Bool.and_eq_true] at h
    obtain ⟨⟨⟨⟨⟨⟨⟨h1, h2⟩, h3⟩, h4⟩, h5⟩, h6⟩, h7⟩, h8⟩ := h
    cases o <;> first | cases h5; done | skip
    case get2 =>
      have e := of_decide_eq_true h5
      subst e
      exact e_get2 c.K c.KD (u1 c) (ha _ h6) (hb _ h7) (hc _ h8) h1 h2 h3 h4
  · cases h
theorem slc_ok (c : Ctx0 cf p E κ G n k X W A) {e : Expr} {ca cb cc : Expr → Bool} {fa : S → R Hd} {fb fc : S → R (D × Bool)} (h : slcB e ca cb cc = true) (ha : ∀ e, ca e = true → PE X e (tH E A W fa)) (hb : ∀ e, cb e = true → PE X e (tE E A W fb)) (hc : ∀ e, cc e = true → PE X e (tE E A W fc)) :
    PE X e (tE E A W fun s => (fa s).bind fun h s1 => (fb s1).bind fun x s2 => match x.1 with | .int i => (fc s2).bind fun y s3 => liftO (res1 h s3 fun d => ap3 .slLU d (.int i) y.1) s3 | _ => .no) := by
  unfold slcB at h
  split at h
  · simp only [Bool.and_eq_true] at h
    exact e_slLU c.K (ha _ h.1.1) (hb _ h.1.2) (hc _ h.2)
  · cases h
theorem ch_ok (c : Ctx0 cf p E κ G n k X W A) {o o' : Op2} {m : Bool} {e : Expr} {ca cb cc : Expr → Bool} {fa fb fc : S → R (D × Bool)} (h : chB o o' e ca cb cc = true) (ha : ∀ e, ca e = true → PE X e (tE E A W fa)) (hb : ∀ e, cb e = true → PE X e (tE E A W fb)) (hc : ∀ e, cc e = true → PE X e (tE E A W fc)) :
    Bo E X W A m e fun s => (fa s).bind fun x s1 => (fb s1).bind fun y s2 => match ap2 o x.1 y.1 with | some (.bl true, _) => (fc s2).bind fun z s3 => liftO (ap2 o' y.1 z.1) s3 | some (.bl false, _) => .ok (.bl false, false) s2 | _ => .no := by
  unfold chB at h
  split at h
  · simp only [Bool.and_eq_true] at h
    obtain ⟨⟨⟨⟨⟨h1, h2⟩, h3⟩, h4⟩, h5⟩, h6⟩ := h
    cases m with
    | false => exact e_chain (cmp_ok c h1) (cmp_ok c h2) (ha _ h4) (hb _ h5) (hc _ h6) (behind_no h3)
    | true => exact t_chain (cmp_ok c h1) (cmp_ok c h2) (ha _ h4) (hb _ h5) (hc _ h6) (behind_no h3)
  · cases h
theorem row_ok (c : Ctx0 cf p E κ G n k X W A) : ∀ {is : List Nat} {es : List Expr}, tgB.rowB k is es = true → PGs X es (gNames is) ∧ (assignEach es X.env).length = is.length ∧ (assignEach es X.env).findIdx? (·.1) = none
  | [], [], _ => ⟨pgs_nil, rfl, rfl⟩
  | i :: is, e :: es, h => by
    cases e with
    | Name x q =>
      have h : (storeB k i x && tgB.rowB k is es) = true := h
      rw [Bool.and_eq_true] at h
      obtain ⟨h1, h2, h3⟩ := c.store h.1
      obtain ⟨g1, g2, g3⟩ := row_ok c h.2
      refine ⟨pgs_cons (pg_name (by rw [c.N]; exact c.nd) h1 h2 h3) g1, ?_, ?_⟩
      · show (assignEach es X.env).length + 1 = _
        rw [g2]
        rfl
      · show ((false, assign (.Name x q) X.env) :: assignEach es X.env).findIdx? (·.1) = none
        rw [List.findIdx?_cons, g3]
        rfl
    | _ => cases h
  | [], _ :: _, h => by cases h
  | _ :: _, [], h => by cases h
theorem tg_ok (c : Ctx0 cf p E κ G n k X W A) {t : Tg} {e : Expr} (h : tgB k t e = true) : PG X e (gT X.K t) := by
  cases t with
  | n i =>
    cases e with
    | Name x q =>
      obtain ⟨h1, h2, h3⟩ := c.store (x := x) h
      exact pg_name (by rw [c.N]; exact c.nd) h1 h2 h3
    | _ => cases h
  | t is =>
    cases e with
    | Tuple es q q2 =>
      have h : (k.calm && tgB.rowB k is es) = true := h
      rw [Bool.and_eq_true] at h
      obtain ⟨g1, g2, g3⟩ := row_ok c h.2
      exact pg_tup (c.calm h.1) g1 g2 g3
    | _ => cases h
theorem tp_ok {tp : Bool} {t : Tg} (h : (!tp || tgT t) = true) : tpOk tp t := fun e => by
  subst e
  cases t with
  | n i => cases h
  | t is => exact ⟨is, rfl⟩
theorem own_map (k : Kx) (own : List Nat) : (ownN k own).map (·.2) = own := by
  unfold ownN
  rw [List.map_map]
  exact List.map_id _
theorem blkC_kind {N : List Str} {sc scope : Scope} {own : List (Str × Nat)} (h : blkC N sc scope own = true) : scope.kind = .function := (blkOk_by h).kind
theorem cp_ok (c : Ctx0 cf p E κ G n k X W A) {own : List Nat} {tp : Bool} {t : Tg} {tg iter : Expr} {scope : Scope} (h : cpB k own tp t tg iter scope = true) :
    X.calm = true ∧ X.N.Nodup ∧ BlkOk X.N X.env.scope scope (ownN k own) ∧ (∀ i ∈ tgs t, i ∈ (ownN k own).map (·.2)) ∧ tpOk tp t ∧ (Blks X scope fun Y => PG Y tg (gT X.K t)) ∧ (∀ x, foldedSetIterable iter X.env x = pure x) ∧ scope.kind = .function := by
  unfold cpB at h
  simp only [Bool.and_eq_true] at h
  obtain ⟨⟨⟨⟨⟨h1, h2⟩, h3⟩, h4⟩, h5⟩, h6⟩ := h
  refine ⟨c.calm h1, by rw [c.N]; exact c.nd, by rw [c.N, c.sc]; exact blkOk_by h2, fun i hi => ?_, tp_ok h4, fun s H C cl fp => tg_ok (c.blk (blkC_kind h2) s H cl C fp) h5, fun x => folded_no h6 _ _, blkC_kind h2⟩
  rw [own_map]
  exact of_decide_eq_true (List.all_eq_true.mp h3 i hi)
theorem ts_ok {tst : C} {ifs : List Expr} {r : Expr → Bool} {f : S → R (D × Bool)} (h : tsB tst ifs r = true) (hr : ∀ e, r e = true → PT X e (tT E A W f)) : PTs X ifs (tTs E A W (tstF tst f)) := by
  cases tst with
  | nil =>
    cases ifs with
    | nil => exact pts_nil
    | cons => cases h
  | _ =>
    cases ifs with
    | nil => cases h
    | cons e r' =>
      cases r' with
      | nil => exact pts_one (hr _ h)
      | cons => cases h
theorem star_any {pos : Pos} {env : Env} : ∀ es : List Expr, (backTo pos (starEach es env)).any (·.1) = !(es.all noStar)
  | [] => rfl
  | e :: es => by
    have ih := star_any (pos := pos) (env := env) es
    cases e <;> first
      | (show (false || (backTo pos (starEach es env)).any (·.1)) = !(true && es.all noStar)
         rw [ih]
         simp; done)
      | rfl
theorem sw_ok {e : Expr} {x : Str} {px : Pos} {scope : Scope} {pos : Pos} {l : Nat} {env : Env} (hs : env.scope = k.sc) (h : swB k x px scope pos = true)
    (he : (∃ y gs, e = .ListComp y gs scope pos) ∨ ∃ y z gs, e = .DictComp y z gs scope pos) : swapsWith e (some (.Name x px)) l env = pure true ∧ k.sc.names.lookup x = some .local := by
  unfold swB at h
  simp only [Bool.and_eq_true, Bool.not_eq_true'] at h
  obtain ⟨⟨⟨h1, h2⟩, h3⟩, h4⟩ := h
  have h1 := of_decide_eq_true h1
  have h2 := of_decide_eq_true h2
  refine ⟨?_, h2⟩
  have hk : env.scope.kind = .function := by rw [hs]; exact h1
  have hy : env.scope.names.lookup x = some .local := by rw [hs]; exact h2
  have ky : env.kindOf x = some .local := hy
  have hb : env.blockKind = .function := by unfold Env.blockKind; rw [hk]; rfl
  rcases he with ⟨y, gs, rfl⟩ | ⟨y, z, gs, rfl⟩
  · exact sw_true hk hy h3 h4
  · unfold swapsWith
    simp only [hb, ky, h4, Expr.pos, h3]
    rfl
end
end Mp
end
section
set_option Elab.async false
set_option linter.all false
set_option maxRecDepth 100000
set_option maxHeartbeats 4000000
/-! MpSnd: where the look of MpCk is content, the text does what the code does. -/
namespace Mp
open PySem PySem.Spec PyProof.Rows L2
section
variable (cf : Cf) (p : PkC) (E : CE) (κ : Nat → (List D → RC) → List D → List D → RC) (Λ : List D → RC) (G : Ev) (n : Nat)
/-- the clauses as a list -/
def toHL : C → HL
  | .cons (.hnd c i b) r => (c, i, ex κ Λ G b) :: toHL r
  | _ => []
structure All (x : C) : Prop where
  e : ∀ {m : Bool} {k : Kx} {X : Cx} {W : L2.WX} {A : Act} {e : Expr}, Ctx cf p E κ Λ G n k X W A → ckE cf x m k e = true → Bo E X W A m e (ev κ Λ G x)
  a : ∀ {k : Kx} {X : Cx} {W : L2.WX} {A : Act} {es : List Expr}, Ctx cf p E κ Λ G n k X W A → ckA cf x k es = true → PA X es (tA E A W (ea κ Λ G x))
  i : ∀ {k : Kx} {X : Cx} {W : L2.WX} {A : Act} {tg it : Expr}, Ctx cf p E κ Λ G n k X W A → ckI cf x k tg it = true → PI X tg it (tI E A W (tpC x) (ei κ Λ G x))
  cc : ∀ {k : Kx} {X : Cx} {W : L2.WX} {A : Act} {y : Str} {py spos : Pos} {e : Expr} {j : Nat}, Ctx cf p E κ Λ G n k X W A → X.N[j]? = some y → X.env.scope.names.lookup y = some .local → ckC cf x k y py e = true → PS X (.Assign [.Name y py] e spos) (tS E A W (ex κ Λ G (.asg (.n j) x)))
  s : ∀ {k : Kx} {X : Cx} {W : L2.WX} {A : Act} {st : Stmt}, Ctx cf p E κ Λ G n k X W A → ckS cf x k st = true → PS X st (tS E A W (ex κ Λ G x))
  b : ∀ {k : Kx} {X : Cx} {W : L2.WX} {A : Act} {b : List Stmt}, Ctx cf p E κ Λ G n k X W A → ckSs cf x k b = true → PSs X b (tS E A W (ex κ Λ G x))
  h : ∀ {k : Kx} {X : Cx} {W : L2.WX} {A : Act} {hd : ExceptHandler} {hds : List ExceptHandler} {l : HL}, Ctx cf p E κ Λ G n k X W A → k.stm = true → HsOk E A X hds l → ckH1 cf x k hd = true → ∃ cc i b, x = .hnd cc i b ∧ HsOk E A X (hd :: hds) ((cc, i, ex κ Λ G b) :: l) ∧ ∀ kk ∈ E.KS, PySem.W.exmOne X.K (.ref (E.CD kk)) (.ref (E.CD cc)) = some (G.sub kk cc)
  hd : ∀ {k : Kx} {X : Cx} {W : L2.WX} {A : Act} {hs : List ExceptHandler}, Ctx cf p E κ Λ G n k X W A → k.stm = true → ckHd cf x k hs = true → HsOk E A X hs (toHL κ Λ G x) ∧ (∀ q ∈ toHL κ Λ G x, ∀ kk ∈ E.KS, PySem.W.exmOne X.K (.ref (E.CD kk)) (.ref (E.CD q.1)) = some (G.sub kk q.1)) ∧ eh κ Λ G x = ehL G (toHL κ Λ G x)
end
section
variable {cf : Cf} {p : PkC} {E : CE} {κ : Nat → (List D → RC) → List D → List D → RC} {Λ : List D → RC} {G : Ev} {n : Nat} {k : Kx} {X : Cx} {W : L2.WX} {A : Act}
theorem nil_of {a : C} (h : ckA cf a k [] = true) : a = .nil := by
  cases a with
  | nil => rfl
  | cons a r => cases a <;> cases h
  | _ => cases h
theorem Bo.pe {m : Bool} {e : Expr} {f : S → R (D × Bool)} (h : Bo E X W A m e f) (hm : m = false) : PE X e (tE E A W f) := by
  subst hm
  exact h
/-- a def's call -/
theorem Ctx0.call (c : Ctx0 cf p E κ G n k X W A) {f : Nat} {x : Str} (hk : k.call = true) (hf : cf.fn f = some x) (hg : (!cf.gd f || k.grd) = true) : X.mg x = some (.ref (p.AD f)) ∧ PySem.W.keepIn X.K (.ref (p.AD f)) = true ∧ CallS X (p.AD f) (spF E (Pk p) (κ f noL)) (WE W) := by
  obtain ⟨h1, h2, h3⟩ := c.fns f x hf
  refine ⟨h1, h2, h3.use (c.rm hk) (fun z => c.grd ?_) c.tk⟩
  rw [z] at hg
  exact hg
theorem Pk.sub {A : Act} (h : Pk p A) (H : Hp) (ω : Wd) : Pk p (A.sub H ω) := (h.inn H ω).bare
section
variable {e : Expr} {m : Bool}
theorem x_cst (c : Ctx cf p E κ Λ G n k X W A) {d : D} (h : ckE cf (.cst d) m k e = true) : Bo E X W A m e (ev κ Λ G (.cst d)) := by
  unfold ckE at h
  rw [Bool.and_eq_true] at h
  obtain ⟨hm, h⟩ := h
  split at h
  · exact Bo.of hm (cst_ok h)
  · cases h
theorem x_var (c : Ctx cf p E κ Λ G n k X W A) {i : Nat} (h : ckE cf (.var i) m k e = true) : Bo E X W A m e (ev κ Λ G (.var i)) := by
  unfold ckE at h
  rw [Bool.and_eq_true] at h
  obtain ⟨hm, h⟩ := h
  split at h
  · obtain ⟨h1, h2, h3, h4⟩ := c.slot h
    exact Bo.of hm (e_var h1 h2 h3 h4)
  · cases h
theorem x_mov (c : Ctx cf p E κ Λ G n k X W A) {i : Nat} (h : ckE cf (.mov i) m k e = true) : Bo E X W A m e (ev κ Λ G (.mov i)) := by
  unfold ckE at h
  rw [Bool.and_eq_true] at h
  obtain ⟨hm, h⟩ := h
  split at h
  · obtain ⟨h1, h2, h3, h4⟩ := c.slot h
    exact Bo.of hm (e_mov h1 h2 h3 h4)
  · cases h
theorem x_glob (c : Ctx cf p E κ Λ G n k X W A) {g : Nat} (h : ckE cf (.glob g) m k e = true) : Bo E X W A m e (ev κ Λ G (.glob g)) := by
  unfold ckE at h
  rw [Bool.and_eq_true] at h
  obtain ⟨hm, h⟩ := h
  split at h
  · rename_i x q
    rw [Bool.and_eq_true] at h
    obtain ⟨g1, g2, g3, _⟩ := c.gl h.2
    refine Bo.of hm ⟨fun pins t σ H Q I hq => ?_⟩
    obtain ⟨s, ω, sr, q⟩ := hq
    have q : QR E A W σ (match G.glob g with | some d => .ok (d, false) s | none => .no) fun x s' => ∀ v H' ω', Sm ω.F ω'.F → SR A s' σ H' ω' → Out A.c ω ω' x.1 x.2 v → Q v H' := q
    cases eg : G.glob g with
    | none => rw [eg] at q; exact q.elim
    | some d =>
      rw [eg] at q
      obtain ⟨u, v, h1, h2, h3⟩ := c.gls g x d (of_decide_eq_true h.1) eg
      exact (pe_glob g1 h1 h2 g2).run pins t σ H Q I (q v H ω (Sm.refl _) sr ⟨h3 _ _ c.cK (by rw [← c.AD]) c.cKD, rfl⟩)
  · cases h
theorem x_op1 (c : Ctx cf p E κ Λ G n k X W A) {o : Op1} {a : C} (ia : All cf p E κ Λ G n a) (h : ckE cf (.op1 o a) m k e = true) : Bo E X W A m e (ev κ Λ G (.op1 o a)) := by
  unfold ckE at h
  rw [Bool.or_eq_true] at h
  rcases h with h | h
  · exact isn_ok (fa := fun s => hand a (ev κ Λ G a s) s) h fun e he => hand_ok c.toCtx0 he fun z => (ia.e c z).pe rfl
  · rw [Bool.and_eq_true] at h
    exact Bo.of h.1 (o1_ok c.toCtx0 (fa := fun s => hand a (ev κ Λ G a s) s) h.2 fun e he => hand_ok c.toCtx0 he fun z => (ia.e c z).pe rfl)
theorem x_op2 (c : Ctx cf p E κ Λ G n k X W A) {o : Op2} {a b : C} (ia : All cf p E κ Λ G n a) (ib : All cf p E κ Λ G n b) (h : ckE cf (.op2 o a b) m k e = true) : Bo E X W A m e (ev κ Λ G (.op2 o a b)) := by
  unfold ckE at h
  exact o2_ok c.toCtx0 (fa := fun s => hand a (ev κ Λ G a s) s) (fb := fun s => hand b (ev κ Λ G b s) s) h (fun e he => hand_ok c.toCtx0 he fun z => (ia.e c z).pe rfl) (fun e he => hand_ok c.toCtx0 he fun z => (ib.e c z).pe rfl)
theorem x_meth (c : Ctx cf p E κ Λ G n k X W A) {o : Op2} {a b : C} (ia : All cf p E κ Λ G n a) (ib : All cf p E κ Λ G n b) (h : ckE cf (.meth o a b) m k e = true) : Bo E X W A m e (ev κ Λ G (.meth o a b)) := by
  unfold ckE at h
  rw [Bool.and_eq_true] at h
  exact Bo.of h.1 (m_ok c.toCtx0 (fa := fun s => hand a (ev κ Λ G a s) s) (fb := fun s => hand b (ev κ Λ G b s) s) h.2 (fun e he => hand_ok c.toCtx0 he fun z => (ia.e c z).pe rfl) (fun e he => hand_ok c.toCtx0 he fun z => (ib.e c z).pe rfl))
theorem x_meth3 (c : Ctx cf p E κ Λ G n k X W A) {o : Op3} {a b d : C} (ia : All cf p E κ Λ G n a) (ib : All cf p E κ Λ G n b) (id : All cf p E κ Λ G n d) (h : ckE cf (.meth3 o a b d) m k e = true) : Bo E X W A m e (ev κ Λ G (.meth3 o a b d)) := by
  unfold ckE at h
  rw [Bool.and_eq_true] at h
  exact Bo.of h.1 (m3_ok c.toCtx0 (fa := fun s => hand a (ev κ Λ G a s) s) (fb := fun s => hand b (ev κ Λ G b s) s) (fc := ev κ Λ G d) h.2 (fun e he => hand_ok c.toCtx0 he fun z => (ia.e c z).pe rfl) (fun e he => hand_ok c.toCtx0 he fun z => (ib.e c z).pe rfl) fun e he => (id.e c he).pe rfl)
theorem x_slc (c : Ctx cf p E κ Λ G n k X W A) {a b d : C} (ia : All cf p E κ Λ G n a) (ib : All cf p E κ Λ G n b) (id : All cf p E κ Λ G n d) (h : ckE cf (.slc a b d) m k e = true) : Bo E X W A m e (ev κ Λ G (.slc a b d)) := by
  unfold ckE at h
  rw [Bool.and_eq_true] at h
  exact Bo.of h.1 (slc_ok c.toCtx0 (fa := fun s => hand a (ev κ Λ G a s) s) (fb := ev κ Λ G b) (fc := ev κ Λ G d) h.2 (fun e he => hand_ok c.toCtx0 he fun z => (ia.e c z).pe rfl) (fun e he => (ib.e c he).pe rfl) fun e he => (id.e c he).pe rfl)
theorem x_chain (c : Ctx cf p E κ Λ G n k X W A) {o o' : Op2} {a b d : C} (ia : All cf p E κ Λ G n a) (ib : All cf p E κ Λ G n b) (id : All cf p E κ Λ G n d) (h : ckE cf (.chain o o' a b d) m k e = true) : Bo E X W A m e (ev κ Λ G (.chain o o' a b d)) := by
  unfold ckE at h
  exact ch_ok c.toCtx0 (fa := ev κ Λ G a) (fb := ev κ Λ G b) (fc := ev κ Λ G d) h (fun e he => (ia.e c he).pe rfl) (fun e he => (ib.e c he).pe rfl) fun e he => (id.e c he).pe rfl
theorem x_not (c : Ctx cf p E κ Λ G n k X W A) {a : C} (ia : All cf p E κ Λ G n a) (h : ckE cf (.not a) m k e = true) : Bo E X W A m e (ev κ Λ G (.not a)) := by
  unfold ckE at h
  split at h
  · cases m with
    | false => exact e_not (ia.e c h)
    | true => exact t_not (ia.e c h)
  · cases h
theorem x_and (c : Ctx cf p E κ Λ G n k X W A) {a b : C} (ia : All cf p E κ Λ G n a) (ib : All cf p E κ Λ G n b) (h : ckE cf (.and a b) m k e = true) : Bo E X W A m e (ev κ Λ G (.and a b)) := by
  unfold ckE at h
  split at h
  · rename_i x y rest q
    rw [Bool.and_eq_true] at h
    cases m with
    | false => 
      refine e_and (ia.e c h.1) ?_
      cases rest with
      | nil => exact e_one (ib.e c h.2)
      | cons => exact ib.e c h.2
    | true =>
      refine t_and (ia.e c h.1) ?_
      cases rest with
      | nil => exact t_one_and (ib.e c h.2)
      | cons => exact ib.e c h.2
  · cases h
theorem x_or (c : Ctx cf p E κ Λ G n k X W A) {a b : C} (ia : All cf p E κ Λ G n a) (ib : All cf p E κ Λ G n b) (h : ckE cf (.or a b) m k e = true) : Bo E X W A m e (ev κ Λ G (.or a b)) := by
  unfold ckE at h
  split at h
  · rename_i x y rest q
    rw [Bool.and_eq_true] at h
    cases m with
    | false => 
      refine e_or (ia.e c h.1) ?_
      cases rest with
      | nil => exact e_one (ib.e c h.2)
      | cons => exact ib.e c h.2
    | true =>
      refine t_or (ia.e c h.1) ?_
      cases rest with
      | nil => exact t_one_or (ib.e c h.2)
      | cons => exact ib.e c h.2
  · cases h
theorem x_ife (c : Ctx cf p E κ Λ G n k X W A) {d a b : C} (id : All cf p E κ Λ G n d) (ia : All cf p E κ Λ G n a) (ib : All cf p E κ Λ G n b) (h : ckE cf (.ife d a b) m k e = true) : Bo E X W A m e (ev κ Λ G (.ife d a b)) := by
  unfold ckE at h
  rw [Bool.and_eq_true] at h
  obtain ⟨hm, h⟩ := h
  cases m with
  | true => cases hm
  | false =>
    split at h
    · simp only [Bool.and_eq_true] at h
      exact e_ife (id.e c h.1.1) (ia.e c h.1.2) (ib.e c h.2)
    · cases h
theorem x_tup (c : Ctx cf p E κ Λ G n k X W A) {a : C} (ia : All cf p E κ Λ G n a) (h : ckE cf (.tup a) m k e = true) : Bo E X W A m e (ev κ Λ G (.tup a)) := by
  unfold ckE at h
  rw [Bool.and_eq_true] at h
  obtain ⟨hm, h⟩ := h
  split at h
  · exact Bo.of hm (e_tup (ia.a c h))
  · cases h
theorem x_lst (c : Ctx cf p E κ Λ G n k X W A) {a : C} (ia : All cf p E κ Λ G n a) (h : ckE cf (.lst a) m k e = true) : Bo E X W A m e (ev κ Λ G (.lst a)) := by
  unfold ckE at h
  rw [Bool.and_eq_true] at h
  obtain ⟨hm, h⟩ := h
  split at h
  · exact Bo.of hm (e_lst (ia.a c h))
  · cases h
theorem x_call (c : Ctx cf p E κ Λ G n k X W A) {f : Nat} {a : C} (ia : All cf p E κ Λ G n a) (h : ckE cf (.call f a) m k e = true) : Bo E X W A m e (ev κ Λ G (.call f a)) := by
  unfold ckE at h
  rw [Bool.and_eq_true] at h
  obtain ⟨hm, h⟩ := h
  split at h
  · rename_i x q es q2
    simp only [Bool.and_eq_true] at h
    obtain ⟨⟨⟨⟨⟨h1, h2⟩, h3⟩, h4⟩, h5⟩, h6⟩ := h
    obtain ⟨g1, g2, g3, _⟩ := c.gl h3
    obtain ⟨f1, f2, f3⟩ := c.call h1 (of_decide_eq_true h2) h4
    have hP := c.pk h1
    refine Bo.of hm ?_
    cases es with
    | nil =>
      rw [nil_of h6]
      exact e_callP0 (fun H ω => hP.sub H ω) f3 g1 f1 f2 g2
    | cons e1 es =>
      by_cases hs : es.all noStar = true
      · exact e_callP hP (fun H ω => hP.sub H ω) f3 g1 f1 f2 (ia.a c h6) g2 h5 (by rw [star_any, hs]; rfl)
      · exact e_callPS hP (fun H ω => hP.sub H ω) f3 g1 f1 f2 (ia.a c h6) g2 h5 (by rw [star_any, Bool.eq_false_iff.mpr hs]; rfl)
  · cases h
theorem x_callr (c : Ctx cf p E κ Λ G n k X W A) {f j i : Nat} {a : C} (ia : All cf p E κ Λ G n a) (h : ckE cf (.callr f j i a) m k e = true) : Bo E X W A m e (ev κ Λ G (.callr f j i a)) := by
  unfold ckE at h
  rw [Bool.and_eq_true, Bool.and_eq_true] at h
  obtain ⟨⟨hm, hj⟩, h⟩ := h
  have hj := of_decide_eq_true hj
  subst hj
  split at h
  · simp only [Bool.and_eq_true] at h
    obtain ⟨⟨⟨⟨⟨⟨h1, h2⟩, h3⟩, h4⟩, h5⟩, h6⟩, h7⟩ := h
    obtain ⟨g1, g2, g3, _⟩ := c.gl h3
    obtain ⟨f1, f2, f3⟩ := c.call h1 (of_decide_eq_true h2) h4
    obtain ⟨s1, s2, s3, s4⟩ := c.slot h5
    have hP := c.pk h1
    exact Bo.of hm (e_callr hP (fun a => hP.lend a) f3 g1 f1 f2 s1 s2 s3 s4 (ia.a c h7) g2 (by rw [star_any, h6]; rfl))
  · cases h
theorem x_callv (c : Ctx cf p E κ Λ G n k X W A) {i : Nat} {a : C} (ia : All cf p E κ Λ G n a) (h : ckE cf (.callv i a) m k e = true) : Bo E X W A m e (ev κ Λ G (.callv i a)) := by
  unfold ckE at h
  rw [Bool.and_eq_true] at h
  obtain ⟨hm, h⟩ := h
  split at h
  · simp only [Bool.and_eq_true] at h
    obtain ⟨⟨⟨⟨h1, h2⟩, h3⟩, h4⟩, h5⟩ := h
    obtain ⟨s1, s2, s3, s4⟩ := c.slot h2
    have hP := c.pk h1
    refine Bo.of hm (e_callv hP (fun H ω => hP.sub H ω) (fun g hg => ?_) s1 s2 s3 s4 (ia.a c h5) h3 (by rw [star_any, h4]; rfl))
    obtain ⟨x, h6, h7⟩ := c.fnv g hg
    obtain ⟨_, f2, f3⟩ := c.call h1 h6 (by rw [h7]; rfl)
    rw [c.AD]
    exact ⟨f3, f2⟩
  · cases h
theorem x_callo (c : Ctx cf p E κ Λ G n k X W A) {f : Nat} {a : C} (ia : All cf p E κ Λ G n a) (h : ckE cf (.callo f a) m k e = true) : Bo E X W A m e (ev κ Λ G (.callo f a)) := by
  unfold ckE at h
  rw [Bool.and_eq_true] at h
  obtain ⟨hm, h⟩ := h
  split at h
  · simp only [Bool.and_eq_true] at h
    obtain ⟨⟨⟨⟨⟨h1, h2⟩, h3⟩, h4⟩, h5⟩, h6⟩ := h
    obtain ⟨g1, g2, g3, _⟩ := c.gl h3
    obtain ⟨f1, f2, f3⟩ := c.call h1 (of_decide_eq_true h2) h4
    have hP := c.pk h1
    exact Bo.of hm (e_callo (fun a => hP.lend a) f3 g1 f1 f2 ((ia.e c h6).pe rfl) h5 g2)
  · cases h
theorem x_calla (c : Ctx cf p E κ Λ G n k X W A) {i : Nat} (h : ckE cf (.calla i) m k e = true) : Bo E X W A m e (ev κ Λ G (.calla i)) := by
  unfold ckE at h
  rw [Bool.and_eq_true, Bool.and_eq_true] at h
  obtain ⟨⟨hm, hi⟩, h⟩ := h
  have hi := of_decide_eq_true hi
  subst hi
  split at h
  · exact Bo.of hm (c.cl _ (of_decide_eq_true h) _ _)
  · cases h
theorem x_calll (c : Ctx cf p E κ Λ G n k X W A) {f : Nat} {a : C} (ia : All cf p E κ Λ G n a) (h : ckE cf (.calll f a) m k e = true) : Bo E X W A m e (ev κ Λ G (.calll f a)) := by
  unfold ckE at h
  rw [Bool.and_eq_true] at h
  obtain ⟨hm, h⟩ := h
  split at h
  · simp only [Bool.and_eq_true] at h
    obtain ⟨⟨⟨⟨⟨⟨h1, h2⟩, h3⟩, h0⟩, h4⟩, h5⟩, h6⟩ := h
    obtain ⟨g1, g2, g3, g4⟩ := c.gl h3
    exact Bo.of hm (c.lm h1 f _ (of_decide_eq_true h2) h0 g1 g4 _ _ _ _ _ _ _ h4 h5 fun Y W' A' cy => ia.e (cy.up rfl rfl rfl rfl rfl) h6)
  · cases h
theorem x_mut (c : Ctx cf p E κ Λ G n k X W A) {u : Mu} {i : Nat} {a : C} (ia : All cf p E κ Λ G n a) (h : ckE cf (.mut u i a) m k e = true) : Bo E X W A m e (ev κ Λ G (.mut u i a)) := by
  unfold ckE at h
  rw [Bool.and_eq_true] at h
  obtain ⟨hm, h⟩ := h
  split at h
  · simp only [Bool.and_eq_true] at h
    obtain ⟨⟨⟨⟨h1, h2⟩, h3⟩, h4⟩, h5⟩ := h
    obtain ⟨s1, s2, s3, s4⟩ := c.slot h1
    cases u <;> first | cases h4; done | skip
    have e := of_decide_eq_true h4
    subst e
    exact Bo.of hm (e_append c.K c.KD s1 s2 s3 s4 (ia.a c h5) h2 h3)
  · simp only [Bool.and_eq_true] at h
    obtain ⟨⟨⟨h1, h3⟩, h4⟩, h5⟩ := h
    obtain ⟨s1, s2, s3, s4⟩ := c.slot h1
    cases u <;> first | cases h4; done | skip
    have e := of_decide_eq_true h4
    subst e
    rw [nil_of h5]
    exact Bo.of hm (e_pop0 c.K c.KD s1 s2 s3 s4 h3)
  · cases h
theorem x_attr (c : Ctx cf p E κ Λ G n k X W A) {nm : Nat} {a : C} (ia : All cf p E κ Λ G n a) (h : ckE cf (.attr nm a) m k e = true) : Bo E X W A m e (ev κ Λ G (.attr nm a)) := by
  unfold ckE at h
  rw [Bool.and_eq_true] at h
  obtain ⟨hm, h⟩ := h
  split at h
  · simp only [Bool.and_eq_true] at h
    obtain ⟨⟨⟨h1, h2⟩, h3⟩, h4⟩ := h
    exact Bo.of hm (c.at_ h1 nm _ (of_decide_eq_true h2) _ _ _ (ia.e c h4) (attrBase h3))
  · cases h
theorem x_dead (h : ckE cf .dead m k e = true) : Bo E X W A m e (ev κ Λ G .dead) := by
  unfold ckE at h
  exact Bo.of h e_dead
end
end
end Mp
end
section
set_option Elab.async false
set_option linter.all false
set_option maxRecDepth 100000
set_option maxHeartbeats 4000000
/-! MpSnS: .. comprehensions, what is walked, statements, handlers. -/
namespace Mp
open PySem PySem.Spec PyProof.Rows L2
section
variable {cf : Cf} {p : PkC} {E : CE} {κ : Nat → (List D → RC) → List D → List D → RC} {Λ : List D → RC} {G : Ev} {n : Nat} {k : Kx} {X : Cx} {W : L2.WX} {A : Act}
theorem Ctx.blk (c : Ctx cf p E κ Λ G n k X W A) {scope : Scope} (hk : scope.kind = .function) (s : Shared) (H : Hp) (C : Addr) (cl : List (Str × Addr)) (fp : List Addr) :
    Ctx cf p E κ Λ G n (k.blk scope) (X.blk s H scope (compEnvC scope cl C X.env) fp) NoW A := (c.toCtx0.blk hk s H cl C fp).up rfl rfl rfl rfl rfl
theorem x_comp (c : Ctx cf p E κ Λ G n k X W A) {own : List Nat} {t : Tg} {it tst el : C} (ii : All cf p E κ Λ G n it) (it' : All cf p E κ Λ G n tst) (ie : All cf p E κ Λ G n el) {m : Bool} {e : Expr} (h : ckE cf (.comp own t it tst el) m k e = true) : Bo E X W A m e (ev κ Λ G (.comp own t it tst el)) := by
  unfold ckE at h
  rw [Bool.and_eq_true] at h
  obtain ⟨hm, h⟩ := h
  split at h
  · rename_i q
    simp only [Bool.and_eq_true] at h
    obtain ⟨⟨⟨h1, h2⟩, h3⟩, h4⟩ := h
    obtain ⟨g1, g2, g3, g4, g5, g6, g7, g8⟩ := cp_ok c.toCtx0 h1
    have z := e_comp (W0 := NoW) (pos := q) c.K g5 g4 g1 g2 (ii.i c h2) g3 g6 (fun s H C cl fp => ts_ok h3 fun f hf => it'.e (c.blk g8 s H C cl fp) hf) (fun s H C cl fp => ie.e (c.blk g8 s H C cl fp) h4) g7
    rw [own_map] at z
    exact Bo.of hm z
  · cases h
theorem x_comp2 (c : Ctx cf p E κ Λ G n k X W A) {own own2 : List Nat} {t t2 : Tg} {it it2 tst el : C} (ii : All cf p E κ Λ G n it) (ii2 : All cf p E κ Λ G n it2) (it' : All cf p E κ Λ G n tst) (ie : All cf p E κ Λ G n el) {m : Bool} {e : Expr} (h : ckE cf (.comp2 own own2 t it t2 it2 tst el) m k e = true) : Bo E X W A m e (ev κ Λ G (.comp2 own own2 t it t2 it2 tst el)) := by
  unfold ckE at h
  rw [Bool.and_eq_true] at h
  obtain ⟨hm, h⟩ := h
  split at h
  · rename_i q
    simp only [Bool.and_eq_true] at h
    obtain ⟨⟨⟨⟨⟨⟨⟨⟨h1, h2⟩, h3⟩, h4⟩, h5⟩, h6⟩, h7⟩, h8⟩, h9⟩ := h
    obtain ⟨g1, g2, g3, g4, g5, g6, g7, g8⟩ := cp_ok c.toCtx0 h1
    have z := e_comp2 (W0 := NoW) (pos := q) (own2 := own2) c.K g5 (tp_ok h4) g4 (fun i hi => of_decide_eq_true (List.all_eq_true.mp h3 i hi)) (fun i hi => by rw [own_map]; exact List.mem_append_right _ hi) g1 g2 (ii.i c h2) g3 g6
      (fun s H C cl fp => ii2.i (c.blk g8 s H C cl fp) h7) (fun s H C cl fp => tg_ok (c.blk g8 s H C cl fp).toCtx0 h5) (fun s H C cl fp => ts_ok h8 fun f hf => it'.e (c.blk g8 s H C cl fp) hf) (fun s H C cl fp => ie.e (c.blk g8 s H C cl fp) h9) g7 (fun env x => folded_no h6 env x)
    rw [own_map] at z
    exact Bo.of hm z
  · cases h
theorem x_dcomp (c : Ctx cf p E κ Λ G n k X W A) {own : List Nat} {t : Tg} {it tst kk v : C} {tk : Bool} (ii : All cf p E κ Λ G n it) (it' : All cf p E κ Λ G n tst) (ik : All cf p E κ Λ G n kk) (iv : All cf p E κ Λ G n v) {m : Bool} {e : Expr} (h : ckE cf (.dcomp own t it tst kk v tk) m k e = true) : Bo E X W A m e (ev κ Λ G (.dcomp own t it tst kk v tk)) := by
  unfold ckE at h
  rw [Bool.and_eq_true, Bool.and_eq_true] at h
  obtain ⟨⟨hm, ht⟩, h⟩ := h
  cases tk with
  | true => cases ht
  | false =>
    split at h
    · rename_i q
      simp only [Bool.and_eq_true] at h
      obtain ⟨⟨⟨⟨h1, h2⟩, h3⟩, h4⟩, h5⟩ := h
      obtain ⟨g1, g2, g3, g4, g5, g6, g7, g8⟩ := cp_ok c.toCtx0 h1
      have z := e_dcomp (W0 := NoW) (pos := q) c.K g5 g4 g1 g2 (ii.i c h2) g3 g6 (fun s H C cl fp => ts_ok h3 fun f hf => it'.e (c.blk g8 s H C cl fp) hf) (fun s H C cl fp => ik.e (c.blk g8 s H C cl fp) h4) (fun s H C cl fp => iv.e (c.blk g8 s H C cl fp) h5) g7
      rw [own_map] at z
      exact Bo.of hm z
    · cases h
theorem x_dcomp2 (c : Ctx cf p E κ Λ G n k X W A) {own own2 : List Nat} {t t2 : Tg} {it it2 tst kk v : C} {tk : Bool} (ii : All cf p E κ Λ G n it) (ii2 : All cf p E κ Λ G n it2) (it' : All cf p E κ Λ G n tst) (ik : All cf p E κ Λ G n kk) (iv : All cf p E κ Λ G n v) {m : Bool} {e : Expr} (h : ckE cf (.dcomp2 own own2 t it t2 it2 tst kk v tk) m k e = true) : Bo E X W A m e (ev κ Λ G (.dcomp2 own own2 t it t2 it2 tst kk v tk)) := by
  unfold ckE at h
  rw [Bool.and_eq_true, Bool.and_eq_true] at h
  obtain ⟨⟨hm, ht⟩, h⟩ := h
  cases tk with
  | true => cases ht
  | false =>
    split at h
    · rename_i q
      simp only [Bool.and_eq_true] at h
      obtain ⟨⟨⟨⟨⟨⟨⟨⟨⟨h1, h2⟩, h3⟩, h4⟩, h5⟩, h6⟩, h7⟩, h8⟩, h9⟩, h10⟩ := h
      obtain ⟨g1, g2, g3, g4, g5, g6, g7, g8⟩ := cp_ok c.toCtx0 h1
      have z := e_dcomp2 (W0 := NoW) (pos := q) (own2 := own2) c.K g5 (tp_ok h4) g4 (fun i hi => of_decide_eq_true (List.all_eq_true.mp h3 i hi)) (fun i hi => by rw [own_map]; exact List.mem_append_right _ hi) g1 g2 (ii.i c h2) g3 g6
        (fun s H C cl fp => ii2.i (c.blk g8 s H C cl fp) h7) (fun s H C cl fp => tg_ok (c.blk g8 s H C cl fp).toCtx0 h5) (fun s H C cl fp => ts_ok h8 fun f hf => it'.e (c.blk g8 s H C cl fp) hf) (fun s H C cl fp => ik.e (c.blk g8 s H C cl fp) h9) (fun s H C cl fp => iv.e (c.blk g8 s H C cl fp) h10) g7 (fun env x => folded_no h6 env x)
      rw [own_map] at z
      exact Bo.of hm z
    · cases h
/-- all that stand in a row -/
def alC (P : C → Prop) : C → Prop
  | .cons a r => P a ∧ alC P r
  | _ => True
theorem star_cst {d : D} {v : Const} (h : cstB d v = true) (hk : d.key1 = true) : ∀ c F u, Rp c F d u → u = kVd d := fun c F u r => by
  cases d with
  | int i => exact r
  | str i => exact r
  | _ => cases hk
theorem len_A {cf : Cf} : ∀ (vs : C) {k : Kx} {es : List Expr}, es.all noStar = true → ckA cf vs k es = true → ∀ κ Λ G s xs s', ea κ Λ G vs s = .ok xs s' → xs.length = es.length
  | .nil, k, [], _, _, κ, Λ, G, s, xs, s', h => by cases h; rfl
  | .nil, k, e :: es, _, hc, κ, Λ, G, s, xs, s', h => by cases hc
  | .cons a r, k, [], hn, hc, κ, Λ, G, s, xs, s', h => by cases a <;> cases hc
  | .cons a r, k, e :: es, hn, hc, κ, Λ, G, s, xs, s', h => by
    rw [List.all_cons, Bool.and_eq_true] at hn
    have hc' : (noStar e && ckE cf a false k e && ckA cf r k es) = true ∧ ea κ Λ G (.cons a r) s = (ev κ Λ G a s).bind fun x s1 => (ea κ Λ G r s1).bind fun ys s2 => .ok (x :: ys) s2 := by
      cases a with
      | star b => cases e <;> first | cases hc; done | cases hn.1
      | _ => exact ⟨hc, rfl⟩
    obtain ⟨hc, e1⟩ := hc'
    rw [e1] at h
    simp only [Bool.and_eq_true] at hc
    cases q : ev κ Λ G a s with
    | ok x s1 =>
      rw [q] at h
      have h : (ea κ Λ G r s1).bind (fun ys s2 => R.ok (x :: ys) s2) = .ok xs s' := h
      cases q2 : ea κ Λ G r s1 with
      | ok ys s2 =>
        rw [q2] at h
        cases h
        rw [List.length_cons, List.length_cons, len_A r hn.2 hc.2 κ Λ G s1 ys _ q2]
      | er => rw [q2] at h; cases h
      | no => rw [q2] at h; cases h
    | er => rw [q] at h; cases h
    | no => rw [q] at h; cases h
  | .star _, k, es, _, hc, _, _, _, _, _, _, h => by cases h
  | .cst _, k, es, _, hc, _, _, _, _, _, _, h => by cases h
  | .var _, k, es, _, hc, _, _, _, _, _, _, h => by cases h
  | .peek _, k, es, _, hc, _, _, _, _, _, _, h => by cases h
  | .mov _, k, es, _, hc, _, _, _, _, _, _, h => by cases h
  | .glob _, k, es, _, hc, _, _, _, _, _, _, h => by cases h
  | .op1 .., k, es, _, hc, _, _, _, _, _, _, h => by cases h
  | .op2 .., k, es, _, hc, _, _, _, _, _, _, h => by cases h
  | .op3 .., k, es, _, hc, _, _, _, _, _, _, h => by cases h
  | .chain .., k, es, _, hc, _, _, _, _, _, _, h => by cases h
  | .not _, k, es, _, hc, _, _, _, _, _, _, h => by cases h
  | .and .., k, es, _, hc, _, _, _, _, _, _, h => by cases h
  | .or .., k, es, _, hc, _, _, _, _, _, _, h => by cases h
  | .ife .., k, es, _, hc, _, _, _, _, _, _, h => by cases h
  | .tup _, k, es, _, hc, _, _, _, _, _, _, h => by cases h
  | .lst _, k, es, _, hc, _, _, _, _, _, _, h => by cases h
  | .dsp .., k, es, _, hc, _, _, _, _, _, _, h => by cases h
  | .call .., k, es, _, hc, _, _, _, _, _, _, h => by cases h
  | .callr .., k, es, _, hc, _, _, _, _, _, _, h => by cases h
  | .callo .., k, es, _, hc, _, _, _, _, _, _, h => by cases h
  | .callv .., k, es, _, hc, _, _, _, _, _, _, h => by cases h
  | .calla _, k, es, _, hc, _, _, _, _, _, _, h => by cases h
  | .calll .., k, es, _, hc, _, _, _, _, _, _, h => by cases h
  | .mut .., k, es, _, hc, _, _, _, _, _, _, h => by cases h
  | .comp .., k, es, _, hc, _, _, _, _, _, _, h => by cases h
  | .comp2 .., k, es, _, hc, _, _, _, _, _, _, h => by cases h
  | .dcomp .., k, es, _, hc, _, _, _, _, _, _, h => by cases h
  | .dcomp2 .., k, es, _, hc, _, _, _, _, _, _, h => by cases h
  | .nxt .., k, es, _, hc, _, _, _, _, _, _, h => by cases h
  | .attr .., k, es, _, hc, _, _, _, _, _, _, h => by cases h
  | .meth .., k, es, _, hc, _, _, _, _, _, _, h => by cases h
  | .meth3 .., k, es, _, hc, _, _, _, _, _, _, h => by cases h
  | .slc .., k, es, _, hc, _, _, _, _, _, _, h => by cases h
  | .itv _, k, es, _, hc, _, _, _, _, _, _, h => by cases h
  | .rng1 _, k, es, _, hc, _, _, _, _, _, _, h => by cases h
  | .rng2 .., k, es, _, hc, _, _, _, _, _, _, h => by cases h
  | .rng3 .., k, es, _, hc, _, _, _, _, _, _, h => by cases h
  | .zip2 .., k, es, _, hc, _, _, _, _, _, _, h => by cases h
  | .zip3 .., k, es, _, hc, _, _, _, _, _, _, h => by cases h
  | .enum _, k, es, _, hc, _, _, _, _, _, _, h => by cases h
  | .enums .., k, es, _, hc, _, _, _, _, _, _, h => by cases h
  | .items _, k, es, _, hc, _, _, _, _, _, _, h => by cases h
  | .asg .., k, es, _, hc, _, _, _, _, _, _, h => by cases h
  | .asgs .., k, es, _, hc, _, _, _, _, _, _, h => by cases h
  | .aug .., k, es, _, hc, _, _, _, _, _, _, h => by cases h
  | .seti .., k, es, _, hc, _, _, _, _, _, _, h => by cases h
  | .augi .., k, es, _, hc, _, _, _, _, _, _, h => by cases h
  | .xpr _, k, es, _, hc, _, _, _, _, _, _, h => by cases h
  | .ret _, k, es, _, hc, _, _, _, _, _, _, h => by cases h
  | .retn, k, es, _, hc, _, _, _, _, _, _, h => by cases h
  | .ifs .., k, es, _, hc, _, _, _, _, _, _, h => by cases h
  | .whl .., k, es, _, hc, _, _, _, _, _, _, h => by cases h
  | .for_ .., k, es, _, hc, _, _, _, _, _, _, h => by cases h
  | .rais .., k, es, _, hc, _, _, _, _, _, _, h => by cases h
  | .raism _, k, es, _, hc, _, _, _, _, _, _, h => by cases h
  | .try_ .., k, es, _, hc, _, _, _, _, _, _, h => by cases h
  | .hnd .., k, es, _, hc, _, _, _, _, _, _, h => by cases h
  | .pass, k, es, _, hc, _, _, _, _, _, _, h => by cases h
  | .brk, k, es, _, hc, _, _, _, _, _, _, h => by cases h
  | .cont, k, es, _, hc, _, _, _, _, _, _, h => by cases h
  | .dead, k, es, _, hc, _, _, _, _, _, _, h => by cases h
/-- the pairs of a display -/
theorem pairs_ok (c : Ctx cf p E κ Λ G n k X W A) {pos : Pos} : ∀ (ks vs : C) {kes : List (Option Expr)} {ves : List Expr}, kes.length = ves.length → ves.all noStar = true → ckK ks kes = true → ckA cf vs k ves = true → alC (All cf p E κ Λ G n) vs →
    ∃ (kds : List D) (trs : List (TE × TE)), (∀ s, ea κ Λ G ks s = .ok (kds.map fun d => (d, false)) s) ∧ PPs X pos kes ves trs ∧ kds.length = kes.length ∧ ∀ σ H Q, tA E A W (ea κ Λ G vs) σ H (fun v H' => Q ((kds.map kVd).zip v) H') → tPairs trs σ H Q := fun ks => by
  induction ks with
  | nil =>
    intro vs kes ves hl hn hk hv _
    cases kes with
    | cons => cases hk
    | nil =>
      cases ves with
      | cons => cases hl
      | nil =>
        rw [nil_of hv]
        exact ⟨[], [], fun _ => rfl, pps_nil, rfl, pairs_nil⟩
  | cons a r ia ir =>
    intro vs kes ves hl hn hk hv al
    cases kes with
    | nil => cases a <;> cases hk
    | cons ke kes =>
      cases ves with
      | nil => cases hl
      | cons ve ves =>
        have hk' : ∃ d v j q, a = .cst d ∧ ke = some (.Constant v j q) ∧ cstB d v = true ∧ d.key1 = true ∧ ckK r kes = true := by
          cases a with
          | cst d =>
            cases ke with
            | none => cases hk
            | some e =>
              cases e with
              | Constant v j q =>
                have hk : (cstB d v && d.key1 && ckK r kes) = true := hk
                simp only [Bool.and_eq_true] at hk
                exact ⟨d, v, j, q, rfl, rfl, hk.1.1, hk.1.2, hk.2⟩
              | _ => cases hk
          | _ => cases hk
        obtain ⟨d, v, j, q, rfl, rfl, k1, k2, k3⟩ := hk'
        rw [List.all_cons, Bool.and_eq_true] at hn
        cases vs with
        | cons b vr =>
          have hv' : (noStar ve && ckE cf b false k ve && ckA cf vr k ves) = true ∧ ea κ Λ G (.cons b vr) = fun (s : S) => (ev κ Λ G b s).bind fun x s1 => (ea κ Λ G vr s1).bind fun ys s2 => .ok (x :: ys) s2 := by
            cases b with
            | star b => cases ve <;> first | cases hv; done | cases hn.1
            | _ => exact ⟨hv, rfl⟩
          obtain ⟨hv, e1⟩ := hv'
          simp only [Bool.and_eq_true] at hv
          obtain ⟨kds, trs, h1, h2, h3, h4⟩ := ir vr (Nat.succ.inj hl) hn.2 k3 hv.2 al.2
          refine ⟨d :: kds, _, fun s => ?_, pps_cons (cst_ok (E := E) (A := A) (W := W) k1) ((al.1.e c hv.1.2).pe rfl) h2, by rw [List.length_cons, List.length_cons, h3], ?_⟩
          · show ((R.ok (d, false) s).bind fun x s1 => (ea κ Λ G r s1).bind fun ys s2 => R.ok (x :: ys) s2) = _
            show ((ea κ Λ G r s).bind fun ys s2 => R.ok ((d, false) :: ys) s2) = _
            rw [h1]
            rfl
          · rw [e1]
            exact pairs_cons (star_cst k1 k2) h4
        | nil => cases hv
        | _ => cases hv
  | _ =>
    intro vs kes ves _ _ hk _ _
    cases kes <;> cases hk
theorem x_dsp (c : Ctx cf p E κ Λ G n k X W A) {ks vs : C} {tk : Bool} (ik : All cf p E κ Λ G n ks) (iv : All cf p E κ Λ G n vs) (ik' : alC (All cf p E κ Λ G n) ks) (iv' : alC (All cf p E κ Λ G n) vs) {m : Bool} {e : Expr} (h : ckE cf (.dsp ks vs tk) m k e = true) : Bo E X W A m e (ev κ Λ G (.dsp ks vs tk)) := by
  unfold ckE at h
  rw [Bool.and_eq_true, Bool.and_eq_true] at h
  obtain ⟨⟨hm, ht⟩, h⟩ := h
  cases tk with
  | true => cases ht
  | false =>
    split at h
    · rw [Bool.and_eq_true] at h
      rw [nil_of h.1, nil_of h.2]
      exact Bo.of hm e_dsp0
    · rename_i q
      simp only [Bool.and_eq_true] at h
      obtain ⟨⟨⟨h1, h2⟩, h3⟩, h4⟩ := h
      have one : ∀ {q : C} {y : Expr}, noStar y = true → ckA cf q k [y] = true → ∃ a, q = .cons a .nil ∧ ckE cf a false k y = true ∧ (∀ κ Λ G s, ea κ Λ G (.cons a .nil) s = (ev κ Λ G a s).bind fun x s1 => .ok [x] s1) := fun {q y} hy hq => by
        cases q with
        | cons a r =>
          have key : ckE cf a false k y = true ∧ ckA cf r k [] = true ∧ ∀ b, a ≠ .star b := by
            cases a with
            | star b =>
              cases y <;> first | cases hy; done | cases hq
            | _ =>
              have hq : (noStar y && ckE cf _ false k y && ckA cf r k []) = true := hq
              simp only [Bool.and_eq_true] at hq
              exact ⟨hq.1.2, hq.2, fun b z => nomatch z⟩
          obtain ⟨k1, k2, k3⟩ := key
          have er := nil_of k2
          subst er
          refine ⟨a, rfl, k1, fun κ Λ G s => ?_⟩
          cases a with
          | star b => exact (k3 b rfl).elim
          | _ => rfl
        | nil => cases hq
        | _ => cases hq
      obtain ⟨a, rfl, a1, a2⟩ := one h1 h3
      obtain ⟨b, rfl, b1, b2⟩ := one h2 h4
      have z := e_dsp1 (pos := q) (ik'.1.e c a1) (iv'.1.e c b1)
      refine Bo.of hm ?_
      have ee : ev κ Λ G (.dsp (.cons a .nil) (.cons b .nil) false) = fun s => (ev κ Λ G a s).bind fun x s1 => (ev κ Λ G b s1).bind fun y s2 => match mkDic false [.tup [x.1, y.1]] [] with
          | some kvs => R.ok (D.dic kvs, true) s2
          | none => .no := by
        funext s
        show (ea κ Λ G (.cons a .nil) s).bind (fun xs s1 => (ea κ Λ G (.cons b .nil) s1).bind fun ys s2 => match mkDic false (zipD (fsts xs) (fsts ys)) [] with
          | some kvs => R.ok (D.dic kvs, true) s2
          | none => .no) = _
        rw [a2]
        cases ev κ Λ G a s with
        | ok x s1 =>
          show (ea κ Λ G (.cons b .nil) s1).bind _ = (ev κ Λ G b s1).bind _
          rw [b2]
          cases ev κ Λ G b s1 <;> rfl
        | er x s1 => rfl
        | no => rfl
      rw [ee]
      exact z
    · simp only [Bool.and_eq_true, beq_iff_eq, Bool.not_eq_true'] at h
      obtain ⟨⟨⟨⟨⟨⟨h1, h2⟩, h3⟩, h4⟩, h5⟩, h6⟩, h7⟩ := h
      rename_i kes ves q _ _
      obtain ⟨kds, trs, g1, g2, g3, g4⟩ := pairs_ok (pos := q) c ks vs h2 h5 h6 h7 iv'
      have z := e_dspN (fv := ea κ Λ G vs) g2 g4 (fun s xs s' e => by rw [g3, h2, len_A vs h5 h7 κ Λ G s xs s' e]) h1 h2 (fun e => by rw [e] at h3; cases h3) (Nat.ble_eq.mp h4) g3
      refine Bo.of hm ?_
      have ee : ev κ Λ G (.dsp ks vs false) = fun s => (ea κ Λ G vs s).bind fun ys s2 => match mkDic false (zipD kds (fsts ys)) [] with
          | some kvs => R.ok (D.dic kvs, true) s2
          | none => .no := by
        funext s
        show (ea κ Λ G ks s).bind (fun xs s1 => (ea κ Λ G vs s1).bind fun ys s2 => match mkDic false (zipD (fsts xs) (fsts ys)) [] with
          | some kvs => R.ok (D.dic kvs, true) s2
          | none => .no) = _
        rw [g1]
        have ef : fsts (kds.map fun d => (d, false)) = kds := by
          unfold fsts
          rw [List.map_map]
          exact List.map_id _
        show (ea κ Λ G vs s).bind (fun ys s2 => match mkDic false (zipD (fsts (kds.map fun d => (d, false))) (fsts ys)) [] with
          | some kvs => R.ok (D.dic kvs, true) s2
          | none => .no) = _
        rw [ef]
      rw [ee]
      exact z
    · cases h
theorem y_nil (c : Ctx cf p E κ Λ G n k X W A) {es : List Expr} (h : ckA cf .nil k es = true) : PA X es (tA E A W (ea κ Λ G .nil)) := by
  cases es with
  | nil => exact a_nil
  | cons => cases h
theorem y_cons (c : Ctx cf p E κ Λ G n k X W A) {a r : C} (ia : All cf p E κ Λ G n a) (ia' : ∀ b, a = .star b → All cf p E κ Λ G n b) (ir : All cf p E κ Λ G n r) {es : List Expr} (h : ckA cf (.cons a r) k es = true) : PA X es (tA E A W (ea κ Λ G (.cons a r))) := by
  cases es with
  | nil => cases a <;> cases h
  | cons e es =>
    cases a with
    | star b =>
      cases e with
      | Starred e' q =>
        have h : (hB b k e' (ckE cf b false k e') && ckA cf r k es) = true := h
        rw [Bool.and_eq_true] at h
        exact a_star c.K (hand_ok c.toCtx0 h.1 fun z => ((ia' b rfl).e c z).pe rfl) (ir.a c h.2)
      | _ => cases h
    | _ =>
      have h : (noStar e && ckE cf _ false k e && ckA cf r k es) = true := h
      simp only [Bool.and_eq_true] at h
      exact a_cons (ia.e c h.1.2) (ir.a c h.2) (notStar h.1.1)
theorem w_itv (c : Ctx cf p E κ Λ G n k X W A) {a : C} (ia : All cf p E κ Λ G n a) {tg e : Expr} (h : ckI cf (.itv a) k tg e = true) : PI X tg e (tI E A W (tpC (.itv a)) (ei κ Λ G (.itv a))) := i_walk c.K (ia.e c h)
theorem w_rng1 (c : Ctx cf p E κ Λ G n k X W A) {a : C} (ia : All cf p E κ Λ G n a) {tg e : Expr} (h : ckI cf (.rng1 a) k tg e = true) : PI X tg e (tI E A W (tpC (.rng1 a)) (ei κ Λ G (.rng1 a))) := by
  unfold ckI at h
  split at h
  · simp only [Bool.and_eq_true] at h
    obtain ⟨rfl, g1, g2, _⟩ := c.is h.1.1
    exact i_rng1 g1 g2 (ia.e c h.2) h.1.2
  · cases h
theorem w_rng2 (c : Ctx cf p E κ Λ G n k X W A) {a b : C} (ia : All cf p E κ Λ G n a) (ib : All cf p E κ Λ G n b) {tg e : Expr} (h : ckI cf (.rng2 a b) k tg e = true) : PI X tg e (tI E A W (tpC (.rng2 a b)) (ei κ Λ G (.rng2 a b))) := by
  unfold ckI at h
  split at h
  · simp only [Bool.and_eq_true] at h
    obtain ⟨⟨⟨⟨h1, h2⟩, h3⟩, h4⟩, h5⟩ := h
    obtain ⟨rfl, g1, g2, _⟩ := c.is h1
    exact i_rng2 g1 g2 (ia.e c h4) (ib.e c h5) h2 h3
  · cases h
theorem w_rng3 (c : Ctx cf p E κ Λ G n k X W A) {a b d : C} (ia : All cf p E κ Λ G n a) (ib : All cf p E κ Λ G n b) (id : All cf p E κ Λ G n d) {tg e : Expr} (h : ckI cf (.rng3 a b d) k tg e = true) : PI X tg e (tI E A W (tpC (.rng3 a b d)) (ei κ Λ G (.rng3 a b d))) := by
  unfold ckI at h
  split at h
  · simp only [Bool.and_eq_true] at h
    obtain ⟨⟨⟨⟨⟨⟨h1, h2⟩, h3⟩, h4⟩, h5⟩, h6⟩, h7⟩ := h
    obtain ⟨rfl, g1, g2, _⟩ := c.is h1
    exact i_rng3 g1 g2 (ia.e c h5) (ib.e c h6) (id.e c h7) h2 h3 h4
  · cases h
theorem w_zip2 (c : Ctx cf p E κ Λ G n k X W A) {a b : C} (ia : All cf p E κ Λ G n a) (ib : All cf p E κ Λ G n b) {tg e : Expr} (h : ckI cf (.zip2 a b) k tg e = true) : PI X tg e (tI E A W (tpC (.zip2 a b)) (ei κ Λ G (.zip2 a b))) := by
  unfold ckI at h
  split at h
  · simp only [Bool.and_eq_true] at h
    obtain ⟨⟨⟨⟨h1, h2⟩, h3⟩, h4⟩, h5⟩ := h
    obtain ⟨rfl, g1, g2, _⟩ := c.is h1
    exact i_zip2 c.K g1 g2 (ia.e c h4) (ib.e c h5) h2 h3
  · cases h
theorem w_enum (c : Ctx cf p E κ Λ G n k X W A) {a : C} (ia : All cf p E κ Λ G n a) {tg e : Expr} (h : ckI cf (.enum a) k tg e = true) : PI X tg e (tI E A W (tpC (.enum a)) (ei κ Λ G (.enum a))) := by
  unfold ckI at h
  split at h
  · simp only [Bool.and_eq_true] at h
    obtain ⟨rfl, g1, g2, _⟩ := c.is h.1.1
    exact i_enum c.K g1 g2 (ia.e c h.2) h.1.2
  · cases h
theorem w_items (c : Ctx cf p E κ Λ G n k X W A) {a : C} (ia : All cf p E κ Λ G n a) {tg e : Expr} (h : ckI cf (.items a) k tg e = true) : PI X tg e (tI E A W (tpC (.items a)) (ei κ Λ G (.items a))) := by
  unfold ckI at h
  split at h
  · simp only [Bool.and_eq_true] at h
    obtain ⟨⟨⟨h1, h2⟩, h3⟩, h4⟩ := h
    have e := of_decide_eq_true h1
    subst e
    exact i_items (ia.e c h4) h2 h3
  · cases h
/-! ### name = comprehension -/
theorem z_comp (c : Ctx cf p E κ Λ G n k X W A) {own : List Nat} {t : Tg} {it tst el : C} (ii : All cf p E κ Λ G n it) (it' : All cf p E κ Λ G n tst) (ie : All cf p E κ Λ G n el) {y : Str} {py spos : Pos} {e : Expr} {j : Nat} (hy : X.N[j]? = some y) (hyl : X.env.scope.names.lookup y = some .local) (h : ckC cf (.comp own t it tst el) k y py e = true) : PS X (.Assign [.Name y py] e spos) (tS E A W (ex κ Λ G (.asg (.n j) (.comp own t it tst el)))) := by
  unfold ckC at h
  dsimp only at h
  split at h
  · simp only [Bool.and_eq_true] at h
    obtain ⟨⟨⟨⟨h0, h1⟩, h2⟩, h3⟩, h4⟩ := h
    obtain ⟨g1, g2, g3, g4, g5, g6, g7, g8⟩ := cp_ok c.toCtx0 h1
    have z := s_setLc (W0 := NoW) (spos := spos) hy hyl c.K g5 g4 g1 g2 (sw_ok c.sc h0 (.inl ⟨_, _, rfl⟩)).1 (ii.i c h2) g3 g6 (fun s H C cl fp => ts_ok h3 fun f hf => it'.e (c.blk g8 s H C cl fp) hf) (fun s H C cl fp => ie.e (c.blk g8 s H C cl fp) h4) g7
    rw [own_map] at z
    exact z
  · cases h
theorem z_comp2 (c : Ctx cf p E κ Λ G n k X W A) {own own2 : List Nat} {t t2 : Tg} {it it2 tst el : C} (ii : All cf p E κ Λ G n it) (ii2 : All cf p E κ Λ G n it2) (it' : All cf p E κ Λ G n tst) (ie : All cf p E κ Λ G n el) {y : Str} {py spos : Pos} {e : Expr} {j : Nat} (hy : X.N[j]? = some y) (hyl : X.env.scope.names.lookup y = some .local) (h : ckC cf (.comp2 own own2 t it t2 it2 tst el) k y py e = true) :
    PS X (.Assign [.Name y py] e spos) (tS E A W (ex κ Λ G (.asg (.n j) (.comp2 own own2 t it t2 it2 tst el)))) := by
  unfold ckC at h
  dsimp only at h
  split at h
  · simp only [Bool.and_eq_true] at h
    obtain ⟨⟨⟨⟨⟨⟨⟨⟨⟨h0, h1⟩, h2⟩, h3⟩, h4⟩, h5⟩, h6⟩, h7⟩, h8⟩, h9⟩ := h
    obtain ⟨g1, g2, g3, g4, g5, g6, g7, g8⟩ := cp_ok c.toCtx0 h1
    have z := s_setLc2 (W0 := NoW) (own2 := own2) (spos := spos) hy hyl c.K g5 (tp_ok h4) g4 (fun i hi => of_decide_eq_true (List.all_eq_true.mp h3 i hi)) (fun i hi => by rw [own_map]; exact List.mem_append_right _ hi) g1 g2 (sw_ok c.sc h0 (.inl ⟨_, _, rfl⟩)).1 (ii.i c h2) g3 g6
      (fun s H C cl fp => ii2.i (c.blk g8 s H C cl fp) h7) (fun s H C cl fp => tg_ok (c.blk g8 s H C cl fp).toCtx0 h5) (fun s H C cl fp => ts_ok h8 fun f hf => it'.e (c.blk g8 s H C cl fp) hf) (fun s H C cl fp => ie.e (c.blk g8 s H C cl fp) h9) g7 (fun env x => folded_no h6 env x)
    rw [own_map] at z
    exact z
  · cases h
theorem z_dcomp (c : Ctx cf p E κ Λ G n k X W A) {own : List Nat} {t : Tg} {it tst kk v : C} {tk : Bool} (ii : All cf p E κ Λ G n it) (it' : All cf p E κ Λ G n tst) (ik : All cf p E κ Λ G n kk) (iv : All cf p E κ Λ G n v) {y : Str} {py spos : Pos} {e : Expr} {j : Nat} (hy : X.N[j]? = some y) (hyl : X.env.scope.names.lookup y = some .local) (h : ckC cf (.dcomp own t it tst kk v tk) k y py e = true) :
    PS X (.Assign [.Name y py] e spos) (tS E A W (ex κ Λ G (.asg (.n j) (.dcomp own t it tst kk v tk)))) := by
  unfold ckC at h
  rw [Bool.and_eq_true] at h
  obtain ⟨ht, h⟩ := h
  cases tk with
  | true => cases ht
  | false =>
    split at h
    · simp only [Bool.and_eq_true] at h
      obtain ⟨⟨⟨⟨⟨h0, h1⟩, h2⟩, h3⟩, h4⟩, h5⟩ := h
      obtain ⟨g1, g2, g3, g4, g5, g6, g7, g8⟩ := cp_ok c.toCtx0 h1
      have z := s_setDc (W0 := NoW) (spos := spos) hy hyl c.K g5 g4 g1 g2 (sw_ok c.sc h0 (.inr ⟨_, _, _, rfl⟩)).1 (ii.i c h2) g3 g6 (fun s H C cl fp => ts_ok h3 fun f hf => it'.e (c.blk g8 s H C cl fp) hf) (fun s H C cl fp => ik.e (c.blk g8 s H C cl fp) h4) (fun s H C cl fp => iv.e (c.blk g8 s H C cl fp) h5) g7
      rw [own_map] at z
      exact z
    · cases h
end
end Mp
end
section
set_option Elab.async false
set_option linter.all false
set_option maxRecDepth 100000
set_option maxHeartbeats 4000000
/-! MpAll: .. statements, handlers; all of it. -/
namespace Mp
open PySem PySem.Spec PyProof.Rows L2
section
variable {cf : Cf} {p : PkC} {E : CE} {κ : Nat → (List D → RC) → List D → List D → RC} {Λ : List D → RC} {G : Ev} {n : Nat} {k : Kx} {X : Cx} {W : L2.WX} {A : Act}
theorem Ctx.tr (c : Ctx cf p E κ Λ G n k X W A) {F : Hp} {W' : L2.WX} {pn : List (Addr × Obj)} {xe : Value → Shared → Prop} (sm : Sm A.F0 F) (tk : Takes (X.tr pn xe) W') (po : PassesOwn (model X.prog X.w) X.A X.env xe) : Ctx cf p E κ Λ G n k.tr (X.tr pn xe) W' (A.at F) :=
  { toCtx0 := c.toCtx0.tr tk po
    rsI := fun z => nomatch z
    rsM := fun z => nomatch z
    cl0 := fun a z => nomatch z
    cl := fun a z p1 p2 => c.cl0 a z F W' pn xe p1 p2 sm tk
    lm := fun z => nomatch z
    at_ := fun z => nomatch z }
theorem Ctx.suN (c : Ctx cf p E κ Λ G n k X W A) (a : Addr) (pn : List (Addr × Obj)) : Ctx cf p E κ Λ G n (k.su false) (X.suite a pn) NoW A := (c.toCtx0.su false a pn rfl rfl rfl).up rfl rfl rfl rfl rfl
theorem Ctx.suA (c : Ctx cf p E κ Λ G n k X W A) (hΞ : ∀ a k d, ¬ A.c.Ξ a k d) {A' : Act} {a : Addr} {oe : Obj} {cls : Value} {d : Option Addr} {pn : List (Addr × Obj)} (hz : Zc cls d oe) (hd : ∃ vs, oe.data = .fields vs) (hc : Cat E A A' a cls d) : Ctx cf p E κ Λ G n (k.su true) (X.suite a ((a, oe) :: pn)) NoW A' := by
  have e : A'.c.K = A.c.K ∧ A'.c.AD = A.c.AD ∧ A'.c.KD = A.c.KD := by
    obtain ⟨F, k, v, rfl, _⟩ := id hc
    exact ⟨rfl, rfl, rfl⟩
  exact
  { toCtx0 := c.toCtx0.su true a _ e.1 e.2.1 e.2.2
    rsI := fun z => nomatch z
    rsM := fun z => nomatch z
    cl0 := fun a z => nomatch z
    cl := fun a z => nomatch z
    lm := fun z => nomatch z
    at_ := fun _ nm x hx e fe pos he hb => e_attr hΞ (nm := nm) hc (c.atF nm x hx) hz hd he hb }
theorem asg1 {tg : Expr} {env : Env} (h : ∀ t q, tg ≠ .Starred t q) : (assignEach [tg] env).map (·.2) = [assign tg env] := by
  cases tg <;> first | rfl | exact (h _ _ rfl).elim
theorem t_asgN (c : Ctx cf p E κ Λ G n k X W A) {i : Nat} {a : C} (ia : All cf p E κ Λ G n a) {st : Stmt} (h : ckS cf (.asg (.n i) a) k st = true) : PS X st (tS E A W (ex κ Λ G (.asg (.n i) a))) := by
  unfold ckS at h
  try dsimp only at h
  split at h
  · rw [Bool.and_eq_true, Bool.or_eq_true] at h
    obtain ⟨h1, h2⟩ := h
    obtain ⟨s1, s2, s3⟩ := c.store h1
    rcases h2 with h2 | h2
    · rw [Bool.and_eq_true] at h2
      exact s_set (by rw [c.N]; exact c.nd) s1 s2 (ia.e c h2.2) (swaps_no h2.1 _ _ _) s3
    · simp only [Bool.and_eq_true] at h2
      exact ia.cc c s1 (by rw [c.sc]; exact of_decide_eq_true h2.1.1) h2.2
  · cases h
theorem t_asgT (c : Ctx cf p E κ Λ G n k X W A) {is : List Nat} {a : C} (ia : All cf p E κ Λ G n a) {st : Stmt} (h : ckS cf (.asg (.t is) a) k st = true) : PS X st (tS E A W (ex κ Λ G (.asg (.t is) a))) := by
  unfold ckS at h
  try dsimp only at h
  split at h
  · simp only [Bool.and_eq_true] at h
    obtain ⟨⟨⟨h1, h2⟩, h3⟩, h4⟩ := h
    refine s_setT c.K (tg_ok c.toCtx0 h1) (ia.e c h4) (swapsS_no h2 _ _) ?_ (asg1 fun t q z => ?_)
    · rw [Bool.or_eq_true] at h3
      rcases h3 with h3 | h3
      · exact swapped_no h3 _
      · unfold swN at h3
        split at h3
        · split at h3
          · rename_i hsw
            exact swapB_ok c.sc c.kd hsw
          · cases h3
        · cases h3
    · rw [z] at h1
      cases h1
  · cases h
theorem t_asgs (c : Ctx cf p E κ Λ G n k X W A) {is : List Nat} {a : C} (ia : All cf p E κ Λ G n a) {st : Stmt} (h : ckS cf (.asgs is a) k st = true) : PS X st (tS E A W (ex κ Λ G (.asgs is a))) := by
  unfold ckS at h
  try dsimp only at h
  split at h
  · rw [Bool.and_eq_true] at h
    obtain ⟨h0, h⟩ := h
    split at h
    · rename_i ns hsw
      simp only [Bool.and_eq_true, beq_iff_eq] at h
      obtain ⟨⟨⟨⟨h1, h2⟩, h3⟩, h4⟩, h5⟩ := h
      refine s_asgs (ns := ns) (c.calm h0) (by rw [c.N]; exact c.nd) h1 h2 (Nat.ble_eq.mp h3) (fun j i m e1 e2 => ?_) (ia.a c h5) (swapB_ok c.sc c.kd hsw) rfl
      have m1 : (i, m) ∈ is.zip ns := by
        have z : (is.zip ns)[j]? = some (i, m) := by rw [List.getElem?_zip_eq_some]; exact ⟨e1, e2⟩
        exact List.mem_of_getElem? z
      have z := List.all_eq_true.mp h4 _ m1
      rw [Bool.and_eq_true] at z
      exact ⟨by rw [c.N]; exact of_decide_eq_true z.1, by rw [c.sc]; exact of_decide_eq_true z.2⟩
    · cases h
  · cases h
theorem t_aug (c : Ctx cf p E κ Λ G n k X W A) {i : Nat} {o : Op2} {a : C} (ia : All cf p E κ Λ G n a) {st : Stmt} (h : ckS cf (.aug i o a) k st = true) : PS X st (tS E A W (ex κ Λ G (.aug i o a))) := by
  unfold ckS at h
  try dsimp only at h
  split at h
  · rename_i x q op e q2
    simp only [Bool.and_eq_true] at h
    obtain ⟨⟨h1, h2⟩, h3⟩ := h
    obtain ⟨s1, s2, s3⟩ := c.store h1
    have ho : PIp X op (rAu o) := by
      cases o <;> first | cases h2; done | skip
      · cases op <;> first | cases h2; done | exact au_add
      · cases op <;> first | cases h2; done | exact au_sub
      · cases op <;> first | cases h2; done | exact au_mul
      · cases op <;> first | cases h2; done | exact au_fdiv
    exact s_aug (by rw [c.N]; exact c.nd) s1 s2 (ia.e c h3) ho s3
  · cases h
theorem t_seti (c : Ctx cf p E κ Λ G n k X W A) {i : Nat} {a b : C} (ia : All cf p E κ Λ G n a) (ib : All cf p E κ Λ G n b) {st : Stmt} (h : ckS cf (.seti i a b) k st = true) : PS X st (tS E A W (ex κ Λ G (.seti i a b))) := by
  unfold ckS at h
  try dsimp only at h
  split at h
  · rename_i x q ek q1 e q2
    simp only [Bool.and_eq_true] at h
    obtain ⟨⟨⟨⟨⟨h1, h2⟩, h3⟩, h4⟩, h5⟩, h6⟩ := h
    obtain ⟨s1, s2, s3, s4⟩ := c.slot h1
    refine s_seti (u1 c.toCtx0) s1 s2 s3 s4 (ib.e c h6) (ia.e c h5) (fun v => ?_) (swapsS_no h3 _ _) (swapped_no h4 _) rfl
    cases ek <;> first | cases h2; done | rfl
  · cases h
theorem t_ss (c : Ctx cf p E κ Λ G n k X W A) {a r : C} (ia : All cf p E κ Λ G n a) (ir : All cf p E κ Λ G n r) {b : List Stmt} (h : ckSs cf (.cons a r) k b = true) : PSs X b (tS E A W (ex κ Λ G (.cons a r))) := by
  cases b with
  | nil => cases h
  | cons s b =>
    have h : (ckS cf a k s && ckSs cf r k b) = true := h
    rw [Bool.and_eq_true] at h
    exact ss_cons (ia.s c h.1) (ir.b c h.2)
theorem t_xpr (c : Ctx cf p E κ Λ G n k X W A) {a : C} (ia : All cf p E κ Λ G n a) {st : Stmt} (h : ckS cf (.xpr a) k st = true) : PS X st (tS E A W (ex κ Λ G (.xpr a))) := by
  unfold ckS at h
  try dsimp only at h
  split at h
  · rw [Bool.and_eq_true] at h
    exact s_expr (ia.e c h.2) (swaps_no h.1 _ _ _)
  · cases h
theorem t_ret (c : Ctx cf p E κ Λ G n k X W A) {a : C} (ia : All cf p E κ Λ G n a) {st : Stmt} (h : ckS cf (.ret a) k st = true) : PS X st (tS E A W (ex κ Λ G (.ret a))) := by
  unfold ckS at h
  try dsimp only at h
  split at h
  · exact s_ret (ia.e c h)
  · cases h
theorem t_ifs (c : Ctx cf p E κ Λ G n k X W A) {d a b : C} (id : All cf p E κ Λ G n d) (ia : All cf p E κ Λ G n a) (ib : All cf p E κ Λ G n b) {st : Stmt} (h : ckS cf (.ifs d a b) k st = true) : PS X st (tS E A W (ex κ Λ G (.ifs d a b))) := by
  unfold ckS at h
  try dsimp only at h
  split at h
  · simp only [Bool.and_eq_true] at h
    exact s_if (id.e c h.1.1) (ia.b c h.1.2) (ib.b c h.2)
  · cases h
theorem t_whl (c : Ctx cf p E κ Λ G n k X W A) {d b : C} (id : All cf p E κ Λ G n d) (ib : All cf p E κ Λ G n b) {st : Stmt} (h : ckS cf (.whl d b) k st = true) : PS X st (tS E A W (ex κ Λ G (.whl d b))) := by
  unfold ckS at h
  try dsimp only at h
  split at h
  · simp only [Bool.and_eq_true] at h
    exact s_whl (c.po h.1.1) (id.e c h.1.2) (ib.b c h.2)
  · cases h
theorem t_for (c : Ctx cf p E κ Λ G n k X W A) {t : Tg} {it b : C} (ii : All cf p E κ Λ G n it) (ib : All cf p E κ Λ G n b) {st : Stmt} (h : ckS cf (.for_ t it b) k st = true) : PS X st (tS E A W (ex κ Λ G (.for_ t it b))) := by
  unfold ckS at h
  try dsimp only at h
  split at h
  · simp only [Bool.and_eq_true] at h
    obtain ⟨⟨⟨⟨⟨⟨h1, h2⟩, h3⟩, h4⟩, h5⟩, h6⟩, h7⟩ := h
    exact s_for c.K (tp_ok h4) (c.po h1) (c.calm h2) (ii.i c h6) (tg_ok c.toCtx0 h3) (ib.b c h7) fun x => folded_no h5 _ x
  · cases h
theorem t_rais (c : Ctx cf p E κ Λ G n k X W A) {kk : Nat} {a : C} (ia : All cf p E κ Λ G n a) {st : Stmt} (h : ckS cf (.rais kk a) k st = true) : PS X st (tS E A W (ex κ Λ G (.rais kk a))) := by
  unfold ckS at h
  try dsimp only at h
  split at h
  · simp only [Bool.and_eq_true] at h
    obtain ⟨⟨⟨⟨⟨h1, h2⟩, h3⟩, h4⟩, h5⟩, h6⟩ := h
    obtain ⟨g1, g2, g3, g4⟩ := c.gl h4
    exact c.rsI h1 kk _ (of_decide_eq_true h2) h3 g1 g4 _ _ _ _ _ (ia.e c h6) h5
  · cases h
theorem t_raism (c : Ctx cf p E κ Λ G n k X W A) {kk : Nat} {st : Stmt} (h : ckS cf (.raism kk) k st = true) : PS X st (tS E A W (ex κ Λ G (.raism kk))) := by
  unfold ckS at h
  try dsimp only at h
  split at h
  · simp only [Bool.and_eq_true, Bool.not_eq_true'] at h
    obtain ⟨⟨⟨h1, h2⟩, h3⟩, h4⟩ := h
    obtain ⟨g1, g2, g3, g4⟩ := c.gl h4
    exact c.rsM h1 kk _ (of_decide_eq_true h2) h3 g1 g4 _ _ _ _ _ _
  · cases h
theorem t_try (c : Ctx cf p E κ Λ G n k X W A) {b hs : C} (ib : All cf p E κ Λ G n b) (ih : All cf p E κ Λ G n hs) {st : Stmt} (h : ckS cf (.try_ b hs) k st = true) : PS X st (tS E A W (ex κ Λ G (.try_ b hs))) := by
  unfold ckS at h
  try dsimp only at h
  split at h
  · rename_i q
    simp only [Bool.and_eq_true] at h
    obtain ⟨⟨h1, h2⟩, h3⟩ := h
    obtain ⟨f1, f2⟩ := c.fr h1
    obtain ⟨g1, g2, g3⟩ := ih.hd c h1 h3
    have z := s_try (G := G) (pos := q) (fb := ex κ Λ G b) (c.Ξ h1) f1 f2 (by rw [c.N]; exact c.nd) c.tk (by simp) g2 (fun F W' pn xe sm tk po => ib.b (c.tr sm tk po) h2) g1
    have e : ex κ Λ G (.try_ b hs) = fun s => match ex κ Λ G b s with | .er (.exc k v) s1 => ehL G (toHL κ Λ G hs) k v s1 | r => r := by
      funext s
      rw [← g3]
      rfl
    rw [e]
    exact z
  · cases h
theorem h_one (c : Ctx cf p E κ Λ G n k X W A) (hs : k.stm = true) {cc : Nat} {i : Option Nat} {b : C} (ib : All cf p E κ Λ G n b) {hd : ExceptHandler} {hds : List ExceptHandler} {l : HL} (ok : HsOk E A X hds l) (h : ckH1 cf (.hnd cc i b) k hd = true) :
    HsOk E A X (hd :: hds) ((cc, i, ex κ Λ G b) :: l) ∧ ∀ kk ∈ E.KS, PySem.W.exmOne X.K (.ref (E.CD kk)) (.ref (E.CD cc)) = some (G.sub kk cc) := by
  cases i with
  | none =>
    unfold ckH1 at h
    try dsimp only at h
    split at h
    · simp only [Bool.and_eq_true] at h
      obtain ⟨⟨h1, h2⟩, h3⟩ := h
      obtain ⟨g1, g2, g3, g4⟩ := c.gl h2
      obtain ⟨c1, c2⟩ := c.cls cc _ (of_decide_eq_true h1)
      exact ⟨.no ⟨g1, g2, .inl c1⟩ (fun a oe cls d pn hz hd => ib.b (c.suN a _) h3) ok, c2⟩
    · cases h
  | some i =>
    unfold ckH1 at h
    try dsimp only at h
    split at h
    · simp only [Bool.and_eq_true] at h
      obtain ⟨⟨⟨⟨h1, h2⟩, h3⟩, h4⟩, h5⟩ := h
      obtain ⟨g1, g2, g3, g4⟩ := c.gl h2
      obtain ⟨c1, c2⟩ := c.cls cc _ (of_decide_eq_true h1)
      refine ⟨.as ⟨g1, g2, .inl c1⟩ (by rw [c.N]; exact of_decide_eq_true h3) ?_ (fun a oe cls d pn A' hz hd hc => ib.b (c.suA (c.Ξ hs) hz hd hc) h5) ok, c2⟩
      show X.env.kindOf _ = _
      unfold Env.kindOf
      rw [c.sc]
      exact of_decide_eq_true h4
    · cases h
theorem h_cons (c : Ctx cf p E κ Λ G n k X W A) (hs : k.stm = true) {a r : C} (ia : All cf p E κ Λ G n a) (ir : All cf p E κ Λ G n r) {hds : List ExceptHandler} (h : ckHd cf (.cons a r) k hds = true) :
    HsOk E A X hds (toHL κ Λ G (.cons a r)) ∧ (∀ q ∈ toHL κ Λ G (.cons a r), ∀ kk ∈ E.KS, PySem.W.exmOne X.K (.ref (E.CD kk)) (.ref (E.CD q.1)) = some (G.sub kk q.1)) ∧ eh κ Λ G (.cons a r) = ehL G (toHL κ Λ G (.cons a r)) := by
  cases hds with
  | nil => cases h
  | cons x xs =>
    have h : (ckH1 cf a k x && ckHd cf r k xs) = true := h
    rw [Bool.and_eq_true] at h
    obtain ⟨g1, g2, g3⟩ := ir.hd c hs h.2
    obtain ⟨cc, i, b, rfl, k1, k2⟩ := ia.h c hs g1 h.1
    refine ⟨k1, fun q hq => ?_, ?_⟩
    · rcases List.mem_cons.mp hq with rfl | hq
      · exact k2
      · exact g2 q hq
    · funext kk v s
      cases i with
      | none =>
        show (if G.sub kk cc then (ex κ Λ G b s).quiet else eh κ Λ G r kk v s) = _
        rw [g3]
        rfl
      | some i =>
        show (if G.sub kk cc then (if i < s.ρ.length then leave (ex κ Λ G b (s.put i (.exc kk v) false)) else .no) else eh κ Λ G r kk v s) = _
        rw [g3]
        rfl
end
theorem all (cf : Cf) (p : PkC) (E : CE) (κ : Nat → (List D → RC) → List D → List D → RC) (Λ : List D → RC) (G : Ev) (n : Nat) : ∀ c : C, All cf p E κ Λ G n c := by
  have key : ∀ c : C, All cf p E κ Λ G n c ∧ (∀ b, c = .star b → All cf p E κ Λ G n b) ∧ alC (All cf p E κ Λ G n) c := fun c => by
    induction c with
    | nil =>
      refine ⟨⟨(fun _ h => by cases h), fun c h => y_nil c h, (fun _ h => by cases h), (fun _ _ _ h => by cases h), (fun _ h => by cases h), fun {k X W A b} c h => ?_, (fun _ _ _ h => by cases h), fun {k X W A hs} c _ h => ?_⟩, (fun b e => by cases e), trivial⟩
      · cases b with
        | nil => exact ss_nil
        | cons => cases h
      · cases hs with
        | nil => exact ⟨.nil, (fun _ z => nomatch z), rfl⟩
        | cons => cases h
    | cons a r ia ir => exact ⟨⟨(fun _ h => by cases h), fun c h => y_cons c ia.1 ia.2.1 ir.1 h, (fun _ h => by cases h), (fun _ _ _ h => by cases h), (fun _ h => by cases h), fun c h => t_ss c ia.1 ir.1 h, (fun _ _ _ h => by cases h), fun c hs h => h_cons c hs ia.1 ir.1 h⟩, (fun b e => by cases e), ia.1, ir.2.2⟩
    | star a ia => exact ⟨⟨(fun _ h => by cases h), (fun _ h => by cases h), (fun _ h => by cases h), (fun _ _ _ h => by cases h), (fun _ h => by cases h), (fun _ h => by cases h), (fun _ _ _ h => by cases h), (fun _ _ h => by cases h)⟩, fun b e => by cases e; exact ia.1, trivial⟩
    | cst d => exact ⟨⟨fun c h => x_cst c h, (fun _ h => by cases h), (fun _ h => by cases h), (fun _ _ _ h => by cases h), (fun _ h => by cases h), (fun _ h => by cases h), (fun _ _ _ h => by cases h), (fun _ _ h => by cases h)⟩, (fun b e => by cases e), trivial⟩
    | var i => exact ⟨⟨fun c h => x_var c h, (fun _ h => by cases h), (fun _ h => by cases h), (fun _ _ _ h => by cases h), (fun _ h => by cases h), (fun _ h => by cases h), (fun _ _ _ h => by cases h), (fun _ _ h => by cases h)⟩, (fun b e => by cases e), trivial⟩
    | mov i => exact ⟨⟨fun c h => x_mov c h, (fun _ h => by cases h), (fun _ h => by cases h), (fun _ _ _ h => by cases h), (fun _ h => by cases h), (fun _ h => by cases h), (fun _ _ _ h => by cases h), (fun _ _ h => by cases h)⟩, (fun b e => by cases e), trivial⟩
    | glob g => exact ⟨⟨fun c h => x_glob c h, (fun _ h => by cases h), (fun _ h => by cases h), (fun _ _ _ h => by cases h), (fun _ h => by cases h), (fun _ h => by cases h), (fun _ _ _ h => by cases h), (fun _ _ h => by cases h)⟩, (fun b e => by cases e), trivial⟩
    | op1 o a ia => exact ⟨⟨fun c h => x_op1 c ia.1 h, (fun _ h => by cases h), (fun _ h => by cases h), (fun _ _ _ h => by cases h), (fun _ h => by cases h), (fun _ h => by cases h), (fun _ _ _ h => by cases h), (fun _ _ h => by cases h)⟩, (fun b e => by cases e), trivial⟩
    | op2 o a b ia ib => exact ⟨⟨fun c h => x_op2 c ia.1 ib.1 h, (fun _ h => by cases h), (fun _ h => by cases h), (fun _ _ _ h => by cases h), (fun _ h => by cases h), (fun _ h => by cases h), (fun _ _ _ h => by cases h), (fun _ _ h => by cases h)⟩, (fun b e => by cases e), trivial⟩
    | meth o a b ia ib => exact ⟨⟨fun c h => x_meth c ia.1 ib.1 h, (fun _ h => by cases h), (fun _ h => by cases h), (fun _ _ _ h => by cases h), (fun _ h => by cases h), (fun _ h => by cases h), (fun _ _ _ h => by cases h), (fun _ _ h => by cases h)⟩, (fun b e => by cases e), trivial⟩
    | meth3 o a b d ia ib id => exact ⟨⟨fun c h => x_meth3 c ia.1 ib.1 id.1 h, (fun _ h => by cases h), (fun _ h => by cases h), (fun _ _ _ h => by cases h), (fun _ h => by cases h), (fun _ h => by cases h), (fun _ _ _ h => by cases h), (fun _ _ h => by cases h)⟩, (fun b e => by cases e), trivial⟩
    | slc a b d ia ib id => exact ⟨⟨fun c h => x_slc c ia.1 ib.1 id.1 h, (fun _ h => by cases h), (fun _ h => by cases h), (fun _ _ _ h => by cases h), (fun _ h => by cases h), (fun _ h => by cases h), (fun _ _ _ h => by cases h), (fun _ _ h => by cases h)⟩, (fun b e => by cases e), trivial⟩
    | chain o o' a b d ia ib id => exact ⟨⟨fun c h => x_chain c ia.1 ib.1 id.1 h, (fun _ h => by cases h), (fun _ h => by cases h), (fun _ _ _ h => by cases h), (fun _ h => by cases h), (fun _ h => by cases h), (fun _ _ _ h => by cases h), (fun _ _ h => by cases h)⟩, (fun b e => by cases e), trivial⟩
    | not a ia => exact ⟨⟨fun c h => x_not c ia.1 h, (fun _ h => by cases h), (fun _ h => by cases h), (fun _ _ _ h => by cases h), (fun _ h => by cases h), (fun _ h => by cases h), (fun _ _ _ h => by cases h), (fun _ _ h => by cases h)⟩, (fun b e => by cases e), trivial⟩
    | and a b ia ib => exact ⟨⟨fun c h => x_and c ia.1 ib.1 h, (fun _ h => by cases h), (fun _ h => by cases h), (fun _ _ _ h => by cases h), (fun _ h => by cases h), (fun _ h => by cases h), (fun _ _ _ h => by cases h), (fun _ _ h => by cases h)⟩, (fun b e => by cases e), trivial⟩
    | or a b ia ib => exact ⟨⟨fun c h => x_or c ia.1 ib.1 h, (fun _ h => by cases h), (fun _ h => by cases h), (fun _ _ _ h => by cases h), (fun _ h => by cases h), (fun _ h => by cases h), (fun _ _ _ h => by cases h), (fun _ _ h => by cases h)⟩, (fun b e => by cases e), trivial⟩
    | ife d a b id ia ib => exact ⟨⟨fun c h => x_ife c id.1 ia.1 ib.1 h, (fun _ h => by cases h), (fun _ h => by cases h), (fun _ _ _ h => by cases h), (fun _ h => by cases h), (fun _ h => by cases h), (fun _ _ _ h => by cases h), (fun _ _ h => by cases h)⟩, (fun b e => by cases e), trivial⟩
    | tup a ia => exact ⟨⟨fun c h => x_tup c ia.1 h, (fun _ h => by cases h), (fun _ h => by cases h), (fun _ _ _ h => by cases h), (fun _ h => by cases h), (fun _ h => by cases h), (fun _ _ _ h => by cases h), (fun _ _ h => by cases h)⟩, (fun b e => by cases e), trivial⟩
    | lst a ia => exact ⟨⟨fun c h => x_lst c ia.1 h, (fun _ h => by cases h), (fun _ h => by cases h), (fun _ _ _ h => by cases h), (fun _ h => by cases h), (fun _ h => by cases h), (fun _ _ _ h => by cases h), (fun _ _ h => by cases h)⟩, (fun b e => by cases e), trivial⟩
    | dsp ks vs t ik iv => exact ⟨⟨fun c h => x_dsp c ik.1 iv.1 ik.2.2 iv.2.2 h, (fun _ h => by cases h), (fun _ h => by cases h), (fun _ _ _ h => by cases h), (fun _ h => by cases h), (fun _ h => by cases h), (fun _ _ _ h => by cases h), (fun _ _ h => by cases h)⟩, (fun b e => by cases e), trivial⟩
    | call f a ia => exact ⟨⟨fun c h => x_call c ia.1 h, (fun _ h => by cases h), (fun _ h => by cases h), (fun _ _ _ h => by cases h), (fun _ h => by cases h), (fun _ h => by cases h), (fun _ _ _ h => by cases h), (fun _ _ h => by cases h)⟩, (fun b e => by cases e), trivial⟩
    | callr f j i a ia => exact ⟨⟨fun c h => x_callr c ia.1 h, (fun _ h => by cases h), (fun _ h => by cases h), (fun _ _ _ h => by cases h), (fun _ h => by cases h), (fun _ h => by cases h), (fun _ _ _ h => by cases h), (fun _ _ h => by cases h)⟩, (fun b e => by cases e), trivial⟩
    | callo f a ia => exact ⟨⟨fun c h => x_callo c ia.1 h, (fun _ h => by cases h), (fun _ h => by cases h), (fun _ _ _ h => by cases h), (fun _ h => by cases h), (fun _ h => by cases h), (fun _ _ _ h => by cases h), (fun _ _ h => by cases h)⟩, (fun b e => by cases e), trivial⟩
    | callv i a ia => exact ⟨⟨fun c h => x_callv c ia.1 h, (fun _ h => by cases h), (fun _ h => by cases h), (fun _ _ _ h => by cases h), (fun _ h => by cases h), (fun _ h => by cases h), (fun _ _ _ h => by cases h), (fun _ _ h => by cases h)⟩, (fun b e => by cases e), trivial⟩
    | calla i => exact ⟨⟨fun c h => x_calla c h, (fun _ h => by cases h), (fun _ h => by cases h), (fun _ _ _ h => by cases h), (fun _ h => by cases h), (fun _ h => by cases h), (fun _ _ _ h => by cases h), (fun _ _ h => by cases h)⟩, (fun b e => by cases e), trivial⟩
    | calll f a ia => exact ⟨⟨fun c h => x_calll c ia.1 h, (fun _ h => by cases h), (fun _ h => by cases h), (fun _ _ _ h => by cases h), (fun _ h => by cases h), (fun _ h => by cases h), (fun _ _ _ h => by cases h), (fun _ _ h => by cases h)⟩, (fun b e => by cases e), trivial⟩
    | «mut» u i a ia => exact ⟨⟨fun c h => x_mut c ia.1 h, (fun _ h => by cases h), (fun _ h => by cases h), (fun _ _ _ h => by cases h), (fun _ h => by cases h), (fun _ h => by cases h), (fun _ _ _ h => by cases h), (fun _ _ h => by cases h)⟩, (fun b e => by cases e), trivial⟩
    | comp own t it tst el ii it' ie => exact ⟨⟨fun c h => x_comp c ii.1 it'.1 ie.1 h, (fun _ h => by cases h), (fun _ h => by cases h), fun c h1 h2 h => z_comp c ii.1 it'.1 ie.1 h1 h2 h, (fun _ h => by cases h), (fun _ h => by cases h), (fun _ _ _ h => by cases h), (fun _ _ h => by cases h)⟩, (fun b e => by cases e), trivial⟩
    | comp2 own own2 t it t2 it2 tst el ii ii2 it' ie => exact ⟨⟨fun c h => x_comp2 c ii.1 ii2.1 it'.1 ie.1 h, (fun _ h => by cases h), (fun _ h => by cases h), fun c h1 h2 h => z_comp2 c ii.1 ii2.1 it'.1 ie.1 h1 h2 h, (fun _ h => by cases h), (fun _ h => by cases h), (fun _ _ _ h => by cases h), (fun _ _ h => by cases h)⟩, (fun b e => by cases e), trivial⟩
    | dcomp own t it tst kk v tk ii it' ik iv => exact ⟨⟨fun c h => x_dcomp c ii.1 it'.1 ik.1 iv.1 h, (fun _ h => by cases h), (fun _ h => by cases h), fun c h1 h2 h => z_dcomp c ii.1 it'.1 ik.1 iv.1 h1 h2 h, (fun _ h => by cases h), (fun _ h => by cases h), (fun _ _ _ h => by cases h), (fun _ _ h => by cases h)⟩, (fun b e => by cases e), trivial⟩
    | dcomp2 own own2 t it t2 it2 tst kk v tk ii ii2 it' ik iv => exact ⟨⟨fun c h => x_dcomp2 c ii.1 ii2.1 it'.1 ik.1 iv.1 h, (fun _ h => by cases h), (fun _ h => by cases h), (fun _ _ _ h => by cases h), (fun _ h => by cases h), (fun _ h => by cases h), (fun _ _ _ h => by cases h), (fun _ _ h => by cases h)⟩, (fun b e => by cases e), trivial⟩
    | attr nm a ia => exact ⟨⟨fun c h => x_attr c ia.1 h, (fun _ h => by cases h), (fun _ h => by cases h), (fun _ _ _ h => by cases h), (fun _ h => by cases h), (fun _ h => by cases h), (fun _ _ _ h => by cases h), (fun _ _ h => by cases h)⟩, (fun b e => by cases e), trivial⟩
    | itv a ia => exact ⟨⟨(fun _ h => by cases h), (fun _ h => by cases h), fun c h => w_itv c ia.1 h, (fun _ _ _ h => by cases h), (fun _ h => by cases h), (fun _ h => by cases h), (fun _ _ _ h => by cases h), (fun _ _ h => by cases h)⟩, (fun b e => by cases e), trivial⟩
    | rng1 a ia => exact ⟨⟨(fun _ h => by cases h), (fun _ h => by cases h), fun c h => w_rng1 c ia.1 h, (fun _ _ _ h => by cases h), (fun _ h => by cases h), (fun _ h => by cases h), (fun _ _ _ h => by cases h), (fun _ _ h => by cases h)⟩, (fun b e => by cases e), trivial⟩
    | rng2 a b ia ib => exact ⟨⟨(fun _ h => by cases h), (fun _ h => by cases h), fun c h => w_rng2 c ia.1 ib.1 h, (fun _ _ _ h => by cases h), (fun _ h => by cases h), (fun _ h => by cases h), (fun _ _ _ h => by cases h), (fun _ _ h => by cases h)⟩, (fun b e => by cases e), trivial⟩
    | rng3 a b d ia ib id => exact ⟨⟨(fun _ h => by cases h), (fun _ h => by cases h), fun c h => w_rng3 c ia.1 ib.1 id.1 h, (fun _ _ _ h => by cases h), (fun _ h => by cases h), (fun _ h => by cases h), (fun _ _ _ h => by cases h), (fun _ _ h => by cases h)⟩, (fun b e => by cases e), trivial⟩
    | zip2 a b ia ib => exact ⟨⟨(fun _ h => by cases h), (fun _ h => by cases h), fun c h => w_zip2 c ia.1 ib.1 h, (fun _ _ _ h => by cases h), (fun _ h => by cases h), (fun _ h => by cases h), (fun _ _ _ h => by cases h), (fun _ _ h => by cases h)⟩, (fun b e => by cases e), trivial⟩
    | enum a ia => exact ⟨⟨(fun _ h => by cases h), (fun _ h => by cases h), fun c h => w_enum c ia.1 h, (fun _ _ _ h => by cases h), (fun _ h => by cases h), (fun _ h => by cases h), (fun _ _ _ h => by cases h), (fun _ _ h => by cases h)⟩, (fun b e => by cases e), trivial⟩
    | items a ia => exact ⟨⟨(fun _ h => by cases h), (fun _ h => by cases h), fun c h => w_items c ia.1 h, (fun _ _ _ h => by cases h), (fun _ h => by cases h), (fun _ h => by cases h), (fun _ _ _ h => by cases h), (fun _ _ h => by cases h)⟩, (fun b e => by cases e), trivial⟩
    | asg t a ia =>
      refine ⟨⟨(fun _ h => by cases h), (fun _ h => by cases h), (fun _ h => by cases h), (fun _ _ _ h => by cases h), fun c h => ?_, (fun _ h => by cases h), (fun _ _ _ h => by cases h), (fun _ _ h => by cases h)⟩, (fun b e => by cases e), trivial⟩
      cases t with
      | n i => exact t_asgN c ia.1 h
      | t is => exact t_asgT c ia.1 h
    | asgs is a ia => exact ⟨⟨(fun _ h => by cases h), (fun _ h => by cases h), (fun _ h => by cases h), (fun _ _ _ h => by cases h), fun c h => t_asgs c ia.1 h, (fun _ h => by cases h), (fun _ _ _ h => by cases h), (fun _ _ h => by cases h)⟩, (fun b e => by cases e), trivial⟩
    | aug i o a ia => exact ⟨⟨(fun _ h => by cases h), (fun _ h => by cases h), (fun _ h => by cases h), (fun _ _ _ h => by cases h), fun c h => t_aug c ia.1 h, (fun _ h => by cases h), (fun _ _ _ h => by cases h), (fun _ _ h => by cases h)⟩, (fun b e => by cases e), trivial⟩
    | seti i a b ia ib => exact ⟨⟨(fun _ h => by cases h), (fun _ h => by cases h), (fun _ h => by cases h), (fun _ _ _ h => by cases h), fun c h => t_seti c ia.1 ib.1 h, (fun _ h => by cases h), (fun _ _ _ h => by cases h), (fun _ _ h => by cases h)⟩, (fun b e => by cases e), trivial⟩
    | xpr a ia => exact ⟨⟨(fun _ h => by cases h), (fun _ h => by cases h), (fun _ h => by cases h), (fun _ _ _ h => by cases h), fun c h => t_xpr c ia.1 h, (fun _ h => by cases h), (fun _ _ _ h => by cases h), (fun _ _ h => by cases h)⟩, (fun b e => by cases e), trivial⟩
    | ret a ia => exact ⟨⟨(fun _ h => by cases h), (fun _ h => by cases h), (fun _ h => by cases h), (fun _ _ _ h => by cases h), fun c h => t_ret c ia.1 h, (fun _ h => by cases h), (fun _ _ _ h => by cases h), (fun _ _ h => by cases h)⟩, (fun b e => by cases e), trivial⟩
    | retn =>
      refine ⟨⟨(fun _ h => by cases h), (fun _ h => by cases h), (fun _ h => by cases h), (fun _ _ _ h => by cases h), fun {k X W A st} c h => ?_, (fun _ h => by cases h), (fun _ _ _ h => by cases h), (fun _ _ h => by cases h)⟩, (fun b e => by cases e), trivial⟩
      unfold ckS at h
      try dsimp only at h
      split at h
      · exact s_retn
      · cases h
    | ifs d a b id ia ib => exact ⟨⟨(fun _ h => by cases h), (fun _ h => by cases h), (fun _ h => by cases h), (fun _ _ _ h => by cases h), fun c h => t_ifs c id.1 ia.1 ib.1 h, (fun _ h => by cases h), (fun _ _ _ h => by cases h), (fun _ _ h => by cases h)⟩, (fun b e => by cases e), trivial⟩
    | whl d b id ib => exact ⟨⟨(fun _ h => by cases h), (fun _ h => by cases h), (fun _ h => by cases h), (fun _ _ _ h => by cases h), fun c h => t_whl c id.1 ib.1 h, (fun _ h => by cases h), (fun _ _ _ h => by cases h), (fun _ _ h => by cases h)⟩, (fun b e => by cases e), trivial⟩
    | for_ t it b ii ib => exact ⟨⟨(fun _ h => by cases h), (fun _ h => by cases h), (fun _ h => by cases h), (fun _ _ _ h => by cases h), fun c h => t_for c ii.1 ib.1 h, (fun _ h => by cases h), (fun _ _ _ h => by cases h), (fun _ _ h => by cases h)⟩, (fun b e => by cases e), trivial⟩
    | rais kk a ia => exact ⟨⟨(fun _ h => by cases h), (fun _ h => by cases h), (fun _ h => by cases h), (fun _ _ _ h => by cases h), fun c h => t_rais c ia.1 h, (fun _ h => by cases h), (fun _ _ _ h => by cases h), (fun _ _ h => by cases h)⟩, (fun b e => by cases e), trivial⟩
    | raism kk => exact ⟨⟨(fun _ h => by cases h), (fun _ h => by cases h), (fun _ h => by cases h), (fun _ _ _ h => by cases h), fun c h => t_raism c h, (fun _ h => by cases h), (fun _ _ _ h => by cases h), (fun _ _ h => by cases h)⟩, (fun b e => by cases e), trivial⟩
    | try_ b hs ib ih => exact ⟨⟨(fun _ h => by cases h), (fun _ h => by cases h), (fun _ h => by cases h), (fun _ _ _ h => by cases h), fun c h => t_try c ib.1 ih.1 h, (fun _ h => by cases h), (fun _ _ _ h => by cases h), (fun _ _ h => by cases h)⟩, (fun b e => by cases e), trivial⟩
    | hnd cc i b ib => exact ⟨⟨(fun _ h => by cases h), (fun _ h => by cases h), (fun _ h => by cases h), (fun _ _ _ h => by cases h), (fun _ h => by cases h), (fun _ h => by cases h), fun c hs ok h => ⟨cc, i, b, rfl, h_one c hs ib.1 ok h⟩, (fun _ _ h => by cases h)⟩, (fun b e => by cases e), trivial⟩
    | pass =>
      refine ⟨⟨(fun _ h => by cases h), (fun _ h => by cases h), (fun _ h => by cases h), (fun _ _ _ h => by cases h), fun {k X W A st} c h => ?_, (fun _ h => by cases h), (fun _ _ _ h => by cases h), (fun _ _ h => by cases h)⟩, (fun b e => by cases e), trivial⟩
      unfold ckS at h
      try dsimp only at h
      split at h
      · exact s_pass
      · cases h
    | brk =>
      refine ⟨⟨(fun _ h => by cases h), (fun _ h => by cases h), (fun _ h => by cases h), (fun _ _ _ h => by cases h), fun {k X W A st} c h => ?_, (fun _ h => by cases h), (fun _ _ _ h => by cases h), (fun _ _ h => by cases h)⟩, (fun b e => by cases e), trivial⟩
      unfold ckS at h
      try dsimp only at h
      split at h
      · exact s_brk
      · cases h
    | cont =>
      refine ⟨⟨(fun _ h => by cases h), (fun _ h => by cases h), (fun _ h => by cases h), (fun _ _ _ h => by cases h), fun {k X W A st} c h => ?_, (fun _ h => by cases h), (fun _ _ _ h => by cases h), (fun _ _ h => by cases h)⟩, (fun b e => by cases e), trivial⟩
      unfold ckS at h
      try dsimp only at h
      split at h
      · exact s_cont
      · cases h
    | dead => exact ⟨⟨fun c h => x_dead h, (fun _ h => by cases h), (fun _ h => by cases h), (fun _ _ _ h => by cases h), fun c h => s_dead, (fun _ h => by cases h), (fun _ _ _ h => by cases h), (fun _ _ h => by cases h)⟩, (fun b e => by cases e), trivial⟩
    | _ => exact ⟨⟨(fun _ h => by cases h), (fun _ h => by cases h), (fun _ h => by cases h), (fun _ _ _ h => by cases h), (fun _ h => by cases h), (fun _ h => by cases h), (fun _ _ _ h => by cases h), (fun _ _ h => by cases h)⟩, (fun b e => by cases e), trivial⟩
  exact fun c => (key c).1
end Mp
end
section
set_option Elab.async false
set_option linter.all false
set_option maxRecDepth 100000
set_option maxHeartbeats 4000000
/-! MpEnv: the defs of a text; each keeps its promise, at every depth. -/
namespace Mp
open PySem PySem.Spec PyProof.Rows L2
/-- a def: its number, its name, its code; the text; its names, its parameters; may it hand lambdas down? -/
structure Df where
  f : Nat
  x : Str
  fn : Fn
  st : Stmt
  N : List Str
  ps : List Str
  lam : Bool
def kxOf (cf : Cf) (d : Df) : Kx := ⟨d.N, C8.fnScope d.st, fun _ => true, true, true, true, cf.gd d.f, d.lam, true, none, none, false⟩
def kxClo (cf : Cf) (d : Df) : Kx := ⟨d.N, C8.fnScope d.st, fun _ => true, true, true, false, cf.gd d.f, false, false, d.ps.head?, none, false⟩
section
variable (P : Program) (w : World) (K : PySem.W.Frag) (mg : Str → Option Value) (base : Heap) (cf : Cf) (p : PkC) (E : CE) (G : Ev) (F : Nat → Option Fn)
/-- a def as it stands behind the top -/
structure DfOk (d : Df) : Prop where
  ex : ∃ (oc : Value) (od : Option Addr) (dV kV doc pm : Value) (an : Option Addr) (cdv ct : Value) (osl : Array (Option Value)),
    K.lookup (p.AD d.f) = some ⟨oc, od, .func (PySem.W.fnOf d.x d.x (C8.fnArgs d.st) (C8.fnBody d.st) (C8.fnScope d.st) dV kV doc pm an cdv ct), osl⟩ ∧ PySem.W.codeIn K cdv d.x = true ∧ Binds K (PySem.W.fnOf d.x d.x (C8.fnArgs d.st) (C8.fnBody d.st) (C8.fnScope d.st) dV kV doc pm an cdv ct) d.ps [] ∧
    (d.lam = true → ∃ c Q, cdv = .ref c ∧ LamX.TabB base mg c Q ∧ (Q, d.x ++ (".<locals>." : Str) ++ ("<lambda>" : Str)) ∈ p.T ∧ ∀ q ∈ p.T, q.1 = Q → q.2 = d.x ++ (".<locals>." : Str) ++ ("<lambda>" : Str))
  mgf : mg d.x = some (.ref (p.AD d.f))
  kp : PySem.W.keepIn K (.ref (p.AD d.f)) = true
  sc : FnScope d.N d.ps (C8.fnScope d.st)
  ns : d.N.length = d.fn.ns
  np : d.ps.length = d.fn.np
  Ff : F d.f = some d.fn
/-- all that is known of a text -/
structure EnvF (ds dl : List Df) : Prop where
  pK : p.K = K
  mod : True
  KD : ∀ a q, p.KD a q → ∀ (H : Hp) (h : Heap), K.In h → ObjOk P w H h a (.dK q)
  fn : ∀ f x, cf.fn f = some x → ∃ d ∈ ds, d.f = f ∧ d.x = x
  ln : ∀ f x, cf.ln f = some x → ∃ d ∈ dl, d.f = f ∧ d.x = x
  dok : ∀ d ∈ ds, DfOk K mg base p F d ∧ ckSs cf d.fn.body (kxOf cf d) (C8.fnBody d.st) = true
  lok : ∀ d ∈ dl, DfOk K mg base p F d ∧ ckSs cf d.fn.body (kxClo cf d) (C8.fnBody d.st) = true ∧ ∃ a, d.ps = [a] ∧ nmOk a = true
  fnv : ∀ g, G.fns g = true → ∃ x, cf.fn g = some x ∧ cf.gd g = false
  gls : ∀ g x d, cf.gl g = some x → G.glob g = some d → ∃ u v, mg x = some u ∧ RelV v u ∧ ∀ (c : Cn) F, c.K = p.K → c.AD = p.AD → c.KD = p.KD → Rp c F d v
  bns : ∀ x, x ∈ cf.bn → mg x = none
  cls : ∀ c x, cf.cls c = some x → mg x = some (.ref (E.CD c)) ∧ ∀ kk ∈ E.KS, PySem.W.exmOne K (.ref (E.CD kk)) (.ref (E.CD c)) = some (G.sub kk c)
  atF : ∀ nm x, cf.atr nm = some x → ∀ kk ∈ E.KS, G.atr kk = nm → XfC K (E.CD kk) ∧ PySem.W.findIn K (.ref (E.CD kk)) x = some none ∧ E.AT kk = x
  rsI : ∀ kk x, cf.cls kk = some x → cf.ini kk = true → ∃ fI cc cda B i newId bmB sn gn, Ini P K (E.CD kk) fI cc cda B i newId bmB sn gn (E.AT kk) ∧ mg "super" = none ∧ kk ∈ E.KS
  rsM : ∀ kk x, cf.cls kk = some x → cf.ini kk = false → ∃ B newId initId bmB, ExcBaseFacts B newId initId bmB ∧ PySem.W.excIn K (E.CD kk) bmB newId = true ∧ PySem.W.keepIn K (.ref (E.CD kk)) = true ∧ PySem.W.subIn K (.ref (E.CD kk)) (.type "BaseException") = some true ∧ PySem.W.typeIn K (.ref (E.CD kk)) = some (.type "type") ∧ kk ∈ E.KS
end
section
variable {P : Program} {w : World} {K : PySem.W.Frag} {mg : Str → Option Value} {base : Heap} {cf : Cf} {p : PkC} {E : CE} {G : Ev} {F : Nat → Option Fn} {ds dl : List Df}
/-- the promises at a level -/
def FnAll (P : Program) (w : World) (K : PySem.W.Frag) (mg : Str → Option Value) (base : Heap) (cf : Cf) (p : PkC) (E : CE) (G : Ev) (F : Nat → Option Fn) (ds : List Df) (L : Nat) : Prop :=
  ∀ d ∈ ds, FnG P w K mg base (cf.gd d.f) (3 * L) (p.AD d.f) (spF E (Pk p) (run F G L d.f noL))
theorem run_eq {F : Nat → Option Fn} {G : Ev} {L f : Nat} {Λ : List D → RC} {ds st : List D} {c : Fn} (hF : F f = some c) (h1 : ds.length = c.np) (h2 : c.np ≤ c.ns) :
    run F G (L + 1) f Λ ds st = ends st.length (ex (run F G L) Λ G c.body ⟨ds.map (fun d => some (d, false)) ++ List.replicate (c.ns - c.np) none, st⟩) := by
  have e : run F G (L + 1) f Λ ds st = match F f with
    | none => .no
    | some c => if ds.length = c.np && Nat.ble c.np c.ns then ends st.length (ex (run F G L) Λ G c.body ⟨ds.map (fun d => some (d, false)) ++ List.replicate (c.ns - c.np) none, st⟩) else .no := rfl
  rw [e, hF]
  dsimp only
  rw [if_pos (by simp [h1, h2])]
theorem run_no {F : Nat → Option Fn} {G : Ev} {L f : Nat} {Λ : List D → RC} {ds st : List D} {c : Fn} (hF : F f = some c) (h1 : ds.length ≠ c.np) : run F G (L + 1) f Λ ds st = .no := by
  have e : run F G (L + 1) f Λ ds st = match F f with
    | none => .no
    | some c => if ds.length = c.np && Nat.ble c.np c.ns then ends st.length (ex (run F G L) Λ G c.body ⟨ds.map (fun d => some (d, false)) ++ List.replicate (c.ns - c.np) none, st⟩) else .no := rfl
  rw [e, hF]
  dsimp only
  rw [if_neg (by simp [h1])]
/-- what a def's context shares with every other -/
theorem EnvF.fns (e : EnvF P w K mg base cf p E G F ds dl) {L : Nat} (h : FnAll P w K mg base cf p E G F ds L) : ∀ f x, cf.fn f = some x → mg x = some (.ref (p.AD f)) ∧ PySem.W.keepIn K (.ref (p.AD f)) = true ∧ FnG P w K mg base (cf.gd f) (3 * L) (p.AD f) (spF E (Pk p) (run F G L f noL)) := fun f x hf => by
  obtain ⟨d, hd, rfl, rfl⟩ := e.fn f x hf
  exact ⟨(e.dok d hd).1.mgf, (e.dok d hd).1.kp, h d hd⟩
/-- the context of a def's body -/
theorem EnvF.ctx0 (e : EnvF P w K mg base cf p E G F ds dl) {L : Nat} (h : FnAll P w K mg base cf p E G F ds L) {d : Df} (hS : FnScope d.N d.ps (C8.fnScope d.st)) {A : Act} (hP : Pk p A) {A0 : Around} {outer : List Env} {s : Shared} {H : Hp} {Ex : XK} {f : Addr} {cdv : Value} {qual : Str}
    (hr : Room (3 * L + 2) (A0.deeper (envOfC qual (C8.fnScope d.st) s.heap.objs.size f cdv))) (hg : Grd (cf.gd d.f) A0) : Ctx0 cf p E (run F G L) G (3 * L) (kxOf cf d) (cxOf (L2.CX P w) P w K mg base d.N qual (C8.fnScope d.st) f cdv A0 outer s H Ex) (fun cls od _ H' => Ex cls od H') A where
  N := rfl
  nd := hS.nd
  sc := rfl
  kd := hS.kind
  fb := fun _ _ => rfl
  K := e.pK.symm.trans hP.K.symm
  KD := fun a q z => e.KD a q (by rw [← hP.KD]; exact z)
  calm := fun _ => rfl
  un := by
    have := hr.un
    show (A0.deeper _).units + 65 < cLine
    omega
  grd := hg
  tk := takes_of rfl rfl rfl rfl
  po := fun _ => passes_of rfl
  fr := fun _ => ⟨rfl, rfl⟩
  rm := fun _ => hr.mono (by omega)
  pk := fun _ => hP
  Ξ := fun _ => hP.Ξ
  AD := hP.AD
  fns := e.fns h
  fnv := e.fnv
  gls := e.gls
  bns := e.bns
  cls := e.cls
  atF := e.atF
  cK := hP.K
  cKD := hP.KD
/-- the context of a def that got a lambda -/
theorem EnvF.ctxC (e : EnvF P w K mg base cf p E G F ds dl) {L : Nat} (h : FnAll P w K mg base cf p E G F ds L) {d : Df} (hS : FnScope d.N d.ps (C8.fnScope d.st)) {A : Act} (hP : Pk p A) {a f0 : Addr} {Λ : List D → RC} {A0 : Around} {outer : List Env} {s : Shared} {H : Hp} {cdv : Value} {x : Str} (hps : d.ps = [x]) {qual : Str}
    (hr : Room 1 (A0.deeper (envOfC qual (C8.fnScope d.st) s.heap.objs.size a cdv))) (hg : Grd (cf.gd d.f) A0)
    (act : ∀ (Fx : Hp) (W : L2.WX) (pn : List (Addr × Obj)) (xe : Value → Shared → Prop) (p1 p2 : Pos), Sm A.F0 Fx → Takes ((cxOf C8.CX0 P w K mg base d.N qual (C8.fnScope d.st) a cdv A0 outer s H C8.E0).tr pn xe) W → PE ((cxOf C8.CX0 P w K mg base d.N qual (C8.fnScope d.st) a cdv A0 outer s H C8.E0).tr pn xe) (.Call (.Name x p1) [] [] p2) (tE E ((A.clo f0).at Fx) W (evA Λ 0))) :
    Ctx cf p E (run F G L) Λ G (3 * L) (kxClo cf d) (cxOf C8.CX0 P w K mg base d.N qual (C8.fnScope d.st) a cdv A0 outer s H C8.E0).nox NoW (A.clo f0) :=
  { toCtx0 :=
    { N := rfl
      nd := hS.nd
      sc := rfl
      kd := hS.kind
      fb := fun _ _ => rfl
      K := e.pK.symm.trans hP.K.symm
      KD := fun a q z => e.KD a q (by rw [← hP.KD]; exact z)
      calm := fun _ => rfl
      un := by
        have := hr.un
        show (A0.deeper _).units + 65 < cLine
        omega
      grd := hg
      tk := takesNo
      po := fun _ => PassesOwn.never
      fr := fun _ => ⟨rfl, rfl⟩
      rm := fun z => nomatch z
      pk := fun z => nomatch z
      Ξ := fun _ => hP.Ξ
      AD := hP.AD
      fns := e.fns h
      fnv := e.fnv
      gls := e.gls
      bns := e.bns
      cls := e.cls
      atF := e.atF
      cK := hP.K
      cKD := hP.KD }
    rsI := fun z => nomatch z
    rsM := fun z => nomatch z
    cl0 := fun b hb Fx W' pn xe p1 p2 sm tk => by
      have hb : d.ps.head? = some b := hb
      rw [hps] at hb
      cases hb
      exact act Fx W' pn xe p1 p2 sm tk
    cl := fun _ z => nomatch z
    lm := fun z => nomatch z
    at_ := fun z => nomatch z }
end
end Mp
end
section
set_option Elab.async false
set_option linter.all false
set_option maxRecDepth 100000
set_option maxHeartbeats 4000000
/-! MpFns: every def keeps its promise. -/
namespace Mp
open PySem PySem.Spec PyProof.Rows L2
section
variable {P : Program} {w : World} {K : PySem.W.Frag} {mg : Str → Option Value} {base : Heap} {cf : Cf} {p : PkC} {E : CE} {G : Ev} {F : Nat → Option Fn} {ds dl : List Df}
theorem noArgs_eq {a : Arguments} (h : noArgs a = true) : a = ⟨[], [], none, [], [], none, []⟩ := by
  unfold noArgs at h
  split at h
  · rfl
  · cases h
/-- what a def makes of the lambda that it gets -/
theorem EnvF.gives (e : EnvF P w K mg base cf p E G F ds dl) {L : Nat} (ih : ∀ m, m < L → FnAll P w K mg base cf p E G F ds m) {X : Cx} (hX : X.prog = P ∧ X.w = w ∧ X.K = K ∧ X.mg = mg ∧ X.base = base) (hr : Room 2 X.A) {d : Df} (hd : d ∈ dl) (hg : Grd (cf.gd d.f) X.A) {a : Str} (ha : d.ps = [a]) {g : Addr} {cdv : Value} {q : Str} :
    LamX.GivesTo X d.N d.x (C8.fnScope d.st) g cdv (C8.fnBody d.st) a q (TTc E p (run F G L d.f)) := by
  obtain ⟨rfl, rfl, rfl, rfl, rfl⟩ := hX
  obtain ⟨ok, ck, _⟩ := e.lok d hd
  cases L with
  | zero =>
    intro f c' s H Q tl act hc hT
    obtain ⟨A, s0, σ, ω, Λ, hP, sr, lo, qc⟩ := hT
    exact qc.elim
  | succ L =>
    have hn1 : d.fn.np = 1 := by rw [← ok.np, ha]; rfl
    have hns : d.fn.np ≤ d.fn.ns := by
      have z := congrArg List.length ok.sc.pre
      rw [List.length_take] at z
      rw [← ok.np, ← ok.ns]
      omega
    refine gives_of (fb := fun Λ => ex (run F G L) Λ G d.fn.body) (by rw [ok.ns]; omega) (fun Λ st => ?_) fun Λ s H A f hP act => ?_
    · rw [run_eq ok.Ff (by rw [hn1]; rfl) hns, ok.ns, hn1]
    · exact (all cf p E (run F G L) Λ G (3 * L) d.fn.body).b (e.ctxC (ih L (Nat.lt_succ_self L)) ok.sc hP ha (hr.deeper _) hg act) ck
/-- the context of a def, with all its rules -/
theorem EnvF.ctx (e : EnvF P w K mg base cf p E G F ds dl) {L : Nat} (ih : ∀ m, m ≤ L → FnAll P w K mg base cf p E G F ds m) {d : Df} (hok : DfOk K mg base p F d) {A : Act} (hP : Pk p A) {A0 : Around} {outer : List Env} {s : Shared} {H : Hp} {Ex : XK} {f : Addr} {cdv : Value}
    (hlam : d.lam = true → ∃ c Q, cdv = .ref c ∧ LamX.TabB base mg c Q ∧ (Q, d.x ++ (".<locals>." : Str) ++ ("<lambda>" : Str)) ∈ p.T ∧ ∀ q ∈ p.T, q.1 = Q → q.2 = d.x ++ (".<locals>." : Str) ++ ("<lambda>" : Str))
    (hr : Room (3 * L + 2) (A0.deeper (envOfC d.x (C8.fnScope d.st) s.heap.objs.size f cdv))) (hg : Grd (cf.gd d.f) A0) : Ctx cf p E (run F G L) noL G (3 * L) (kxOf cf d) (cxOf (L2.CX P w) P w K mg base d.N d.x (C8.fnScope d.st) f cdv A0 outer s H Ex) (fun cls od _ H' => Ex cls od H') A := by
  have c0 := e.ctx0 (ih L (Nat.le_refl L)) hok.sc hP (qual := d.x) (outer := outer) (Ex := Ex) (H := H) hr hg
  exact
  { toCtx0 := c0
    rsI := fun _ kk x h1 h2 hg hn ea fe q pos pos' he hs => by
      obtain ⟨fI, cc, cda, B, i, newId, bmB, sn, gn, T, h3, h4⟩ := e.rsI kk x h1 h2
      exact s_rais T h3 rfl c0.tk (hr.mono (by omega)) hg (e.cls kk x h1).1 (nmOk_ok hn).1 he hs h4 rfl rfl
    rsM := fun _ kk x h1 h2 hg hn m j q p2 pos pos' => by
      obtain ⟨B, newId, initId, bmB, T, h3, h4, h5, h6, h7⟩ := e.rsM kk x h1 h2
      exact s_raism T h3 rfl c0.tk hg (e.cls kk x h1).1 (nmOk_ok hn).1 h4 (raises_own h5 h6) h7 rfl
    cl0 := fun _ z => nomatch z
    cl := fun _ z => nomatch z
    lm := fun hl f' x hf hgd hgl hnm scope ps body q lpos pos fb hL hA hbody => by
      obtain ⟨d', hd', rfl, rfl⟩ := e.ln f' x hf
      obtain ⟨ok, ck, a, ha, hna⟩ := e.lok d' hd'
      obtain ⟨oc, od, dV, kV, doc, pm, an, cdv', ct, osl, lk, hcd, hb, _⟩ := ok.ex
      obtain ⟨c, Q, hcv, TB, hmT, hu⟩ := hlam hl
      obtain ⟨n1, n2, _⟩ := nmOk_ok hna
      have hA := noArgs_eq hA
      subst hA
      have hg' : Grd (cf.gd d'.f) (A0.deeper (envOfC d.x (C8.fnScope d.st) s.heap.objs.size f cdv)) := fun z => by
        rw [z] at hgd
        exact hg hgd
      have hS : FnScope d'.N [a] (C8.fnScope d'.st) := by rw [← ha]; exact ok.sc
      refine e_calll (r := run F G L d'.f) (fb := fb) (k := 3 * L) hP hgl ok.mgf ok.kp lk hcd (by rw [← ha]; exact hb) hS ?_ ?_ (e.gives (fun m hm => ih m (Nat.le_of_lt hm)) ⟨rfl, rfl, rfl, rfl, rfl⟩ (hr.mono (by omega)) hd' hg' ha) TB hcv hmT hu hr (LamX.lamS_by hL) rfl (fun _ _ _ _ _ => rfl) (fun A1 outer1 s1 H1 Ex1 f1 c1 A2 hP2 hr2 => hbody _ _ _ (c0.lam hP2 hr2 (LamX.lamS_by hL).kind)) (nmOk_ok hnm).1 n1 n2
      · have z := hS.pre
        cases hN : d'.N with
        | nil => rw [hN] at z; cases z
        | cons y r =>
          rw [hN] at z
          cases z
          rfl
      · rcases hS.par a List.mem_cons_self with z | z
        · exact .inl z
        · exact .inr (.inl z)
    at_ := fun z => nomatch z }
theorem EnvF.all (e : EnvF P w K mg base cf p E G F ds dl) : ∀ L, FnAll P w K mg base cf p E G F ds L := fun L => by
  induction L using Nat.strongRecOn with
  | _ L ih =>
    intro d hd A outer s H us vs Q Ex rm grd e0 r sp
    obtain ⟨A1, s1, σ1, ω1, xs, sr, hP, rl, qc⟩ := sp
    cases L with
    | zero => exact qc.elim
    | succ L =>
      obtain ⟨ok, ck⟩ := e.dok d hd
      obtain ⟨oc, od, dV, kV, doc, pm, an, cdv, ct, osl, lk, hcd, hb, hlam⟩ := ok.ex
      have hns : d.fn.np ≤ d.fn.ns := by
        have z := congrArg List.length ok.sc.pre
        rw [List.length_take] at z
        rw [← ok.np, ← ok.ns]
        omega
      by_cases hl : xs.length = d.fn.np
      · have hvl : vs.length = d.ps.length := by rw [rl.length, hl, ok.np]
        have hul : us.length = d.ps.length := by rw [← r.length]; exact hvl
        have KX : K.In s.heap := e0.mod.kin.keeps fun b o z => (e0.bs b o z).1
        have hbs := hb s us KX (by rw [List.append_nil]; exact hul)
        rw [List.append_nil] at hbs
        refine LamX.run_ofS (N := d.N) (ps := d.ps) (k := 3 * L + 2) lk hcd ok.sc (rm.mono (by omega)) e0 hbs r hvl fun hr' => ?_
        have c := e.ctx (fun m hm => ih m (Nat.lt_succ_of_le hm)) ok (hP.inn H ω1) (outer := outer) (Ex := Ex) (H := H) hlam hr' grd
        refine ⟨_, (Mp.all cf p E (run F G L) noL G (3 * L) d.fn.body).b c ck, ?_⟩
        have en := sr.enter rl (n := d.N.length) (by rw [hvl, ok.np, ok.ns]; exact hns)
        rw [run_eq ok.Ff hl hns] at qc
        have z := QC.body (n := d.N.length) sr qc
        rw [show L2.start d.N vs = vs.map some ++ List.replicate (d.N.length - vs.length) none from rfl]
        refine ⟨_, _, en, rfl, ?_⟩
        rw [ok.ns, hl] at *
        exact QSt.mono z fun fl s' _ k => k
      · rw [run_no ok.Ff hl] at qc
        exact qc.elim
end
end Mp
end
section
set_option Elab.async false
set_option linter.all false
set_option maxRecDepth 100000
set_option maxHeartbeats 4000000
/-! MpFac: the constants of the top, by a look at what stands there. -/
namespace Mp
open PySem PySem.Spec PyProof.Rows L2
/-- a dict of the top whose keys are ints: its entries -/
def entI (e : DictEntry) : Option (Int × Value) := match e.key with
  | .int i _ => if e.hash = hashInt i then some (i, e.val) else none
  | _ => none
def entsI : List DictEntry → Option (List (Int × Value))
  | [] => some []
  | e :: r => match entI e, entsI r with
    | some p, some ps => some (p :: ps)
    | _, _ => none
def relV : Value → Option V
  | .none => some .non
  | .bool b => some (.bl b)
  | .int i _ => some (.int i)
  | .str x _ => some (.str x)
  | .ref a => some (.ref a)
  | _ => none
theorem relV_ok {u : Value} {v : V} (h : relV u = some v) : RelV v u := by
  cases u <;> first | (cases h; done) | (cases h; first | rfl | exact ⟨_, rfl⟩)
def relVs : List (Int × Value) → Option (List (Key × V))
  | [] => some []
  | (i, u) :: r => match relV u, relVs r with
    | some v, some vs => some ((.inl i, v) :: vs)
    | _, _ => none
def kdOf (K : PySem.W.Frag) (a : Addr) : Option (List (Key × V)) := match K.lookup a with
  | some ⟨.type c, none, .dict es _, sl⟩ => if decide (c = "dict") && sl.isEmpty && !(a == sysModules) then
      (match entsI es.toList with
        | some ps => if decide ((ps.map (·.1)).Nodup) && Nat.ble ps.length 1000 then relVs ps else none
        | none => none) else none
  | _ => none
theorem ents_pairs {P : Program} {w : World} : ∀ {l : List DictEntry} {ps : List (Int × Value)}, entsI l = some ps → Pairs (mixKind P w) l (ps.map fun q => ((.inl q.1 : Key), q.2)) ∧ ∀ e ∈ l, ∃ k, (mixKind P w).is k e.key = true ∧ e.hash = (mixKind P w).hash k
  | [], ps, h => by cases h; exact ⟨.nil, fun _ z => nomatch z⟩
  | e :: r, ps, h => by
    have h : (match entI e, entsI r with | some p, some ps => some (p :: ps) | _, _ => none) = some ps := h
    cases h1 : entI e with
    | none => rw [h1] at h; cases h
    | some p =>
      cases h2 : entsI r with
      | none => rw [h1, h2] at h; cases h
      | some qs =>
        rw [h1, h2] at h
        cases h
        obtain ⟨g1, g2⟩ := ents_pairs (P := P) (w := w) h2
        have key : (mixKind P w).is (.inl p.1) e.key = true ∧ e.val = p.2 ∧ e.hash = hashInt p.1 := by
          unfold entI at h1
          split at h1
          · rename_i i t hk
            by_cases hh : e.hash = hashInt i
            · rw [if_pos hh] at h1
              cases h1
              rw [hk]
              exact ⟨mixKind_int P w i t, rfl, hh⟩
            · rw [if_neg hh] at h1
              cases h1
          · cases h1
        refine ⟨.cons key.1 key.2.1 g1, fun e' he => ?_⟩
        rcases List.mem_cons.mp he with rfl | he
        · exact ⟨.inl p.1, key.1, key.2.2⟩
        · exact g2 e' he
theorem relVs_ok : ∀ {ps : List (Int × Value)} {q : List (Key × V)}, relVs ps = some q → KV q (ps.map fun q => ((.inl q.1 : Key), q.2)) ∧ q.length = ps.length
  | [], q, h => by cases h; exact ⟨.nil, rfl⟩
  | (i, u) :: r, q, h => by
    have h : (match relV u, relVs r with | some v, some vs => some (((.inl i : Key), v) :: vs) | _, _ => none) = some q := h
    cases h1 : relV u with
    | none => rw [h1] at h; cases h
    | some v =>
      cases h2 : relVs r with
      | none => rw [h1, h2] at h; cases h
      | some vs =>
        rw [h1, h2] at h
        cases h
        obtain ⟨g1, g2⟩ := relVs_ok h2
        exact ⟨.cons ⟨rfl, relV_ok h1⟩ g1, by rw [List.length_cons, List.length_cons, g2]⟩
theorem kd_ok {K : PySem.W.Frag} {P : Program} {w : World} {a : Addr} {q : List (Key × V)} (h : kdOf K a = some q) (H : Hp) (hp : Heap) (hK : K.In hp) : ObjOk P w H hp a (.dK q) := by
  unfold kdOf at h
  split at h
  · rename_i c es n sl hl
    by_cases h1 : (decide (c = "dict") && sl.isEmpty && !(a == sysModules)) = true
    · rw [if_pos h1] at h
      simp only [Bool.and_eq_true, Bool.not_eq_true', decide_eq_true_eq] at h1
      obtain ⟨⟨rfl, h2⟩, h3⟩ := h1
      have h2 : sl = #[] := Array.isEmpty_iff.mp h2
      subst h2
      split at h
      · rename_i ps hps
        by_cases h4 : (decide ((ps.map (·.1)).Nodup) && Nat.ble ps.length 1000) = true
        · rw [if_pos h4] at h
          rw [Bool.and_eq_true] at h4
          obtain ⟨g1, g2⟩ := ents_pairs (P := P) (w := w) hps
          obtain ⟨k1, k2⟩ := relVs_ok h
          have hlen : ps.length ≤ 1000 := Nat.ble_eq.mp h4.2
          refine ⟨by rw [k2, sizeLine_eq]; omega, h3, _, k1, ?_⟩
          refine ⟨_, es, n, hK _ _ hl, ⟨rfl, rfl, rfl⟩, rfl, fun e he => g2 e (by simpa using he), g1, ?_⟩
          have nd : (ps.map (·.1)).Nodup := of_decide_eq_true h4.1
          rw [List.map_map]
          have e2 : ps.map ((fun x : Key × Value => x.1) ∘ fun q => ((.inl q.1 : Key), q.2)) = (ps.map (·.1)).map Sum.inl := by
            rw [List.map_map]
            rfl
          rw [e2]
          unfold List.Nodup
          rw [List.pairwise_map]
          exact nd.imp fun h e => h (Sum.inl.inj e)
        · rw [if_neg h4] at h
          cases h
      · cases h
    · rw [if_neg h1] at h
      cases h
  · cases h
/-! ### data of the top -/
def flatB (AD : Nat → Addr) : D → Value → Bool
  | .non, .none => true
  | .bl a, .bool b => a == b
  | .int i, .int j _ => decide (i = j)
  | .str x, .str y _ => decide (x = y)
  | .fn f, .ref a => decide (a = AD f)
  | _, _ => false
def viaV (r : D → Value → Bool) (d : D) (v : V) : Bool := match v with
  | .ref a => r d (.ref a)
  | .int j => (match d with | .int i => decide (i = j) | _ => false)
  | .str y => (match d with | .str x => decide (x = y) | _ => false)
  | .bl b => (match d with | .bl a => a == b | _ => false)
  | .non => (match d with | .non => true | _ => false)
  | _ => false
/-- the value u of the top stands for d -/
def repB (K : PySem.W.Frag) (AD : Nat → Addr) : Nat → D → Value → Bool
  | 0, d, u => flatB AD d u
  | n + 1, d, u => flatB AD d u || (match d, u with
    | .tup xs, .ref a => (match K.lookup a with
      | some ⟨.type c, none, .seq its _, _⟩ => decide (c = "tuple") && Nat.ble its.size 1000 && decide (xs.length = its.toList.length) && (xs.zip its.toList).all fun p => repB K AD n p.1 p.2
      | _ => false)
    | .gdc kvs, .ref a => (match kdOf K a with
      | some q => decide (kvs.length = q.length) && (kvs.zip q).all fun p => decide (keyOf p.1.1 = some p.2.1) && viaV (repB K AD n) p.1.2 p.2.2
      | none => false)
    | _, _ => false)
section
variable {K : PySem.W.Frag} {p : PkC}
/-- what stands for d under these constants -/
def Tp (K : PySem.W.Frag) (p : PkC) (d : D) (v : V) : Prop := ∀ (c : Cn) (F : Hp), c.K = K → c.AD = p.AD → c.KD = p.KD → Rp c F d v
theorem flat_ok {d : D} {u : Value} (h : flatB p.AD d u = true) : ∃ v, RelV v u ∧ Tp K p d v := by
  cases d <;> cases u <;> first | (cases h; done) | skip
  case non.none => exact ⟨.non, rfl, fun _ _ _ _ _ => Rp.n⟩
  case bl.bool a b =>
    have e : a = b := by
      have h : (a == b) = true := h
      simpa using h
    subst e
    exact ⟨.bl a, rfl, fun _ _ _ _ _ => Rp.b _⟩
  case int.int i j t =>
    have e : i = j := of_decide_eq_true h
    subst e
    exact ⟨.int i, ⟨t, rfl⟩, fun _ _ _ _ _ => Rp.i _⟩
  case str.str i j t =>
    have e : i = j := of_decide_eq_true h
    subst e
    exact ⟨.str i, ⟨t, rfl⟩, fun _ _ _ _ _ => Rp.s _⟩
  case fn.ref f a =>
    have e : a = p.AD f := of_decide_eq_true h
    subst e
    refine ⟨.ref (p.AD f), rfl, fun c F _ h2 _ => ?_⟩
    unfold Rp
    rw [h2]
theorem via_ok {r : D → Value → Bool} (hr : ∀ d u, r d u = true → ∃ v, RelV v u ∧ Tp K p d v) {d : D} {v : V} (h : viaV r d v = true) : Tp K p d v := by
  cases v with
  | ref a =>
    obtain ⟨v, rv, t⟩ := hr d (.ref a) h
    cases v <;> first | (cases rv; done) | skip
    all_goals first | (obtain ⟨_, z⟩ := rv; cases z; done) | skip
    all_goals first | (have z : Value.ref a = Value.ref _ := rv; cases z; exact t) | (have z : Value.ref a = _ := rv; cases z)
  | int j =>
    cases d <;> first | (cases h; done) | skip
    case int i =>
      have e : i = j := of_decide_eq_true h
      subst e
      exact fun _ _ _ _ _ => Rp.i _
  | str j =>
    cases d <;> first | (cases h; done) | skip
    case str i =>
      have e : i = j := of_decide_eq_true h
      subst e
      exact fun _ _ _ _ _ => Rp.s _
  | bl j =>
    cases d <;> first | (cases h; done) | skip
    case bl i =>
      have e : i = j := by
        have h : (i == j) = true := h
        simpa using h
      subst e
      exact fun _ _ _ _ _ => Rp.b _
  | non =>
    cases d <;> first | (cases h; done) | skip
    exact fun _ _ _ _ _ => Rp.n
  | _ => cases h
theorem reps_ok {r : D → Value → Bool} (hr : ∀ d u, r d u = true → ∃ v, RelV v u ∧ Tp K p d v) : ∀ {xs : List D} {us : List Value}, xs.length = us.length → (xs.zip us).all (fun q => r q.1 q.2) = true → ∃ vs, Vals vs us ∧ ∀ (c : Cn) (F : Hp), c.K = K → c.AD = p.AD → c.KD = p.KD → RpL c F xs vs
  | [], [], _, _ => ⟨[], .nil, fun _ _ _ _ _ => .nil⟩
  | x :: xs, u :: us, hl, h => by
    rw [List.zip_cons_cons, List.all_cons, Bool.and_eq_true] at h
    obtain ⟨v, rv, t⟩ := hr x u h.1
    obtain ⟨vs, rvs, ts⟩ := reps_ok hr (by simpa using hl) h.2
    exact ⟨v :: vs, .cons rv rvs, fun c F h1 h2 h3 => .cons (t c F h1 h2 h3) (ts c F h1 h2 h3)⟩
  | [], _ :: _, hl, _ => by cases hl
  | _ :: _, [], hl, _ => by cases hl
theorem repk_ok {r : D → Value → Bool} (hr : ∀ d u, r d u = true → ∃ v, RelV v u ∧ Tp K p d v) : ∀ {kvs : List (D × D)} {q : List (Key × V)}, kvs.length = q.length → (kvs.zip q).all (fun z => decide (keyOf z.1.1 = some z.2.1) && viaV r z.1.2 z.2.2) = true → ∀ (c : Cn) (F : Hp), c.K = K → c.AD = p.AD → c.KD = p.KD → RpK c F kvs q
  | [], [], _, _, c, F, _, _, _ => by unfold RpK; rfl
  | (k, d) :: kvs, (x, v) :: q, hl, h, c, F, h1, h2, h3 => by
    rw [List.zip_cons_cons, List.all_cons, Bool.and_eq_true, Bool.and_eq_true] at h
    unfold RpK
    exact ⟨x, v, q, rfl, of_decide_eq_true h.1.1, via_ok hr h.1.2 c F h1 h2 h3, repk_ok hr (by simpa using hl) h.2 c F h1 h2 h3⟩
  | [], _ :: _, hl, _, _, _, _, _, _ => by cases hl
  | _ :: _, [], hl, _, _, _, _, _, _ => by cases hl
theorem rep_ok (hKD : ∀ a q, kdOf K a = some q → p.KD a q) : ∀ (n : Nat) (d : D) (u : Value), repB K p.AD n d u = true → ∃ v, RelV v u ∧ Tp K p d v
  | 0, d, u, h => flat_ok h
  | n + 1, d, u, h => by
    have ih := rep_ok hKD n
    unfold repB at h
    rw [Bool.or_eq_true] at h
    rcases h with h | h
    · exact flat_ok h
    · split at h
      · rename_i xs a
        split at h
        · rename_i c its m sl hl
          simp only [Bool.and_eq_true] at h
          obtain ⟨⟨⟨h1, h2⟩, h3⟩, h4⟩ := h
          have e := of_decide_eq_true h1
          subst e
          obtain ⟨vs, rv, ts⟩ := reps_ok (p := p) ih (of_decide_eq_true h3) h4
          refine ⟨.ref a, rfl, fun c F e1 e2 e3 => ?_⟩
          unfold Rp
          exact ⟨a, vs, rfl, ⟨.inr ⟨_, its, m, by rw [e1]; exact hl, rfl, rfl, line_of (Nat.ble_eq.mpr (Nat.le_trans (Nat.ble_eq.mp h2) (by decide))), rv⟩, .inr ⟨_, by rw [e1]; exact hl, rfl⟩⟩, ts c F e1 e2 e3⟩
        · cases h
      · rename_i kvs a
        split at h
        · rename_i q hq
          rw [Bool.and_eq_true] at h
          refine ⟨.ref a, rfl, fun c F e1 e2 e3 => ?_⟩
          unfold Rp
          exact ⟨a, q, rfl, by rw [e3]; exact hKD a q hq, repk_ok ih (of_decide_eq_true h.1) h.2 c F e1 e2 e3⟩
        · cases h
      · cases h
end
end Mp
end
section
set_option Elab.async false
set_option linter.all false
set_option maxRecDepth 100000
set_option maxHeartbeats 4000000
/-! MpHk: what the head looks at. -/
namespace Mp
open PySem PySem.Spec PyProof.Rows L2
abbrev FnI : Type := Option (Str × Str × Arguments × FuncBody × Scope × Addr × List Str × Value × Addr)
/-- a class's __init__ -/
def iniObs (K : PySem.W.Frag) (x : Str) : FnI := match K.lookup (He.ma K (He.ga K x) "__init__") with
  | some ⟨_, _, .func fd, _⟩ => some (fd.name, fd.qualname, fd.params, fd.body, fd.scope, fd.globals, fd.closure.map (·.1), fd.defaults, fd.builtins)
  | _ => none
abbrev AlM : Type := He.AlX × List FnI
/-- what is looked at: the defs, the inits, the defs that make lambdas, a Bool -/
structure Lk where
  n : Nat
  fn : List He.DefD
  ins : List (Str × FnI)
  tf : List He.Defn
  ex : PySem.W.Frag → Bool
/-- those that are not seen yet; seen: a bit for each address -/
def addR : List Addr → Nat → List Addr → Nat × List Addr
  | [], seen, acc => (seen, acc)
  | b :: r, seen, acc => match Nat.beq (Nat.land (Nat.shiftRight seen b) 1) 1 with
    | true => addR r seen acc
    | false => HandSHeadRun.frNat (Nat.lor seen (Nat.shiftLeft 1 b)) fun s => addR r s (b :: acc)
def stepB (g : Addr → Option Obj) : List Addr → Nat → List Addr → Nat × List Addr
  | [], seen, acc => (seen, acc)
  | a :: r, seen, acc => match g a with
    | none => stepB g r seen acc
    | some o => match addR (He.refsD o) seen acc with
      | (s, c) => stepB g r s c
def bfs (g : Addr → Option Obj) : Nat → List Addr → Nat → List Addr
  | 0, _, _ => []
  | n + 1, fr, seen => match stepB g fr seen [] with
    | (s, c) => c ++ bfs g n c s
/-- what the names reach in n steps, and the interpreter's own statics -/
def asM (g : Addr → Option Obj) (n : Nat) : List Addr := mainGlobals :: (bfs g n [mainGlobals] (Nat.shiftLeft 1 mainGlobals) ++ [cStatics])
def obsM (fn : List He.DefD) (tf : List He.Defn) (ex : PySem.W.Frag → Bool) (g : Addr → Option Obj) (K : PySem.W.Frag) : He.AlX := (He.obsT [] fn [] K, ex K && He.tabsB g tf K)
theorem saysM_of {as : List Addr} {fn : List He.DefD} {tf : List He.Defn} {ex : PySem.W.Frag → Bool} {w : World} {h : Heap} (e : obsM fn tf ex h.get? (He.frT h.get? as) = He.valX fn [] w) : He.SaysX [] fn [] tf ex w h (He.frT h.get? as) := by
  have e1 : He.obsT [] fn [] (He.frT h.get? as) = He.valT fn [] w := congrArg (fun z : He.AlX => z.1) e
  have e2 : (ex (He.frT h.get? as) && He.tabsB h.get? tf (He.frT h.get? as)) = true := congrArg (fun z : He.AlX => z.2) e
  rw [Bool.and_eq_true] at e2
  obtain ⟨h1, h2⟩ := e2
  have key : ∀ p ∈ tf, PySem.W.codeHdIn (He.frT h.get? as) (He.cT (He.frT h.get? as) p).1 (He.cT (He.frT h.get? as) p).2 = true ∧ ∃ o, h.get? (He.cT (He.frT h.get? as) p).2 = some o ∧ He.emptyTab o = true := fun p hp => by
    have z := List.all_eq_true.mp h2 p hp
    rw [Bool.and_eq_true] at z
    obtain ⟨h3, h4⟩ := z
    refine ⟨h3, ?_⟩
    cases q : h.get? (He.cT (He.frT h.get? as) p).2 with
    | none =>
      rw [q] at h4
      cases h4
    | some o =>
      rw [q] at h4
      exact ⟨o, rfl, h4⟩
  exact ⟨e1, h1, fun p hp => (key p hp).1, fun p hp => by
    obtain ⟨_, o, q, z⟩ := key p hp
    exact He.frT_none q z, fun p hp => by
    obtain ⟨_, o, q, z⟩ := key p hp
    rw [q, He.emptyTab_eq z]⟩
def Lk.obs (l : Lk) (g : Addr → Option Obj) : AlM := (obsM l.fn l.tf l.ex g (He.frT g (asM g l.n)), l.ins.map fun q => iniObs (He.frT g (asM g l.n)) q.1)
def Lk.val (l : Lk) (w : World) : AlM := (He.valX l.fn [] w, l.ins.map (·.2))
structure Lk.Says (l : Lk) (w : World) (h : Heap) (K : PySem.W.Frag) : Prop where
  x : He.SaysX [] l.fn [] l.tf l.ex w h K
  ins : (l.ins.map fun q => iniObs K q.1) = l.ins.map (·.2)
def Lk.hook (l : Lk) : PySem.W.Hook where
  α := AlM
  obs := fun s => l.obs s.heap.get?
  val := fun w => l.val w
  says := fun w h => ∃ K : PySem.W.Frag, K.In h ∧ l.Says w h K
  of := fun _ s e => ⟨He.frT s.heap.get? (asM s.heap.get? l.n), He.frT_in, saysM_of (congrArg (fun z : AlM => z.1) e), congrArg (fun z : AlM => z.2) e⟩
  keeps := fun _ _ _ ⟨K, hK, c⟩ k => ⟨K, PySem.W.Frag.In.keeps hK k, ⟨⟨c.x.t, c.x.more, c.x.hd, c.x.out, fun p hp => k _ _ (c.x.empty p hp)⟩, c.ins⟩⟩
def Lk.ob (l : Lk) (s : PySem.W.SharedT) : AlM := l.obs (HandSHeadRun.getT s)
theorem Lk.ob_eq (l : Lk) (s : PySem.W.SharedT) : l.ob s = l.hook.obs s.abs := by
  have e : HandSHeadRun.getT s = s.abs.heap.get? := funext (HandSHeadRun.getT_eq s)
  show l.obs (HandSHeadRun.getT s) = l.obs s.abs.heap.get?
  rw [e]
end Mp
end
section
set_option Elab.async false
set_option linter.all false
set_option maxRecDepth 100000
set_option maxHeartbeats 4000000
/-! MpFct: all that is known of a text, from what the head has looked at. -/
namespace Mp
open PySem PySem.Spec PyProof.Rows L2
/-- the arguments of a def in a row -/
def BndOk (d : Df) : Prop := ∀ (kV doc pm : Value) (an : Option Addr) (cdv ct : Value) (us : List Value), us.length = d.ps.length → bindArgs (PySem.W.fnOf d.x d.x (C8.fnArgs d.st) (C8.fnBody d.st) (C8.fnScope d.st) .none kV doc pm an cdv ct) ⟨us, []⟩ = pure (d.ps.zip us)
def BndL : List Df → Prop
  | [] => True
  | d :: r => BndOk d ∧ BndL r
theorem BndL.mem : ∀ {l : List Df}, BndL l → ∀ d ∈ l, BndOk d
  | [], _, _, h => nomatch h
  | d :: r, ⟨h1, h2⟩, d', hd => by
    rcases List.mem_cons.mp hd with rfl | hd
    · exact h1
    · exact h2.mem d' hd
/-- a text's data -/
structure Sd where
  fnN : List (Nat × Str)
  lnN : List (Nat × Str)
  glN : List (Nat × Str)
  clN : List (Nat × Str)
  atN : List (Nat × Str)
  bn : List Str
  ini : List Nat
  gd : List Nat
  gls : List (Nat × D)
  sub : List (Nat × Nat)
  atr : List (Nat × Nat)
  fns : List (Nat × Fn)
  ds : List Df
  dl : List Df
  ks : List Nat
def Sd.cf (t : Sd) : Cf := ⟨fun f => t.fnN.lookup f, fun f => t.lnN.lookup f, fun g => t.glN.lookup g, t.bn, fun c => t.clN.lookup c, fun c => t.ini.contains c, fun a => t.atN.lookup a, fun f => t.gd.contains f⟩
def Sd.G (t : Sd) : Ev := ⟨fun g => t.gls.lookup g, fun a b => t.sub.contains (a, b), fun k => (t.atr.lookup k).getD 0, 100000, fun f => (t.fnN.lookup f).isSome && !t.gd.contains f⟩
def Sd.F (t : Sd) : Nat → Option Fn := fun f => t.fns.lookup f
def Sd.AD (t : Sd) (K : PySem.W.Frag) : Nat → Addr := fun f => He.ga K (((t.fnN ++ t.lnN).lookup f).getD Str.empty)
def Sd.CD (t : Sd) (K : PySem.W.Frag) : Nat → Addr := fun c => He.ga K ((t.clN.lookup c).getD Str.empty)
def Sd.AT (t : Sd) : Nat → Str := fun c => (t.atN.lookup (t.G.atr c)).getD Str.empty
def Sd.E (t : Sd) (K : PySem.W.Frag) : CE := ⟨t.CD K, t.AT, t.ks⟩
def dq (d : Df) : He.Defn := (d.x, none)
def lamQ (d : Df) : Str := d.x ++ (".<locals>." : Str) ++ ("<lambda>" : Str)
def Sd.tf (t : Sd) : List Df := t.ds.filter (·.lam)
def Sd.T (t : Sd) (K : PySem.W.Frag) : List (Addr × Str) := t.tf.map fun d => ((He.cT K (dq d)).2, lamQ d)
def Sd.p (t : Sd) (K : PySem.W.Frag) : PkC := ⟨K, t.AD K, fun a q => kdOf K a = some q, t.T K⟩
def Sd.fnD (t : Sd) : List He.DefD := (t.ds ++ t.dl).map fun d => ⟨dq d, d.x, d.x, C8.fnArgs d.st, C8.fnBody d.st, C8.fnScope d.st, [], []⟩
/-- what is asked of the text alone -/
def Sd.okB (t : Sd) : Bool :=
  t.fnN.all (fun q => t.ds.any fun d => decide (d.f = q.1) && decide (d.x = q.2)) && t.lnN.all (fun q => t.dl.any fun d => decide (d.f = q.1) && decide (d.x = q.2)) &&
  (t.ds ++ t.dl).all (fun d => decide ((t.fnN ++ t.lnN).lookup d.f = some d.x) && C8.scC d.N d.ps (C8.fnScope d.st) && decide (d.N.length = d.fn.ns) && decide (d.ps.length = d.fn.np)) &&
  t.ds.all (fun d => ckSs t.cf d.fn.body (kxOf t.cf d) (C8.fnBody d.st)) &&
  t.dl.all (fun d => ckSs t.cf d.fn.body (kxClo t.cf d) (C8.fnBody d.st) && (match d.ps with | [a] => nmOk a | _ => false) && !d.lam)
/-- the tables of the defs' code objects stand apart -/
def Sd.dstB (t : Sd) (K : PySem.W.Frag) : Bool := t.tf.all fun d => t.tf.all fun e => decide (lamQ e = lamQ d) || !decide ((He.cT K (dq e)).2 = (He.cT K (dq d)).2)
/-- .. of what stands behind the top -/
def Sd.exB (t : Sd) (K : PySem.W.Frag) : Bool :=
  t.dstB K &&
  (t.ds ++ t.dl).all (fun d => He.eqO (PySem.W.nsIn K mainGlobals d.x) (some (some (.ref (He.ga K d.x))))) &&
  t.gls.all (fun q => match t.glN.lookup q.1 with
    | none => true
    | some x => (match PySem.W.nsIn K mainGlobals x with | some (some u) => repB K (t.AD K) 6 q.2 u | _ => false)) &&
  t.bn.all (fun x => He.eqO (PySem.W.nsIn K mainGlobals x) (some none)) &&
  t.clN.all (fun q => He.eqO (PySem.W.nsIn K mainGlobals q.2) (some (some (.ref (He.ga K q.2)))) && decide (t.CD K q.1 = He.ga K q.2) && t.ks.all fun kk => decide (PySem.W.exmOne K (.ref (t.CD K kk)) (.ref (He.ga K q.2)) = some (t.G.sub kk q.1))) &&
  t.atN.all (fun q => t.ks.all fun kk => !decide (t.G.atr kk = q.1) || (He.eqO (PySem.W.findIn K (.ref (t.CD K kk)) "__getattribute__") (some (some (.builtin "BaseException.__getattribute__"))) && He.eqO (PySem.W.findIn K (.ref (t.CD K kk)) "__getattr__") (some none) &&
    decide (PySem.W.subIn K (.ref (t.CD K kk)) (.type "BaseException") = some true) && PySem.W.hasDictIn K (t.CD K kk) && He.eqO (PySem.W.findIn K (.ref (t.CD K kk)) q.2) (some none) && decide (t.AT kk = q.2))) &&
  t.clN.all (fun q => t.ini.contains q.1 || (PySem.W.excIn K (t.CD K q.1) He.veBase "ValueError.__new__" && PySem.W.keepIn K (.ref (t.CD K q.1)) && decide (PySem.W.subIn K (.ref (t.CD K q.1)) (.type "BaseException") = some true) && decide (PySem.W.typeIn K (.ref (t.CD K q.1)) = some (.type "type")) && decide (q.1 ∈ t.ks)))
theorem mem_of_lookup2 {β : Type} : ∀ {l : List (Nat × β)} {a : Nat} {b : β}, l.lookup a = some b → (a, b) ∈ l
  | (c, d) :: r, a, b, h => by
    rw [List.lookup_cons] at h
    cases e : a == c with
    | true =>
      rw [e] at h
      cases h
      rw [beq_iff_eq.mp e]
      exact List.mem_cons_self
    | false =>
      rw [e] at h
      exact List.mem_cons_of_mem _ (mem_of_lookup2 h)
section
variable {t : Sd} {P : Program} {w : World} {K : PySem.W.Frag} {mg : Str → Option Value} {base h : Heap}
/-- the defs whose lambdas have tables -/
def Sd.cs (t : Sd) (K : PySem.W.Frag) : List (Addr × Addr) := t.tf.map fun d => He.cT K (dq d)
theorem Sd.env (hst : t.okB = true) (hb : BndL (t.ds ++ t.dl)) (hF : ∀ d ∈ t.ds ++ t.dl, t.F d.f = some d.fn) (hex : t.exB K = true) (hD : He.SaysD [] t.fnD K) (KX : K.In h) (hG : h.Ns mainGlobals mg)
    (hI : ∀ kk x, t.clN.lookup kk = some x → t.ini.contains kk = true → ∃ fI cc cda B i newId bmB sn gn, Ini P K (t.CD K kk) fI cc cda B i newId bmB sn gn (t.AT kk) ∧ mg "super" = none ∧ kk ∈ t.ks)
    (TB : ∀ q ∈ t.cs K, LamX.TabB base mg q.1 q.2) : EnvF P w K mg base t.cf (t.p K) (t.E K) t.G t.F t.ds t.dl := by
  unfold Sd.okB at hst
  unfold Sd.exB at hex
  simp only [Bool.and_eq_true] at hst hex
  obtain ⟨⟨⟨⟨s1, s2⟩, s3⟩, s4⟩, s5⟩ := hst
  obtain ⟨⟨⟨⟨⟨⟨x0, x1⟩, x2⟩, x3⟩, x4⟩, x5⟩, x6⟩ := hex
  have dok : ∀ d ∈ t.ds ++ t.dl, DfOk K mg base (t.p K) t.F d := fun d hd => by
    have z := List.all_eq_true.mp s3 d hd
    simp only [Bool.and_eq_true] at z
    obtain ⟨⟨⟨z1, z2⟩, z3⟩, z4⟩ := z
    have z1 := of_decide_eq_true z1
    have eAD : (t.p K).AD d.f = He.ga K d.x := by
      show He.ga K (((t.fnN ++ t.lnN).lookup d.f).getD Str.empty) = _
      rw [z1]
      rfl
    obtain ⟨fd, FD⟩ := hD.defs (d := ⟨dq d, d.x, d.x, C8.fnArgs d.st, C8.fnBody d.st, C8.fnScope d.st, [], []⟩) (List.mem_map.mpr ⟨d, hd, rfl⟩)
    have FD : FunD K d.x d.x (C8.fnArgs d.st) (C8.fnBody d.st) (C8.fnScope d.st) [] [] (He.ga K d.x) fd := FD
    obtain ⟨oc, od, dV, kV, doc, pm, an, cdv, ct, osl, rfl, lk, hcd, hdv, hkv⟩ := FD.ex
    have edV : dV = .none := by
      rcases hdv with ⟨_, e⟩ | ⟨e, _⟩
      · exact e
      · exact (e rfl).elim
    subst edV
    refine ⟨⟨oc, od, .none, kV, doc, pm, an, cdv, ct, osl, by rw [eAD]; exact lk, hcd, Binds.all fun us hu => hb.mem d hd kV doc pm an cdv ct us hu, fun hl => ?_⟩, by rw [eAD]; exact PySem.W.mg_of KX hG (He.eqO_ok (List.all_eq_true.mp x1 d hd)), by rw [eAD]; exact FD.kp, C8.fnScope_by z2, of_decide_eq_true z3, of_decide_eq_true z4, hF d hd⟩
    obtain ⟨c, rfl⟩ := He.codeIn_ref hcd
    have hin : d ∈ t.tf := by
      refine List.mem_filter.mpr ⟨?_, hl⟩
      rcases List.mem_append.mp hd with z | z
      · exact z
      · have y := List.all_eq_true.mp s5 d z
        simp only [Bool.and_eq_true, Bool.not_eq_true'] at y
        rw [y.2] at hl
        cases hl
    have ec : He.codeOf K (dq d) = c := He.codeOf_eq (p := dq d) lk rfl
    have e1 : He.cT K (dq d) = (c, (He.cT K (dq d)).2) := Prod.ext ec rfl
    have tb := TB (He.cT K (dq d)) (List.mem_map.mpr ⟨d, hin, rfl⟩)
    rw [e1] at tb
    refine ⟨c, (He.cT K (dq d)).2, rfl, tb, List.mem_map.mpr ⟨d, hin, rfl⟩, fun q hq eq => ?_⟩
    obtain ⟨d', hd', rfl⟩ := List.mem_map.mp hq
    have z := List.all_eq_true.mp (List.all_eq_true.mp x0 d hin) d' hd'
    rw [Bool.or_eq_true] at z
    rcases z with z | z
    · exact of_decide_eq_true z
    · rw [decide_eq_true (show (He.cT K (dq d')).2 = (He.cT K (dq d)).2 from eq)] at z
      cases z
  refine ⟨rfl, trivial, fun a q z H hp hK => kd_ok z H hp hK, fun f x z => ?_, fun f x z => ?_, fun d hd => ⟨dok d (List.mem_append_left _ hd), List.all_eq_true.mp s4 d hd⟩, fun d hd => ?_, fun g z => ?_, fun g x d z1 z2 => ?_, fun x hx => PySem.W.mg_none_of KX hG (He.eqO_ok (List.all_eq_true.mp x3 x hx)), fun c x z => ?_, fun nm x z kk hk e => ?_, fun kk x z1 z2 => hI kk x z1 z2, fun kk x z1 z2 => ?_⟩
  · have y := List.all_eq_true.mp s1 _ (mem_of_lookup2 z)
    obtain ⟨d, hd, e⟩ := List.any_eq_true.mp y
    rw [Bool.and_eq_true] at e
    exact ⟨d, hd, of_decide_eq_true e.1, of_decide_eq_true e.2⟩
  · have y := List.all_eq_true.mp s2 _ (mem_of_lookup2 z)
    obtain ⟨d, hd, e⟩ := List.any_eq_true.mp y
    rw [Bool.and_eq_true] at e
    exact ⟨d, hd, of_decide_eq_true e.1, of_decide_eq_true e.2⟩
  · have y := List.all_eq_true.mp s5 d hd
    simp only [Bool.and_eq_true] at y
    refine ⟨dok d (List.mem_append_right _ hd), y.1.1, ?_⟩
    have y2 := y.1.2
    split at y2
    · rename_i a ha
      exact ⟨a, ha, y2⟩
    · cases y2
  · have z : ((t.fnN.lookup g).isSome && !t.gd.contains g) = true := z
    rw [Bool.and_eq_true, Bool.not_eq_true'] at z
    obtain ⟨x, hx⟩ := Option.isSome_iff_exists.mp z.1
    exact ⟨x, hx, z.2⟩
  · have y := List.all_eq_true.mp x2 _ (mem_of_lookup2 (show t.gls.lookup g = some d from z2))
    dsimp only at y
    rw [show t.glN.lookup g = some x from z1] at y
    dsimp only at y
    split at y
    · rename_i u hu
      obtain ⟨v, rv, tv⟩ := rep_ok (p := t.p K) (fun _ _ z => z) 6 d u y
      exact ⟨u, v, PySem.W.mg_of KX hG hu, rv, fun c F e1 e2 e3 => tv c F e1 e2 e3⟩
    · cases y
  · have y := List.all_eq_true.mp x4 _ (mem_of_lookup2 z)
    simp only [Bool.and_eq_true] at y
    obtain ⟨⟨y1, y2⟩, y3⟩ := y
    have y2 := of_decide_eq_true y2
    refine ⟨?_, fun kk hk => ?_⟩
    · show mg x = some (.ref (t.CD K c))
      rw [y2]
      exact PySem.W.mg_of KX hG (He.eqO_ok y1)
    · show PySem.W.exmOne K (.ref (t.CD K kk)) (.ref (t.CD K c)) = _
      rw [y2]
      exact of_decide_eq_true (List.all_eq_true.mp y3 kk hk)
  · have y := List.all_eq_true.mp (List.all_eq_true.mp x5 _ (mem_of_lookup2 z)) kk hk
    rw [Bool.or_eq_true] at y
    rcases y with y | y
    · rw [decide_eq_true e] at y
      cases y
    · simp only [Bool.and_eq_true] at y
      obtain ⟨⟨⟨⟨⟨y1, y2⟩, y3⟩, y4⟩, y5⟩, y6⟩ := y
      exact ⟨⟨He.eqO_ok y1, He.eqO_ok y2, of_decide_eq_true y3, y4⟩, He.eqO_ok y5, of_decide_eq_true y6⟩
  · have y := List.all_eq_true.mp x6 _ (mem_of_lookup2 z1)
    rw [Bool.or_eq_true] at y
    rcases y with y | y
    · have z2 : t.ini.contains kk = false := z2
      rw [z2] at y
      cases y
    · simp only [Bool.and_eq_true] at y
      obtain ⟨⟨⟨⟨y1, y2⟩, y3⟩, y4⟩, y5⟩ := y
      exact ⟨_, _, _, _, PySem.F.excBase_ValueError, y1, y2, of_decide_eq_true y3, of_decide_eq_true y4, of_decide_eq_true y5⟩
end
end Mp
end
section
set_option Elab.async false
set_option linter.all false
set_option maxRecDepth 100000
set_option maxHeartbeats 4000000
/-! MpInB: an own exception with an __init__, by a look. -/
namespace Mp
open PySem PySem.Spec PyProof.Rows L2
/-- the built-in class right above -/
inductive XB where
  | ve | ie | oe | ae
def XB.B : XB → String | .ve => "ValueError" | .ie => "IndexError" | .oe => "OverflowError" | .ae => "ArithmeticError"
def XB.i : XB → String | .ve => "ValueError.__init__" | .ie => "IndexError.__init__" | .oe => "OverflowError.__init__" | .ae => "ArithmeticError.__init__"
def XB.nw : XB → String | .ve => "ValueError.__new__" | .ie => "IndexError.__new__" | .oe => "OverflowError.__new__" | .ae => "ArithmeticError.__new__"
def XB.bm : XB → List Value
  | .ve => [.type "ValueError", .type "Exception", .type "BaseException", .type "object"]
  | .ie => [.type "IndexError", .type "LookupError", .type "Exception", .type "BaseException", .type "object"]
  | .oe => [.type "OverflowError", .type "ArithmeticError", .type "Exception", .type "BaseException", .type "object"]
  | .ae => [.type "ArithmeticError", .type "Exception", .type "BaseException", .type "object"]
theorem XB.KF : ∀ b : XB, PySem.W.KxsFacts b.B b.i
  | .ve => PySem.W.kxs_ValueError | .ie => PySem.W.kxs_IndexError | .oe => PySem.W.kxs_OverflowError | .ae => PySem.W.kxs_ArithmeticError
theorem XB.FB : ∀ b : XB, ExcBaseFacts b.B b.nw b.i b.bm
  | .ve => PySem.F.excBase_ValueError | .ie => PySem.F.excBase_IndexError | .oe => PySem.F.excBase_OverflowError | .ae => PySem.F.excBase_ArithmeticError
theorem XB.SF : ∀ b : XB, StoreFacts b.B b.bm "object.__setattr__" "object"
  | .ve => PySem.F.store_ValueError | .ie => PySem.F.store_IndexError | .oe => PySem.F.store_OverflowError | .ae => PySem.F.store_ArithmeticError
/-- an own exception's __init__: the class, the text's def -/
structure Xd where
  b : XB
  kk : Nat
  x : Str
  st : Stmt
  sn : Str
  gn : Str
  f : Str
def Xd.obs (d : Xd) : Str × FnI := (d.x, some ("__init__", d.x ++ (".__init__" : Str), C8.fnArgs d.st, .stmts (C8.fnBody d.st), C8.fnScope d.st, mainGlobals, [("__class__" : Str)], .none, builtinsNs))
/-- the text alone -/
def Xd.stB (d : Xd) : Bool :=
  (match C8.fnBody d.st with
    | [.Expr (.Call (.Attribute (.Call (.Name a _) [] [] _) b p2) [.Name g _] [] p4) _, .Assign [.Attribute (.Name s _) f _] (.Name g2 _) _] => decide (a = "super") && decide (b = "__init__") && decide (g = d.gn) && decide (s = d.sn) && decide (f = d.f) && decide (g2 = d.gn) && (p2.endLine == p4.line)
    | _ => false) &&
  (match ((C8.fnArgs d.st).posonlyargs ++ (C8.fnArgs d.st).args).head? with | some ar => decide (ar.arg = d.sn) | none => false) &&
  decide ((C8.fnScope d.st).kind = .function) && !(C8.fnScope d.st).isCoroutine && !(C8.fnScope d.st).isGenerator && (C8.fnScope d.st).names.all (fun y => !decide (y.2 = .cell)) &&
  decide ((C8.fnScope d.st).names.lookup d.sn = some .local) && decide ((C8.fnScope d.st).names.lookup d.gn = some .local) && decide ((C8.fnScope d.st).names.lookup ("super" : Str) = some .globalImplicit) && decide ((C8.fnScope d.st).names.lookup ("__class__" : Str) = some .free) &&
  !(d.sn == d.gn) && nmOk d.sn && nmOk d.gn
def Xd.BndOk (d : Xd) : Prop := ∀ (kV doc pm : Value) (an : Option Addr) (cdv ct : Value) (cc : Addr) (u v : Value), bindArgs (PySem.W.ksFn "__init__" (d.x ++ (".__init__" : Str)) (C8.fnArgs d.st) (C8.fnBody d.st) (C8.fnScope d.st) .none kV doc pm an cdv ct cc) ⟨[u, v], []⟩ = pure [(d.sn, u), (d.gn, v)]
/-- what stands behind the top -/
def Xd.exB (P : Program) (K : PySem.W.Frag) (C : Addr) (d : Xd) : Bool :=
  decide (C = He.ga K d.x) &&
  (match K.lookup (He.ma K C "__init__") with
    | some ⟨_, _, .func fd, _⟩ => PySem.W.codeIn K fd.code (d.x ++ (".__init__" : Str)) &&
      (match fd.code with
        | .ref cda => (match K.lookup cda with
          | some ⟨_, _, .fields vs, _⟩ => (match vs[2]? with | some (Value.str file _) => ((P.main.file : Str) == file) | _ => false)
          | _ => false)
        | _ => false) &&
      (match fd.closure with
        | [(_, cc)] => (match K.lookup cc with | some ⟨_, _, .cell (some (.ref C')), _⟩ => decide (C' = C) | _ => false)
        | _ => false)
    | _ => false) &&
  (PySem.W.clsIn K C).isSome && He.eqO (PySem.W.findIn K (.ref C) "__init__") (some (some (.ref (He.ma K C "__init__")))) && decide (PySem.W.typeIn K (.ref (He.ma K C "__init__")) = some (.type "function")) && PySem.W.excInitIn K C d.b.bm d.b.nw &&
  He.eqO (PySem.W.ks_superIn K C C "__init__") (some (some (.builtin d.b.i))) && He.eqO (PySem.W.nsIn K cStatics "thirdparty.any") (some none) && decide (PySem.W.subIn K (.ref C) (.type d.b.B) = some true) && decide (PySem.W.mroIn K C (.ref C) = some true) &&
  He.eqO (PySem.W.findIn K (.ref C) "__setattr__") (some (some (.builtin "object.__setattr__"))) && PySem.W.excOver K C d.b.bm && decide (PySem.W.takerIn K C d.f = some none) && PySem.W.hasDictIn K C && !(P.main.scope.names.lookup ("super" : Str)).isSome &&
  decide (PySem.W.subIn K (.ref C) (.type "BaseException") = some true) && decide (PySem.W.typeIn K (.ref C) = some (.type "type")) && PySem.W.keepIn K (.ref C)
theorem Xd.ini {P : Program} {K : PySem.W.Frag} {d : Xd} {C : Addr} (h1 : d.stB = true) (h2 : d.exB P K C = true) (hb : d.BndOk) (ho : iniObs K d.x = d.obs.2) : ∃ fI cc cda, Ini P K C fI cc cda d.b.B d.b.i d.b.nw d.b.bm d.sn d.gn d.f := by
  unfold Xd.stB at h1
  unfold Xd.exB at h2
  simp only [Bool.and_eq_true, Bool.not_eq_true'] at h1 h2
  obtain ⟨⟨⟨⟨⟨⟨⟨⟨⟨⟨⟨⟨a1, a2⟩, a3⟩, a4⟩, a5⟩, a6⟩, a7⟩, a8⟩, a9⟩, a10⟩, a11⟩, a12⟩, a13⟩ := h1
  obtain ⟨⟨⟨⟨⟨⟨⟨⟨⟨⟨⟨⟨⟨⟨⟨⟨⟨b0, b1⟩, b2⟩, b3⟩, b4⟩, b5⟩, b6⟩, b7⟩, b8⟩, b9⟩, b10⟩, b11⟩, b12⟩, b13⟩, b14⟩, b15⟩, b16⟩, b17⟩ := h2
  have b0 := of_decide_eq_true b0
  subst b0
  unfold iniObs at ho
  split at b1
  · rename_i oc od fd osl hl
    rw [hl] at ho
    simp only [Bool.and_eq_true] at b1
    obtain ⟨⟨c1, c2⟩, c3⟩ := b1
    obtain ⟨n1, n2, n3, n4, n5, n6, n7, n8, n9, n10, n11, n12, n13, n14, n15⟩ := fd
    have ho : (some (n1, n2, n3, n4, n5, n6, n7.map (·.1), n8, n15) : FnI) = some (("__init__" : Str), d.x ++ (".__init__" : Str), C8.fnArgs d.st, FuncBody.stmts (C8.fnBody d.st), C8.fnScope d.st, mainGlobals, [("__class__" : Str)], Value.none, builtinsNs) := ho
    simp only [Option.some.injEq, Prod.mk.injEq] at ho
    obtain ⟨e1, e2, e3, e4, e5, e6, e7, e8, e9⟩ := ho
    subst e1 e2 e3 e4 e5 e6 e8 e9
    cases n13 with
    | ref cda =>
      cases n7 with
      | nil => simp at e7
      | cons q r =>
        cases r with
        | cons => simp at e7
        | nil =>
          obtain ⟨qn, cc⟩ := q
          simp only [List.map_cons, List.map_nil, List.cons.injEq, and_true] at e7
          subst e7
          refine ⟨He.ma K (He.ga K d.x) "__init__", cc, cda, ?_⟩
          have cde : ∃ (ccl : Value) (cdd : Option Addr) (vs : Array Value) (ccs : Array (Option Value)) (file : PySem.Str) (tf : Tok), K.lookup cda = some ⟨ccl, cdd, .fields vs, ccs⟩ ∧ vs[2]? = some (.str file tf) ∧ ((P.main.file : PySem.Str) == file) = true := by
            dsimp only at c2
            split at c2
            · rename_i ccl cdd vs ccs hk
              split at c2
              · rename_i file tf hv
                exact ⟨ccl, cdd, vs, ccs, file, tf, hk, hv, c2⟩
              · cases c2
            · cases c2
          have cel : ∃ (cl : Value) (cld : Option Addr) (csl : Array (Option Value)), K.lookup cc = some ⟨cl, cld, .cell (some (.ref (He.ga K d.x))), csl⟩ := by
            dsimp only at c3
            split at c3
            · rename_i cl cld C' csl hk
              have e := of_decide_eq_true c3
              subst e
              exact ⟨cl, cld, csl, hk⟩
            · cases c3
          obtain ⟨cd, hcd⟩ := Option.isSome_iff_exists.mp b2
          obtain ⟨ar, har, has⟩ : ∃ ar, ((C8.fnArgs d.st).posonlyargs ++ (C8.fnArgs d.st).args).head? = some ar ∧ ar.arg = d.sn := by
            split at a2
            · rename_i ar har
              exact ⟨ar, har, of_decide_eq_true a2⟩
            · cases a2
          split at a1
          · rename_i hbody
            simp only [Bool.and_eq_true, decide_eq_true_eq] at a1
            obtain ⟨⟨⟨⟨⟨⟨d1, d2⟩, d3⟩, d4⟩, d5⟩, d6⟩, d7⟩ := a1
            subst d1 d2 d3 d4 d5 d6
            obtain ⟨m1, m2, _⟩ := nmOk_ok a12
            obtain ⟨m3, m4, _⟩ := nmOk_ok a13
            exact
            { KF := d.b.KF
              FB := d.b.FB
              SF := d.b.SF
              fn := ⟨oc, od, "__init__", d.x ++ (".__init__" : Str), C8.fnArgs d.st, C8.fnBody d.st, C8.fnScope d.st, .none, n9, n10, n11, n14, n12, osl, ar, _, _, _, _, _, _, _, _, _, _, hl, c1, hbody, har, has, fun u v => hb _ _ _ _ _ _ _ u v, of_decide_eq_true a3, a4, a5, fun y hy => by
                  have z := List.all_eq_true.mp a6 y hy
                  simpa using z, of_decide_eq_true a7, of_decide_eq_true a8, of_decide_eq_true a9, of_decide_eq_true a10, d7⟩
              code := cde
              cell := cel
              cls := ⟨cd, hcd⟩
              nsg := a11
              nd := ⟨m1, m3, m2, m4⟩
              init := He.eqO_ok b3
              tyI := of_decide_eq_true b4
              exc := b5
              sup := He.eqO_ok b6
              opq := He.eqO_ok b7
              sub := of_decide_eq_true b8
              mro := of_decide_eq_true b9
              sta := He.eqO_ok b10
              ovr := b11
              tak := of_decide_eq_true b12
              hdc := b13
              top := b14
              be := of_decide_eq_true b15
              tyC := of_decide_eq_true b16
              kC := b17 }
          · cases a1
    | _ => cases c1
  · cases b1
end Mp
end
section
set_option Elab.async false
set_option linter.all false
set_option maxRecDepth 100000
set_option maxHeartbeats 4000000
/-! MpEnd: the law's own call, from the claim's caller. -/
namespace Mp
open PySem PySem.Spec PyProof.Rows L2
theorem cx_no {P : Program} {w : World} {outer : List Env} {H : Hp} {s : Shared} {e : Value} {s' : Shared} (h : L2.CX P w outer H s (fun _ _ _ => False) e s') : False := by
  obtain ⟨_, _, _, _, _, _, _, _, _, _, _, _, z⟩ := h
  exact z
section
variable {P : Program} {w : World} {K : PySem.W.Frag} {mg mb : Str → Option Value} {n : Nat} {fa a : Addr} {cs : List (Addr × Addr)} {sp : Sp} {t : Shared} {vs : List Value} {ns : List Int}
/-- what is tracked when the law starts: its script, the tables -/
def H1 (a : Addr) (cs : List (Addr × Addr)) (vs : List Value) (ns : List Int) : Hp := fun b => if b = a then some (.frz { cls := .type "list", data := .seq vs.toArray } (.lst (ns.map V.int))) else if b ∈ cs.map (·.2) then some (.tbl #[]) else none
theorem law_go (KX : K.In t.heap) (hns : t.heap.Ns mainGlobals mg) (hb : t.heap.Ns builtinsNs mb) (hbb : ∀ x : Str, x ≠ "__name__" → mb x = bootBuiltins x) (hlim : t.heap.NoLimit) (hg : t.gens = #[])
    (hT : ∀ q ∈ cs, t.heap.get? q.2 = some { cls := .none, data := .fields #[] }) (nT : ∀ q ∈ cs, K.lookup q.2 = none) (hC : ∀ q ∈ cs, PySem.W.codeHdIn K q.1 q.2 = true)
    (hbm : ∃ (bm : Addr) (ob : Obj), mg "__builtins__" = some (.ref bm) ∧ bm ≠ builtinsNs ∧ t.heap.get? bm = some ob ∧ ob.cls = .type "module" ∧ ob.dict = some builtinsNs ∧ ob.data = .plain)
    (ha : t.heap.get? a = some { cls := .type "list", data := .seq vs.toArray }) (hi : IntsAre vs ns) (hl : ns.length ≤ sizeLine) (nK : K.lookup a = none) (hr : Room n callerA)
    (F : ∀ base : Heap, K.In base → base.Ns mainGlobals mg → (∀ q ∈ cs, LamX.TabB base mg q.1 q.2) → FnG P w K mg base true n fa sp)
    (hsp : (∀ q ∈ cs, q.2 ≠ a) → sp [.ref a] (H1 a cs vs ns) (fun v _ => v = .bl true) fun _ _ _ => False) :
    codeAny (model P w) callerA (.call (.ref fa) ⟨[.ref a], []⟩) (fun r s' => r = .ok (.ret (.bool true)) ∧ OldK t.heap s'.heap ∧ s'.os = t.os ∧ AllBare s'.gens) t := by
  have atA : H1 a cs vs ns a = some (.frz { cls := .type "list", data := .seq vs.toArray } (.lst (ns.map V.int))) := if_pos rfl
  have tabs : ∀ b, b ∈ cs.map (·.2) → t.heap.get? b = some { cls := .none, data := .fields #[] } := fun b m => by
    obtain ⟨q, hq, rfl⟩ := List.mem_map.mp m
    exact hT q hq
  have aT : ∀ q ∈ cs, q.2 ≠ a := fun q hq z => by
    have e := hT q hq
    rw [z, ha] at e
    have e := congrArg Obj.data (Option.some.inj e)
    cases e
  have atT : ∀ b, b ∈ cs.map (·.2) → H1 a cs vs ns b = some (.tbl #[]) := fun b m => by
    obtain ⟨q, hq, rfl⟩ := List.mem_map.mp m
    exact (if_neg (aT q hq)).trans (if_pos (List.mem_map.mpr ⟨q, hq, rfl⟩))
  have other : ∀ b, b ≠ a → b ∉ cs.map (·.2) → H1 a cs vs ns b = none := fun b h1 h2 => (if_neg h1).trans (if_neg h2)
  have keep : ∀ {b : Addr} {o : Obj}, t.heap.get? b = some o → (∀ xs m, o.data ≠ .seq xs m) → o.data ≠ .fields #[] → (hidT t.heap (H1 a cs vs ns)).get? b = some o := fun {b o} e h1 h2 => by
    refine hidT_get e (other b (fun z => ?_) fun m => ?_)
    · rw [z, ha] at e
      cases e
      exact h1 _ _ rfl
    · rw [tabs b m] at e
      cases e
      exact h2 rfl
  have keepN : ∀ {b : Addr} {m : Str → Option Value}, t.heap.Ns b m → (hidT t.heap (H1 a cs vs ns)).Ns b m := fun {b m} ⟨o, es, ep, e, d, r⟩ => ⟨o, es, ep, keep e (fun xs j z => by rw [d] at z; cases z) (fun z => by rw [d] at z; cases z), d, r⟩
  have KB : K.In (hidT t.heap (H1 a cs vs ns)) := fun b o e => by
    refine hidT_get (KX b o e) (other b (fun z => ?_) fun m => ?_)
    · rw [z, nK] at e
      cases e
    · obtain ⟨q, hq, rfl⟩ := List.mem_map.mp m
      rw [nT q hq] at e
      cases e
  have TB : ∀ q ∈ cs, LamX.TabB (hidT t.heap (H1 a cs vs ns)) mg q.1 q.2 := fun q hq => by
    refine NdefX.tabB_of_K KB (hC q hq) ?_ fun z => ?_
    · obtain ⟨bm, ob, b1, b2, b3, b4, b5, b6⟩ := hbm
      refine ⟨bm, ob, b1, b2, fun z => ?_, fun z => ?_, keep b3 (fun xs j z => by rw [b6] at z; cases z) (fun z => by rw [b6] at z; cases z), b4, b5, b6⟩
      · obtain ⟨o, es, ep, e, hd, _⟩ := hns
        rw [z, e] at b3
        cases b3
        rw [hd] at b6
        cases b6
      · rw [z, hT q hq] at b3
        cases b3
        cases b6
    · obtain ⟨o, es, ep, e, hd, _⟩ := hns
      rw [z, hT q hq] at e
      cases e
      cases hd
  have hok : HOk P w (H1 a cs vs ns) t.heap := fun b u z => by
    by_cases h1 : b = a
    · rw [h1, atA] at z
      cases z
      rw [h1]
      exact ⟨ha, by rw [List.length_map]; exact hl, vs, _, vals_ints hi, ha⟩
    · by_cases h2 : b ∈ cs.map (·.2)
      · rw [atT b h2] at z
        cases z
        exact tabs b h2
      · rw [other b h1 h2] at z
        cases z
  have e0 : Env0 P w K mg (hidT t.heap (H1 a cs vs ns)) callerA [] t (H1 a cs vs ns) :=
    { frames := rfl
      mod := ⟨KB, keepN hns, ⟨mb, keepN hb, hbb⟩, let ⟨mc, c1, c2⟩ := hlim; ⟨mc, keepN c1, c2⟩⟩
      bs := fun b o e => of_hidT e
      bsz := Nat.le_of_eq (hidT_size _ _)
      funs := trivial
      frf := fun b z => nomatch z
      hok := hok
      bare := .of_eq hg }
  refine codeAny_mono (F _ KB (keepN hns) TB callerA [] t (H1 a cs vs ns) [.ref a] [.ref a] _ _ hr (fun _ => rfl) e0 (.cons rfl .nil) (hsp aT)) fun r s' h => ?_
  cases r with
  | error e => exact (cx_no h).elim
  | ok fl =>
    cases fl with
    | ret u =>
      obtain ⟨v, H', os, bare, un, hok', r', q⟩ := h
      have q : v = .bl true := q
      subst q
      obtain rfl : u = Value.bool true := r'
      have same : ∀ b o, b ∉ cs.map (·.2) → t.heap.get? b = some o → s'.heap.get? b = some o := fun b o h2 e => by
        by_cases h1 : b = a
        · rw [h1] at e ⊢
          rw [ha] at e
          cases e
          exact (hok' a _ (un.frzs a _ _ atA)).1
        · exact un.keep b o e (other b h1 h2) (fun z => nomatch z) (fun z => nomatch z)
      have grown : ∀ b, b ∈ cs.map (·.2) → ∃ more : Array Value, s'.heap.get? b = some { cls := .none, data := .fields more } := fun b m => by
        obtain ⟨more, z⟩ := un.tbls b #[] (atT b m)
        exact ⟨_, hok' b _ z⟩
      refine ⟨rfl, ⟨fun b o e => ?_, fun b o e => ?_⟩, os, bare⟩
      · by_cases m : b ∈ cs.map (·.2)
        · obtain ⟨more, hm⟩ := grown b m
          obtain ⟨q, hq, rfl⟩ := List.mem_map.mp m
          rw [hT q hq] at e
          cases e
          exact .inr (.inl ⟨((PySem.W.codeHd_of_K KX (hC q hq)).tab (hT q hq)).isCodeTable, rfl, #[], more, rfl, by rw [Array.empty_append]; exact hm⟩)
        · exact .inl (same b o m e)
      · by_cases m : b ∈ cs.map (·.2)
        · obtain ⟨more, hm⟩ := grown b m
          exact ⟨_, hm⟩
        · exact ⟨o, same b o m e⟩
    | _ => exact h.elim
end
end Mp
end
section
set_option Elab.async false
set_option linter.all false
set_option maxRecDepth 100000
set_option maxHeartbeats 4000000
/-! MpLaw: from what the code answers to the law. -/
namespace Mp
open PySem PySem.Spec PyProof.Rows L2
/-- one after the other -/
def AllL (Q : Df → Prop) : List Df → Prop
  | [] => True
  | d :: r => Q d ∧ AllL Q r
theorem AllL.mem {Q : Df → Prop} : ∀ {l : List Df}, AllL Q l → ∀ d ∈ l, Q d
  | [], _, _, h => nomatch h
  | d :: r, ⟨h1, h2⟩, d', hd => by
    rcases List.mem_cons.mp hd with rfl | hd
    · exact h1
    · exact h2.mem d' hd
/-- no list stands in what was looked at -/
def noLists (K : PySem.W.Frag) : Bool := K.all fun q => match q.2.cls with
  | .type c => !decide (c = "list")
  | _ => true
theorem noLists_ok {K : PySem.W.Frag} (h : noLists K = true) {a : Addr} {hp : Heap} {vs : Array Value} {m : Nat} (KX : K.In hp) (e : hp.get? a = some { cls := .type "list", data := .seq vs m }) : K.lookup a = none := by
  cases q : K.lookup a with
  | none => rfl
  | some o =>
    have z := KX a o q
    rw [e] at z
    cases z
    have y := List.all_eq_true.mp h _ (He.lookup_mem q)
    simp at y
def lawLk (P : Program) (t : Sd) (xs : List Xd) (n : Nat) : Lk := ⟨n, t.fnD, xs.map Xd.obs, t.tf.map dq, fun K => t.exB K && (xs.all fun d => d.exB P K (t.CD K d.kk)) && noLists K && He.eqO (PySem.W.nsIn K mainGlobals "super") (some none)⟩
/-- the data of the own exceptions fit -/
def Sd.xsB (t : Sd) (xs : List Xd) : Bool := t.clN.all (fun q => !t.ini.contains q.1 || xs.any fun d => decide (d.kk = q.1) && decide (t.AT q.1 = d.f)) && xs.all (fun d => d.stB && decide (d.kk ∈ t.ks))
section
variable {t : Sd} {P : Program} {w : World} {K : PySem.W.Frag} {mg mb : Str → Option Value} {base h : Heap} {xs : List Xd} {n : Nat}
theorem says_env (hst : t.okB = true) (hxs : t.xsB xs = true) (hb : BndL (t.ds ++ t.dl)) (hxb : ∀ d ∈ xs, d.BndOk) (hF : ∀ d ∈ t.ds ++ t.dl, t.F d.f = some d.fn) (S : (lawLk P t xs n).Says w h K) (KX : K.In h) (hG : h.Ns mainGlobals mg) (TB : ∀ q ∈ t.cs K, LamX.TabB base mg q.1 q.2) :
    EnvF P w K mg base t.cf (t.p K) (t.E K) t.G t.F t.ds t.dl := by
  have m := S.x.more
  have m : (t.exB K && (xs.all fun d => d.exB P K (t.CD K d.kk)) && noLists K && He.eqO (PySem.W.nsIn K mainGlobals "super") (some none)) = true := m
  simp only [Bool.and_eq_true] at m
  obtain ⟨⟨⟨m1, m2⟩, m3⟩, m4⟩ := m
  unfold Sd.xsB at hxs
  rw [Bool.and_eq_true] at hxs
  refine Sd.env hst hb hF m1 (He.SaysT.d S.x.t) KX hG (fun kk x h1 h2 => ?_) TB
  have y := List.all_eq_true.mp hxs.1 _ (mem_of_lookup2 h1)
  rw [Bool.or_eq_true] at y
  rcases y with y | y
  · rw [h2] at y
    cases y
  · obtain ⟨d, hd, e⟩ := List.any_eq_true.mp y
    rw [Bool.and_eq_true] at e
    have e1 : d.kk = kk := of_decide_eq_true e.1
    have e2 : t.AT kk = d.f := of_decide_eq_true e.2
    have z := List.all_eq_true.mp hxs.2 d hd
    rw [Bool.and_eq_true] at z
    have ho : iniObs K d.x = d.obs.2 := by
      have q := S.ins
      have q : ((xs.map Xd.obs).map fun q => iniObs K q.1) = (xs.map Xd.obs).map (·.2) := q
      rw [List.map_map, List.map_map] at q
      exact List.map_inj_left.mp q d hd
    have ex := List.all_eq_true.mp m2 d hd
    rw [e1] at ex
    obtain ⟨fI, cc, cda, I⟩ := Xd.ini (P := P) (K := K) z.1 ex (hxb d hd) ho
    rw [← e2] at I
    exact ⟨fI, cc, cda, _, _, _, _, _, _, I, PySem.W.mg_none_of KX hG (He.eqO_ok m4), by rw [← e1]; exact of_decide_eq_true z.2⟩
/-- the state in which the law starts -/
theorem law_sp {a : Addr} {cs : List (Addr × Addr)} {vs : List Value} {ns : List Int} {r : List D → List D → RC} (hcs : cs = t.cs K) (hne : ∀ q ∈ cs, q.2 ≠ a) (hr : r [.lst (ns.map D.int)] [] = .ok (.bl true) false []) :
    spF (t.E K) (Pk (t.p K)) r [.ref a] (H1 a cs vs ns) (fun v _ => v = .bl true) fun _ _ _ => False := by
  subst hcs
  let F0 : Hp := fun b => if b = a then H1 a (t.cs K) vs ns a else none
  have fa : F0 a = some (.frz { cls := .type "list", data := .seq vs.toArray } (.lst (ns.map V.int))) := (if_pos rfl).trans (if_pos rfl)
  have fn : ∀ b, b ≠ a → F0 b = none := fun b z => if_neg z
  have ha : H1 a (t.cs K) vs ns a = some (.frz { cls := .type "list", data := .seq vs.toArray } (.lst (ns.map V.int))) := if_pos rfl
  let A : Act := ⟨⟨K, t.AD K, fun a q => kdOf K a = some q, [], fun _ _ _ => False, fun _ _ _ => False⟩, H1 a (t.cs K) vs ns, F0, t.T K⟩
  refine ⟨A, ⟨[], []⟩, [], ⟨F0, [], []⟩, [.lst (ns.map D.int)], ?_, ⟨rfl, rfl, rfl, fun _ _ _ z => z, fun _ _ _ z => z, rfl⟩, .cons ?_ .nil, ?_⟩
  · refine ⟨Sm.refl _, fun b o e z => ?_, fun b u e => ?_, fun b o e _ _ => .inl e, fun b o e n => ⟨o, e, n⟩, fun b ps e => ?_, fun q hq => ?_, rfl, rfl, fun i o b w e1 _ _ => ?_, (fun p hp => nomatch hp), rfl, fun i b d e1 _ => ?_, List.nodup_nil, (fun b m => nomatch m), (fun b m => nomatch m)⟩
    · have e : F0 b = some o := e
      have z : F0 b = none := z
      rw [e] at z
      cases z
    · by_cases hb : b = a
      · subst hb
        have e : F0 b = some u := e
        rw [fa] at e
        cases e
        exact .inl ha
      · have e : F0 b = some u := e
        rw [fn b hb] at e
        cases e
    · by_cases hb : b = a
      · subst hb
        have e : F0 b = _ := e
        rw [fa] at e
        cases e
      · have e : F0 b = _ := e
        rw [fn b hb] at e
        cases e
    · obtain ⟨d, hd, rfl⟩ := List.mem_map.mp hq
      refine LamX.TabS.nil ?_
      have m : He.cT K (dq d) ∈ t.cs K := List.mem_map.mpr ⟨d, hd, rfl⟩
      exact (if_neg (hne _ m)).trans (if_pos (List.mem_map.mpr ⟨_, m, rfl⟩))
    · simp at e1
    · have e1 : ([] : List Addr)[i]? = some b := e1
      simp at e1
  · show Rp A.c F0 (.lst (ns.map D.int)) (.ref a)
    unfold Rp
    exact ⟨a, ns.map V.int, rfl, .inr ⟨_, fa⟩, RpL.of_ints (ints_map ns)⟩
  · show QC _ A _ _ _ (r [.lst (ns.map D.int)] []) _ _
    rw [hr]
    intro v H' ω' _ _ out
    obtain ⟨rv, _⟩ := out
    exact rv
end
/-- the law, from the head's facts and what the code answers -/
theorem law_walk {l : PySem.W.OpenLaw} {q : Program} {loose : List Str} {XP : (Str → Option Value) → Heap → Prop} {d : DefRec} {t : Sd} {xs : List Xd} {n L : Nat} {df : Df} (hn : l.most = some 63) (hdf : d.params.defaults = []) (hst : t.okB = true) (hxs : t.xsB xs = true) (hb : BndL (t.ds ++ t.dl)) (hxb : ∀ d ∈ xs, d.BndOk)
    (hF : ∀ d ∈ t.ds ++ t.dl, t.F d.f = some d.fn) (hdn : d.name = df.x) (hd : df ∈ t.ds) (hrm : Room (3 * L) callerA)
    (hr : ∀ ns : List Int, ns.length ≤ 63 → (∀ k ∈ ns, Builtin.Int.intBits k ≤ 1048576) → run t.F t.G L df.f noL [.lst (ns.map D.int)] [] = .ok (.bl true) false []) :
    PySem.W.WalkO q loose XP (lawLk l.prog t xs n).hook.says l.row.toRowW d [] (fun f vs => PySem.call f vs) := by
  refine Att.attach_callB hn hdf fun w s₀ s₁ mg mb fa o pm cd doc a vs ns G Y ho hd0 hcd hmg hobj hints hlen hbits hg => ?_
  obtain ⟨K, KX, S⟩ := Y
  have hG := G.T.g
  have m := S.x.more
  have m : (t.exB K && (xs.all fun d => d.exB l.prog K (t.CD K d.kk)) && noLists K && He.eqO (PySem.W.nsIn K mainGlobals "super") (some none)) = true := m
  simp only [Bool.and_eq_true] at m
  have tfm : ∀ q ∈ t.cs K, ∃ p ∈ t.tf.map dq, He.cT K p = q := fun q hq => by
    obtain ⟨e, he, rfl⟩ := List.mem_map.mp hq
    exact ⟨dq e, List.mem_map.mpr ⟨e, he, rfl⟩, rfl⟩
  have key : ∀ (base : Heap), base.Ns mainGlobals mg → K.In base → (∀ q ∈ t.cs K, LamX.TabB base mg q.1 q.2) → EnvF l.prog w K mg base t.cf (t.p K) (t.E K) t.G t.F t.ds t.dl := fun base _ _ TB => says_env hst hxs hb hxb hF S KX hG TB
  have efa : fa = (t.p K).AD df.f := by
    have z := hst
    unfold Sd.okB at z
    simp only [Bool.and_eq_true] at z
    have y := List.all_eq_true.mp z.1.1.2 df (List.mem_append_left _ hd)
    simp only [Bool.and_eq_true] at y
    have y1 := of_decide_eq_true y.1.1.1
    have x := m.1.1.1
    unfold Sd.exB at x
    simp only [Bool.and_eq_true] at x
    have x1 := He.eqO_ok (List.all_eq_true.mp x.1.1.1.1.1.2 df (List.mem_append_left _ hd))
    have e1 := PySem.W.mg_of KX hG x1
    rw [hdn] at hmg
    rw [hmg] at e1
    have e2 : (t.p K).AD df.f = He.ga K df.x := by
      show He.ga K (((t.fnN ++ t.lnN).lookup df.f).getD Str.empty) = _
      rw [y1]
      rfl
    rw [e2]
    cases e1
    rfl
  refine law_go (mb := mb) (K := K) (cs := t.cs K) (n := 3 * L) (sp := spF (t.E K) (Pk (t.p K)) (run t.F t.G L df.f noL)) KX hG G.T.b G.T.builtins G.T.nolimit hg (fun q hq => ?_) (fun q hq => ?_) (fun q hq => ?_) G.T.bmain hobj hints (Nat.le_trans hlen (by decide)) (noLists_ok m.1.2 KX hobj) hrm (fun base KB hB TB => ?_) (fun hne => law_sp rfl hne (hr ns hlen hbits))
  · obtain ⟨p, hp, rfl⟩ := tfm q hq
    exact S.x.empty p hp
  · obtain ⟨p, hp, rfl⟩ := tfm q hq
    exact S.x.out p hp
  · obtain ⟨p, hp, rfl⟩ := tfm q hq
    exact S.x.hd p hp
  · have e := key base hB KB TB
    rw [efa]
    intro A outer s H us vs Q Ex rm gd
    exact e.all L df hd A outer s H us vs Q Ex rm (fun _ => gd rfl)
/-- the head's equation in four parts -/
theorem run_join {r : PySem.W.OpenRow} {q : Program} {lk : Lk} {M : Nat} {loose : List Str} {w : World}
    (a : ∀ os : OsState, (HandSHeadRun.endF (HandSHeadRun.stepQ (HandSHeadRun.denQ HandSHeadRun.tabQ) r.prog w) M r.prog w os).map (fun s => (HandSHeadRun.looksF r.prog (PySem.W.boot_heap w.params) s.abs, HandSHeadRun.seenQ q loose (importedModules r.prog.main.body) (fun s => PySem.W.xlAt q [] s && PySem.W.recOk r.toRowW.records s) s.abs)) = some (true, PySem.W.openGood q loose))
    (b : ∀ os : OsState, (HandSHeadRun.endF (HandSHeadRun.stepQ (HandSHeadRun.denQ HandSHeadRun.tabQ) r.prog w) M r.prog w os).map (fun s => (lk.ob s).1.1) = some (lk.val w).1.1)
    (c : ∀ os : OsState, (HandSHeadRun.endF (HandSHeadRun.stepQ (HandSHeadRun.denQ HandSHeadRun.tabQ) r.prog w) M r.prog w os).map (fun s => (lk.ob s).1.2) = some (lk.val w).1.2)
    (d : ∀ os : OsState, (HandSHeadRun.endF (HandSHeadRun.stepQ (HandSHeadRun.denQ HandSHeadRun.tabQ) r.prog w) M r.prog w os).map (fun s => (lk.ob s).2) = some (lk.val w).2) :
    HandSHeadRun.RunEq r q lk.hook lk.ob M loose w := by
  intro os
  have a := a os
  have b := b os
  have c := c os
  have d := d os
  revert a b c d
  generalize HandSHeadRun.endF (HandSHeadRun.stepQ (HandSHeadRun.denQ HandSHeadRun.tabQ) r.prog w) M r.prog w os = e
  intro a b c d
  cases e with
  | none => cases a
  | some s =>
    have a := Option.some.inj a
    have b := Option.some.inj b
    have c := Option.some.inj c
    have d := Option.some.inj d
    injection a with a1 a2
    have z : lk.ob s = lk.val w := Prod.ext (Prod.ext b c) d
    exact congrArg some (Prod.ext a1 (Prod.ext a2 z))
end Mp
end
section
set_option Elab.async false
set_option linter.all false
set_option maxRecDepth 100000
set_option maxHeartbeats 4000000
/-! MpFast: the same evaluation, by the recursor with small constants: the kernel is quicker with it. Printed by fastgen.py. -/
namespace Mp
open PySem
noncomputable section
def a1_neg : D → Option (D × Bool)
  | .int i => val (.int (-i))
  | _ => none
def a1_len : D → Option (D × Bool)
  | .str s => if Nat.ble s.cps.size LINE then val (.int s.cps.size) else none
  | .tup xs => val (.int xs.length)
  | .lst xs => val (.int xs.length)
  | .dic kvs => val (.int kvs.length)
  | _ => none
def a1_abs : D → Option (D × Bool)
  | .int i => val (.int (if i < 0 then -i else i))
  | _ => none
def a1_int : D → Option (D × Bool)
  | .int i => val (.int i)
  | .bl b => val (.int (if b then 1 else 0))
  | _ => none
def a1_tuple : D → Option (D × Bool)
  | .tup xs => val (.tup xs)
  | .lst xs => val (.tup xs)
  | _ => none
def a1_list : D → Option (D × Bool)
  | .tup xs => fresh (.lst xs)
  | .lst xs => fresh (.lst xs)
  | _ => none
def a1_sum : D → Option (D × Bool)
  | .tup xs => (ints? xs).bind fun is => val (.int is.sum)
  | .lst xs => (ints? xs).bind fun is => val (.int is.sum)
  | _ => none
def a1_all : D → Option (D × Bool)
  | .lst xs => (bools? xs).bind fun bs => val (.bl (bs.all id))
  | _ => none
def a1_any : D → Option (D × Bool)
  | .lst xs => (bools? xs).bind fun bs => val (.bl (bs.any id))
  | _ => none
def a1_min : D → Option (D × Bool)
  | d => ((items? d).bind ints?).bind fun is => match is with
    | [] => none
    | i :: r => val (.int (r.foldl (fun a b => if b < a then b else a) i))
def a1_max : D → Option (D × Bool)
  | d => ((items? d).bind ints?).bind fun is => match is with
    | [] => none
    | i :: r => val (.int (r.foldl (fun a b => if b > a then b else a) i))
def a1_sorted : D → Option (D × Bool)
  | d => ((items? d).bind sorted?).bind fun xs => fresh (.lst xs)
def a1_repr : D → Option (D × Bool)
  | d => d.rep.bind fun s => val (.str s)
def a1_isN : D → Option (D × Bool)
  | d => val (.bl (match d with | .non => true | _ => false))
def a1_notN : D → Option (D × Bool)
  | d => val (.bl (match d with | .non => false | _ => true))
def a1_isInt : D → Option (D × Bool)
  | d => (D.tyN d).bind fun n => val (.bl (n == 2 || n == 1))
def a1_isBool : D → Option (D × Bool)
  | d => (D.tyN d).bind fun n => val (.bl (n == 1))
def a1_isTup : D → Option (D × Bool)
  | d => (D.tyN d).bind fun n => val (.bl (n == 4))
def a1_isLst : D → Option (D × Bool)
  | d => (D.tyN d).bind fun n => val (.bl (n == 5))
def a1_isStr : D → Option (D × Bool)
  | d => (D.tyN d).bind fun n => val (.bl (n == 3))
def a1_isDic : D → Option (D × Bool)
  | d => (D.tyN d).bind fun n => val (.bl (n == 6))
def a1_revs : D → Option (D × Bool)
  | .lst xs => fresh (.lst xs.reverse)
  | _ => none
def ap1q (o : Op1) : D → Option (D × Bool) := Op1.rec (motive := fun _ => D → Option (D × Bool)) a1_neg a1_len a1_abs a1_int a1_tuple a1_list a1_sum a1_all a1_any a1_min a1_max a1_sorted a1_repr (fun _ => none) a1_isN a1_notN (fun _ => none) (fun _ => none) (fun _ => none) a1_isInt a1_isBool a1_isTup a1_isLst a1_isStr a1_isDic a1_revs (fun _ => none) o
theorem ap1q_eq : ap1q = ap1 := by
  funext o d
  cases o <;> first | rfl | (cases d <;> first | rfl)
def a2_add : D → D → Option (D × Bool)
  | .int i, .int j => val (.int (i + j))
  | .str a, .str b => if Nat.ble (a.cps.size + b.cps.size) LINE then val (.str (catS a b)) else none
  | .tup xs, .tup ys => if short (xs ++ ys) then val (.tup (xs ++ ys)) else none
  | .lst xs, .lst ys => if short (xs ++ ys) then fresh (.lst (xs ++ ys)) else none
  | _, _ => none
def a2_sub : D → D → Option (D × Bool)
  | .int i, .int j => val (.int (i - j))
  | _, _ => none
def a2_mul : D → D → Option (D × Bool)
  | .int i, .int j => if small i || small j || (!big i && !big j) then val (.int (i * j)) else none
  | .tup xs, .int k => if -100000 ≤ k && k ≤ 1000 && Nat.ble xs.length 1000 then val (.tup (List.replicate k.toNat xs).flatten) else none
  | .lst xs, .int k => if -100000 ≤ k && k ≤ 100000 && Nat.ble (xs.length * k.toNat) LINE then fresh (.lst (List.replicate k.toNat xs).flatten) else none
  | _, _ => none
def a2_fdiv : D → D → Option (D × Bool)
  | .int i, .int j => if j = 0 then none else if Nat.blt j.natAbs 1073741824 then val (.int (i.fdiv j)) else if 0 < j && !big j then val (.int (i.fdiv j)) else none
  | _, _ => none
def a2_mod : D → D → Option (D × Bool)
  | .int i, .int j => if j = 0 then none else val (.int (i.fmod j))
  | _, _ => none
def a2_pow : D → D → Option (D × Bool)
  | .int i, .int j => if 0 ≤ j && j ≤ 1000 && !big i then val (.int (i ^ j.toNat)) else none
  | _, _ => none
def a2_eq : D → D → Option (D × Bool)
  | a, b => (D.eq? a b).bind fun r => val (.bl r)
def a2_ne : D → D → Option (D × Bool)
  | a, b => (D.eq? a b).bind fun r => val (.bl (!r))
def a2_lt : D → D → Option (D × Bool)
  | .int i, .int j => val (.bl (decide (i < j)))
  | _, _ => none
def a2_le : D → D → Option (D × Bool)
  | .int i, .int j => val (.bl (decide (i ≤ j)))
  | _, _ => none
def a2_gt : D → D → Option (D × Bool)
  | .int i, .int j => val (.bl (decide (j < i)))
  | _, _ => none
def a2_ge : D → D → Option (D × Bool)
  | .int i, .int j => val (.bl (decide (j ≤ i)))
  | _, _ => none
def a2_isin : D → D → Option (D × Bool)
  | k, .dic kvs => if D.fits kvs k then val (.bl (D.look kvs k).isSome) else none
  | k, .gdc kvs => if D.fits kvs k then val (.bl (D.look kvs k).isSome) else none
  | d, .tup xs => if d.okEq EQD && xs.all (D.okEq EQD) then val (.bl (xs.any fun x => D.eqv x d)) else none
  | d, .lst xs => if d.okEq EQD && xs.all (D.okEq EQD) then val (.bl (xs.any fun x => D.eqv x d)) else none
  | _, _ => none
def a2_notin : D → D → Option (D × Bool)
  | k, .dic kvs => if D.fits kvs k then val (.bl (!(D.look kvs k).isSome)) else none
  | k, .gdc kvs => if D.fits kvs k then val (.bl (!(D.look kvs k).isSome)) else none
  | d, .tup xs => if d.okEq EQD && xs.all (D.okEq EQD) then val (.bl (!(xs.any fun x => D.eqv x d))) else none
  | d, .lst xs => if d.okEq EQD && xs.all (D.okEq EQD) then val (.bl (!(xs.any fun x => D.eqv x d))) else none
  | _, _ => none
def a2_idx : D → D → Option (D × Bool)
  | .tup xs, .int i => ((ixN xs.length i).bind fun j => xs[j]?).bind val
  | .lst xs, .int i => ((ixN xs.length i).bind fun j => xs[j]?).bind val
  | .dic kvs, k => if D.fits kvs k then (D.look kvs k).bind val else none
  | .gdc kvs, k => if D.fits kvs k then (D.look kvs k).bind val else none
  | _, _ => none
def a2_slL : D → D → Option (D × Bool)
  | .tup xs, .int i => val (.tup (cut xs (clip xs.length i) xs.length))
  | .lst xs, .int i => fresh (.lst (cut xs (clip xs.length i) xs.length))
  | _, _ => none
def a2_slU : D → D → Option (D × Bool)
  | .tup xs, .int j => val (.tup (cut xs 0 (clip xs.length j)))
  | .lst xs, .int j => fresh (.lst (cut xs 0 (clip xs.length j)))
  | _, _ => none
def a2_slBack : D → D → Option (D × Bool)
  | .tup xs, .int i => val (.tup (backFrom xs i))
  | .lst xs, .int i => fresh (.lst (backFrom xs i))
  | _, _ => none
def a2_slStep : D → D → Option (D × Bool)
  | .tup xs, .int k => if 0 < k && k < 1000 then val (.tup (every k.toNat xs.length xs)) else none
  | _, _ => none
def a2_min2 : D → D → Option (D × Bool)
  | .int i, .int j => val (.int (if j < i then j else i))
  | _, _ => none
def a2_max2 : D → D → Option (D × Bool)
  | .int i, .int j => val (.int (if j > i then j else i))
  | _, _ => none
def a2_maxD : D → D → Option (D × Bool)
  | .dic kvs, .int e => (ints? (kvs.map (·.1))).bind fun is => val (.int (mxD e is))
  | _, _ => none
def a2_count : D → D → Option (D × Bool)
  | .tup xs, .int k => (ints? xs).bind fun is => val (.int (is.count k))
  | _, _ => none
def a2_index : D → D → Option (D × Bool)
  | .tup xs, .int k => (ints? xs).bind fun is => match is.findIdx? (· == k) with
    | some j => val (.int j)
    | none => none
  | .lst xs, .int k => (ints? xs).bind fun is => match is.findIdx? (· == k) with
    | some j => val (.int j)
    | none => none
  | _, _ => none
def a2_get1 : D → D → Option (D × Bool)
  | .dic kvs, k => if D.fits kvs k then val ((D.look kvs k).getD .non) else none
  | _, _ => none
def ap2q (o : Op2) : D → D → Option (D × Bool) := Op2.rec (motive := fun _ => D → D → Option (D × Bool)) a2_add a2_sub a2_mul a2_fdiv a2_mod a2_pow a2_eq a2_ne a2_lt a2_le a2_gt a2_ge a2_isin a2_notin a2_idx a2_slL a2_slU a2_slBack a2_slStep a2_min2 a2_max2 a2_maxD a2_count a2_index a2_get1 o
theorem ap2q_eq : ap2q = ap2 := by
  funext o d e
  cases o <;> first | rfl | (cases d <;> first | rfl | (cases e <;> first | rfl))
def a3_slLU : D → D → D → Option (D × Bool)
  | .tup xs, .int i, .int j => val (.tup (cut xs (clip xs.length i) (clip xs.length j)))
  | .lst xs, .int i, .int j => fresh (.lst (cut xs (clip xs.length i) (clip xs.length j)))
  | _, _, _ => none
def a3_get2 : D → D → D → Option (D × Bool)
  | .dic kvs, k, e => if D.fits kvs k then val ((D.look kvs k).getD e) else none
  | _, _, _ => none
def ap3q (o : Op3) : D → D → D → Option (D × Bool) := Op3.rec (motive := fun _ => D → D → D → Option (D × Bool)) a3_slLU a3_get2 o
theorem ap3q_eq : ap3q = ap3 := by
  funext o d e g
  cases o <;> first | rfl | (cases d <;> first | rfl | (cases e <;> first | rfl | (cases g <;> rfl)))
structure E5 where
  e : S → R (D × Bool)
  hd : S → R Hd
  ts : Option (S → R (D × Bool))
  aa : (S → R (List (D × Bool))) → S → R (List (D × Bool))
  a : S → R (List (D × Bool))
  i : S → R (List D)
  x : S → R Fl
  hh : (Nat → D → S → R Fl) → Nat → D → S → R Fl
  h : Nat → D → S → R Fl
def noE : S → R (D × Bool) := fun _ => .no
def noA : S → R (List (D × Bool)) := fun _ => .no
def noI : S → R (List D) := fun _ => .no
def noX : S → R Fl := fun _ => .no
def noHH : (Nat → D → S → R Fl) → Nat → D → S → R Fl := fun _ _ _ _ => .no
def noH : Nat → D → S → R Fl := fun _ _ _ => .no
def hdE (e : S → R (D × Bool)) : S → R Hd := fun s => (e s).bind fun d s => .ok (.v d.1) s
def aaE (e : S → R (D × Bool)) : (S → R (List (D × Bool))) → S → R (List (D × Bool)) := fun nx s => (e s).bind fun x s1 => (nx s1).bind fun ys s2 => .ok (x :: ys) s2
def mkE (e : S → R (D × Bool)) : E5 := ⟨e, hdE e, some e, aaE e, noA, noI, noX, noHH, noH⟩
def mkI (i : S → R (List D)) : E5 := ⟨noE, hdE noE, some noE, aaE noE, noA, i, noX, noHH, noH⟩
def mkX (x : S → R Fl) : E5 := ⟨noE, hdE noE, some noE, aaE noE, noA, noI, x, noHH, noH⟩
section
variable (κ : Nat → (List D → RC) → List D → List D → RC) (Λ : List D → RC) (G : Ev)
def q_nil : E5 := ⟨noE, hdE noE, none, aaE noE, fun s => .ok [] s, noI, fun s => .ok .nx s, noHH, fun k v s => .er (.exc k v) s⟩
def q_cons (a r : C) (r_a r_r : E5) : E5 := ⟨noE, hdE noE, some noE, aaE noE, r_a.aa r_r.a, noI, fun s => (r_a.x s).bind fun f s1 => match f with
    | .nx => r_r.x s1
    | f => .ok f s1, noHH, r_a.hh r_r.h⟩
def q_star (a : C) (r_a : E5) : E5 := ⟨noE, hdE noE, some noE, fun nx s => (r_a.hd s).bind fun h s1 => match (h.res s1).bind seqItems? with
    | some xs => (nx s1).bind fun ys s2 => .ok (xs.map (fun d => (d, false)) ++ ys) s2
    | none => .no, noA, noI, noX, noHH, noH⟩
def q_cst (d : D)  : E5 := mkE (fun s => .ok (d, false) s)
def q_var (i : Nat)  : E5 := mkE (fun s => (match s.get i with
    | some (d, _) => .ok (d, false) (s.put i d false)
    | none => .no))
def q_peek (i : Nat) : E5 := ⟨noE, fun s => (match s.get i with
      | some (_, true) => .ok (.sl i) s
      | some (d, false) => .ok (.v d) s
      | none => .no), some noE, aaE noE, noA, noI, noX, noHH, noH⟩
def q_mov (i : Nat)  : E5 := mkE (fun s => (match s.get i with
    | some (d, true) => .ok (d, true) (s.clr i)
    | some (d, false) => .ok (d, false) s
    | none => .no))
def q_glob (g : Nat)  : E5 := mkE (fun s => (match G.glob g with
    | some d => .ok (d, false) s
    | none => .no))
def q_op1 (o : Op1) (a : C) (r_a : E5) : E5 := mkE (fun s => (r_a.hd s).bind fun h s1 => liftO (res1 h s1 (ap1q o)) s1)
def q_op2 (o : Op2) (a : C) (b : C) (r_a : E5) (r_b : E5) : E5 := mkE (fun s => (r_a.hd s).bind fun h s1 => (r_b.hd s1).bind fun k s2 => liftO (res2 h k s2 (ap2q o)) s2)
def q_op3 (o : Op3) (a : C) (b : C) (c : C) (r_a : E5) (r_b : E5) (r_c : E5) : E5 := mkE (fun s => (r_a.hd s).bind fun h s1 => (r_b.hd s1).bind fun k s2 => (r_c.hd s2).bind fun l s3 => liftO (res3 h k l s3 (ap3q o)) s3)
def q_chain (o : Op2) (o' : Op2) (a : C) (b : C) (c : C) (r_a : E5) (r_b : E5) (r_c : E5) : E5 := mkE (fun s => (r_a.e s).bind fun x s1 => (r_b.e s1).bind fun y s2 => match ap2q o x.1 y.1 with
    | some (.bl true, _) => (r_c.e s2).bind fun z s3 => liftO (ap2q o' y.1 z.1) s3
    | some (.bl false, _) => .ok (.bl false, false) s2
    | _ => .no)
def q_not (a : C) (r_a : E5) : E5 := mkE (fun s => (r_a.e s).bind fun x s1 => match x.1 with
    | .bl b => .ok (.bl (!b), false) s1
    | _ => .no)
def q_and (a : C) (b : C) (r_a : E5) (r_b : E5) : E5 := mkE (fun s => (r_a.e s).bind fun x s1 => match x.1 with
    | .bl true => (r_b.e s1).bind fun y s2 => .ok (y.1, false) s2
    | .bl false => .ok (.bl false, false) s1
    | _ => .no)
def q_or (a : C) (b : C) (r_a : E5) (r_b : E5) : E5 := mkE (fun s => (r_a.e s).bind fun x s1 => match x.1 with
    | .bl false => (r_b.e s1).bind fun y s2 => .ok (y.1, false) s2
    | .bl true => .ok (.bl true, false) s1
    | _ => .no)
def q_ife (c : C) (a : C) (b : C) (r_c : E5) (r_a : E5) (r_b : E5) : E5 := mkE (fun s => (r_c.e s).bind fun x s1 => match x.1 with
    | .bl true => r_a.e s1
    | .bl false => r_b.e s1
    | _ => .no)
def q_tup (as : C) (r_as : E5) : E5 := mkE (fun s => (r_as.a s).bind fun xs s1 => if short (fsts xs) then .ok (.tup (fsts xs), false) s1 else .no)
def q_lst (as : C) (r_as : E5) : E5 := mkE (fun s => (r_as.a s).bind fun xs s1 => if short (fsts xs) then .ok (.lst (fsts xs), true) s1 else .no)
def q_dsp (ks : C) (vs : C) (tk : Bool) (r_ks : E5) (r_vs : E5) : E5 := mkE (fun s => (r_ks.a s).bind fun xs s1 => (r_vs.a s1).bind fun ys s2 => match mkDic tk (zipD (fsts xs) (fsts ys)) [] with
    | some kvs => .ok (.dic kvs, true) s2
    | none => .no)
def q_call (f : Nat) (as : C) (r_as : E5) : E5 := mkE (fun s => (r_as.a s).bind fun xs s1 => callP (κ f noL) (fsts xs) s1)
def q_callr (f : Nat) (j : Nat) (i : Nat) (as : C) (r_as : E5) : E5 := mkE (fun s => if (s.get i).isSome then (r_as.a s).bind fun xs s1 => callRef κ f j i (fsts xs) s1 else .no)
def q_callo (f : Nat) (a : C) (r_a : E5) : E5 := mkE (fun s => (r_a.e s).bind fun x s1 => callOwn κ f x s1)
def q_callv (i : Nat) (as : C) (r_as : E5) : E5 := mkE (fun s => (match s.get i with
    | some (.fn f, false) => if G.fns f then (r_as.a s).bind fun xs s1 => callP (κ f noL) (fsts xs) s1 else .no
    | _ => .no))
def q_calla (i : Nat)  : E5 := mkE (fun s => (match s.get i with
    | some (.clo _ _, false) => callCl s (Λ s.st)
    | _ => .no))
def q_calll (f : Nat) (a : C) (r_a : E5) : E5 := mkE (fun s => callLam κ f (lamR (r_a.e) s.ρ) s)
def q_mut (m : Mu) (i : Nat) (as : C) (r_as : E5) : E5 := mkE (fun s => if isLstAt s i then (r_as.a s).bind fun xs s1 => chg s1 i fun o => muts m o (fsts xs) else .no)
def q_comp (own : List Nat) (t : Tg) (it : C) (tst : C) (e : C) (r_it : E5) (r_tst : E5) (r_e : E5) : E5 := mkE (compG finL own t (r_tst.ts) (r_it.i) (fun s => (r_e.e s).bind fun d s => .ok [d.1] s))
def q_comp2 (own : List Nat) (own2 : List Nat) (t : Tg) (it : C) (t2 : Tg) (it2 : C) (tst : C) (e : C) (r_it : E5) (r_it2 : E5) (r_tst : E5) (r_e : E5) : E5 := mkE (compG finL (own ++ own2) t none (r_it.i) (fun s => (r_it2.i s).bind fun zs s => compLoop (turn own2 t2 (r_tst.ts) (fun s => (r_e.e s).bind fun d s => .ok [d.1] s)) zs s))
def q_dcomp (own : List Nat) (t : Tg) (it : C) (tst : C) (k : C) (v : C) (tk : Bool) (r_it : E5) (r_tst : E5) (r_k : E5) (r_v : E5) : E5 := mkE (compG (finK tk) own t (r_tst.ts) (r_it.i) (fun s => (r_k.e s).bind fun d s => (r_v.e s).bind fun e s => .ok [.tup [d.1, e.1]] s))
def q_dcomp2 (own : List Nat) (own2 : List Nat) (t : Tg) (it : C) (t2 : Tg) (it2 : C) (tst : C) (k : C) (v : C) (tk : Bool) (r_it : E5) (r_it2 : E5) (r_tst : E5) (r_k : E5) (r_v : E5) : E5 := mkE (compG (finK tk) (own ++ own2) t none (r_it.i) (fun s => (r_it2.i s).bind fun zs s => compLoop (turn own2 t2 (r_tst.ts) (fun s => (r_k.e s).bind fun d s => (r_v.e s).bind fun e s => .ok [.tup [d.1, e.1]] s)) zs s))
def q_nxt (own : List Nat) (t : Tg) (it : C) (tst : C) (e : C) (d : C) (r_it : E5) (r_tst : E5) (r_e : E5) (r_d : E5) : E5 := mkE (fun s => (r_it.i s).bind fun xs s1 => (nextLoop (turn own t (r_tst.ts) (fun s => (r_e.e s).bind fun d s => .ok [d.1] s)) xs s1).quiet.bind fun r s2 =>
      (match r with
        | some y => .ok (y, false) ⟨back s1.ρ s2.ρ own, s2.st⟩
        | none => r_d.e ⟨back s1.ρ s2.ρ own, s2.st⟩))
def q_attr (nm : Nat) (a : C) (r_a : E5) : E5 := mkE (fun s => (r_a.e s).bind fun x s1 => match x.1 with
    | .exc k v => if G.atr k = nm && !v.isCls then .ok (v, false) s1 else .no
    | _ => .no)
def q_meth (o : Op2) (a : C) (b : C) (r_a : E5) (r_b : E5) : E5 := mkE (fun s => (r_a.hd s).bind fun h s1 => if g1 ((h.res s1).map D.kind) o then (r_b.hd s1).bind fun k s2 => if (h.res s2).map D.kind = (h.res s1).map D.kind then liftO (res2 h k s2 (ap2q o)) s2 else .no else .no)
def q_meth3 (o : Op3) (a : C) (b : C) (c : C) (r_a : E5) (r_b : E5) (r_c : E5) : E5 := mkE (fun s => (r_a.hd s).bind fun h s1 => if g3 ((h.res s1).map D.kind) o then (r_b.hd s1).bind fun k s2 => (r_c.e s2).bind fun l s3 => liftO (res2 h k s3 fun d e => ap3q o d e l.1) s3 else .no)
def q_slc (a : C) (b : C) (c : C) (r_a : E5) (r_b : E5) (r_c : E5) : E5 := mkE (fun s => (r_a.hd s).bind fun h s1 => (r_b.e s1).bind fun x s2 => match x.1 with
    | .int i => (r_c.e s2).bind fun y s3 => liftO (res1 h s3 fun d => ap3q .slLU d (.int i) y.1) s3
    | _ => .no)
def q_itv (a : C) (r_a : E5) : E5 := mkI (fun s => (r_a.e s).bind fun x s1 => match walked? x.1 with
    | some xs => .ok xs s1
    | none => .no)
def q_rng1 (a : C) (r_a : E5) : E5 := mkI (fun s => (r_a.e s).bind fun x s1 => match x.1 with
    | .int j => if rngOk j then .ok (intsR 0 1 j.toNat) s1 else .no
    | _ => .no)
def q_rng2 (a : C) (b : C) (r_a : E5) (r_b : E5) : E5 := mkI (fun s => (r_a.e s).bind fun x s1 => (r_b.e s1).bind fun y s2 => match x.1, y.1 with
    | .int i, .int j => if rngOk i && rngOk j then .ok (intsR i 1 (j - i).toNat) s2 else .no
    | _, _ => .no)
def q_rng3 (a : C) (b : C) (c : C) (r_a : E5) (r_b : E5) (r_c : E5) : E5 := mkI (fun s => (r_a.e s).bind fun x s1 => (r_b.e s1).bind fun y s2 => (r_c.e s2).bind fun z s3 => match x.1, y.1, z.1 with
    | .int i, .int j, .int k => if k != 0 && Nat.blt k.natAbs 1073741824 && Builtin.Range.small i j k && decide (0 ≤ Builtin.Range.rangeSize i j k) then .ok (intsR i k (Builtin.Range.rangeSize i j k).toNat) s3 else .no
    | _, _, _ => .no)
def q_zip2 (a : C) (b : C) (r_a : E5) (r_b : E5) : E5 := mkI (fun s => (r_a.e s).bind fun x s1 => (r_b.e s1).bind fun y s2 => match seqItems? x.1, seqItems? y.1 with
    | some xs, some ys => .ok (zipD xs ys) s2
    | _, _ => .no)
def q_zip3 (a : C) (b : C) (c : C) (r_a : E5) (r_b : E5) (r_c : E5) : E5 := mkI (fun s => (r_a.e s).bind fun x s1 => (r_b.e s1).bind fun y s2 => (r_c.e s2).bind fun z s3 => match seqItems? x.1, seqItems? y.1, seqItems? z.1 with
    | some xs, some ys, some zs => .ok (zipD3 xs ys zs) s3
    | _, _, _ => .no)
def q_enum (a : C) (r_a : E5) : E5 := mkI (fun s => (r_a.e s).bind fun x s1 => match seqItems? x.1 with
    | some xs => .ok (enumFrom 0 xs) s1
    | none => .no)
def q_enums (a : C) (b : C) (r_a : E5) (r_b : E5) : E5 := mkI (fun s => (r_a.e s).bind fun x s1 => (r_b.e s1).bind fun y s2 => match seqItems? x.1, y.1 with
    | some xs, .int k => if rngOk k then .ok (enumFrom k xs) s2 else .no
    | _, _ => .no)
def q_items (a : C) (r_a : E5) : E5 := mkI (fun s => (r_a.e s).bind fun x s1 => match x.1 with
    | .dic kvs => if headK kvs then .ok (kvs.map fun p => .tup [p.1, p.2]) s1 else .no
    | _ => .no)
def q_asg (t : Tg) (a : C) (r_a : E5) : E5 := mkX (fun s => (r_a.e s).bind fun x s1 => match t with
    | .n i => if i < s1.ρ.length then .ok .nx (s1.put i x.1 x.2) else .no
    | t => (match setT t x.1 s1 with
      | some s2 => .ok .nx s2
      | none => .no))
def q_asgs (is : List Nat) (as : C) (r_as : E5) : E5 := mkX (fun s => (r_as.a s).bind fun xs s1 => match putAll is xs s1 with
    | some s2 => .ok .nx s2
    | none => .no)
def q_aug (i : Nat) (o : Op2) (a : C) (r_a : E5) : E5 := mkX (fun s => (match s.get i with
    | some (d, false) => (r_a.e s).bind fun x s1 => match augI o d x.1 with
      | some r => .ok .nx (s1.put i r false)
      | none => .no
    | _ => .no))
def q_seti (i : Nat) (k : C) (v : C) (r_k : E5) (r_v : E5) : E5 := mkX (fun s => (r_v.e s).bind fun y s1 => if (s1.get i).isSome then (r_k.e s1).bind fun x s2 => (chg s2 i fun o => (seti? o x.1 y.1).map fun o' => (.non, o')).bind fun _ s3 => .ok .nx s3 else .no)
def q_augi (i : Nat) (o : Op2) (k : C) (v : C) (r_k : E5) (r_v : E5) : E5 := mkX (fun s => if (s.get i).isNone then .no else (r_k.e s).bind fun x s1 => (match s1.get i with
    | some (b, _) => (match ap2q .idx (s1.deref b) x.1 with
      | some (old, _) => (r_v.e s1).bind fun y s2 => match ap2q o old y.1 with
        | some (r, false) => (chg s2 i fun b => (seti? b x.1 r).map fun b' => (.non, b')).bind fun _ s3 => .ok .nx s3
        | _ => .no
      | none => .no)
    | none => .no))
def q_xpr (a : C) (r_a : E5) : E5 := mkX (fun s => (r_a.e s).bind fun _ s1 => .ok .nx s1)
def q_ret (a : C) (r_a : E5) : E5 := mkX (fun s => (r_a.e s).bind fun x s1 => .ok (.rt x.1 x.2) s1)
def q_retn   : E5 := mkX (fun s => .ok (.rt .non false) s)
def q_ifs (c : C) (a : C) (b : C) (r_c : E5) (r_a : E5) (r_b : E5) : E5 := mkX (fun s => (r_c.e s).bind fun x s1 => match x.1 with
    | .bl true => r_a.x s1
    | .bl false => r_b.x s1
    | _ => .no)
def q_whl (c : C) (b : C) (r_c : E5) (r_b : E5) : E5 := mkX (fun s => whileLoop (r_c.e) (r_b.x) G.fuel s)
def q_for_ (t : Tg) (it : C) (b : C) (r_it : E5) (r_b : E5) : E5 := mkX (fun s => (r_it.i s).bind fun xs s1 => forLoop t (r_b.x) xs s1)
def q_rais (k : Nat) (a : C) (r_a : E5) : E5 := mkX (fun s => (r_a.e s).bind fun x s1 => .er (.exc k x.1) s1)
def q_raism (k : Nat)  : E5 := mkX (fun s => .er (.exc k (.cls 0)) s)
def q_try_ (b : C) (hs : C) (r_b : E5) (r_hs : E5) : E5 := mkX (fun s => (match r_b.x s with
    | .er (.exc k v) s1 => r_hs.h k v s1
    | r => r))
def q_hnd (k : Nat) (i : Option Nat) (b : C) (r_b : E5) : E5 := ⟨noE, hdE noE, some noE, aaE noE, noA, noI, noX, fun nx k2 v s => if G.sub k2 k then (match i with
      | none => (r_b.x s).quiet
      | some i => if i < s.ρ.length then leave (r_b.x (s.put i (.exc k2 v) false)) else .no)
    else nx k2 v s, noH⟩
def q_pass   : E5 := mkX (fun s => .ok .nx s)
def q_brk   : E5 := mkX (fun s => .ok .bk s)
def q_cont   : E5 := mkX (fun s => .ok .ct s)
def q_dead  : E5 := mkE noE
def evq : C → E5 := fun c => C.rec (motive := fun _ => E5) q_nil q_cons q_star q_cst q_var q_peek q_mov (q_glob G) q_op1 q_op2 q_op3 q_chain q_not q_and q_or q_ife q_tup q_lst q_dsp (q_call κ) (q_callr κ) (q_callo κ) (q_callv κ G) (q_calla Λ) (q_calll κ) q_mut q_comp q_comp2 q_dcomp q_dcomp2 q_nxt (q_attr G) q_meth q_meth3 q_slc q_itv q_rng1 q_rng2 q_rng3 q_zip2 q_zip3 q_enum q_enums q_items q_asg q_asgs q_aug q_seti q_augi q_xpr q_ret q_retn q_ifs (q_whl G) q_for_ q_rais q_raism q_try_ (q_hnd G) q_pass q_brk q_cont q_dead c
def aaS (c : C) : (S → R (List (D × Bool))) → S → R (List (D × Bool)) := match c with
  | .star a => fun nx s => (hand a (ev κ Λ G a s) s).bind fun h s1 => match (h.res s1).bind seqItems? with
    | some xs => (nx s1).bind fun ys s2 => .ok (xs.map (fun d => (d, false)) ++ ys) s2
    | none => .no
  | c => aaE (ev κ Λ G c)
def hhS (c : C) : (Nat → D → S → R Fl) → Nat → D → S → R Fl := match c with
  | .hnd k i b => fun nx k2 v s => if G.sub k2 k then (match i with
      | none => (ex κ Λ G b s).quiet
      | some i => if i < s.ρ.length then leave (ex κ Λ G b (s.put i (.exc k2 v) false)) else .no)
    else nx k2 v s
  | _ => noHH
def mk5 (c : C) : E5 := ⟨ev κ Λ G c, fun s => hand c (ev κ Λ G c s) s, tstF c (ev κ Λ G c), aaS κ Λ G c, ea κ Λ G c, ei κ Λ G c, ex κ Λ G c, hhS κ Λ G c, eh κ Λ G c⟩
theorem evq_eq (c : C) : evq κ Λ G c = mk5 κ Λ G c := by
  induction c with
  | nil  =>
    show q_nil   = _
    rfl
  | cons a r h_a h_r =>
    show q_cons a r (evq κ Λ G a) (evq κ Λ G r) = _
    rw [h_a, h_r]
    cases a <;> rfl
  | star a h_a =>
    show q_star a (evq κ Λ G a) = _
    rw [h_a]
    rfl
  | cst d =>
    show q_cst d  = _
    rfl
  | var i =>
    show q_var i  = _
    rfl
  | peek i =>
    show q_peek i  = _
    rfl
  | mov i =>
    show q_mov i  = _
    rfl
  | glob g =>
    show (q_glob G) g  = _
    rfl
  | op1 o a h_a =>
    show q_op1 o a (evq κ Λ G a) = _
    rw [h_a]
    unfold q_op1
    try rw [ap1q_eq]
    try rw [ap2q_eq]
    try rw [ap3q_eq]
    rfl
  | op2 o a b h_a h_b =>
    show q_op2 o a b (evq κ Λ G a) (evq κ Λ G b) = _
    rw [h_a, h_b]
    unfold q_op2
    try rw [ap1q_eq]
    try rw [ap2q_eq]
    try rw [ap3q_eq]
    rfl
  | op3 o a b c h_a h_b h_c =>
    show q_op3 o a b c (evq κ Λ G a) (evq κ Λ G b) (evq κ Λ G c) = _
    rw [h_a, h_b, h_c]
    unfold q_op3
    try rw [ap1q_eq]
    try rw [ap2q_eq]
    try rw [ap3q_eq]
    rfl
  | chain o o' a b c h_a h_b h_c =>
    show q_chain o o' a b c (evq κ Λ G a) (evq κ Λ G b) (evq κ Λ G c) = _
    rw [h_a, h_b, h_c]
    unfold q_chain
    try rw [ap1q_eq]
    try rw [ap2q_eq]
    try rw [ap3q_eq]
    rfl
  | not a h_a =>
    show q_not a (evq κ Λ G a) = _
    rw [h_a]
    rfl
  | and a b h_a h_b =>
    show q_and a b (evq κ Λ G a) (evq κ Λ G b) = _
    rw [h_a, h_b]
    rfl
  | or a b h_a h_b =>
    show q_or a b (evq κ Λ G a) (evq κ Λ G b) = _
    rw [h_a, h_b]
    rfl
  | ife c a b h_c h_a h_b =>
    show q_ife c a b (evq κ Λ G c) (evq κ Λ G a) (evq κ Λ G b) = _
    rw [h_c, h_a, h_b]
    rfl
  | tup as h_as =>
    show q_tup as (evq κ Λ G as) = _
    rw [h_as]
    rfl
  | lst as h_as =>
    show q_lst as (evq κ Λ G as) = _
    rw [h_as]
    rfl
  | dsp ks vs t h_ks h_vs =>
    show q_dsp ks vs t (evq κ Λ G ks) (evq κ Λ G vs) = _
    rw [h_ks, h_vs]
    rfl
  | call f as h_as =>
    show (q_call κ) f as (evq κ Λ G as) = _
    rw [h_as]
    rfl
  | callr f j i as h_as =>
    show (q_callr κ) f j i as (evq κ Λ G as) = _
    rw [h_as]
    rfl
  | callo f a h_a =>
    show (q_callo κ) f a (evq κ Λ G a) = _
    rw [h_a]
    rfl
  | callv i as h_as =>
    show (q_callv κ G) i as (evq κ Λ G as) = _
    rw [h_as]
    rfl
  | calla i =>
    show (q_calla Λ) i  = _
    rfl
  | calll f a h_a =>
    show (q_calll κ) f a (evq κ Λ G a) = _
    rw [h_a]
    rfl
  | «mut» m i as h_as =>
    show q_mut m i as (evq κ Λ G as) = _
    rw [h_as]
    rfl
  | comp own t it tst e h_it h_tst h_e =>
    show q_comp own t it tst e (evq κ Λ G it) (evq κ Λ G tst) (evq κ Λ G e) = _
    rw [h_it, h_tst, h_e]
    rfl
  | comp2 own own2 t it t2 it2 tst e h_it h_it2 h_tst h_e =>
    show q_comp2 own own2 t it t2 it2 tst e (evq κ Λ G it) (evq κ Λ G it2) (evq κ Λ G tst) (evq κ Λ G e) = _
    rw [h_it, h_it2, h_tst, h_e]
    rfl
  | dcomp own t it tst k v tk h_it h_tst h_k h_v =>
    show q_dcomp own t it tst k v tk (evq κ Λ G it) (evq κ Λ G tst) (evq κ Λ G k) (evq κ Λ G v) = _
    rw [h_it, h_tst, h_k, h_v]
    rfl
  | dcomp2 own own2 t it t2 it2 tst k v tk h_it h_it2 h_tst h_k h_v =>
    show q_dcomp2 own own2 t it t2 it2 tst k v tk (evq κ Λ G it) (evq κ Λ G it2) (evq κ Λ G tst) (evq κ Λ G k) (evq κ Λ G v) = _
    rw [h_it, h_it2, h_tst, h_k, h_v]
    rfl
  | nxt own t it tst e d h_it h_tst h_e h_d =>
    show q_nxt own t it tst e d (evq κ Λ G it) (evq κ Λ G tst) (evq κ Λ G e) (evq κ Λ G d) = _
    rw [h_it, h_tst, h_e, h_d]
    rfl
  | attr nm a h_a =>
    show (q_attr G) nm a (evq κ Λ G a) = _
    rw [h_a]
    rfl
  | meth o a b h_a h_b =>
    show q_meth o a b (evq κ Λ G a) (evq κ Λ G b) = _
    rw [h_a, h_b]
    unfold q_meth
    try rw [ap1q_eq]
    try rw [ap2q_eq]
    try rw [ap3q_eq]
    rfl
  | meth3 o a b c h_a h_b h_c =>
    show q_meth3 o a b c (evq κ Λ G a) (evq κ Λ G b) (evq κ Λ G c) = _
    rw [h_a, h_b, h_c]
    unfold q_meth3
    try rw [ap1q_eq]
    try rw [ap2q_eq]
    try rw [ap3q_eq]
    rfl
  | slc a b c h_a h_b h_c =>
    show q_slc a b c (evq κ Λ G a) (evq κ Λ G b) (evq κ Λ G c) = _
    rw [h_a, h_b, h_c]
    unfold q_slc
    try rw [ap1q_eq]
    try rw [ap2q_eq]
    try rw [ap3q_eq]
    rfl
  | itv a h_a =>
    show q_itv a (evq κ Λ G a) = _
    rw [h_a]
    rfl
  | rng1 a h_a =>
    show q_rng1 a (evq κ Λ G a) = _
    rw [h_a]
    rfl
  | rng2 a b h_a h_b =>
    show q_rng2 a b (evq κ Λ G a) (evq κ Λ G b) = _
    rw [h_a, h_b]
    rfl
  | rng3 a b c h_a h_b h_c =>
    show q_rng3 a b c (evq κ Λ G a) (evq κ Λ G b) (evq κ Λ G c) = _
    rw [h_a, h_b, h_c]
    rfl
  | zip2 a b h_a h_b =>
    show q_zip2 a b (evq κ Λ G a) (evq κ Λ G b) = _
    rw [h_a, h_b]
    rfl
  | zip3 a b c h_a h_b h_c =>
    show q_zip3 a b c (evq κ Λ G a) (evq κ Λ G b) (evq κ Λ G c) = _
    rw [h_a, h_b, h_c]
    rfl
  | enum a h_a =>
    show q_enum a (evq κ Λ G a) = _
    rw [h_a]
    rfl
  | enums a b h_a h_b =>
    show q_enums a b (evq κ Λ G a) (evq κ Λ G b) = _
    rw [h_a, h_b]
    rfl
  | items a h_a =>
    show q_items a (evq κ Λ G a) = _
    rw [h_a]
    rfl
  | asg t a h_a =>
    show q_asg t a (evq κ Λ G a) = _
    rw [h_a]
    rfl
  | asgs is as h_as =>
    show q_asgs is as (evq κ Λ G as) = _
    rw [h_as]
    rfl
  | aug i o a h_a =>
    show q_aug i o a (evq κ Λ G a) = _
    rw [h_a]
    rfl
  | seti i k v h_k h_v =>
    show q_seti i k v (evq κ Λ G k) (evq κ Λ G v) = _
    rw [h_k, h_v]
    rfl
  | augi i o k v h_k h_v =>
    show q_augi i o k v (evq κ Λ G k) (evq κ Λ G v) = _
    rw [h_k, h_v]
    unfold q_augi
    try rw [ap1q_eq]
    try rw [ap2q_eq]
    try rw [ap3q_eq]
    rfl
  | xpr a h_a =>
    show q_xpr a (evq κ Λ G a) = _
    rw [h_a]
    rfl
  | ret a h_a =>
    show q_ret a (evq κ Λ G a) = _
    rw [h_a]
    rfl
  | retn  =>
    show q_retn   = _
    rfl
  | ifs c a b h_c h_a h_b =>
    show q_ifs c a b (evq κ Λ G c) (evq κ Λ G a) (evq κ Λ G b) = _
    rw [h_c, h_a, h_b]
    rfl
  | whl c b h_c h_b =>
    show (q_whl G) c b (evq κ Λ G c) (evq κ Λ G b) = _
    rw [h_c, h_b]
    rfl
  | for_ t it b h_it h_b =>
    show q_for_ t it b (evq κ Λ G it) (evq κ Λ G b) = _
    rw [h_it, h_b]
    rfl
  | rais k a h_a =>
    show q_rais k a (evq κ Λ G a) = _
    rw [h_a]
    rfl
  | raism k =>
    show q_raism k  = _
    rfl
  | try_ b hs h_b h_hs =>
    show q_try_ b hs (evq κ Λ G b) (evq κ Λ G hs) = _
    rw [h_b, h_hs]
    rfl
  | hnd k i b h_b =>
    show (q_hnd G) k i b (evq κ Λ G b) = _
    rw [h_b]
    rfl
  | pass  =>
    show q_pass   = _
    rfl
  | brk  =>
    show q_brk   = _
    rfl
  | cont  =>
    show q_cont   = _
    rfl
  | dead  =>
    show q_dead   = _
    rfl
end
/-- the same, def by def -/
def runS (F : Nat → Option Fn) (G : Ev) (κ : Nat → (List D → RC) → List D → List D → RC) (f : Nat) (l : List D → RC) (ds st : List D) : RC := match F f with
  | none => .no
  | some c => if ds.length = c.np && Nat.ble c.np c.ns then ends st.length ((evq κ l G c.body).x ⟨ds.map (fun d => some (d, false)) ++ List.replicate (c.ns - c.np) none, st⟩) else .no
def runq (F : Nat → Option Fn) (G : Ev) (L : Nat) : Nat → (List D → RC) → List D → List D → RC := Nat.rec (motive := fun _ => Nat → (List D → RC) → List D → List D → RC) (fun _ _ _ _ => .no) (fun _ ih => runS F G ih) L
theorem runq_eq (F : Nat → Option Fn) (G : Ev) (L : Nat) : run F G L = runq F G L := by
  induction L with
  | zero => rfl
  | succ L ih =>
    funext f l ds st
    show _ = runS F G (runq F G L) f l ds st
    rw [← ih]
    unfold runS
    cases e : F f with
    | none => simp only [run, e]
    | some c =>
      simp only [run, e, evq_eq]
      rfl
end
end Mp
end
section
set_option Elab.async false
set_option linter.all false
set_option maxRecDepth 100000
set_option maxHeartbeats 0
namespace Mp.k82
open Mp
instance : Coe String PySem.Str := ⟨PySem.Str.ofString⟩
def c_is_whole_number : Fn := ⟨1, 1, (.cons (.ret (.and (.op1 .isInt (.peek 0)) (.not (.op1 .isBool (.peek 0))))) .nil)⟩
def c_is_integer : Fn := ⟨1, 1, (.cons (.ret (.and (.call 2 (.cons (.var 0) .nil)) (.op2 .lt (.op1 .abs (.peek 0)) (.glob 1)))) .nil)⟩
def c_is_within : Fn := ⟨3, 3, (.cons (.ret (.and (.call 2 (.cons (.var 0) .nil)) (.chain .le .le (.var 1) (.var 0) (.var 2)))) .nil)⟩
def c_is_from_zero : Fn := ⟨1, 1, (.cons (.ret (.and (.call 3 (.cons (.var 0) .nil)) (.op2 .ge (.peek 0) (.cst (.int 0))))) .nil)⟩
def c_integer_power : Fn := ⟨2, 4, (.cons (.asg (.n 2) (.cst (.int 1))) (.cons (.for_ (.n 3) (.rng1 (.var 1)) (.cons (.aug 2 .mul (.var 0)) .nil)) (.cons (.ret (.mov 2)) .nil)))⟩
def c_is_field_in : Fn := ⟨1, 1, (.cons (.ret (.and (.call 2 (.cons (.var 0) .nil)) (.op2 .isin (.peek 0) (.glob 4)))) .nil)⟩
def c_opposite_in : Fn := ⟨2, 2, (.cons (.ret (.meth .index (.op2 .idx (.op2 .idx (.glob 5) (.peek 0)) (.peek 1)) (.cst (.int 0)))) .nil)⟩
def c_inverse_in : Fn := ⟨2, 2, (.cons (.ret (.meth .index (.op2 .idx (.op2 .idx (.glob 6) (.peek 0)) (.peek 1)) (.cst (.int 1)))) .nil)⟩
def c_require_field : Fn := ⟨1, 1, (.cons (.ifs (.not (.call 7 (.cons (.var 0) .nil))) (.cons (.raism 8) .nil) .nil) .nil)⟩
def c_require_from_zero : Fn := ⟨1, 1, (.cons (.ifs (.not (.call 41 (.cons (.var 0) .nil))) (.cons (.rais 42 (.var 0)) .nil) .nil) .nil)⟩
def c_to_power : Fn := ⟨2, 4, (.cons (.asg (.n 2) (.cst (.int 1))) (.cons (.for_ (.n 3) (.rng1 (.var 1)) (.cons (.aug 2 .mul (.var 0)) .nil)) (.cons (.ret (.mov 2)) .nil)))⟩
def c_trimmed : Fn := ⟨1, 2, (.cons (.asg (.n 1) (.op1 .len (.peek 0))) (.cons (.whl (.and (.op2 .gt (.peek 1) (.cst (.int 0))) (.op2 .eq (.op2 .idx (.peek 0) (.op2 .sub (.peek 1) (.cst (.int 1)))) (.cst (.int 0)))) (.cons (.aug 1 .sub (.cst (.int 1))) .nil)) (.cons (.ret (.op1 .tuple (.op2 .slU (.peek 0) (.peek 1)))) .nil)))⟩
def c_added_in : Fn := ⟨3, 9, (.cons (.asg (.t [3, 4]) (.ife (.op2 .ge (.op1 .len (.peek 1)) (.op1 .len (.peek 2))) (.tup (.cons (.var 1) (.cons (.var 2) .nil))) (.tup (.cons (.var 2) (.cons (.var 1) .nil))))) (.cons (.asg (.n 5) (.op2 .idx (.glob 5) (.peek 0))) (.cons (.asg (.n 8) (.comp [6, 7] (.t [6, 7]) (.zip2 (.var 3) (.var 4)) .nil (.op2 .idx (.op2 .idx (.peek 5) (.peek 6)) (.peek 7)))) (.cons (.ret (.call 9 (.cons (.lst (.cons (.star (.peek 8)) (.cons (.star (.op2 .slL (.peek 3) (.op1 .len (.peek 4)))) .nil))) .nil))) .nil))))⟩
def c_scaled_in : Fn := ⟨3, 5, (.cons (.asg (.n 3) (.op2 .idx (.op2 .idx (.glob 6) (.peek 0)) (.peek 1))) (.cons (.ret (.ife (.op2 .ne (.peek 1) (.cst (.int 0))) (.op1 .tuple (.comp [4] (.n 4) (.itv (.var 2)) .nil (.op2 .idx (.peek 3) (.peek 4)))) (.tup .nil))) .nil))⟩
def c_times_in : Fn := ⟨3, 14, (.cons (.ifs (.or (.op2 .eq (.peek 1) (.tup .nil)) (.op2 .eq (.peek 2) (.tup .nil))) (.cons (.ret (.tup .nil)) .nil) .nil) (.cons (.asg (.t [3, 4]) (.ife (.op2 .le (.op2 .sub (.op1 .len (.peek 1)) (.meth .count (.peek 1) (.cst (.int 0)))) (.op2 .sub (.op1 .len (.peek 2)) (.meth .count (.peek 2) (.cst (.int 0))))) (.tup (.cons (.var 1) (.cons (.var 2) .nil))) (.tup (.cons (.var 2) (.cons (.var 1) .nil))))) (.cons (.asg (.t [5, 6, 7]) (.tup (.cons (.op2 .idx (.glob 5) (.peek 0)) (.cons (.op1 .len (.peek 4)) (.cons (.op2 .mul (.lst (.cons (.cst (.int 0)) .nil)) (.op2 .sub (.op2 .add (.op1 .len (.peek 1)) (.op1 .len (.peek 2))) (.cst (.int 1)))) .nil))))) (.cons (.for_ (.t [8, 9]) (.enum (.var 3)) (.cons (.ifs (.op2 .ne (.peek 9) (.cst (.int 0))) (.cons (.asg (.n 10) (.op2 .idx (.op2 .idx (.glob 6) (.peek 0)) (.peek 9))) (.cons (.asg (.n 13) (.comp [11, 12] (.t [11, 12]) (.zip2 (.slc (.peek 7) (.var 8) (.op2 .add (.peek 8) (.peek 6))) (.var 4)) .nil (.op2 .idx (.op2 .idx (.peek 5) (.peek 11)) (.op2 .idx (.peek 10) (.peek 12))))) (.cons (.asg (.n 7) (.lst (.cons (.star (.op2 .slU (.peek 7) (.peek 8))) (.cons (.star (.peek 13)) (.cons (.star (.op2 .slL (.peek 7) (.op2 .add (.peek 8) (.peek 6)))) .nil))))) .nil))) .nil) .nil)) (.cons (.ret (.op1 .tuple (.peek 7))) .nil)))))⟩
def c_root_power_in : Fn := ⟨3, 5, (.cons (.asg (.n 3) (.call 11 (.cons (.var 0) (.cons (.var 2) .nil)))) (.cons (.ret (.op1 .tuple (.comp [4] (.n 4) (.rng1 (.op2 .add (.op2 .mul (.peek 3) (.op2 .sub (.op1 .len (.peek 1)) (.cst (.int 1)))) (.cst (.int 1)))) .nil (.ife (.op2 .eq (.op2 .mod (.peek 4) (.peek 3)) (.cst (.int 0))) (.op2 .idx (.peek 1) (.op2 .fdiv (.peek 4) (.peek 3))) (.cst (.int 0)))))) .nil))⟩
def c_digits_in_base : Fn := ⟨2, 3, (.cons (.asg (.n 2) (.lst .nil)) (.cons (.whl (.op2 .gt (.peek 1) (.cst (.int 0))) (.cons (.asg (.n 2) (.lst (.cons (.star (.peek 2)) (.cons (.op2 .mod (.peek 1) (.peek 0)) .nil)))) (.cons (.aug 1 .fdiv (.var 0)) .nil))) (.cons (.ret (.mov 2)) .nil)))⟩
def c_shifted_in : Fn := ⟨2, 2, (.cons (.ret (.ife (.op2 .ne (.peek 0) (.tup .nil)) (.tup (.cons (.star (.op2 .mul (.lst (.cons (.cst (.int 0)) .nil)) (.peek 1))) (.cons (.star (.peek 0)) .nil))) (.tup .nil))) .nil)⟩
def c_divided_in : Fn := ⟨3, 15, (.cons (.asgs [3, 4, 5] (.cons (.op1 .len (.peek 2)) (.cons (.op1 .list (.peek 1)) (.cons (.lst .nil) .nil)))) (.cons (.asg (.t [6, 7, 8]) (.tup (.cons (.call 15 (.cons (.var 0) (.cons (.op2 .idx (.peek 2) (.op1 .neg (.cst (.int 1)))) .nil))) (.cons (.op2 .idx (.glob 5) (.peek 0)) (.cons (.op2 .idx (.glob 6) (.peek 0)) .nil))))) (.cons (.for_ (.n 9) (.rng3 (.op2 .sub (.op1 .len (.peek 1)) (.peek 3)) (.op1 .neg (.cst (.int 1))) (.op1 .neg (.cst (.int 1)))) (.cons (.asg (.n 10) (.op2 .idx (.op2 .idx (.peek 8) (.op2 .idx (.peek 4) (.op2 .sub (.op2 .add (.peek 9) (.peek 3)) (.cst (.int 1))))) (.peek 6))) (.cons (.asg (.n 5) (.lst (.cons (.var 10) (.cons (.star (.peek 5)) .nil)))) (.cons (.ifs (.op2 .ne (.peek 10) (.cst (.int 0))) (.cons (.asg (.n 11) (.op2 .idx (.peek 8) (.call 16 (.cons (.var 0) (.cons (.var 10) .nil))))) (.cons (.asg (.n 14) (.comp [12, 13] (.t [12, 13]) (.zip2 (.slc (.peek 4) (.var 9) (.op2 .add (.peek 9) (.peek 3))) (.var 2)) .nil (.op2 .idx (.op2 .idx (.peek 7) (.peek 12)) (.op2 .idx (.peek 11) (.peek 13))))) (.cons (.asg (.n 4) (.lst (.cons (.star (.op2 .slU (.peek 4) (.peek 9))) (.cons (.star (.peek 14)) (.cons (.star (.op2 .slL (.peek 4) (.op2 .add (.peek 9) (.peek 3)))) .nil))))) .nil))) .nil) .nil)))) (.cons (.ret (.tup (.cons (.op1 .tuple (.peek 5)) (.cons (.call 9 (.cons (.ife (.op2 .ge (.op1 .len (.peek 1)) (.peek 3)) (.op2 .slU (.peek 4) (.op2 .sub (.peek 3) (.cst (.int 1)))) (.var 4)) .nil)) .nil)))) .nil))))⟩
def c_rest_in : Fn := ⟨3, 3, (.cons (.ret (.op2 .idx (.call 17 (.cons (.var 0) (.cons (.var 1) (.cons (.var 2) .nil)))) (.cst (.int 1)))) .nil)⟩
def c_monic_in : Fn := ⟨2, 2, (.cons (.ret (.ife (.op2 .ne (.peek 1) (.tup .nil)) (.call 18 (.cons (.var 0) (.cons (.call 15 (.cons (.var 0) (.cons (.op2 .idx (.peek 1) (.op1 .neg (.cst (.int 1)))) .nil))) (.cons (.var 1) .nil)))) (.tup .nil))) .nil)⟩
def c_common_divisor : Fn := ⟨3, 3, (.cons (.whl (.op2 .ne (.peek 2) (.tup .nil)) (.cons (.asgs [1, 2] (.cons (.var 2) (.cons (.call 19 (.cons (.var 0) (.cons (.var 1) (.cons (.var 2) .nil)))) .nil))) .nil)) (.cons (.ret (.call 20 (.cons (.var 0) (.cons (.var 1) .nil)))) .nil))⟩
def c_monics_in : Fn := ⟨2, 6, (.cons (.asg (.n 2) (.lst (.cons (.tup .nil) .nil))) (.cons (.for_ (.n 3) (.rng1 (.var 1)) (.cons (.asg (.n 2) (.comp2 [4] [5] (.n 4) (.itv (.var 2)) (.n 5) (.rng1 (.var 0)) .nil (.tup (.cons (.star (.peek 4)) (.cons (.var 5) .nil))))) .nil)) (.cons (.ret (.comp [4] (.n 4) (.itv (.var 2)) .nil (.tup (.cons (.star (.peek 4)) (.cons (.cst (.int 1)) .nil))))) .nil)))⟩
def c_quotient_in : Fn := ⟨3, 7, (.cons (.ifs (.op2 .eq (.peek 1) (.tup .nil)) (.cons (.ret (.glob 21)) .nil) .nil) (.cons (.asg (.n 3) (.call 22 (.cons (.var 0) (.cons (.var 1) (.cons (.var 2) .nil))))) (.cons (.asgs [4, 5] (.cons (.op2 .idx (.call 17 (.cons (.var 0) (.cons (.var 1) (.cons (.var 3) .nil)))) (.cst (.int 0))) (.cons (.op2 .idx (.call 17 (.cons (.var 0) (.cons (.var 2) (.cons (.var 3) .nil)))) (.cst (.int 0))) .nil))) (.cons (.asg (.n 6) (.call 15 (.cons (.var 0) (.cons (.op2 .idx (.peek 5) (.op1 .neg (.cst (.int 1)))) .nil)))) (.cons (.ret (.tup (.cons (.call 18 (.cons (.var 0) (.cons (.var 6) (.cons (.var 4) .nil)))) (.cons (.call 18 (.cons (.var 0) (.cons (.var 6) (.cons (.var 5) .nil)))) .nil)))) .nil)))))⟩
def c_fraction_sum_in : Fn := ⟨3, 4, (.cons (.ifs (.op2 .eq (.op2 .idx (.peek 1) (.cst (.int 1))) (.op2 .idx (.peek 2) (.cst (.int 1)))) (.cons (.ret (.call 29 (.cons (.var 0) (.cons (.call 27 (.cons (.var 0) (.cons (.op2 .idx (.peek 1) (.cst (.int 0))) (.cons (.op2 .idx (.peek 2) (.cst (.int 0))) .nil)))) (.cons (.op2 .idx (.peek 1) (.cst (.int 1))) .nil))))) .nil) .nil) (.cons (.asg (.n 3) (.call 27 (.cons (.var 0) (.cons (.call 13 (.cons (.var 0) (.cons (.op2 .idx (.peek 1) (.cst (.int 0))) (.cons (.op2 .idx (.peek 2) (.cst (.int 1))) .nil)))) (.cons (.call 13 (.cons (.var 0) (.cons (.op2 .idx (.peek 2) (.cst (.int 0))) (.cons (.op2 .idx (.peek 1) (.cst (.int 1))) .nil)))) .nil))))) (.cons (.ret (.call 29 (.cons (.var 0) (.cons (.var 3) (.cons (.call 13 (.cons (.var 0) (.cons (.op2 .idx (.peek 1) (.cst (.int 1))) (.cons (.op2 .idx (.peek 2) (.cst (.int 1))) .nil)))) .nil))))) .nil)))⟩
def c_bracket_in : Fn := ⟨2, 2, (.cons (.ret (.tup (.cons (.cst (.int 0)) (.cons (.call 16 (.cons (.var 0) (.cons (.cst (.int 1)) .nil))) (.cons (.star (.op2 .mul (.lst (.cons (.cst (.int 0)) .nil)) (.op2 .sub (.call 23 (.cons (.var 0) (.cons (.var 1) .nil))) (.cst (.int 2))))) (.cons (.cst (.int 1)) .nil)))))) .nil)⟩
def c_all_product_in : Fn := ⟨2, 4, (.cons (.asg (.n 2) (.tup (.cons (.cst (.int 1)) .nil))) (.cons (.for_ (.n 3) (.rng2 (.cst (.int 1)) (.op2 .add (.peek 1) (.cst (.int 1)))) (.cons (.asg (.n 2) (.call 13 (.cons (.var 0) (.cons (.var 2) (.cons (.call 14 (.cons (.var 0) (.cons (.call 24 (.cons (.var 0) (.cons (.var 3) .nil))) (.cons (.op2 .sub (.peek 1) (.peek 3)) .nil)))) .nil))))) .nil)) (.cons (.ret (.mov 2)) .nil)))⟩
def c_least_multiple_in : Fn := ⟨2, 4, (.cons (.asg (.n 2) (.tup (.cons (.cst (.int 1)) .nil))) (.cons (.for_ (.n 3) (.rng2 (.cst (.int 1)) (.op2 .add (.peek 1) (.cst (.int 1)))) (.cons (.asg (.n 2) (.call 13 (.cons (.var 0) (.cons (.var 2) (.cons (.call 24 (.cons (.var 0) (.cons (.var 3) .nil))) .nil))))) .nil)) (.cons (.ret (.mov 2)) .nil)))⟩
def c_c_power_step : Fn := ⟨2, 7, (.cons (.asg (.n 3) (.lst (.cons (.star (.comp [2] (.n 2) (.itv (.var 1)) .nil (.call 149 (.cons (.var 2) (.cons (.cst (.int 1)) .nil))))) (.cons (.tup .nil) .nil)))) (.cons (.asg (.n 4) (.lst (.cons (.tup .nil) (.cons (.star (.comp [2] (.n 2) (.itv (.var 1)) .nil (.call 14 (.cons (.var 0) (.cons (.var 2) (.cons (.cst (.int 1)) .nil)))))) .nil)))) (.cons (.ret (.comp [5, 6] (.t [5, 6]) (.zip2 (.var 3) (.var 4)) .nil (.call 27 (.cons (.var 0) (.cons (.var 5) (.cons (.var 6) .nil)))))) .nil)))⟩
def c_carlitz_in : Fn := ⟨2, 7, (.cons (.asgs [3, 4] (.cons (.lst (.cons (.tup (.cons (.cst (.int 1)) .nil)) .nil)) (.cons (.comp [2] (.n 2) (.itv (.var 1)) .nil (.tup .nil)) .nil))) (.cons (.for_ (.n 2) (.itv (.var 1)) (.cons (.for_ (.t [5, 6]) (.enum (.var 3)) (.cons (.seti 4 (.var 5) (.call 27 (.cons (.var 0) (.cons (.op2 .idx (.peek 4) (.peek 5)) (.cons (.call 18 (.cons (.var 0) (.cons (.var 2) (.cons (.var 6) .nil)))) .nil))))) .nil)) (.cons (.asg (.n 3) (.call 150 (.cons (.var 0) (.cons (.var 3) .nil)))) .nil))) (.cons (.ret (.op1 .tuple (.peek 4))) .nil)))⟩
def c_row_product : Fn := ⟨3, 8, (.cons (.asg (.n 3) (.dsp .nil .nil false)) (.cons (.for_ (.t [4, 5]) (.items (.var 1)) (.cons (.for_ (.t [6, 7]) (.items (.var 2)) (.cons (.seti 3 (.op2 .add (.peek 4) (.peek 6)) (.call 27 (.cons (.var 0) (.cons (.meth3 .get2 (.peek 3) (.op2 .add (.peek 4) (.peek 6)) (.tup .nil)) (.cons (.call 13 (.cons (.var 0) (.cons (.var 5) (.cons (.var 7) .nil)))) .nil))))) .nil)) .nil)) (.cons (.ret (.mov 3)) .nil)))⟩
def c_stretched_row : Fn := ⟨2, 4, (.cons (.ret (.dcomp [2, 3] (.t [2, 3]) (.items (.var 1)) .nil (.op2 .mul (.peek 0) (.peek 2)) (.call 14 (.cons (.var 0) (.cons (.var 3) (.cons (.cst (.int 1)) .nil)))) false)) .nil)⟩
def c_row_power : Fn := ⟨3, 7, (.cons (.asgs [3, 4] (.cons (.dsp (.cons (.cst (.int 0)) .nil) (.cons (.tup (.cons (.cst (.int 1)) .nil)) .nil) false) (.cons (.var 1) .nil))) (.cons (.for_ (.n 5) (.itv (.call 12 (.cons (.var 0) (.cons (.var 2) .nil)))) (.cons (.for_ (.n 6) (.rng1 (.var 5)) (.cons (.asg (.n 3) (.call 151 (.cons (.var 0) (.cons (.var 3) (.cons (.var 4) .nil))))) .nil)) (.cons (.asg (.n 4) (.call 152 (.cons (.var 0) (.cons (.var 4) .nil)))) .nil))) (.cons (.ret (.mov 3)) .nil)))⟩
def c_inner_row : Fn := ⟨3, 11, (.cons (.asgs [3, 4] (.cons (.call 25 (.cons (.var 0) (.cons (.var 2) .nil))) (.cons (.dsp .nil .nil false) .nil))) (.cons (.for_ (.n 5) (.itv (.call 26 (.cons (.var 0) (.cons (.var 2) .nil)))) (.cons (.asg (.n 6) (.op2 .idx (.call 17 (.cons (.var 0) (.cons (.var 3) (.cons (.var 5) .nil)))) (.cst (.int 0)))) (.cons (.asg (.n 9) (.dcomp [7, 8] (.t [7, 8]) (.enum (.call 153 (.cons (.var 0) (.cons (.var 5) .nil)))) (.op2 .ne (.peek 8) (.tup .nil)) (.call 23 (.cons (.var 0) (.cons (.var 7) .nil))) (.var 8) false)) (.cons (.for_ (.t [10, 8]) (.items (.call 154 (.cons (.var 0) (.cons (.var 9) (.cons (.var 1) .nil))))) (.cons (.seti 4 (.var 10) (.call 27 (.cons (.var 0) (.cons (.meth3 .get2 (.peek 4) (.peek 10) (.tup .nil)) (.cons (.call 13 (.cons (.var 0) (.cons (.var 6) (.cons (.var 8) .nil)))) .nil))))) .nil)) .nil)))) (.cons (.ret (.tup (.cons (.var 4) (.cons (.var 3) .nil)))) .nil)))⟩
def c_inner_sum_in : Fn := ⟨3, 6, (.cons (.asg (.t [3, 4]) (.call 155 (.cons (.var 0) (.cons (.var 1) (.cons (.var 2) .nil))))) (.cons (.ret (.op1 .tuple (.comp [5] (.n 5) (.rng1 (.op2 .add (.op2 .mul (.peek 1) (.call 23 (.cons (.var 0) (.cons (.var 2) .nil)))) (.cst (.int 1)))) .nil (.call 29 (.cons (.var 0) (.cons (.meth3 .get2 (.peek 3) (.peek 5) (.tup .nil)) (.cons (.var 4) .nil))))))) .nil))⟩
def c_stopping_quotients : Fn := ⟨3, 13, (.cons (.asg (.n 3) (.dsp .nil .nil false)) (.cons (.for_ (.n 4) (.rng1 (.op2 .add (.peek 2) (.cst (.int 1)))) (.cons (.asg (.t [5, 6]) (.call 155 (.cons (.var 0) (.cons (.var 1) (.cons (.op2 .sub (.peek 2) (.peek 4)) .nil))))) (.cons (.asg (.n 7) (.call 13 (.cons (.var 0) (.cons (.call 30 (.cons (.var 0) (.cons (.var 4) .nil))) (.cons (.call 14 (.cons (.var 0) (.cons (.var 6) (.cons (.var 4) .nil)))) .nil))))) (.cons (.for_ (.t [8, 9]) (.items (.var 5)) (.cons (.asg (.n 10) (.call 29 (.cons (.var 0) (.cons (.call 14 (.cons (.var 0) (.cons (.var 9) (.cons (.var 4) .nil)))) (.cons (.var 7) .nil))))) (.cons (.asg (.n 11) (.op2 .mul (.peek 8) (.call 23 (.cons (.var 0) (.cons (.var 4) .nil))))) (.cons (.seti 3 (.var 11) (.call 97 (.cons (.var 0) (.cons (.meth3 .get2 (.peek 3) (.peek 11) (.glob 156)) (.cons (.var 10) .nil))))) .nil)))) .nil)))) (.cons (.ret (.dcomp [8, 12] (.t [8, 12]) (.items (.var 3)) (.op2 .ne (.peek 12) (.glob 156)) (.var 8) (.var 12) false)) .nil)))⟩
def c_stopping_part_in : Fn := ⟨3, 5, (.cons (.asg (.n 3) (.call 157 (.cons (.var 0) (.cons (.var 1) (.cons (.var 2) .nil))))) (.cons (.ret (.op1 .tuple (.comp [4] (.n 4) (.rng1 (.op2 .add (.op2 .maxD (.peek 3) (.op1 .neg (.cst (.int 1)))) (.cst (.int 1)))) .nil (.op2 .idx (.meth3 .get2 (.peek 3) (.peek 4) (.glob 156)) (.cst (.int 0)))))) .nil))⟩
def c_stopping_end_in : Fn := ⟨2, 2, (.cons (.ret (.op2 .fdiv (.op2 .sub (.peek 1) (.cst (.int 1))) (.op2 .sub (.peek 0) (.cst (.int 1))))) .nil)⟩
def c_require_times : Fn := ⟨2, 2, (.cons (.xpr (.call 44 (.cons (.var 0) .nil))) (.cons (.ifs (.not (.call 94 (.cons (.var 1) (.cons (.cst (.int 1)) (.cons (.glob 158) .nil))))) (.cons (.rais 42 (.var 1)) .nil) .nil) .nil))⟩
def c_require_step : Fn := ⟨2, 2, (.cons (.xpr (.call 159 (.cons (.var 1) .nil))) (.cons (.ifs (.or (.op2 .gt (.peek 1) (.glob 161)) (.op2 .gt (.call 23 (.cons (.var 0) (.cons (.var 1) .nil))) (.glob 160))) (.cons (.rais 49 (.glob 160)) .nil) .nil) .nil))⟩
def c_inner_sum : Fn := ⟨3, 3, (.cons (.xpr (.call 162 (.cons (.var 0) (.cons (.var 1) .nil)))) (.cons (.xpr (.call 163 (.cons (.var 0) (.cons (.var 2) .nil)))) (.cons (.ret (.call 164 (.cons (.var 0) (.cons (.var 1) (.cons (.var 2) .nil))))) .nil)))⟩
def c_stopping_part : Fn := ⟨3, 3, (.cons (.xpr (.call 162 (.cons (.var 0) (.cons (.var 1) .nil)))) (.cons (.xpr (.call 163 (.cons (.var 0) (.cons (.var 2) .nil)))) (.cons (.ret (.call 165 (.cons (.var 0) (.cons (.var 1) (.cons (.var 2) .nil))))) .nil)))⟩
def c_stopping_end : Fn := ⟨2, 2, (.cons (.xpr (.call 162 (.cons (.var 0) (.cons (.var 1) .nil)))) (.cons (.ret (.call 166 (.cons (.var 0) (.cons (.var 1) .nil)))) .nil))⟩
def c_stopping_row : Fn := ⟨2, 4, (.cons (.xpr (.call 162 (.cons (.var 0) (.cons (.var 1) .nil)))) (.cons (.asg (.n 2) (.call 166 (.cons (.var 0) (.cons (.var 1) .nil)))) (.cons (.xpr (.call 163 (.cons (.var 0) (.cons (.var 2) .nil)))) (.cons (.ret (.op1 .tuple (.comp [3] (.n 3) (.rng1 (.op2 .add (.peek 2) (.cst (.int 1)))) .nil (.call 165 (.cons (.var 0) (.cons (.var 1) (.cons (.var 3) .nil))))))) .nil))))⟩
def c__law_dice : Fn := ⟨2, 6, (.cons (.asg (.n 2) (.op2 .add (.op2 .mul (.cst (.int 103)) (.peek 1)) (.cst (.int 43)))) (.cons (.ifs (.op2 .lt (.peek 1) (.op1 .len (.peek 0))) (.cons (.asg (.n 2) (.op2 .idx (.peek 0) (.peek 1))) .nil) .nil) (.cons (.asg (.n 3) (.op2 .mod (.op1 .int (.op1 .abs (.peek 2))) (.op2 .pow (.op2 .pow (.cst (.int 10)) (.cst (.int 60))) (.cst (.int 10))))) (.cons (.asg (.n 4) (.op2 .fdiv (.peek 3) (.op2 .pow (.cst (.int 10)) (.cst (.int 18))))) (.cons (.asg (.n 5) (.op2 .add (.op2 .add (.op2 .add (.op2 .mul (.op2 .mod (.peek 3) (.cst (.int 2147482661))) (.cst (.int 60509))) (.op2 .mul (.cst (.int 3539)) (.peek 1))) (.op2 .mul (.cst (.int 97)) (.op1 .int (.op2 .lt (.peek 2) (.cst (.int 0)))))) (.cst (.int 113)))) (.cons (.ret (.lst (.cons (.var 4) (.cons (.op2 .mod (.peek 5) (.cst (.int 2147482591))) (.cons (.cst (.int 0)) .nil))))) .nil))))))⟩
def c__law_roll : Fn := ⟨2, 6, (.cons (.asg (.n 2) (.op1 .int (.peek 1))) (.cons (.ifs (.op2 .gt (.op2 .idx (.peek 0) (.cst (.int 0))) (.cst (.int 0))) (.cons (.asg (.n 3) (.op2 .mod (.op2 .idx (.peek 0) (.cst (.int 0))) (.peek 2))) (.cons (.seti 0 (.cst (.int 0)) (.op2 .fdiv (.op2 .idx (.peek 0) (.cst (.int 0))) (.peek 2))) (.cons (.ret (.op1 .int (.peek 3))) .nil))) .nil) (.cons (.seti 0 (.cst (.int 2)) (.op2 .add (.op2 .idx (.peek 0) (.cst (.int 2))) (.cst (.int 1)))) (.cons (.asg (.n 4) (.op2 .mod (.op2 .add (.op2 .idx (.peek 0) (.cst (.int 1))) (.op2 .mul (.cst (.int 1000427)) (.op2 .idx (.peek 0) (.cst (.int 2))))) (.cst (.int 2305843009213693951)))) (.cons (.asg (.n 5) (.op2 .add (.op2 .mul (.op2 .mod (.op2 .mul (.peek 4) (.peek 4)) (.cst (.int 2305843009213693921))) (.peek 4)) (.op2 .mul (.cst (.int 9491)) (.op2 .idx (.peek 0) (.cst (.int 2)))))) (.cons (.asg (.n 5) (.op2 .mod (.peek 5) (.cst (.int 2305843009213693907)))) (.cons (.ret (.op1 .int (.op2 .mod (.op2 .fdiv (.peek 5) (.cst (.int 4096))) (.peek 2)))) .nil)))))))⟩
def c__law_one_of : Fn := ⟨2, 2, (.cons (.ret (.op2 .idx (.peek 1) (.callr 58 0 0 (.cons (.op1 .len (.peek 1)) .nil)))) .nil)⟩
def c__law_error_word : Fn := ⟨1, 2, (.cons (.try_ (.cons (.xpr (.calla 0)) .nil) (.cons (.hnd 8 none (.cons (.ret (.cst (.str "field"))) .nil)) (.cons (.hnd 42 (some 1) (.cons (.ret (.op2 .add (.cst (.str "number ")) (.op1 .repr (.attr 1 (.var 1))))) .nil)) (.cons (.hnd 49 (some 1) (.cons (.ret (.op2 .add (.cst (.str "many ")) (.op1 .repr (.attr 2 (.var 1))))) .nil)) .nil)))) (.cons (.ret (.cst (.str "fine"))) .nil))⟩
def c__law_errors_right : Fn := ⟨1, 8, (.cons (.asg (.n 1) (.callr 59 0 0 (.cons (.lst (.cons (.cst .non) (.cons (.cst (.int 1)) (.cons (.cst (.int 6)) (.cons (.cst (.bl true)) (.cons (.cst (.str "3")) (.cons (.tup (.cons (.cst (.int 2)) .nil)) (.cons (.op2 .pow (.cst (.int 10)) (.cst (.int 30))) (.cons (.op1 .neg (.cst (.int 2))) .nil))))))))) .nil))) (.cons (.asg (.n 2) (.callr 59 0 0 (.cons (.lst (.cons (.cst .non) (.cons (.cst (.int 0)) (.cons (.cst (.int 10)) (.cons (.op1 .neg (.cst (.int 1))) (.cons (.cst (.bl true)) (.cons (.cst (.str "2")) (.cons (.tup (.cons (.cst (.int 1)) .nil)) (.cons (.op2 .pow (.cst (.int 10)) (.cst (.int 50))) .nil))))))))) .nil))) (.cons (.asg (.n 3) (.callr 59 0 0 (.cons (.lst (.cons (.cst .non) (.cons (.op1 .neg (.cst (.int 1))) (.cons (.cst (.bl true)) (.cons (.cst (.str "0")) (.cons (.tup .nil) (.cons (.op2 .pow (.op2 .pow (.cst (.int 10)) (.cst (.int 30))) (.cst (.int 2))) .nil))))))) .nil))) (.cons (.asg (.n 4) (.callr 59 0 0 (.cons (.lst (.cons (.tup (.cons (.cst (.int 2)) (.cons (.cst (.int 5)) .nil))) (.cons (.tup (.cons (.cst (.int 3)) (.cons (.cst (.int 3)) .nil))) (.cons (.tup (.cons (.cst (.int 4)) (.cons (.cst (.int 3)) .nil))) (.cons (.tup (.cons (.cst (.int 5)) (.cons (.cst (.int 2)) .nil))) (.cons (.tup (.cons (.cst (.int 7)) (.cons (.cst (.int 2)) .nil))) (.cons (.tup (.cons (.cst (.int 8)) (.cons (.cst (.int 2)) .nil))) (.cons (.tup (.cons (.cst (.int 9)) (.cons (.cst (.int 2)) .nil))) (.cons (.tup (.cons (.cst (.int 2)) (.cons (.op2 .pow (.cst (.int 10)) (.cst (.int 50))) .nil))) .nil))))))))) .nil))) (.cons (.for_ (.n 5) (.itv (.tup (.cons (.glob 167) (.cons (.glob 168) .nil)))) (.cons (.asg (.n 6) (.lst (.cons (.calll 169 (.callv 5 (.cons (.var 1) (.cons (.var 2) (.cons (.var 3) .nil))))) .nil))) (.cons (.xpr (.mut .append 6 (.cons (.calll 169 (.callv 5 (.cons (.cst (.int 3)) (.cons (.var 2) (.cons (.var 3) .nil))))) .nil))) (.cons (.xpr (.mut .append 6 (.cons (.calll 169 (.callv 5 (.cons (.cst (.int 3)) (.cons (.cst (.int 2)) (.cons (.var 3) .nil))))) .nil))) (.cons (.xpr (.mut .append 6 (.cons (.calll 169 (.callv 5 (.cons (.op2 .idx (.peek 4) (.cst (.int 0))) (.cons (.var 2) (.cons (.op2 .idx (.peek 4) (.cst (.int 1))) .nil))))) .nil))) (.cons (.xpr (.mut .append 6 (.cons (.calll 169 (.callv 5 (.cons (.op2 .idx (.peek 4) (.cst (.int 0))) (.cons (.cst (.int 1)) (.cons (.op2 .idx (.peek 4) (.cst (.int 1))) .nil))))) .nil))) (.cons (.xpr (.mut .append 6 (.cons (.calll 169 (.callv 5 (.cons (.cst (.int 9)) (.cons (.cst (.int 1)) (.cons (.cst (.int 1)) .nil))))) .nil))) (.cons (.asg (.n 7) (.op2 .add (.cst (.str "number ")) (.op1 .repr (.peek 2)))) (.cons (.ifs (.op2 .ne (.peek 6) (.lst (.cons (.cst (.str "field")) (.cons (.var 7) (.cons (.op2 .add (.cst (.str "number ")) (.op1 .repr (.peek 3))) (.cons (.var 7) (.cons (.cst (.str "many 16")) (.cons (.cst (.str "fine")) .nil)))))))) (.cons (.ret (.cst (.bl false))) .nil) .nil) .nil))))))))) (.cons (.for_ (.n 5) (.itv (.tup (.cons (.glob 176) (.cons (.glob 177) .nil)))) (.cons (.asg (.n 6) (.lst (.cons (.calll 169 (.callv 5 (.cons (.var 1) (.cons (.var 2) .nil)))) .nil))) (.cons (.xpr (.mut .append 6 (.cons (.calll 169 (.callv 5 (.cons (.cst (.int 3)) (.cons (.var 2) .nil)))) .nil))) (.cons (.xpr (.mut .append 6 (.cons (.calll 169 (.callv 5 (.cons (.cst (.int 5)) (.cons (.cst (.int 4)) .nil)))) .nil))) (.cons (.ifs (.op2 .ne (.peek 6) (.lst (.cons (.cst (.str "field")) (.cons (.op2 .add (.cst (.str "number ")) (.op1 .repr (.peek 2))) (.cons (.cst (.str "fine")) .nil))))) (.cons (.ret (.cst (.bl false))) .nil) .nil) .nil))))) (.cons (.ret (.op2 .eq (.calll 169 (.call 177 (.cons (.cst (.int 2)) (.cons (.op2 .add (.cst (.int 6)) (.callr 58 0 0 (.cons (.cst (.int 4)) .nil))) .nil)))) (.cst (.str "many 16")))) .nil)))))))⟩
def c__law_ends_right : Fn := ⟨1, 4, (.cons (.asg (.t [1, 2]) (.callr 59 0 0 (.cons (.lst (.cons (.tup (.cons (.cst (.int 2)) (.cons (.cst (.int 1)) .nil))) (.cons (.tup (.cons (.cst (.int 2)) (.cons (.cst (.int 2)) .nil))) (.cons (.tup (.cons (.cst (.int 2)) (.cons (.cst (.int 3)) .nil))) (.cons (.tup (.cons (.cst (.int 3)) (.cons (.cst (.int 1)) .nil))) (.cons (.tup (.cons (.cst (.int 3)) (.cons (.cst (.int 2)) .nil))) (.cons (.tup (.cons (.cst (.int 4)) (.cons (.cst (.int 1)) .nil))) (.cons (.tup (.cons (.cst (.int 5)) (.cons (.cst (.int 1)) .nil))) (.cons (.tup (.cons (.cst (.int 7)) (.cons (.cst (.int 1)) .nil))) (.cons (.tup (.cons (.cst (.int 8)) (.cons (.cst (.int 1)) .nil))) (.cons (.tup (.cons (.cst (.int 9)) (.cons (.cst (.int 1)) .nil))) .nil))))))))))) .nil))) (.cons (.ifs (.or (.op2 .ne (.call 168 (.cons (.var 1) (.cons (.cst (.int 1)) (.cons (.var 2) .nil)))) (.tup .nil)) (.or (.op2 .ne (.call 177 (.cons (.var 1) (.cons (.cst (.int 1)) .nil))) (.tup (.cons (.tup (.cons (.tup .nil) (.cons (.tup (.cons (.cst (.int 1)) .nil)) .nil))) .nil))) (.op2 .ne (.call 176 (.cons (.var 1) (.cons (.cst (.int 1)) .nil))) (.cst (.int 0))))) (.cons (.ret (.cst (.bl false))) .nil) .nil) (.cons (.asg (.n 3) (.op2 .add (.cst (.int 1)) (.callr 58 0 0 (.cons (.op2 .min2 (.op2 .sub (.peek 1) (.cst (.int 1))) (.cst (.int 3))) .nil)))) (.cons (.ifs (.or (.op2 .ne (.call 177 (.cons (.var 1) (.cons (.var 3) .nil))) (.tup (.cons (.op2 .add (.op2 .mul (.tup (.cons (.tup .nil) .nil)) (.peek 3)) (.tup (.cons (.tup (.cons (.cst (.int 1)) .nil)) .nil))) .nil))) (.op2 .ne (.call 168 (.cons (.var 1) (.cons (.var 3) (.cons (.cst (.int 0)) .nil)))) (.op2 .add (.op2 .mul (.tup (.cons (.tup .nil) .nil)) (.peek 3)) (.tup (.cons (.tup (.cons (.cst (.int 1)) .nil)) .nil))))) (.cons (.ret (.cst (.bl false))) .nil) .nil) (.cons (.asg (.n 3) (.op2 .add (.cst (.int 1)) (.callr 58 0 0 (.cons (.cst (.int 9)) .nil)))) (.cons (.ret (.and (.op2 .eq (.call 176 (.cons (.var 1) (.cons (.var 3) .nil))) (.op2 .fdiv (.op2 .sub (.peek 3) (.cst (.int 1))) (.op2 .sub (.peek 1) (.cst (.int 1))))) (.or (.op2 .gt (.peek 2) (.cst (.int 1))) (.or (.op2 .gt (.peek 3) (.cst (.int 3))) (.or (.op2 .ge (.peek 3) (.peek 1)) (.op2 .eq (.call 168 (.cons (.var 1) (.cons (.var 3) (.cons (.cst (.int 1)) .nil)))) (.tup .nil))))))) .nil))))))⟩
def c_law : Fn := ⟨1, 3, (.cons (.for_ (.n 1) (.rng1 (.op2 .max2 (.cst (.int 1)) (.op2 .min2 (.cst (.int 4)) (.op1 .len (.peek 0))))) (.cons (.asg (.n 2) (.call 87 (.cons (.var 0) (.cons (.var 1) .nil)))) (.cons (.ifs (.or (.not (.callr 183 0 2 .nil)) (.not (.callr 182 0 2 .nil))) (.cons (.ret (.cst (.bl false))) .nil) .nil) .nil))) (.cons (.ret (.cst (.bl true))) .nil))⟩
def fns : List (Nat × Fn) := [(2, c_is_whole_number), (3, c_is_integer), (94, c_is_within), (41, c_is_from_zero), (23, c_integer_power), (7, c_is_field_in), (16, c_opposite_in), (15, c_inverse_in), (44, c_require_field), (159, c_require_from_zero), (11, c_to_power), (9, c_trimmed), (27, c_added_in), (18, c_scaled_in), (13, c_times_in), (14, c_root_power_in), (12, c_digits_in_base), (149, c_shifted_in), (17, c_divided_in), (19, c_rest_in), (20, c_monic_in), (22, c_common_divisor), (26, c_monics_in), (29, c_quotient_in), (97, c_fraction_sum_in), (24, c_bracket_in), (30, c_all_product_in), (25, c_least_multiple_in), (150, c_c_power_step), (153, c_carlitz_in), (151, c_row_product), (152, c_stretched_row), (154, c_row_power), (155, c_inner_row), (164, c_inner_sum_in), (157, c_stopping_quotients), (165, c_stopping_part_in), (166, c_stopping_end_in), (162, c_require_times), (163, c_require_step), (167, c_inner_sum), (168, c_stopping_part), (176, c_stopping_end), (177, c_stopping_row), (87, c__law_dice), (58, c__law_roll), (59, c__law_one_of), (169, c__law_error_word), (183, c__law_errors_right), (182, c__law_ends_right), (88, c_law)]
def globs : List (Nat × D) := [(4, (.tup [(.int 2), (.int 3), (.int 4), (.int 5), (.int 7), (.int 8), (.int 9)])),
 (1, (.int 1000000000000000000000000000000000000000000000000000000000000)),
 (5, (.gdc [((.int 2), (.tup [(.tup [(.int 0), (.int 1)]), (.tup [(.int 1), (.int 0)])])), ((.int 3), (.tup [(.tup [(.int 0), (.int 1), (.int 2)]), (.tup [(.int 1), (.int 2), (.int 0)]), (.tup [(.int 2), (.int 0), (.int 1)])])), ((.int 4), (.tup [(.tup [(.int 0), (.int 1), (.int 2), (.int 3)]), (.tup [(.int 1), (.int 0), (.int 3), (.int 2)]), (.tup [(.int 2), (.int 3), (.int 0), (.int 1)]), (.tup [(.int 3), (.int 2), (.int 1), (.int 0)])])), ((.int 5), (.tup [(.tup [(.int 0), (.int 1), (.int 2), (.int 3), (.int 4)]), (.tup [(.int 1), (.int 2), (.int 3), (.int 4), (.int 0)]), (.tup [(.int 2), (.int 3), (.int 4), (.int 0), (.int 1)]), (.tup [(.int 3), (.int 4), (.int 0), (.int 1), (.int 2)]), (.tup [(.int 4), (.int 0), (.int 1), (.int 2), (.int 3)])])), ((.int 7), (.tup [(.tup [(.int 0), (.int 1), (.int 2), (.int 3), (.int 4), (.int 5), (.int 6)]), (.tup [(.int 1), (.int 2), (.int 3), (.int 4), (.int 5), (.int 6), (.int 0)]), (.tup [(.int 2), (.int 3), (.int 4), (.int 5), (.int 6), (.int 0), (.int 1)]), (.tup [(.int 3), (.int 4), (.int 5), (.int 6), (.int 0), (.int 1), (.int 2)]), (.tup [(.int 4), (.int 5), (.int 6), (.int 0), (.int 1), (.int 2), (.int 3)]), (.tup [(.int 5), (.int 6), (.int 0), (.int 1), (.int 2), (.int 3), (.int 4)]), (.tup [(.int 6), (.int 0), (.int 1), (.int 2), (.int 3), (.int 4), (.int 5)])])), ((.int 8), (.tup [(.tup [(.int 0), (.int 1), (.int 2), (.int 3), (.int 4), (.int 5), (.int 6), (.int 7)]), (.tup [(.int 1), (.int 0), (.int 3), (.int 2), (.int 5), (.int 4), (.int 7), (.int 6)]), (.tup [(.int 2), (.int 3), (.int 0), (.int 1), (.int 6), (.int 7), (.int 4), (.int 5)]), (.tup [(.int 3), (.int 2), (.int 1), (.int 0), (.int 7), (.int 6), (.int 5), (.int 4)]), (.tup [(.int 4), (.int 5), (.int 6), (.int 7), (.int 0), (.int 1), (.int 2), (.int 3)]), (.tup [(.int 5), (.int 4), (.int 7), (.int 6), (.int 1), (.int 0), (.int 3), (.int 2)]), (.tup [(.int 6), (.int 7), (.int 4), (.int 5), (.int 2), (.int 3), (.int 0), (.int 1)]), (.tup [(.int 7), (.int 6), (.int 5), (.int 4), (.int 3), (.int 2), (.int 1), (.int 0)])])), ((.int 9), (.tup [(.tup [(.int 0), (.int 1), (.int 2), (.int 3), (.int 4), (.int 5), (.int 6), (.int 7), (.int 8)]), (.tup [(.int 1), (.int 2), (.int 0), (.int 4), (.int 5), (.int 3), (.int 7), (.int 8), (.int 6)]), (.tup [(.int 2), (.int 0), (.int 1), (.int 5), (.int 3), (.int 4), (.int 8), (.int 6), (.int 7)]), (.tup [(.int 3), (.int 4), (.int 5), (.int 6), (.int 7), (.int 8), (.int 0), (.int 1), (.int 2)]), (.tup [(.int 4), (.int 5), (.int 3), (.int 7), (.int 8), (.int 6), (.int 1), (.int 2), (.int 0)]), (.tup [(.int 5), (.int 3), (.int 4), (.int 8), (.int 6), (.int 7), (.int 2), (.int 0), (.int 1)]), (.tup [(.int 6), (.int 7), (.int 8), (.int 0), (.int 1), (.int 2), (.int 3), (.int 4), (.int 5)]), (.tup [(.int 7), (.int 8), (.int 6), (.int 1), (.int 2), (.int 0), (.int 4), (.int 5), (.int 3)]), (.tup [(.int 8), (.int 6), (.int 7), (.int 2), (.int 0), (.int 1), (.int 5), (.int 3), (.int 4)])]))])),
 (6, (.gdc [((.int 2), (.tup [(.tup [(.int 0), (.int 0)]), (.tup [(.int 0), (.int 1)])])), ((.int 3), (.tup [(.tup [(.int 0), (.int 0), (.int 0)]), (.tup [(.int 0), (.int 1), (.int 2)]), (.tup [(.int 0), (.int 2), (.int 1)])])), ((.int 4), (.tup [(.tup [(.int 0), (.int 0), (.int 0), (.int 0)]), (.tup [(.int 0), (.int 1), (.int 2), (.int 3)]), (.tup [(.int 0), (.int 2), (.int 3), (.int 1)]), (.tup [(.int 0), (.int 3), (.int 1), (.int 2)])])), ((.int 5), (.tup [(.tup [(.int 0), (.int 0), (.int 0), (.int 0), (.int 0)]), (.tup [(.int 0), (.int 1), (.int 2), (.int 3), (.int 4)]), (.tup [(.int 0), (.int 2), (.int 4), (.int 1), (.int 3)]), (.tup [(.int 0), (.int 3), (.int 1), (.int 4), (.int 2)]), (.tup [(.int 0), (.int 4), (.int 3), (.int 2), (.int 1)])])), ((.int 7), (.tup [(.tup [(.int 0), (.int 0), (.int 0), (.int 0), (.int 0), (.int 0), (.int 0)]), (.tup [(.int 0), (.int 1), (.int 2), (.int 3), (.int 4), (.int 5), (.int 6)]), (.tup [(.int 0), (.int 2), (.int 4), (.int 6), (.int 1), (.int 3), (.int 5)]), (.tup [(.int 0), (.int 3), (.int 6), (.int 2), (.int 5), (.int 1), (.int 4)]), (.tup [(.int 0), (.int 4), (.int 1), (.int 5), (.int 2), (.int 6), (.int 3)]), (.tup [(.int 0), (.int 5), (.int 3), (.int 1), (.int 6), (.int 4), (.int 2)]), (.tup [(.int 0), (.int 6), (.int 5), (.int 4), (.int 3), (.int 2), (.int 1)])])), ((.int 8), (.tup [(.tup [(.int 0), (.int 0), (.int 0), (.int 0), (.int 0), (.int 0), (.int 0), (.int 0)]), (.tup [(.int 0), (.int 1), (.int 2), (.int 3), (.int 4), (.int 5), (.int 6), (.int 7)]), (.tup [(.int 0), (.int 2), (.int 4), (.int 6), (.int 3), (.int 1), (.int 7), (.int 5)]), (.tup [(.int 0), (.int 3), (.int 6), (.int 5), (.int 7), (.int 4), (.int 1), (.int 2)]), (.tup [(.int 0), (.int 4), (.int 3), (.int 7), (.int 6), (.int 2), (.int 5), (.int 1)]), (.tup [(.int 0), (.int 5), (.int 1), (.int 4), (.int 2), (.int 7), (.int 3), (.int 6)]), (.tup [(.int 0), (.int 6), (.int 7), (.int 1), (.int 5), (.int 3), (.int 2), (.int 4)]), (.tup [(.int 0), (.int 7), (.int 5), (.int 2), (.int 1), (.int 6), (.int 4), (.int 3)])])), ((.int 9), (.tup [(.tup [(.int 0), (.int 0), (.int 0), (.int 0), (.int 0), (.int 0), (.int 0), (.int 0), (.int 0)]), (.tup [(.int 0), (.int 1), (.int 2), (.int 3), (.int 4), (.int 5), (.int 6), (.int 7), (.int 8)]), (.tup [(.int 0), (.int 2), (.int 1), (.int 6), (.int 8), (.int 7), (.int 3), (.int 5), (.int 4)]), (.tup [(.int 0), (.int 3), (.int 6), (.int 4), (.int 7), (.int 1), (.int 8), (.int 2), (.int 5)]), (.tup [(.int 0), (.int 4), (.int 8), (.int 7), (.int 2), (.int 3), (.int 5), (.int 6), (.int 1)]), (.tup [(.int 0), (.int 5), (.int 7), (.int 1), (.int 3), (.int 8), (.int 2), (.int 4), (.int 6)]), (.tup [(.int 0), (.int 6), (.int 3), (.int 8), (.int 5), (.int 2), (.int 4), (.int 1), (.int 7)]), (.tup [(.int 0), (.int 7), (.int 5), (.int 2), (.int 6), (.int 4), (.int 1), (.int 8), (.int 3)]), (.tup [(.int 0), (.int 8), (.int 4), (.int 5), (.int 1), (.int 6), (.int 7), (.int 3), (.int 2)])]))])),
 (21, (.tup [(.tup []), (.tup [(.int 1)])])),
 (158, (.int 9)),
 (160, (.int 16)),
 (161, (.int 4)),
 (156, (.tup [(.tup []), (.tup [(.int 1)])])),
 (167, .fn 167),
 (168, .fn 168),
 (176, .fn 176),
 (177, .fn 177)]
def subs : List (Nat × Nat) := [(89, 89), (8, 8), (8, 89), (42, 42), (49, 49)]
def atrs : List (Nat × Nat) := [(42, 1), (49, 2)]
def fnN : List (Nat × PySem.Str) := [(2, (PySem.Str.ofString "is_whole_number")), (3, (PySem.Str.ofString "is_integer")), (94, (PySem.Str.ofString "is_within")), (41, (PySem.Str.ofString "is_from_zero")), (23, (PySem.Str.ofString "integer_power")), (7, (PySem.Str.ofString "is_field_in")), (16, (PySem.Str.ofString "opposite_in")), (15, (PySem.Str.ofString "inverse_in")), (44, (PySem.Str.ofString "require_field")), (159, (PySem.Str.ofString "require_from_zero")), (11, (PySem.Str.ofString "to_power")), (9, (PySem.Str.ofString "trimmed")), (27, (PySem.Str.ofString "added_in")), (18, (PySem.Str.ofString "scaled_in")), (13, (PySem.Str.ofString "times_in")), (14, (PySem.Str.ofString "root_power_in")), (12, (PySem.Str.ofString "digits_in_base")), (149, (PySem.Str.ofString "shifted_in")), (17, (PySem.Str.ofString "divided_in")), (19, (PySem.Str.ofString "rest_in")), (20, (PySem.Str.ofString "monic_in")), (22, (PySem.Str.ofString "common_divisor")), (26, (PySem.Str.ofString "monics_in")), (29, (PySem.Str.ofString "quotient_in")), (97, (PySem.Str.ofString "fraction_sum_in")), (24, (PySem.Str.ofString "bracket_in")), (30, (PySem.Str.ofString "all_product_in")), (25, (PySem.Str.ofString "least_multiple_in")), (150, (PySem.Str.ofString "c_power_step")), (153, (PySem.Str.ofString "carlitz_in")), (151, (PySem.Str.ofString "row_product")), (152, (PySem.Str.ofString "stretched_row")), (154, (PySem.Str.ofString "row_power")), (155, (PySem.Str.ofString "inner_row")), (164, (PySem.Str.ofString "inner_sum_in")), (157, (PySem.Str.ofString "stopping_quotients")), (165, (PySem.Str.ofString "stopping_part_in")), (166, (PySem.Str.ofString "stopping_end_in")), (162, (PySem.Str.ofString "require_times")), (163, (PySem.Str.ofString "require_step")), (167, (PySem.Str.ofString "inner_sum")), (168, (PySem.Str.ofString "stopping_part")), (176, (PySem.Str.ofString "stopping_end")), (177, (PySem.Str.ofString "stopping_row")), (87, (PySem.Str.ofString "_law_dice")), (58, (PySem.Str.ofString "_law_roll")), (59, (PySem.Str.ofString "_law_one_of")), (183, (PySem.Str.ofString "_law_errors_right")), (182, (PySem.Str.ofString "_law_ends_right")), (88, (PySem.Str.ofString "law"))]
def lnN : List (Nat × PySem.Str) := [(169, (PySem.Str.ofString "_law_error_word"))]
def glN : List (Nat × PySem.Str) := [(4, (PySem.Str.ofString "FIELDS")), (1, (PySem.Str.ofString "SIXTY_DIGITS")), (5, (PySem.Str.ofString "SUM_TABLES")), (6, (PySem.Str.ofString "PRODUCT_TABLES")), (21, (PySem.Str.ofString "NO_QUOTIENT")), (158, (PySem.Str.ofString "MOST_TIMES")), (160, (PySem.Str.ofString "MOST_SPAN")), (161, (PySem.Str.ofString "LONGEST_STEP")), (156, (PySem.Str.ofString "ZERO_QUOTIENT")), (2, (PySem.Str.ofString "is_whole_number")), (3, (PySem.Str.ofString "is_integer")), (94, (PySem.Str.ofString "is_within")), (41, (PySem.Str.ofString "is_from_zero")), (23, (PySem.Str.ofString "integer_power")), (7, (PySem.Str.ofString "is_field_in")), (16, (PySem.Str.ofString "opposite_in")), (15, (PySem.Str.ofString "inverse_in")), (44, (PySem.Str.ofString "require_field")), (159, (PySem.Str.ofString "require_from_zero")), (11, (PySem.Str.ofString "to_power")), (9, (PySem.Str.ofString "trimmed")), (27, (PySem.Str.ofString "added_in")), (18, (PySem.Str.ofString "scaled_in")), (13, (PySem.Str.ofString "times_in")), (14, (PySem.Str.ofString "root_power_in")), (12, (PySem.Str.ofString "digits_in_base")), (149, (PySem.Str.ofString "shifted_in")), (17, (PySem.Str.ofString "divided_in")), (19, (PySem.Str.ofString "rest_in")), (20, (PySem.Str.ofString "monic_in")), (22, (PySem.Str.ofString "common_divisor")), (26, (PySem.Str.ofString "monics_in")), (29, (PySem.Str.ofString "quotient_in")), (97, (PySem.Str.ofString "fraction_sum_in")), (24, (PySem.Str.ofString "bracket_in")), (30, (PySem.Str.ofString "all_product_in")), (25, (PySem.Str.ofString "least_multiple_in")), (150, (PySem.Str.ofString "c_power_step")), (153, (PySem.Str.ofString "carlitz_in")), (151, (PySem.Str.ofString "row_product")), (152, (PySem.Str.ofString "stretched_row")), (154, (PySem.Str.ofString "row_power")), (155, (PySem.Str.ofString "inner_row")), (164, (PySem.Str.ofString "inner_sum_in")), (157, (PySem.Str.ofString "stopping_quotients")), (165, (PySem.Str.ofString "stopping_part_in")), (166, (PySem.Str.ofString "stopping_end_in")), (162, (PySem.Str.ofString "require_times")), (163, (PySem.Str.ofString "require_step")), (167, (PySem.Str.ofString "inner_sum")), (168, (PySem.Str.ofString "stopping_part")), (176, (PySem.Str.ofString "stopping_end")), (177, (PySem.Str.ofString "stopping_row")), (87, (PySem.Str.ofString "_law_dice")), (58, (PySem.Str.ofString "_law_roll")), (59, (PySem.Str.ofString "_law_one_of")), (169, (PySem.Str.ofString "_law_error_word")), (183, (PySem.Str.ofString "_law_errors_right")), (182, (PySem.Str.ofString "_law_ends_right")), (88, (PySem.Str.ofString "law"))]
def clN : List (Nat × PySem.Str) := [(89, (PySem.Str.ofString "MonicError")), (8, (PySem.Str.ofString "InvalidField")), (42, (PySem.Str.ofString "InvalidNumber")), (49, (PySem.Str.ofString "TooMany"))]
def atN : List (Nat × PySem.Str) := [(1, (PySem.Str.ofString "given")), (2, (PySem.Str.ofString "limit")), (3, (PySem.Str.ofString "reason")), (4, (PySem.Str.ofString "spot")), (5, (PySem.Str.ofString "asked")), (6, (PySem.Str.ofString "many"))]
def body : List PySem.Stmt := PySem.Challenge.pw_monicsums_k82_ends_and_errors_of_stoppin.main.body
def lawD : Df := ⟨88, (PySem.Str.ofString "law"), c_law, body.getD 71 (.Pass default), [(PySem.Str.ofString "_law_script"), (PySem.Str.ofString "_law_at"), (PySem.Str.ofString "_law_dice_here")], [(PySem.Str.ofString "_law_script")], false⟩
def ds : List Df := [⟨2, (PySem.Str.ofString "is_whole_number"), c_is_whole_number, body.getD 10 (.Pass default), [(PySem.Str.ofString "value")], [(PySem.Str.ofString "value")], false⟩,
 ⟨3, (PySem.Str.ofString "is_integer"), c_is_integer, body.getD 11 (.Pass default), [(PySem.Str.ofString "value")], [(PySem.Str.ofString "value")], false⟩,
 ⟨94, (PySem.Str.ofString "is_within"), c_is_within, body.getD 12 (.Pass default), [(PySem.Str.ofString "value"), (PySem.Str.ofString "least"), (PySem.Str.ofString "most")], [(PySem.Str.ofString "value"), (PySem.Str.ofString "least"), (PySem.Str.ofString "most")], false⟩,
 ⟨41, (PySem.Str.ofString "is_from_zero"), c_is_from_zero, body.getD 13 (.Pass default), [(PySem.Str.ofString "value")], [(PySem.Str.ofString "value")], false⟩,
 ⟨23, (PySem.Str.ofString "integer_power"), c_integer_power, body.getD 14 (.Pass default), [(PySem.Str.ofString "base"), (PySem.Str.ofString "count"), (PySem.Str.ofString "found"), (PySem.Str.ofString "turn")], [(PySem.Str.ofString "base"), (PySem.Str.ofString "count")], false⟩,
 ⟨7, (PySem.Str.ofString "is_field_in"), c_is_field_in, body.getD 15 (.Pass default), [(PySem.Str.ofString "value")], [(PySem.Str.ofString "value")], false⟩,
 ⟨16, (PySem.Str.ofString "opposite_in"), c_opposite_in, body.getD 16 (.Pass default), [(PySem.Str.ofString "q"), (PySem.Str.ofString "element")], [(PySem.Str.ofString "q"), (PySem.Str.ofString "element")], false⟩,
 ⟨15, (PySem.Str.ofString "inverse_in"), c_inverse_in, body.getD 17 (.Pass default), [(PySem.Str.ofString "q"), (PySem.Str.ofString "element")], [(PySem.Str.ofString "q"), (PySem.Str.ofString "element")], false⟩,
 ⟨44, (PySem.Str.ofString "require_field"), c_require_field, body.getD 18 (.Pass default), [(PySem.Str.ofString "q")], [(PySem.Str.ofString "q")], false⟩,
 ⟨159, (PySem.Str.ofString "require_from_zero"), c_require_from_zero, body.getD 19 (.Pass default), [(PySem.Str.ofString "value")], [(PySem.Str.ofString "value")], false⟩,
 ⟨11, (PySem.Str.ofString "to_power"), c_to_power, body.getD 21 (.Pass default), [(PySem.Str.ofString "base"), (PySem.Str.ofString "count"), (PySem.Str.ofString "found"), (PySem.Str.ofString "turn")], [(PySem.Str.ofString "base"), (PySem.Str.ofString "count")], false⟩,
 ⟨9, (PySem.Str.ofString "trimmed"), c_trimmed, body.getD 22 (.Pass default), [(PySem.Str.ofString "row"), (PySem.Str.ofString "size")], [(PySem.Str.ofString "row")], false⟩,
 ⟨27, (PySem.Str.ofString "added_in"), c_added_in, body.getD 23 (.Pass default), [(PySem.Str.ofString "q"), (PySem.Str.ofString "a"), (PySem.Str.ofString "b"), (PySem.Str.ofString "long"), (PySem.Str.ofString "short"), (PySem.Str.ofString "table"), (PySem.Str.ofString "one"), (PySem.Str.ofString "other"), (PySem.Str.ofString "found")], [(PySem.Str.ofString "q"), (PySem.Str.ofString "a"), (PySem.Str.ofString "b")], false⟩,
 ⟨18, (PySem.Str.ofString "scaled_in"), c_scaled_in, body.getD 24 (.Pass default), [(PySem.Str.ofString "q"), (PySem.Str.ofString "element"), (PySem.Str.ofString "a"), (PySem.Str.ofString "row"), (PySem.Str.ofString "one")], [(PySem.Str.ofString "q"), (PySem.Str.ofString "element"), (PySem.Str.ofString "a")], false⟩,
 ⟨13, (PySem.Str.ofString "times_in"), c_times_in, body.getD 25 (.Pass default), [(PySem.Str.ofString "q"), (PySem.Str.ofString "a"), (PySem.Str.ofString "b"), (PySem.Str.ofString "few"), (PySem.Str.ofString "more"), (PySem.Str.ofString "plus"), (PySem.Str.ofString "size"), (PySem.Str.ofString "found"), (PySem.Str.ofString "at"), (PySem.Str.ofString "element"), (PySem.Str.ofString "row"), (PySem.Str.ofString "one"), (PySem.Str.ofString "other"), (PySem.Str.ofString "part")], [(PySem.Str.ofString "q"), (PySem.Str.ofString "a"), (PySem.Str.ofString "b")], false⟩,
 ⟨14, (PySem.Str.ofString "root_power_in"), c_root_power_in, body.getD 26 (.Pass default), [(PySem.Str.ofString "q"), (PySem.Str.ofString "a"), (PySem.Str.ofString "steps"), (PySem.Str.ofString "step"), (PySem.Str.ofString "place")], [(PySem.Str.ofString "q"), (PySem.Str.ofString "a"), (PySem.Str.ofString "steps")], false⟩,
 ⟨12, (PySem.Str.ofString "digits_in_base"), c_digits_in_base, body.getD 27 (.Pass default), [(PySem.Str.ofString "base"), (PySem.Str.ofString "number"), (PySem.Str.ofString "found")], [(PySem.Str.ofString "base"), (PySem.Str.ofString "number")], false⟩,
 ⟨149, (PySem.Str.ofString "shifted_in"), c_shifted_in, body.getD 28 (.Pass default), [(PySem.Str.ofString "a"), (PySem.Str.ofString "steps")], [(PySem.Str.ofString "a"), (PySem.Str.ofString "steps")], false⟩,
 ⟨17, (PySem.Str.ofString "divided_in"), c_divided_in, body.getD 29 (.Pass default), [(PySem.Str.ofString "q"), (PySem.Str.ofString "a"), (PySem.Str.ofString "b"), (PySem.Str.ofString "size"), (PySem.Str.ofString "left"), (PySem.Str.ofString "found"), (PySem.Str.ofString "back"), (PySem.Str.ofString "plus"), (PySem.Str.ofString "table"), (PySem.Str.ofString "at"), (PySem.Str.ofString "factor"), (PySem.Str.ofString "row"), (PySem.Str.ofString "one"), (PySem.Str.ofString "other"), (PySem.Str.ofString "part")], [(PySem.Str.ofString "q"), (PySem.Str.ofString "a"), (PySem.Str.ofString "b")], false⟩,
 ⟨19, (PySem.Str.ofString "rest_in"), c_rest_in, body.getD 30 (.Pass default), [(PySem.Str.ofString "q"), (PySem.Str.ofString "a"), (PySem.Str.ofString "m")], [(PySem.Str.ofString "q"), (PySem.Str.ofString "a"), (PySem.Str.ofString "m")], false⟩,
 ⟨20, (PySem.Str.ofString "monic_in"), c_monic_in, body.getD 31 (.Pass default), [(PySem.Str.ofString "q"), (PySem.Str.ofString "a")], [(PySem.Str.ofString "q"), (PySem.Str.ofString "a")], false⟩,
 ⟨22, (PySem.Str.ofString "common_divisor"), c_common_divisor, body.getD 32 (.Pass default), [(PySem.Str.ofString "q"), (PySem.Str.ofString "a"), (PySem.Str.ofString "b")], [(PySem.Str.ofString "q"), (PySem.Str.ofString "a"), (PySem.Str.ofString "b")], false⟩,
 ⟨26, (PySem.Str.ofString "monics_in"), c_monics_in, body.getD 33 (.Pass default), [(PySem.Str.ofString "q"), (PySem.Str.ofString "d"), (PySem.Str.ofString "found"), (PySem.Str.ofString "place"), (PySem.Str.ofString "one"), (PySem.Str.ofString "element")], [(PySem.Str.ofString "q"), (PySem.Str.ofString "d")], false⟩,
 ⟨29, (PySem.Str.ofString "quotient_in"), c_quotient_in, body.getD 36 (.Pass default), [(PySem.Str.ofString "q"), (PySem.Str.ofString "a"), (PySem.Str.ofString "b"), (PySem.Str.ofString "both"), (PySem.Str.ofString "top"), (PySem.Str.ofString "bottom"), (PySem.Str.ofString "back")], [(PySem.Str.ofString "q"), (PySem.Str.ofString "a"), (PySem.Str.ofString "b")], false⟩,
 ⟨97, (PySem.Str.ofString "fraction_sum_in"), c_fraction_sum_in, body.getD 37 (.Pass default), [(PySem.Str.ofString "q"), (PySem.Str.ofString "one"), (PySem.Str.ofString "other"), (PySem.Str.ofString "top")], [(PySem.Str.ofString "q"), (PySem.Str.ofString "one"), (PySem.Str.ofString "other")], false⟩,
 ⟨24, (PySem.Str.ofString "bracket_in"), c_bracket_in, body.getD 39 (.Pass default), [(PySem.Str.ofString "q"), (PySem.Str.ofString "index")], [(PySem.Str.ofString "q"), (PySem.Str.ofString "index")], false⟩,
 ⟨30, (PySem.Str.ofString "all_product_in"), c_all_product_in, body.getD 40 (.Pass default), [(PySem.Str.ofString "q"), (PySem.Str.ofString "d"), (PySem.Str.ofString "found"), (PySem.Str.ofString "index")], [(PySem.Str.ofString "q"), (PySem.Str.ofString "d")], false⟩,
 ⟨25, (PySem.Str.ofString "least_multiple_in"), c_least_multiple_in, body.getD 41 (.Pass default), [(PySem.Str.ofString "q"), (PySem.Str.ofString "d"), (PySem.Str.ofString "found"), (PySem.Str.ofString "index")], [(PySem.Str.ofString "q"), (PySem.Str.ofString "d")], false⟩,
 ⟨150, (PySem.Str.ofString "c_power_step"), c_c_power_step, body.getD 43 (.Pass default), [(PySem.Str.ofString "q"), (PySem.Str.ofString "parts"), (PySem.Str.ofString "part"), (PySem.Str.ofString "low"), (PySem.Str.ofString "high"), (PySem.Str.ofString "one"), (PySem.Str.ofString "other")], [(PySem.Str.ofString "q"), (PySem.Str.ofString "parts")], false⟩,
 ⟨153, (PySem.Str.ofString "carlitz_in"), c_carlitz_in, body.getD 44 (.Pass default), [(PySem.Str.ofString "q"), (PySem.Str.ofString "a"), (PySem.Str.ofString "element"), (PySem.Str.ofString "here"), (PySem.Str.ofString "found"), (PySem.Str.ofString "place"), (PySem.Str.ofString "part")], [(PySem.Str.ofString "q"), (PySem.Str.ofString "a")], false⟩,
 ⟨151, (PySem.Str.ofString "row_product"), c_row_product, body.getD 50 (.Pass default), [(PySem.Str.ofString "q"), (PySem.Str.ofString "one"), (PySem.Str.ofString "other"), (PySem.Str.ofString "found"), (PySem.Str.ofString "high"), (PySem.Str.ofString "first"), (PySem.Str.ofString "low"), (PySem.Str.ofString "second")], [(PySem.Str.ofString "q"), (PySem.Str.ofString "one"), (PySem.Str.ofString "other")], false⟩,
 ⟨152, (PySem.Str.ofString "stretched_row"), c_stretched_row, body.getD 51 (.Pass default), [(PySem.Str.ofString "q"), (PySem.Str.ofString "row"), (PySem.Str.ofString "exponent"), (PySem.Str.ofString "part")], [(PySem.Str.ofString "q"), (PySem.Str.ofString "row")], false⟩,
 ⟨154, (PySem.Str.ofString "row_power"), c_row_power, body.getD 52 (.Pass default), [(PySem.Str.ofString "q"), (PySem.Str.ofString "row"), (PySem.Str.ofString "m"), (PySem.Str.ofString "found"), (PySem.Str.ofString "here"), (PySem.Str.ofString "digit"), (PySem.Str.ofString "turn")], [(PySem.Str.ofString "q"), (PySem.Str.ofString "row"), (PySem.Str.ofString "m")], false⟩,
 ⟨155, (PySem.Str.ofString "inner_row"), c_inner_row, body.getD 53 (.Pass default), [(PySem.Str.ofString "q"), (PySem.Str.ofString "m"), (PySem.Str.ofString "j"), (PySem.Str.ofString "bottom"), (PySem.Str.ofString "found"), (PySem.Str.ofString "a"), (PySem.Str.ofString "factor"), (PySem.Str.ofString "place"), (PySem.Str.ofString "part"), (PySem.Str.ofString "row"), (PySem.Str.ofString "exponent")], [(PySem.Str.ofString "q"), (PySem.Str.ofString "m"), (PySem.Str.ofString "j")], false⟩,
 ⟨164, (PySem.Str.ofString "inner_sum_in"), c_inner_sum_in, body.getD 54 (.Pass default), [(PySem.Str.ofString "q"), (PySem.Str.ofString "m"), (PySem.Str.ofString "j"), (PySem.Str.ofString "row"), (PySem.Str.ofString "bottom"), (PySem.Str.ofString "exponent")], [(PySem.Str.ofString "q"), (PySem.Str.ofString "m"), (PySem.Str.ofString "j")], false⟩,
 ⟨157, (PySem.Str.ofString "stopping_quotients"), c_stopping_quotients, body.getD 55 (.Pass default), [(PySem.Str.ofString "q"), (PySem.Str.ofString "m"), (PySem.Str.ofString "n"), (PySem.Str.ofString "found"), (PySem.Str.ofString "place"), (PySem.Str.ofString "row"), (PySem.Str.ofString "bottom"), (PySem.Str.ofString "whole_bottom"), (PySem.Str.ofString "exponent"), (PySem.Str.ofString "part"), (PySem.Str.ofString "more"), (PySem.Str.ofString "there"), (PySem.Str.ofString "told")], [(PySem.Str.ofString "q"), (PySem.Str.ofString "m"), (PySem.Str.ofString "n")], false⟩,
 ⟨165, (PySem.Str.ofString "stopping_part_in"), c_stopping_part_in, body.getD 56 (.Pass default), [(PySem.Str.ofString "q"), (PySem.Str.ofString "m"), (PySem.Str.ofString "n"), (PySem.Str.ofString "found"), (PySem.Str.ofString "exponent")], [(PySem.Str.ofString "q"), (PySem.Str.ofString "m"), (PySem.Str.ofString "n")], false⟩,
 ⟨166, (PySem.Str.ofString "stopping_end_in"), c_stopping_end_in, body.getD 57 (.Pass default), [(PySem.Str.ofString "q"), (PySem.Str.ofString "m")], [(PySem.Str.ofString "q"), (PySem.Str.ofString "m")], false⟩,
 ⟨162, (PySem.Str.ofString "require_times"), c_require_times, body.getD 58 (.Pass default), [(PySem.Str.ofString "q"), (PySem.Str.ofString "m")], [(PySem.Str.ofString "q"), (PySem.Str.ofString "m")], false⟩,
 ⟨163, (PySem.Str.ofString "require_step"), c_require_step, body.getD 59 (.Pass default), [(PySem.Str.ofString "q"), (PySem.Str.ofString "n")], [(PySem.Str.ofString "q"), (PySem.Str.ofString "n")], false⟩,
 ⟨167, (PySem.Str.ofString "inner_sum"), c_inner_sum, body.getD 60 (.Pass default), [(PySem.Str.ofString "q"), (PySem.Str.ofString "m"), (PySem.Str.ofString "j")], [(PySem.Str.ofString "q"), (PySem.Str.ofString "m"), (PySem.Str.ofString "j")], false⟩,
 ⟨168, (PySem.Str.ofString "stopping_part"), c_stopping_part, body.getD 61 (.Pass default), [(PySem.Str.ofString "q"), (PySem.Str.ofString "m"), (PySem.Str.ofString "n")], [(PySem.Str.ofString "q"), (PySem.Str.ofString "m"), (PySem.Str.ofString "n")], false⟩,
 ⟨176, (PySem.Str.ofString "stopping_end"), c_stopping_end, body.getD 62 (.Pass default), [(PySem.Str.ofString "q"), (PySem.Str.ofString "m")], [(PySem.Str.ofString "q"), (PySem.Str.ofString "m")], false⟩,
 ⟨177, (PySem.Str.ofString "stopping_row"), c_stopping_row, body.getD 63 (.Pass default), [(PySem.Str.ofString "q"), (PySem.Str.ofString "m"), (PySem.Str.ofString "end"), (PySem.Str.ofString "n")], [(PySem.Str.ofString "q"), (PySem.Str.ofString "m")], false⟩,
 ⟨87, (PySem.Str.ofString "_law_dice"), c__law_dice, body.getD 65 (.Pass default), [(PySem.Str.ofString "_law_script"), (PySem.Str.ofString "_law_at"), (PySem.Str.ofString "_law_cell"), (PySem.Str.ofString "_law_great"), (PySem.Str.ofString "_law_left"), (PySem.Str.ofString "_law_mixed")], [(PySem.Str.ofString "_law_script"), (PySem.Str.ofString "_law_at")], false⟩,
 ⟨58, (PySem.Str.ofString "_law_roll"), c__law_roll, body.getD 66 (.Pass default), [(PySem.Str.ofString "_law_dice_here"), (PySem.Str.ofString "_law_total"), (PySem.Str.ofString "_law_size"), (PySem.Str.ofString "_law_drawn"), (PySem.Str.ofString "_law_one"), (PySem.Str.ofString "_law_two")], [(PySem.Str.ofString "_law_dice_here"), (PySem.Str.ofString "_law_total")], false⟩,
 ⟨59, (PySem.Str.ofString "_law_one_of"), c__law_one_of, body.getD 67 (.Pass default), [(PySem.Str.ofString "_law_dice_here"), (PySem.Str.ofString "_law_items")], [(PySem.Str.ofString "_law_dice_here"), (PySem.Str.ofString "_law_items")], false⟩,
 ⟨183, (PySem.Str.ofString "_law_errors_right"), c__law_errors_right, body.getD 69 (.Pass default), [(PySem.Str.ofString "_law_dice_here"), (PySem.Str.ofString "_law_bad"), (PySem.Str.ofString "_law_odd"), (PySem.Str.ofString "_law_low"), (PySem.Str.ofString "_law_far"), (PySem.Str.ofString "_law_call"), (PySem.Str.ofString "_law_met"), (PySem.Str.ofString "_law_first")], [(PySem.Str.ofString "_law_dice_here")], true⟩,
 ⟨182, (PySem.Str.ofString "_law_ends_right"), c__law_ends_right, body.getD 70 (.Pass default), [(PySem.Str.ofString "_law_dice_here"), (PySem.Str.ofString "_law_q"), (PySem.Str.ofString "_law_n"), (PySem.Str.ofString "_law_m")], [(PySem.Str.ofString "_law_dice_here")], false⟩,
 lawD]
theorem lawD_in : lawD ∈ ds := List.mem_of_getElem? (i := 49) rfl
def dl : List Df := [⟨169, (PySem.Str.ofString "_law_error_word"), c__law_error_word, body.getD 68 (.Pass default), [(PySem.Str.ofString "_law_call"), (PySem.Str.ofString "e")], [(PySem.Str.ofString "_law_call")], false⟩]
def t : Sd := ⟨fnN, lnN, glN, clN, atN, [(PySem.Str.ofString "len"), (PySem.Str.ofString "abs"), (PySem.Str.ofString "int"), (PySem.Str.ofString "tuple"), (PySem.Str.ofString "list"), (PySem.Str.ofString "sum"), (PySem.Str.ofString "all"), (PySem.Str.ofString "any"), (PySem.Str.ofString "min"), (PySem.Str.ofString "max"), (PySem.Str.ofString "sorted"), (PySem.Str.ofString "repr"), (PySem.Str.ofString "str"), (PySem.Str.ofString "range"), (PySem.Str.ofString "zip"), (PySem.Str.ofString "enumerate"), (PySem.Str.ofString "isinstance"), (PySem.Str.ofString "bool"), (PySem.Str.ofString "dict")], [42, 49], [183, 88, 169], globs, subs, atrs, fns, ds, dl, [89, 8, 42, 49]⟩
def xs : List Xd := [⟨.ie, 42, (PySem.Str.ofString "InvalidNumber"), (C8.clsBody (body.getD 3 (.Pass default))).getD 0 (.Pass default), (PySem.Str.ofString "self"), (PySem.Str.ofString "given"), (PySem.Str.ofString "given")⟩,
 ⟨.oe, 49, (PySem.Str.ofString "TooMany"), (C8.clsBody (body.getD 4 (.Pass default))).getD 0 (.Pass default), (PySem.Str.ofString "self"), (PySem.Str.ofString "limit"), (PySem.Str.ofString "limit")⟩]
theorem bnd : BndL (ds ++ dl) := ⟨fun _ _ _ _ _ _ us hl => match us, hl with | [_], _ => by kernel_rfl, fun _ _ _ _ _ _ us hl => match us, hl with | [_], _ => by kernel_rfl, fun _ _ _ _ _ _ us hl => match us, hl with | [_, _, _], _ => by kernel_rfl, fun _ _ _ _ _ _ us hl => match us, hl with | [_], _ => by kernel_rfl, fun _ _ _ _ _ _ us hl => match us, hl with | [_, _], _ => by kernel_rfl, fun _ _ _ _ _ _ us hl => match us, hl with | [_], _ => by kernel_rfl, fun _ _ _ _ _ _ us hl => match us, hl with | [_, _], _ => by kernel_rfl, fun _ _ _ _ _ _ us hl => match us, hl with | [_, _], _ => by kernel_rfl, fun _ _ _ _ _ _ us hl => match us, hl with | [_], _ => by kernel_rfl, fun _ _ _ _ _ _ us hl => match us, hl with | [_], _ => by kernel_rfl, fun _ _ _ _ _ _ us hl => match us, hl with | [_, _], _ => by kernel_rfl, fun _ _ _ _ _ _ us hl => match us, hl with | [_], _ => by kernel_rfl, fun _ _ _ _ _ _ us hl => match us, hl with | [_, _, _], _ => by kernel_rfl, fun _ _ _ _ _ _ us hl => match us, hl with | [_, _, _], _ => by kernel_rfl, fun _ _ _ _ _ _ us hl => match us, hl with | [_, _, _], _ => by kernel_rfl, fun _ _ _ _ _ _ us hl => match us, hl with | [_, _, _], _ => by kernel_rfl, fun _ _ _ _ _ _ us hl => match us, hl with | [_, _], _ => by kernel_rfl, fun _ _ _ _ _ _ us hl => match us, hl with | [_, _], _ => by kernel_rfl, fun _ _ _ _ _ _ us hl => match us, hl with | [_, _, _], _ => by kernel_rfl, fun _ _ _ _ _ _ us hl => match us, hl with | [_, _, _], _ => by kernel_rfl, fun _ _ _ _ _ _ us hl => match us, hl with | [_, _], _ => by kernel_rfl, fun _ _ _ _ _ _ us hl => match us, hl with | [_, _, _], _ => by kernel_rfl, fun _ _ _ _ _ _ us hl => match us, hl with | [_, _], _ => by kernel_rfl, fun _ _ _ _ _ _ us hl => match us, hl with | [_, _, _], _ => by kernel_rfl, fun _ _ _ _ _ _ us hl => match us, hl with | [_, _, _], _ => by kernel_rfl, fun _ _ _ _ _ _ us hl => match us, hl with | [_, _], _ => by kernel_rfl, fun _ _ _ _ _ _ us hl => match us, hl with | [_, _], _ => by kernel_rfl, fun _ _ _ _ _ _ us hl => match us, hl with | [_, _], _ => by kernel_rfl, fun _ _ _ _ _ _ us hl => match us, hl with | [_, _], _ => by kernel_rfl, fun _ _ _ _ _ _ us hl => match us, hl with | [_, _], _ => by kernel_rfl, fun _ _ _ _ _ _ us hl => match us, hl with | [_, _, _], _ => by kernel_rfl, fun _ _ _ _ _ _ us hl => match us, hl with | [_, _], _ => by kernel_rfl, fun _ _ _ _ _ _ us hl => match us, hl with | [_, _, _], _ => by kernel_rfl, fun _ _ _ _ _ _ us hl => match us, hl with | [_, _, _], _ => by kernel_rfl, fun _ _ _ _ _ _ us hl => match us, hl with | [_, _, _], _ => by kernel_rfl, fun _ _ _ _ _ _ us hl => match us, hl with | [_, _, _], _ => by kernel_rfl, fun _ _ _ _ _ _ us hl => match us, hl with | [_, _, _], _ => by kernel_rfl, fun _ _ _ _ _ _ us hl => match us, hl with | [_, _], _ => by kernel_rfl, fun _ _ _ _ _ _ us hl => match us, hl with | [_, _], _ => by kernel_rfl, fun _ _ _ _ _ _ us hl => match us, hl with | [_, _], _ => by kernel_rfl, fun _ _ _ _ _ _ us hl => match us, hl with | [_, _, _], _ => by kernel_rfl, fun _ _ _ _ _ _ us hl => match us, hl with | [_, _, _], _ => by kernel_rfl, fun _ _ _ _ _ _ us hl => match us, hl with | [_, _], _ => by kernel_rfl, fun _ _ _ _ _ _ us hl => match us, hl with | [_, _], _ => by kernel_rfl, fun _ _ _ _ _ _ us hl => match us, hl with | [_, _], _ => by kernel_rfl, fun _ _ _ _ _ _ us hl => match us, hl with | [_, _], _ => by kernel_rfl, fun _ _ _ _ _ _ us hl => match us, hl with | [_, _], _ => by kernel_rfl, fun _ _ _ _ _ _ us hl => match us, hl with | [_], _ => by kernel_rfl, fun _ _ _ _ _ _ us hl => match us, hl with | [_], _ => by kernel_rfl, fun _ _ _ _ _ _ us hl => match us, hl with | [_], _ => by kernel_rfl, fun _ _ _ _ _ _ us hl => match us, hl with | [_], _ => by kernel_rfl, trivial⟩
theorem xbnd : ∀ d ∈ xs, d.BndOk := List.forall_mem_cons.mpr ⟨fun _ _ _ _ _ _ _ _ _ => by kernel_rfl, List.forall_mem_cons.mpr ⟨fun _ _ _ _ _ _ _ _ _ => by kernel_rfl, fun _ h => nomatch h⟩⟩
theorem hF : AllL (fun d => t.F d.f = some d.fn) (ds ++ dl) := ⟨rfl, rfl, rfl, rfl, rfl, rfl, rfl, rfl, rfl, rfl, rfl, rfl, rfl, rfl, rfl, rfl, rfl, rfl, rfl, rfl, rfl, rfl, rfl, rfl, rfl, rfl, rfl, rfl, rfl, rfl, rfl, rfl, rfl, rfl, rfl, rfl, rfl, rfl, rfl, rfl, rfl, rfl, rfl, rfl, rfl, rfl, rfl, rfl, rfl, rfl, rfl, trivial⟩
theorem okB : t.okB = true := by decide +kernel
theorem xsB : t.xsB xs = true := by decide +kernel
def law : List Int → RC := fun ns => run t.F t.G 25 88 noL [.lst (ns.map .int)] []
end Mp.k82
end
section
set_option Elab.async false
set_option linter.all false
set_option maxRecDepth 100000
set_option maxHeartbeats 0
namespace Mp.k82
open PySem PySem.W PySem.Calls PyProof.Rows L2 Mp
def nm0 : List PySem.Str := [(PySem.Str.ofString "MonicError"), (PySem.Str.ofString "InvalidField"), (PySem.Str.ofString "InvalidNumber"), (PySem.Str.ofString "TooMany"), (PySem.Str.ofString "FIELDS"), (PySem.Str.ofString "SIXTY_DIGITS"), (PySem.Str.ofString "SUM_TABLES"), (PySem.Str.ofString "PRODUCT_TABLES"), (PySem.Str.ofString "is_whole_number"), (PySem.Str.ofString "is_integer"), (PySem.Str.ofString "is_within"), (PySem.Str.ofString "is_from_zero"), (PySem.Str.ofString "integer_power"), (PySem.Str.ofString "is_field_in"), (PySem.Str.ofString "opposite_in"), (PySem.Str.ofString "inverse_in"), (PySem.Str.ofString "require_field"), (PySem.Str.ofString "require_from_zero"), (PySem.Str.ofString "to_power"), (PySem.Str.ofString "trimmed"), (PySem.Str.ofString "added_in"), (PySem.Str.ofString "scaled_in"), (PySem.Str.ofString "times_in"), (PySem.Str.ofString "root_power_in"), (PySem.Str.ofString "digits_in_base"), (PySem.Str.ofString "shifted_in"), (PySem.Str.ofString "divided_in"), (PySem.Str.ofString "rest_in"), (PySem.Str.ofString "monic_in"), (PySem.Str.ofString "common_divisor")]
def nm1 : List PySem.Str := [(PySem.Str.ofString "monics_in"), (PySem.Str.ofString "NO_QUOTIENT"), (PySem.Str.ofString "quotient_in"), (PySem.Str.ofString "fraction_sum_in"), (PySem.Str.ofString "bracket_in"), (PySem.Str.ofString "all_product_in"), (PySem.Str.ofString "least_multiple_in"), (PySem.Str.ofString "c_power_step"), (PySem.Str.ofString "carlitz_in"), (PySem.Str.ofString "MOST_TIMES"), (PySem.Str.ofString "MOST_SPAN"), (PySem.Str.ofString "LONGEST_STEP"), (PySem.Str.ofString "ZERO_QUOTIENT"), (PySem.Str.ofString "row_product"), (PySem.Str.ofString "stretched_row"), (PySem.Str.ofString "row_power"), (PySem.Str.ofString "inner_row"), (PySem.Str.ofString "inner_sum_in"), (PySem.Str.ofString "stopping_quotients"), (PySem.Str.ofString "stopping_part_in"), (PySem.Str.ofString "stopping_end_in"), (PySem.Str.ofString "require_times"), (PySem.Str.ofString "require_step"), (PySem.Str.ofString "inner_sum"), (PySem.Str.ofString "stopping_part"), (PySem.Str.ofString "stopping_end"), (PySem.Str.ofString "stopping_row"), (PySem.Str.ofString "_law_dice"), (PySem.Str.ofString "_law_roll"), (PySem.Str.ofString "_law_one_of")]
def nm2 : List PySem.Str := [(PySem.Str.ofString "_law_error_word"), (PySem.Str.ofString "_law_errors_right"), (PySem.Str.ofString "_law_ends_right")]
def names : List PySem.Str := nm0 ++ nm1 ++ nm2
abbrev Rw : OpenRow := OpenLaw.row PySem.Challenge.rw_monicsums_k82_ends_and_errors_of_stoppin
def lk : Lk := lawLk Rw.prog t xs 4
theorem runFa (w : World) (os : OsState) : (HandSHeadRun.endF (HandSHeadRun.stepQ (HandSHeadRun.denQ HandSHeadRun.tabQ) Rw.prog (w.withFollow "special-get-raises" false)) 9000 Rw.prog (w.withFollow "special-get-raises" false) os).map (fun s => (HandSHeadRun.looksF Rw.prog (boot_heap (w.withFollow "special-get-raises" false).params) s.abs, HandSHeadRun.seenQ (view Rw.prog [71]) names (importedModules Rw.prog.main.body) (fun s => PySem.W.xlAt (view Rw.prog [71]) [] s && PySem.W.recOk Rw.toRowW.records s) s.abs)) = some (true, PySem.W.openGood (view Rw.prog [71]) names) := by kernel_rfl
theorem runFb (w : World) (os : OsState) : (HandSHeadRun.endF (HandSHeadRun.stepQ (HandSHeadRun.denQ HandSHeadRun.tabQ) Rw.prog (w.withFollow "special-get-raises" false)) 9000 Rw.prog (w.withFollow "special-get-raises" false) os).map (fun s => (lk.ob s).1.1) = some (lk.val (w.withFollow "special-get-raises" false)).1.1 := by kernel_rfl
theorem runFc (w : World) (os : OsState) : (HandSHeadRun.endF (HandSHeadRun.stepQ (HandSHeadRun.denQ HandSHeadRun.tabQ) Rw.prog (w.withFollow "special-get-raises" false)) 9000 Rw.prog (w.withFollow "special-get-raises" false) os).map (fun s => (lk.ob s).1.2) = some (lk.val (w.withFollow "special-get-raises" false)).1.2 := by kernel_rfl
theorem runFd (w : World) (os : OsState) : (HandSHeadRun.endF (HandSHeadRun.stepQ (HandSHeadRun.denQ HandSHeadRun.tabQ) Rw.prog (w.withFollow "special-get-raises" false)) 9000 Rw.prog (w.withFollow "special-get-raises" false) os).map (fun s => (lk.ob s).2) = some (lk.val (w.withFollow "special-get-raises" false)).2 := by kernel_rfl
theorem runF (w : World) : HandSHeadRun.RunEq Rw (view Rw.prog [71]) lk.hook lk.ob 9000 names (w.withFollow "special-get-raises" false) := run_join (runFa w) (runFb w) (runFc w) (runFd w)
theorem runTa (w : World) (os : OsState) : (HandSHeadRun.endF (HandSHeadRun.stepQ (HandSHeadRun.denQ HandSHeadRun.tabQ) Rw.prog (w.withFollow "special-get-raises" true)) 9000 Rw.prog (w.withFollow "special-get-raises" true) os).map (fun s => (HandSHeadRun.looksF Rw.prog (boot_heap (w.withFollow "special-get-raises" true).params) s.abs, HandSHeadRun.seenQ (view Rw.prog [71]) names (importedModules Rw.prog.main.body) (fun s => PySem.W.xlAt (view Rw.prog [71]) [] s && PySem.W.recOk Rw.toRowW.records s) s.abs)) = some (true, PySem.W.openGood (view Rw.prog [71]) names) := by kernel_rfl
theorem runTb (w : World) (os : OsState) : (HandSHeadRun.endF (HandSHeadRun.stepQ (HandSHeadRun.denQ HandSHeadRun.tabQ) Rw.prog (w.withFollow "special-get-raises" true)) 9000 Rw.prog (w.withFollow "special-get-raises" true) os).map (fun s => (lk.ob s).1.1) = some (lk.val (w.withFollow "special-get-raises" true)).1.1 := by kernel_rfl
theorem runTc (w : World) (os : OsState) : (HandSHeadRun.endF (HandSHeadRun.stepQ (HandSHeadRun.denQ HandSHeadRun.tabQ) Rw.prog (w.withFollow "special-get-raises" true)) 9000 Rw.prog (w.withFollow "special-get-raises" true) os).map (fun s => (lk.ob s).1.2) = some (lk.val (w.withFollow "special-get-raises" true)).1.2 := by kernel_rfl
theorem runTd (w : World) (os : OsState) : (HandSHeadRun.endF (HandSHeadRun.stepQ (HandSHeadRun.denQ HandSHeadRun.tabQ) Rw.prog (w.withFollow "special-get-raises" true)) 9000 Rw.prog (w.withFollow "special-get-raises" true) os).map (fun s => (lk.ob s).2) = some (lk.val (w.withFollow "special-get-raises" true)).2 := by kernel_rfl
theorem runT (w : World) : HandSHeadRun.RunEq Rw (view Rw.prog [71]) lk.hook lk.ob 9000 names (w.withFollow "special-get-raises" true) := run_join (runTa w) (runTb w) (runTc w) (runTd w)
theorem run (w : World) : HandSHeadRun.RunEq Rw (view Rw.prog [71]) lk.hook lk.ob 9000 names w := PySem.W.byRow2 "special-get-raises" (P := fun w => HandSHeadRun.RunEq Rw (view Rw.prog [71]) lk.hook lk.ob 9000 names w) runF runT w
end Mp.k82
end
section
set_option Elab.async false
set_option linter.all false
set_option maxRecDepth 100000
set_option maxHeartbeats 0
namespace Mp
section
variable {κ : Nat → (List D → RC) → List D → List D → RC} {Λ : List D → RC} {G : Ev} {s s1 : S} {a r : C} {f : Nat} {l : List D → RC}
theorem x_cons (h : (evq κ Λ G a).x s = .ok .nx s1) : (evq κ Λ G (.cons a r)).x s = (evq κ Λ G r).x s1 := by
  show ((evq κ Λ G a).x s).bind _ = _
  rw [h]
  rfl
theorem x_ret {d : D} {o : Bool} (h : (evq κ Λ G a).x s = .ok (.rt d o) s1) : (evq κ Λ G (.cons a r)).x s = .ok (.rt d o) s1 := by
  show ((evq κ Λ G a).x s).bind _ = _
  rw [h]
  rfl
theorem x_asg {i : Nat} {d : D} {o : Bool} (h : (evq κ Λ G a).e s = .ok (d, o) s1) (hi : i < s1.ρ.length) : (evq κ Λ G (.asg (.n i) a)).x s = .ok .nx (s1.put i d o) := by
  show ((evq κ Λ G a).e s).bind _ = _
  rw [h]
  show (if i < s1.ρ.length then _ else _) = _
  rw [if_pos hi]
theorem x_ifs {c b : C} {t o : Bool} (h : (evq κ Λ G c).e s = .ok (.bl t, o) s1) : (evq κ Λ G (.ifs c a b)).x s = if t then (evq κ Λ G a).x s1 else (evq κ Λ G b).x s1 := by
  show ((evq κ Λ G c).e s).bind _ = _
  rw [h]
  cases t <;> rfl
theorem e_op2 {o : Op2} {a b : C} {h k : Hd} {s2 : S} {d : D × Bool} (ha : (evq κ Λ G a).hd s = .ok h s1) (hb : (evq κ Λ G b).hd s1 = .ok k s2) (hr : res2 h k s2 (ap2q o) = some d) : (evq κ Λ G (.op2 o a b)).e s = .ok d s2 := by
  show ((evq κ Λ G a).hd s).bind _ = _
  rw [ha]
  show ((evq κ Λ G b).hd s1).bind _ = _
  rw [hb]
  show liftO (res2 h k s2 (ap2q o)) s2 = _
  rw [hr]
  rfl
end
end Mp
namespace Mp.k82
open Mp
noncomputable section
abbrev kk (L : Nat) := runq t.F t.G L
abbrev dice (a b c : Int) : D := .lst [.int a, .int b, .int c]
theorem mod_ok (i j : Int) (h : j ≠ 0) : ap2q .mod (.int i) (.int j) = some (.int (i.fmod j), false) := if_neg h
theorem mul_ok (i j : Int) (h : (small i || small j || (!big i && !big j)) = true) : ap2q .mul (.int i) (.int j) = some (.int (i * j), false) := if_pos h
theorem fdiv_ok (i j : Int) (h0 : j ≠ 0) (h : Nat.blt j.natAbs 1073741824 = true) : ap2q .fdiv (.int i) (.int j) = some (.int (i.fdiv j), false) := by
  show (if j = 0 then none else if Nat.blt j.natAbs 1073741824 then _ else _) = _
  rw [if_neg h0, if_pos h]
abbrev lt_ {i : Nat} {l : List (Option (D × Bool))} (h : Nat.ble (i + 1) l.length = true) : i < l.length := Nat.le_of_ble_eq_true h
abbrev rs (n : Int) (x2 x3 x4 x5 : Option (D × Bool)) (st : List D) : S := ⟨[some (.ref 0, false), some (.int n, false), x2, x3, x4, x5], st⟩
abbrev vi (n : Int) : Option (D × Bool) := some (.int n, false)
theorem roll_run (L : Nat) (n r : Int) (st st' : List D) (x2 x3 x4 x5 : Option (D × Bool)) (hs : st.length = 1) (hs' : st'.length = 1) (x : (evq (kk L) noL t.G c__law_roll.body).x (rs n none none none none st) = .ok (.rt (.int r) false) (rs n x2 x3 x4 x5 st')) : kk (L + 1) 58 noL [.ref 0, .int n] st = .ok (.int r) false st' := by
  show runS t.F t.G (kk L) 58 noL [.ref 0, .int n] st = _
  have e : t.F 58 = some c__law_roll := by rfl
  unfold runS
  rw [e]
  show ends st.length ((evq (kk L) noL t.G c__law_roll.body).x (rs n none none none none st)) = _
  rw [x]
  show (if st'.length = st.length then _ else _) = _
  rw [if_pos (hs'.trans hs.symm)]
theorem roll_pos (L : Nat) (a b c n : Int) (h : decide (0 < a) = true) (hn : n ≠ 0) (hm : Nat.blt n.natAbs 1073741824 = true) : kk (L + 1) 58 noL [.ref 0, .int n] [dice a b c] = .ok (.int (a.fmod n)) false [dice (a.fdiv n) b c] := by
  refine roll_run L n _ _ _ (vi n) (vi (a.fmod n)) none none rfl rfl ?_
  refine (x_cons (s1 := rs n (vi n) none none none [dice a b c]) rfl).trans ?_
  refine x_ret ?_
  refine (x_ifs (t := decide (0 < a)) (o := false) (s1 := rs n (vi n) none none none [dice a b c]) rfl).trans ?_
  rw [h]
  have y1 : (evq (kk L) noL t.G (.op2 .mod (.op2 .idx (.peek 0) (.cst (.int 0))) (.peek 2))).e (rs n (vi n) none none none [dice a b c]) = .ok (.int (a.fmod n), false) (rs n (vi n) none none none [dice a b c]) :=
    e_op2 (h := .v (.int a)) (k := .v (.int n)) (s1 := rs n (vi n) none none none [dice a b c]) rfl rfl (mod_ok a n hn)
  have y2 : (evq (kk L) noL t.G (.op2 .fdiv (.op2 .idx (.peek 0) (.cst (.int 0))) (.peek 2))).e (rs n (vi n) (vi (a.fmod n)) none none [dice a b c]) = .ok (.int (a.fdiv n), false) (rs n (vi n) (vi (a.fmod n)) none none [dice a b c]) :=
    e_op2 (h := .v (.int a)) (k := .v (.int n)) (s1 := rs n (vi n) (vi (a.fmod n)) none none [dice a b c]) rfl rfl (fdiv_ok a n hn hm)
  refine (x_cons (x_asg y1 (lt_ rfl))).trans ?_
  refine (x_cons (s1 := rs n (vi n) (vi (a.fmod n)) none none [dice (a.fdiv n) b c]) ?_).trans rfl
  show ((evq (kk L) noL t.G (.op2 .fdiv (.op2 .idx (.peek 0) (.cst (.int 0))) (.peek 2))).e (rs n (vi n) (vi (a.fmod n)) none none [dice a b c])).bind _ = _
  rw [y2]
  rfl
/-- the roll when the script is used up -/
theorem e_hd {κ : Nat → (List D → RC) → List D → List D → RC} {Λ : List D → RC} {G : Ev} {s s1 : S} {o : Op2} {a b : C} {d : D × Bool} (h : (evq κ Λ G (.op2 o a b)).e s = .ok d s1) : (evq κ Λ G (.op2 o a b)).hd s = .ok (.v d.1) s1 := by
  show ((evq κ Λ G (.op2 o a b)).e s).bind _ = _
  rw [h]
  rfl
theorem big_no (i m : Int) (h0 : 0 ≤ i) (h1 : i < m) (hm : m ≤ 2 ^ 62) : big i = false := by
  unfold big
  have e : i.natAbs < 2 ^ 62 := by omega
  cases q : Nat.ble (2 ^ 4000) i.natAbs with
  | false => rfl
  | true =>
    have z := Nat.le_of_ble_eq_true q
    have y : (2 : Nat) ^ 62 ≤ 2 ^ 4000 := Nat.pow_le_pow_right (by decide) (by decide)
    omega
theorem mul_in (i j m : Int) (h0 : 0 ≤ i) (h1 : i < m) (h2 : 0 ≤ j) (h3 : j < m) (hm : m ≤ 2 ^ 62) : ap2q .mul (.int i) (.int j) = some (.int (i * j), false) := by
  refine mul_ok i j ?_
  rw [big_no i m h0 h1 hm, big_no j m h2 h3 hm]
  simp
theorem mul_sm (i j : Int) (h : small i = true) : ap2q .mul (.int i) (.int j) = some (.int (i * j), false) := by
  refine mul_ok i j ?_
  rw [h]
  rfl
theorem roll_zero (L : Nat) (a b c n : Int) (h : decide (0 < a) = false) (hn : 0 < n) : ∃ r : Int, 0 ≤ r ∧ r < n ∧ kk (L + 1) 58 noL [.ref 0, .int n] [dice a b c] = .ok (.int r) false [dice a b (c + 1)] := by
  have n0 : n ≠ 0 := by omega
  let x : Int := (b + 1000427 * (c + 1)).fmod 2305843009213693951
  have x0 : 0 ≤ x := Int.fmod_nonneg_of_pos _ (by decide)
  have x1 : x < 2305843009213693951 := Int.fmod_lt_of_pos _ (by decide)
  let y : Int := (x * x).fmod 2305843009213693921
  have y0 : 0 ≤ y := Int.fmod_nonneg_of_pos _ (by decide)
  have y1 : y < 2305843009213693921 := Int.fmod_lt_of_pos _ (by decide)
  let z : Int := y * x + 9491 * (c + 1)
  let u : Int := z.fmod 2305843009213693907
  let v : Int := u.fdiv 4096
  refine ⟨v.fmod n, Int.fmod_nonneg_of_pos _ hn, Int.fmod_lt_of_pos _ hn, ?_⟩
  refine roll_run L n _ _ _ (vi n) none (vi x) (vi u) rfl rfl ?_
  refine (x_cons (s1 := rs n (vi n) none none none [dice a b c]) rfl).trans ?_
  refine (x_cons (s1 := rs n (vi n) none none none [dice a b c]) ?_).trans ?_
  · refine (x_ifs (t := decide (0 < a)) (o := false) (s1 := rs n (vi n) none none none [dice a b c]) rfl).trans ?_
    rw [h]
    rfl
  refine (x_cons (s1 := rs n (vi n) none none none [dice a b (c + 1)]) rfl).trans ?_
  let s2 : S := rs n (vi n) none none none [dice a b (c + 1)]
  have m1 : (evq (kk L) noL t.G (.op2 .mul (.cst (.int 1000427)) (.op2 .idx (.peek 0) (.cst (.int 2))))).e s2 = .ok (.int (1000427 * (c + 1)), false) s2 :=
    e_op2 (h := .v (.int 1000427)) (k := .v (.int (c + 1))) (s1 := s2) rfl rfl (mul_sm 1000427 (c + 1) (by decide))
  have m2 : (evq (kk L) noL t.G (.op2 .add (.op2 .idx (.peek 0) (.cst (.int 1))) (.op2 .mul (.cst (.int 1000427)) (.op2 .idx (.peek 0) (.cst (.int 2)))))).e s2 = .ok (.int (b + 1000427 * (c + 1)), false) s2 :=
    e_op2 (h := .v (.int b)) (k := .v (.int (1000427 * (c + 1)))) (s1 := s2) rfl (e_hd m1) rfl
  have m3 : (evq (kk L) noL t.G (.op2 .mod (.op2 .add (.op2 .idx (.peek 0) (.cst (.int 1))) (.op2 .mul (.cst (.int 1000427)) (.op2 .idx (.peek 0) (.cst (.int 2))))) (.cst (.int 2305843009213693951)))).e s2 = .ok (.int x, false) s2 :=
    e_op2 (h := .v (.int (b + 1000427 * (c + 1)))) (k := .v (.int 2305843009213693951)) (s1 := s2) (e_hd m2) rfl (mod_ok (b + 1000427 * (c + 1)) 2305843009213693951 (by decide))
  refine (x_cons (x_asg m3 (lt_ rfl))).trans ?_
  let s3 : S := rs n (vi n) none (vi x) none [dice a b (c + 1)]
  have k1 : (evq (kk L) noL t.G (.op2 .mul (.peek 4) (.peek 4))).e s3 = .ok (.int (x * x), false) s3 :=
    e_op2 (h := .v (.int x)) (k := .v (.int x)) (s1 := s3) rfl rfl (mul_in x x _ x0 x1 x0 x1 (by decide))
  have k2 : (evq (kk L) noL t.G (.op2 .mod (.op2 .mul (.peek 4) (.peek 4)) (.cst (.int 2305843009213693921)))).e s3 = .ok (.int y, false) s3 :=
    e_op2 (h := .v (.int (x * x))) (k := .v (.int 2305843009213693921)) (s1 := s3) (e_hd k1) rfl (mod_ok (x * x) 2305843009213693921 (by decide))
  have k3 : (evq (kk L) noL t.G (.op2 .mul (.op2 .mod (.op2 .mul (.peek 4) (.peek 4)) (.cst (.int 2305843009213693921))) (.peek 4))).e s3 = .ok (.int (y * x), false) s3 :=
    e_op2 (h := .v (.int y)) (k := .v (.int x)) (s1 := s3) (e_hd k2) rfl (mul_in y x 2305843009213693951 y0 (by omega) x0 x1 (by decide))
  have k4 : (evq (kk L) noL t.G (.op2 .mul (.cst (.int 9491)) (.op2 .idx (.peek 0) (.cst (.int 2))))).e s3 = .ok (.int (9491 * (c + 1)), false) s3 :=
    e_op2 (h := .v (.int 9491)) (k := .v (.int (c + 1))) (s1 := s3) rfl rfl (mul_sm 9491 (c + 1) (by decide))
  have k5 : (evq (kk L) noL t.G (.op2 .add (.op2 .mul (.op2 .mod (.op2 .mul (.peek 4) (.peek 4)) (.cst (.int 2305843009213693921))) (.peek 4)) (.op2 .mul (.cst (.int 9491)) (.op2 .idx (.peek 0) (.cst (.int 2)))))).e s3 = .ok (.int z, false) s3 :=
    e_op2 (h := .v (.int (y * x))) (k := .v (.int (9491 * (c + 1)))) (s1 := s3) (e_hd k3) (e_hd k4) rfl
  refine (x_cons (x_asg k5 (lt_ rfl))).trans ?_
  let s4 : S := rs n (vi n) none (vi x) (vi z) [dice a b (c + 1)]
  have k6 : (evq (kk L) noL t.G (.op2 .mod (.peek 5) (.cst (.int 2305843009213693907)))).e s4 = .ok (.int u, false) s4 :=
    e_op2 (h := .v (.int z)) (k := .v (.int 2305843009213693907)) (s1 := s4) rfl rfl (mod_ok z 2305843009213693907 (by decide))
  refine (x_cons (x_asg k6 (lt_ rfl))).trans ?_
  let s5 : S := rs n (vi n) none (vi x) (vi u) [dice a b (c + 1)]
  have k7 : (evq (kk L) noL t.G (.op2 .fdiv (.peek 5) (.cst (.int 4096)))).e s5 = .ok (.int v, false) s5 :=
    e_op2 (h := .v (.int u)) (k := .v (.int 4096)) (s1 := s5) rfl rfl (fdiv_ok u 4096 (by decide) (by decide))
  have k8 : (evq (kk L) noL t.G (.op2 .mod (.op2 .fdiv (.peek 5) (.cst (.int 4096))) (.peek 2))).e s5 = .ok (.int (v.fmod n), false) s5 :=
    e_op2 (h := .v (.int v)) (k := .v (.int n)) (s1 := s5) (e_hd k7) rfl (mod_ok v n n0)
  refine x_ret ?_
  show ((evq (kk L) noL t.G (.op1 .int (.op2 .mod (.op2 .fdiv (.peek 5) (.cst (.int 4096))) (.peek 2)))).e s5).bind _ = _
  have k9 : (evq (kk L) noL t.G (.op1 .int (.op2 .mod (.op2 .fdiv (.peek 5) (.cst (.int 4096))) (.peek 2)))).e s5 = .ok (.int (v.fmod n), false) s5 := by
    show ((evq (kk L) noL t.G (.op2 .mod (.op2 .fdiv (.peek 5) (.cst (.int 4096))) (.peek 2))).hd s5).bind _ = _
    rw [e_hd k8]
    rfl
  rw [k9]
  rfl
theorem roll (L : Nat) (a b c n : Int) (hn : 0 < n) (hm : n < 1073741824) : ∃ r a' b' c' : Int, 0 ≤ r ∧ r < n ∧ kk (L + 1) 58 noL [.ref 0, .int n] [dice a b c] = .ok (.int r) false [dice a' b' c'] := by
  cases h : decide (0 < a) with
  | true =>
    refine ⟨a.fmod n, a.fdiv n, b, c, Int.fmod_nonneg_of_pos _ hn, Int.fmod_lt_of_pos _ hn, roll_pos L a b c n h (by omega) ?_⟩
    have e : n.natAbs < 1073741824 := by omega
    exact Nat.ble_eq_true_of_le e
  | false =>
    obtain ⟨r, h0, h1, e⟩ := roll_zero L a b c n h hn
    exact ⟨r, a, b, c + 1, h0, h1, e⟩
theorem e_callr {κ : Nat → (List D → RC) → List D → List D → RC} {Λ : List D → RC} {G : Ev} {s : S} {f i : Nat} {as : C} {xs : List (D × Bool)} {d : D} {o : Bool} {st' : List D} (hs : s.get i = some (.ref 0, false)) (ha : (evq κ Λ G as).a s = .ok xs s) (h : κ f noL (insAt 0 (.ref 0) (fsts xs)) s.st = .ok d o st') : (evq κ Λ G (.callr f 0 i as)).e s = .ok (d, o) ⟨s.ρ, st'⟩ := by
  show (if (s.get i).isSome then ((evq κ Λ G as).a s).bind _ else .no) = _
  rw [ha, hs]
  show callRef κ f 0 i (fsts xs) s = _
  unfold callRef
  rw [hs]
  show liftC s (κ f noL (insAt 0 (.ref 0) (fsts xs)) s.st) = _
  rw [h]
  rfl
theorem hd_callr {κ : Nat → (List D → RC) → List D → List D → RC} {Λ : List D → RC} {G : Ev} {s s1 : S} {f i : Nat} {as : C} {d : D × Bool} (h : (evq κ Λ G (.callr f 0 i as)).e s = .ok d s1) : (evq κ Λ G (.callr f 0 i as)).hd s = .ok (.v d.1) s1 := by
  show ((evq κ Λ G (.callr f 0 i as)).e s).bind _ = _
  rw [h]
  rfl
theorem idx_ok (xs : List D) (r : Int) (h0 : 0 ≤ r) (h1 : r < xs.length) : ∃ d ∈ xs, ap2q .idx (.lst xs) (.int r) = some (d, false) := by
  have hl : r.toNat < xs.length := by omega
  refine ⟨xs[r.toNat], List.getElem_mem hl, ?_⟩
  show ((ixN xs.length r).bind fun j => xs[j]?).bind val = _
  unfold ixN
  rw [if_pos h0, if_pos h1]
  show (xs[r.toNat]?).bind val = _
  rw [List.getElem?_eq_getElem hl]
  rfl
theorem one_of (L : Nat) (a b c : Int) (xs : List D) (hn : 0 < xs.length) (hm : xs.length < 1073741824) : ∃ d ∈ xs, ∃ a' b' c' : Int, kk (L + 2) 59 noL [.ref 0, .lst xs] [dice a b c] = .ok d false [dice a' b' c'] := by
  obtain ⟨r, a', b', c', h0, h1, e⟩ := roll L a b c xs.length (by omega) (by omega)
  obtain ⟨d, hd, ei⟩ := idx_ok xs r h0 h1
  refine ⟨d, hd, a', b', c', ?_⟩
  show runS t.F t.G (kk (L + 1)) 59 noL [.ref 0, .lst xs] [dice a b c] = _
  have eF : t.F 59 = some c__law_one_of := by rfl
  unfold runS
  rw [eF]
  let s0 : S := ⟨[some (.ref 0, false), some (.lst xs, false)], [dice a b c]⟩
  let s1 : S := ⟨[some (.ref 0, false), some (.lst xs, false)], [dice a' b' c']⟩
  show ends 1 ((evq (kk (L + 1)) noL t.G c__law_one_of.body).x s0) = _
  have k1 : (evq (kk (L + 1)) noL t.G (.callr 58 0 0 (.cons (.op1 .len (.peek 1)) .nil))).e s0 = .ok (.int r, false) s1 :=
    e_callr (xs := [(.int xs.length, false)]) rfl rfl e
  have k2 : (evq (kk (L + 1)) noL t.G (.op2 .idx (.peek 1) (.callr 58 0 0 (.cons (.op1 .len (.peek 1)) .nil)))).e s0 = .ok (d, false) s1 :=
    e_op2 (h := .v (.lst xs)) (k := .v (.int r)) (s1 := s0) rfl (hd_callr k1) ei
  have x : (evq (kk (L + 1)) noL t.G c__law_one_of.body).x s0 = .ok (.rt d false) s1 := by
    refine x_ret ?_
    show ((evq (kk (L + 1)) noL t.G (.op2 .idx (.peek 1) (.callr 58 0 0 (.cons (.op1 .len (.peek 1)) .nil)))).e s0).bind _ = _
    rw [k2]
    rfl
  rw [x]
  rfl
theorem mul_smr (i j : Int) (h : small j = true) : ap2q .mul (.int i) (.int j) = some (.int (i * j), false) := by
  refine mul_ok i j ?_
  rw [h]
  simp
theorem fdiv_ok2 (i j : Int) (h0 : j ≠ 0) (h : Nat.blt j.natAbs 1073741824 = false) (h2 : (0 < j && !big j) = true) : ap2q .fdiv (.int i) (.int j) = some (.int (i.fdiv j), false) := by
  show (if j = 0 then none else if Nat.blt j.natAbs 1073741824 then _ else if (0 < j && !big j) then _ else _) = _
  rw [if_neg h0, if_neg (by rw [h]; exact Bool.false_ne_true), if_pos h2]
theorem hd_op1 {κ : Nat → (List D → RC) → List D → List D → RC} {Λ : List D → RC} {G : Ev} {s s1 : S} {o : Op1} {a : C} {d : D × Bool} (h : (evq κ Λ G (.op1 o a)).e s = .ok d s1) : (evq κ Λ G (.op1 o a)).hd s = .ok (.v d.1) s1 := by
  show ((evq κ Λ G (.op1 o a)).e s).bind _ = _
  rw [h]
  rfl
section
variable {κ : Nat → (List D → RC) → List D → List D → RC} {Λ : List D → RC} {G : Ev} {s s1 s2 : S} {a r : C}
theorem a_cons {x : D × Bool} {xs : List (D × Bool)} (hn : (evq κ Λ G a).aa = aaE (evq κ Λ G a).e) (ha : (evq κ Λ G a).e s = .ok x s1) (hr : (evq κ Λ G r).a s1 = .ok xs s2) : (evq κ Λ G (.cons a r)).a s = .ok (x :: xs) s2 := by
  show (evq κ Λ G a).aa (evq κ Λ G r).a s = _
  rw [hn]
  show ((evq κ Λ G a).e s).bind (fun x s1 => ((evq κ Λ G r).a s1).bind fun ys s2 => .ok (x :: ys) s2) = _
  rw [ha]
  show ((evq κ Λ G r).a s1).bind (fun ys s2 => .ok (x :: ys) s2) = _
  rw [hr]
  rfl
theorem e_lst {xs : List (D × Bool)} (h : (evq κ Λ G a).a s = .ok xs s1) (hs : short (fsts xs) = true) : (evq κ Λ G (.lst a)).e s = .ok (.lst (fsts xs), true) s1 := by
  show ((evq κ Λ G a).a s).bind (fun xs s1 => if short (fsts xs) then R.ok (D.lst (fsts xs), true) s1 else R.no) = _
  rw [h]
  show (if short (fsts xs) then _ else _) = _
  rw [if_pos hs]
theorem x_retv {d : D × Bool} (h : (evq κ Λ G a).e s = .ok d s1) : (evq κ Λ G (.ret a)).x s = .ok (.rt d.1 d.2) s1 := by
  show ((evq κ Λ G a).e s).bind (fun x s1 => R.ok (Fl.rt x.1 x.2) s1) = _
  rw [h]
  rfl
end
abbrev ds_ (ns : List Int) (k : Int) (x2 x3 x4 x5 : Option (D × Bool)) : S := ⟨[some (.lst (ns.map .int), false), vi k, x2, x3, x4, x5], []⟩
theorem dice_from (L : Nat) (ns : List Int) (k c0 : Int) : ∃ a b c : Int, ∃ s' : S, s'.st = [] ∧ (evq (kk L) noL t.G (.cons (.asg (.n 3) (.op2 .mod (.op1 .int (.op1 .abs (.peek 2))) (.op2 .pow (.op2 .pow (.cst (.int 10)) (.cst (.int 60))) (.cst (.int 10))))) (.cons (.asg (.n 4) (.op2 .fdiv (.peek 3) (.op2 .pow (.cst (.int 10)) (.cst (.int 18))))) (.cons (.asg (.n 5) (.op2 .add (.op2 .add (.op2 .add (.op2 .mul (.op2 .mod (.peek 3) (.cst (.int 2147482661))) (.cst (.int 60509))) (.op2 .mul (.cst (.int 3539)) (.peek 1))) (.op2 .mul (.cst (.int 97)) (.op1 .int (.op2 .lt (.peek 2) (.cst (.int 0)))))) (.cst (.int 113)))) (.cons (.ret (.lst (.cons (.var 4) (.cons (.op2 .mod (.peek 5) (.cst (.int 2147482591))) (.cons (.cst (.int 0)) .nil))))) .nil))))).x (ds_ ns k (vi c0) none none none) = .ok (.rt (dice a b c) true) s' := by
  let s1 := ds_ ns k (vi c0) none none none
  let g0 : Int := if c0 < 0 then -c0 else c0
  let T : Int := ((10 : Int) ^ 60) ^ 10
  have p1 : (evq (kk L) noL t.G (.op2 .pow (.op2 .pow (.cst (.int 10)) (.cst (.int 60))) (.cst (.int 10)))).e s1 = .ok (.int (T), false) s1 := by rfl
  have a1 : (evq (kk L) noL t.G (.op1 .int (.op1 .abs (.peek 2)))).e s1 = .ok (.int g0, false) s1 := by rfl
  have hT : T ≠ 0 := by decide +kernel
  let g : Int := g0.fmod T
  have a3 : (evq (kk L) noL t.G (.op2 .mod (.op1 .int (.op1 .abs (.peek 2))) (.op2 .pow (.op2 .pow (.cst (.int 10)) (.cst (.int 60))) (.cst (.int 10))))).e s1 = .ok (.int (g), false) s1 := e_op2 (h := .v (.int (g0))) (k := .v (.int (T))) (s1 := s1) (hd_op1 a1) (e_hd p1) (mod_ok g0 T hT)
  let s2 := ds_ ns k (vi c0) (vi g) none none
  let U : Int := (10 : Int) ^ 18
  have p2 : (evq (kk L) noL t.G (.op2 .pow (.cst (.int 10)) (.cst (.int 18)))).e s2 = .ok (.int (U), false) s2 := by rfl
  have b1 : (evq (kk L) noL t.G (.op2 .fdiv (.peek 3) (.op2 .pow (.cst (.int 10)) (.cst (.int 18))))).e s2 = .ok (.int (g.fdiv U), false) s2 := e_op2 (h := .v (.int (g))) (k := .v (.int (U))) (s1 := s2) rfl (e_hd p2) (fdiv_ok2 g U (by decide) (by decide) (by decide +kernel))
  let s3 := ds_ ns k (vi c0) (vi g) (vi (g.fdiv U)) none
  let h : Int := g.fmod 2147482661
  let q : Int := if decide (c0 < 0) then 1 else 0
  have c1 : (evq (kk L) noL t.G (.op2 .mod (.peek 3) (.cst (.int 2147482661)))).e s3 = .ok (.int (h), false) s3 := e_op2 (h := .v (.int (g))) (k := .v (.int (2147482661))) (s1 := s3) rfl rfl (mod_ok g 2147482661 (by decide))
  have c2 : (evq (kk L) noL t.G (.op2 .mul (.op2 .mod (.peek 3) (.cst (.int 2147482661))) (.cst (.int 60509)))).e s3 = .ok (.int (h * 60509), false) s3 := e_op2 (h := .v (.int (h))) (k := .v (.int (60509))) (s1 := s3) (e_hd c1) rfl (mul_smr h 60509 (by decide))
  have c3 : (evq (kk L) noL t.G (.op2 .mul (.cst (.int 3539)) (.peek 1))).e s3 = .ok (.int (3539 * k), false) s3 := e_op2 (h := .v (.int (3539))) (k := .v (.int (k))) (s1 := s3) rfl rfl (mul_sm 3539 k (by decide))
  have c4 : (evq (kk L) noL t.G (.op2 .add (.op2 .mul (.op2 .mod (.peek 3) (.cst (.int 2147482661))) (.cst (.int 60509))) (.op2 .mul (.cst (.int 3539)) (.peek 1)))).e s3 = .ok (.int (h * 60509 + 3539 * k), false) s3 := e_op2 (h := .v (.int (h * 60509))) (k := .v (.int (3539 * k))) (s1 := s3) (e_hd c2) (e_hd c3) rfl
  have c5 : (evq (kk L) noL t.G (.op1 .int (.op2 .lt (.peek 2) (.cst (.int 0))))).e s3 = .ok (.int (q), false) s3 := by rfl
  have c6 : (evq (kk L) noL t.G (.op2 .mul (.cst (.int 97)) (.op1 .int (.op2 .lt (.peek 2) (.cst (.int 0)))))).e s3 = .ok (.int (97 * q), false) s3 := e_op2 (h := .v (.int (97))) (k := .v (.int (q))) (s1 := s3) rfl (hd_op1 c5) (mul_sm 97 q (by decide))
  have c7 : (evq (kk L) noL t.G (.op2 .add (.op2 .add (.op2 .mul (.op2 .mod (.peek 3) (.cst (.int 2147482661))) (.cst (.int 60509))) (.op2 .mul (.cst (.int 3539)) (.peek 1))) (.op2 .mul (.cst (.int 97)) (.op1 .int (.op2 .lt (.peek 2) (.cst (.int 0))))))).e s3 = .ok (.int (h * 60509 + 3539 * k + 97 * q), false) s3 := e_op2 (h := .v (.int (h * 60509 + 3539 * k))) (k := .v (.int (97 * q))) (s1 := s3) (e_hd c4) (e_hd c6) rfl
  let m : Int := h * 60509 + 3539 * k + 97 * q + 113
  have c8 : (evq (kk L) noL t.G (.op2 .add (.op2 .add (.op2 .add (.op2 .mul (.op2 .mod (.peek 3) (.cst (.int 2147482661))) (.cst (.int 60509))) (.op2 .mul (.cst (.int 3539)) (.peek 1))) (.op2 .mul (.cst (.int 97)) (.op1 .int (.op2 .lt (.peek 2) (.cst (.int 0)))))) (.cst (.int 113)))).e s3 = .ok (.int (m), false) s3 := e_op2 (h := .v (.int (h * 60509 + 3539 * k + 97 * q))) (k := .v (.int (113))) (s1 := s3) (e_hd c7) rfl rfl
  let s4 := ds_ ns k (vi c0) (vi g) (vi (g.fdiv U)) (vi m)
  have d1 : (evq (kk L) noL t.G (.op2 .mod (.peek 5) (.cst (.int 2147482591)))).e s4 = .ok (.int (m.fmod 2147482591), false) s4 := e_op2 (h := .v (.int (m))) (k := .v (.int (2147482591))) (s1 := s4) rfl rfl (mod_ok m 2147482591 (by decide))
  refine ⟨g.fdiv U, m.fmod 2147482591, 0, s4, rfl, ?_⟩
  refine (x_cons (x_asg a3 (lt_ rfl))).trans ?_
  refine (x_cons (x_asg b1 (lt_ rfl))).trans ?_
  refine (x_cons (x_asg c8 (lt_ rfl))).trans ?_
  refine x_ret ?_
  exact x_retv (e_lst (xs := [(.int (g.fdiv U), false), (.int (m.fmod 2147482591), false), (.int 0, false)]) (a_cons (s1 := s4) rfl rfl (a_cons rfl d1 (a_cons (s1 := s4) rfl rfl rfl))) rfl)
theorem ap_len (ns : List Int) : ap1q .len (.lst (ns.map .int)) = some (.int ns.length, false) := by
  show val (.int ((ns.map D.int).length : Int)) = _
  rw [List.length_map]
theorem dice_ok (L : Nat) (ns : List Int) (k : Int) (hk : 0 ≤ k) : ∃ a b c : Int, kk (L + 1) 87 noL [.lst (ns.map .int), .int k] [] = .ok (dice a b c) true [] := by
  let s0 : S := ds_ ns k none none none none
  have key : ∃ a b c : Int, ∃ s' : S, s'.st = [] ∧ (evq (kk L) noL t.G c__law_dice.body).x s0 = .ok (.rt (dice a b c) true) s' := by
    let s1 : S := ds_ ns k (vi (103 * k + 43)) none none none
    have a1 : (evq (kk L) noL t.G (.op2 .mul (.cst (.int 103)) (.peek 1))).e s0 = .ok (.int (103 * k), false) s0 := e_op2 (h := .v (.int (103))) (k := .v (.int (k))) (s1 := s0) rfl rfl (mul_sm 103 k (by decide))
    have a2 : (evq (kk L) noL t.G (.op2 .add (.op2 .mul (.cst (.int 103)) (.peek 1)) (.cst (.int 43)))).e s0 = .ok (.int (103 * k + 43), false) s0 := e_op2 (h := .v (.int (103 * k))) (k := .v (.int (43))) (s1 := s0) (e_hd a1) rfl rfl
    have l1 : (evq (kk L) noL t.G (.op1 .len (.peek 0))).e s1 = .ok (.int ns.length, false) s1 := by
      show liftO (ap1q .len (.lst (ns.map .int))) s1 = _
      rw [ap_len]
      rfl
    have l2 : (evq (kk L) noL t.G (.op2 .lt (.peek 1) (.op1 .len (.peek 0)))).e s1 = .ok (.bl (decide (k < ns.length)), false) s1 := e_op2 (h := .v (.int (k))) (k := .v (.int (ns.length))) (s1 := s1) rfl (hd_op1 l1) rfl
    cases h : decide (k < ns.length) with
    | true =>
      have h1 : k < ns.length := of_decide_eq_true h
      obtain ⟨d, hd, e⟩ := idx_ok (ns.map D.int) k hk (by rw [List.length_map]; exact h1)
      obtain ⟨v, _, rfl⟩ := List.mem_map.mp hd
      have l3 : (evq (kk L) noL t.G (.op2 .idx (.peek 0) (.peek 1))).e s1 = .ok (.int v, false) s1 := e_op2 (h := .v (.lst (ns.map .int))) (k := .v (.int k)) (s1 := s1) rfl rfl e
      obtain ⟨a, b, c, s', h2, h3⟩ := dice_from L ns k v
      refine ⟨a, b, c, s', h2, ?_⟩
      refine (x_cons (x_asg a2 (lt_ rfl))).trans ?_
      refine (x_cons (s1 := ds_ ns k (vi v) none none none) ?_).trans h3
      refine (x_ifs l2).trans ?_
      rw [h]
      exact (x_cons (x_asg l3 (lt_ rfl))).trans rfl
    | false =>
      obtain ⟨a, b, c, s', h2, h3⟩ := dice_from L ns k (103 * k + 43)
      refine ⟨a, b, c, s', h2, ?_⟩
      refine (x_cons (x_asg a2 (lt_ rfl))).trans ?_
      refine (x_cons (s1 := s1) ?_).trans h3
      refine (x_ifs l2).trans ?_
      rw [h]
      rfl
  obtain ⟨a, b, c, s', h1, h2⟩ := key
  refine ⟨a, b, c, ?_⟩
  show runS t.F t.G (kk L) 87 noL [.lst (ns.map .int), .int k] [] = _
  have eF : t.F 87 = some c__law_dice := by rfl
  unfold runS
  rw [eF]
  show ends 0 ((evq (kk L) noL t.G c__law_dice.body).x s0) = _
  rw [h2]
  show (if s'.st.length = 0 then RC.ok (dice a b c) true s'.st else .no) = _
  rw [h1]
  rfl
section
variable {κ : Nat → (List D → RC) → List D → List D → RC} {Λ : List D → RC} {G : Ev} {s s1 s2 : S} {a b hs r : C}
theorem x_try {k : Nat} {v : D} (h : (evq κ Λ G b).x s = .er (.exc k v) s1) : (evq κ Λ G (.try_ b hs)).x s = (evq κ Λ G hs).h k v s1 := by
  show (match (evq κ Λ G b).x s with | .er (.exc k v) s1 => (evq κ Λ G hs).h k v s1 | r => r) = _
  rw [h]
theorem x_try_ok (h : (evq κ Λ G b).x s = .ok .nx s1) : (evq κ Λ G (.try_ b hs)).x s = .ok .nx s1 := by
  show (match (evq κ Λ G b).x s with | .er (.exc k v) s1 => (evq κ Λ G hs).h k v s1 | r => r) = _
  rw [h]
theorem x_xpr {d : D × Bool} (h : (evq κ Λ G a).e s = .ok d s1) : (evq κ Λ G (.xpr a)).x s = .ok .nx s1 := by
  show ((evq κ Λ G a).e s).bind (fun _ s1 => R.ok Fl.nx s1) = _
  rw [h]
  rfl
theorem x_xpr_er {x : D} (h : (evq κ Λ G a).e s = .er x s1) : (evq κ Λ G (.cons (.xpr a) r)).x s = .er x s1 := by
  show (((evq κ Λ G a).e s).bind (fun _ s1 => R.ok Fl.nx s1)).bind _ = _
  rw [h]
  rfl
end
abbrev wd (s : String) : PySem.Str := PySem.Str.ofString s
abbrev ws0 (st : List D) : S := ⟨[some (.clo 0 [], false), none], st⟩
theorem word_run (L : Nat) (l : List D → RC) (st : List D) (w : PySem.Str) (s' : S) (hs : s'.st = st) (x : (evq (kk L) l t.G c__law_error_word.body).x (ws0 st) = .ok (.rt (.str w) false) s') : kk (L + 1) 169 l [.clo 0 []] st = .ok (.str w) false st := by
  show runS t.F t.G (kk L) 169 l [.clo 0 []] st = _
  have e : t.F 169 = some c__law_error_word := by rfl
  unfold runS
  rw [e]
  show ends st.length ((evq (kk L) l t.G c__law_error_word.body).x (ws0 st)) = _
  rw [x]
  show (if s'.st.length = st.length then RC.ok (.str w) false s'.st else .no) = _
  rw [hs, if_pos rfl]
theorem word_field (L : Nat) (l : List D → RC) (st : List D) (v : D) (h : l st = .er (.exc 8 v) st) : kk (L + 1) 169 l [.clo 0 []] st = .ok (.str (wd "field")) false st := by
  refine word_run L l st _ ⟨[none, none], st⟩ rfl ?_
  have c : (evq (kk L) l t.G (.calla 0)).e (ws0 st) = .er (.exc 8 v) ⟨[none, none], st⟩ := by
    show callCl (ws0 st) (l st) = _
    rw [h]
    rfl
  exact (x_ret ((x_try (x_xpr_er c)).trans rfl))
theorem word_fine (L : Nat) (l : List D → RC) (st : List D) (d : D) (o : Bool) (h : l st = .ok d o st) : kk (L + 1) 169 l [.clo 0 []] st = .ok (.str (wd "fine")) false st := by
  refine word_run L l st _ (ws0 st) rfl ?_
  have c : (evq (kk L) l t.G (.calla 0)).e (ws0 st) = .ok (d, o) (ws0 st) := by
    show callCl (ws0 st) (l st) = _
    rw [h]
    rfl
  exact (x_cons (x_try_ok ((x_cons (x_xpr c)).trans rfl))).trans rfl
theorem word_num (L : Nat) (l : List D → RC) (a b c : Int) (v : D) (sv : PySem.Str) (hc : v.isCls = false) (hdf : ∀ s : S, s.deref v = v) (hr : v.rep = some sv) (hz : Nat.ble (7 + sv.cps.size) LINE = true) (h : l [dice a b c] = .er (.exc 42 v) [dice a b c]) : kk (L + 1) 169 l [.clo 0 []] [dice a b c] = .ok (.str (catS (wd "number ") sv)) false [dice a b c] := by
  refine word_run L l _ _ ⟨[none, none], [dice a b c]⟩ rfl ?_
  have e0 : (evq (kk L) l t.G (.calla 0)).e (ws0 [dice a b c]) = .er (.exc 42 v) ⟨[none, none], [dice a b c]⟩ := by
    show callCl (ws0 _) (l [dice a b c]) = _
    rw [h]
    rfl
  refine x_ret ((x_try (x_xpr_er e0)).trans ?_)
  let s1 : S := ⟨[none, some (.exc 42 v, false)], [dice a b c]⟩
  have e1 : (evq (kk L) l t.G (.attr 1 (.var 1))).e s1 = .ok (v, false) s1 := by
    show (if t.G.atr 42 = 1 && !v.isCls then R.ok (v, false) s1 else R.no) = _
    rw [hc]
    rfl
  have e2 : (evq (kk L) l t.G (.op1 .repr (.attr 1 (.var 1)))).e s1 = .ok (.str sv, false) s1 := by
    show (((evq (kk L) l t.G (.attr 1 (.var 1))).e s1).bind (fun d s => R.ok (Hd.v d.1) s)).bind (fun h s1 => liftO (res1 h s1 (ap1q .repr)) s1) = _
    rw [e1]
    show liftO ((some (s1.deref v)).bind fun d => d.rep.bind fun s => val (.str s)) s1 = _
    rw [hdf]
    show liftO (v.rep.bind fun s => val (.str s)) s1 = _
    rw [hr]
    rfl
  have e3 : (evq (kk L) l t.G (.op2 .add (.cst (.str (wd "number "))) (.op1 .repr (.attr 1 (.var 1))))).e s1 = .ok (.str (catS (wd "number ") sv), false) s1 := by
    refine e_op2 (h := .v (.str (wd "number "))) (k := .v (.str sv)) (s1 := s1) rfl (hd_op1 e2) ?_
    show (if Nat.ble (7 + sv.cps.size) LINE then _ else _) = _
    rw [if_pos hz]
  have e4 := x_retv e3
  show leave ((evq (kk L) l t.G (.cons (.ret (.op2 .add (.cst (.str (wd "number "))) (.op1 .repr (.attr 1 (.var 1))))) .nil)).x s1) = _
  rw [x_ret e4]
  rfl
theorem word_many (L : Nat) (l : List D → RC) (a b c : Int) (h : l [dice a b c] = .er (.exc 49 (.int 16)) [dice a b c]) : kk (L + 1) 169 l [.clo 0 []] [dice a b c] = .ok (.str (wd "many 16")) false [dice a b c] := by
  refine word_run L l _ _ ⟨[none, none], [dice a b c]⟩ rfl ?_
  have e0 : (evq (kk L) l t.G (.calla 0)).e (ws0 [dice a b c]) = .er (.exc 49 (.int 16)) ⟨[none, none], [dice a b c]⟩ := by
    show callCl (ws0 _) (l [dice a b c]) = _
    rw [h]
    rfl
  refine x_ret ((x_try (x_xpr_er e0)).trans ?_)
  kernel_rfl
section
variable {κ : Nat → (List D → RC) → List D → List D → RC} {Λ : List D → RC} {G : Ev} {s s1 s2 : S} {as a hs r : C}
theorem e_calll {f : Nat} {w : PySem.Str} {st : List D} (hst : s.st = st) (hp : st.all (D.pure PUD) = true) (h : κ f (lamR (evq κ Λ G a).e s.ρ) [.clo 0 []] st = .ok (.str w) false st) : (evq κ Λ G (.calll f a)).e s = .ok (.str w, false) s := by
  show liftC s (lamC (κ f (lamR (evq κ Λ G a).e s.ρ) [.clo 0 []] s.st)) = _
  rw [hst, h]
  show liftC s (if (true && st.all (D.pure PUD)) = true then RC.ok (.str w) false st else .no) = _
  rw [hp]
  cases s
  cases hst
  rfl
theorem lam_v {i f : Nat} {ρ : List (Option (D × Bool))} {st : List D} {xs : List (D × Bool)} (hp : st.all (D.pure PUD) = true) (hs : S.get ⟨vals ρ, st⟩ i = some (.fn f, false)) (hf : G.fns f = true) (ha : (evq κ Λ G as).a ⟨vals ρ, st⟩ = .ok xs ⟨vals ρ, st⟩) (hx : (fsts xs).all (D.pure PUD) = true) :
    lamR (evq κ Λ G (.callv i as)).e ρ st = match κ f noL (fsts xs) [] with
      | .ok d o [] => .ok d o st
      | .er x [] => .er x st
      | _ => .no := by
  have e : (evq κ Λ G (.callv i as)).e ⟨vals ρ, st⟩ = liftP ⟨vals ρ, st⟩ (κ f noL (fsts xs) []) := by
    show (match S.get ⟨vals ρ, st⟩ i with
      | some (.fn f, false) => if G.fns f then ((evq κ Λ G as).a ⟨vals ρ, st⟩).bind fun xs s1 => callP (κ f noL) (fsts xs) s1 else .no
      | _ => .no) = _
    rw [hs]
    show (if G.fns f then ((evq κ Λ G as).a ⟨vals ρ, st⟩).bind fun xs s1 => callP (κ f noL) (fsts xs) s1 else .no) = _
    rw [if_pos hf, ha]
    show callP (κ f noL) (fsts xs) ⟨vals ρ, st⟩ = _
    unfold callP
    rw [if_pos hx]
  unfold lamR
  rw [if_pos hp, e]
  cases q : κ f noL (fsts xs) [] with
  | ok d o st' =>
    cases st' with
    | nil => exact if_pos rfl
    | cons => rfl
  | er x st' =>
    cases st' with
    | nil => exact if_pos rfl
    | cons => rfl
  | no => rfl
end
section
variable {κ : Nat → (List D → RC) → List D → List D → RC} {Λ : List D → RC} {G : Ev} {s s1 s2 : S} {as a hs r : C}
theorem x_app {ws : List D} {d : D} {o : Bool} {i : Nat} (hg : s.get i = some (.lst ws, true)) (h : (evq κ Λ G as).a s = .ok [(d, o)] s) (hl : Nat.ble (ws.length + 1) LINE = true) : (evq κ Λ G (.xpr (.mut .append i as))).x s = .ok .nx (s.put i (.lst (ws ++ [d])) true) := by
  have e : (evq κ Λ G (.mut .append i as)).e s = .ok (.non, false) (s.put i (.lst (ws ++ [d])) true) := by
    show (if isLstAt s i then ((evq κ Λ G as).a s).bind fun xs s1 => chg s1 i fun o => muts .append o (fsts xs) else .no) = _
    have l : isLstAt s i = true := by
      unfold isLstAt
      rw [hg]
    rw [if_pos l, h]
    show chg s i (fun o => muts .append o [d]) = _
    unfold chg
    rw [hg]
    show (match (if Nat.ble (ws.length + 1) LINE then some (D.non, D.lst (ws ++ [d])) else none) with | some (r, o') => R.ok (r, false) (s.put i o' true) | none => R.no) = _
    rw [if_pos hl]
  exact x_xpr e
end
theorem pur_int (i : Int) : D.pure PUD (.int i) = true := rfl
theorem eqv_self : ∀ ws : List PySem.Str, D.eqvL (ws.map .str) (ws.map .str) = true
  | [] => rfl
  | w :: r => by
    show (D.eqv (.str w) (.str w) && D.eqvL (r.map .str) (r.map .str)) = true
    rw [eqv_self r]
    show ((w == w) && true) = true
    simp
theorem ne_self (ws : List PySem.Str) (h : (ws.all fun w => D.okEq 11 (.str w)) = true) : ap2q .ne (.lst (ws.map .str)) (.lst (ws.map .str)) = some (.bl false, false) := by
  have e : D.okEq EQD (.lst (ws.map .str)) = true := by
    show ((ws.map D.str).all (D.okEq 11)) = true
    rw [List.all_map]
    exact h
  show (D.eq? _ _).bind _ = _
  unfold D.eq?
  rw [e]
  show (some (D.eqvL (ws.map .str) (ws.map .str))).bind _ = _
  rw [eqv_self]
  rfl
abbrev eS (bad odd low far : D) (f : Nat) (x6 x7 : Option (D × Bool)) (a b c : Int) : S := ⟨[some (.ref 0, false), some (bad, false), some (odd, false), some (low, false), some (far, false), some (.fn f, false), x6, x7], [dice a b c]⟩
/-- what is asked of a value whose repr is in a message -/
structure Shn (v : D) (sv : PySem.Str) : Prop where
  hc : v.isCls = false
  hdf : ∀ s : S, s.deref v = v
  hr : v.rep = some sv
  hz : Nat.ble (7 + sv.cps.size) LINE = true
  hp : v.pure PUD = true
  ok : D.okEq 11 (.str (catS (wd "number ") sv)) = true
theorem loop1 (L : Nat) (bad odd low f0 f1 : D) (so sl : PySem.Str) (f : Nat) (x6 x7 : Option (D × Bool)) (a b c : Int) (v8 d9 : D) (o9 : Bool) (hf : t.G.fns f = true) (pb : bad.pure PUD = true) (p0 : f0.pure PUD = true) (p1 : f1.pure PUD = true) (So : Shn odd so) (Sl : Shn low sl)
    (h0 : kk (L + 1) f noL [bad, odd, low] [] = .er (.exc 8 v8) [])
    (h1 : kk (L + 1) f noL [.int 3, odd, low] [] = .er (.exc 42 odd) [])
    (h2 : kk (L + 1) f noL [.int 3, .int 2, low] [] = .er (.exc 42 low) [])
    (h3 : kk (L + 1) f noL [f0, odd, f1] [] = .er (.exc 42 odd) [])
    (h4 : kk (L + 1) f noL [f0, .int 1, f1] [] = .er (.exc 49 (.int 16)) [])
    (h5 : kk (L + 1) f noL [.int 9, .int 1, .int 1] [] = .ok d9 o9 [])
    : (evq (kk (L + 1)) noL t.G (.cons (.asg (.n 6) (.lst (.cons (.calll 169 (.callv 5 (.cons (.var 1) (.cons (.var 2) (.cons (.var 3) .nil))))) .nil))) (.cons (.xpr (.mut .append 6 (.cons (.calll 169 (.callv 5 (.cons (.cst (.int 3)) (.cons (.var 2) (.cons (.var 3) .nil))))) .nil))) (.cons (.xpr (.mut .append 6 (.cons (.calll 169 (.callv 5 (.cons (.cst (.int 3)) (.cons (.cst (.int 2)) (.cons (.var 3) .nil))))) .nil))) (.cons (.xpr (.mut .append 6 (.cons (.calll 169 (.callv 5 (.cons (.op2 .idx (.peek 4) (.cst (.int 0))) (.cons (.var 2) (.cons (.op2 .idx (.peek 4) (.cst (.int 1))) .nil))))) .nil))) (.cons (.xpr (.mut .append 6 (.cons (.calll 169 (.callv 5 (.cons (.op2 .idx (.peek 4) (.cst (.int 0))) (.cons (.cst (.int 1)) (.cons (.op2 .idx (.peek 4) (.cst (.int 1))) .nil))))) .nil))) (.cons (.xpr (.mut .append 6 (.cons (.calll 169 (.callv 5 (.cons (.cst (.int 9)) (.cons (.cst (.int 1)) (.cons (.cst (.int 1)) .nil))))) .nil))) (.cons (.asg (.n 7) (.op2 .add (.cst (.str (wd "number "))) (.op1 .repr (.peek 2)))) (.cons (.ifs (.op2 .ne (.peek 6) (.lst (.cons (.cst (.str (wd "field"))) (.cons (.var 7) (.cons (.op2 .add (.cst (.str (wd "number "))) (.op1 .repr (.peek 3))) (.cons (.var 7) (.cons (.cst (.str (wd "many 16"))) (.cons (.cst (.str (wd "fine"))) .nil)))))))) (.cons (.ret (.cst (.bl false))) .nil) .nil) .nil))))))))).x (eS bad odd low (.tup [f0, f1]) f x6 x7 a b c) = .ok .nx (eS bad odd low (.tup [f0, f1]) f (some (.lst [.str (wd "field"), .str (catS (wd "number ") so), .str (catS (wd "number ") sl), .str (catS (wd "number ") so), .str (wd "many 16"), .str (wd "fine")], true)) (some (.str (catS (wd "number ") so), false)) a b c) := by
  let T : D := .tup [f0, f1]
  have p0_ : (fsts ([(bad, false), (odd, false), (low, false)] : List (D × Bool))).all (D.pure PUD) = true := by
    show ((D.pure PUD (bad) && (D.pure PUD (odd) && (D.pure PUD (low) && true)))) = true
    simp only [pb, p0, p1, So.hp, Sl.hp, pur_int, Bool.and_true]
  have w0 : (evq (kk (L + 1)) noL t.G (.calll 169 (.callv 5 (.cons (.var 1) (.cons (.var 2) (.cons (.var 3) .nil)))))).e (eS bad odd low T f x6 x7 a b c) = .ok (.str (wd "field"), false) (eS bad odd low T f x6 x7 a b c) := by
    refine e_calll rfl rfl (word_field L _ _ v8 ?_)
    refine (lam_v (f := f) (xs := [(bad, false), (odd, false), (low, false)]) rfl rfl hf rfl p0_).trans ?_
    show (match kk (L + 1) f noL [bad, odd, low] [] with | .ok d o [] => RC.ok d o _ | .er x [] => .er x _ | _ => .no) = _
    rw [h0]
  have p1_ : (fsts ([(.int 3, false), (odd, false), (low, false)] : List (D × Bool))).all (D.pure PUD) = true := by
    show ((D.pure PUD (.int 3) && (D.pure PUD (odd) && (D.pure PUD (low) && true)))) = true
    simp only [pb, p0, p1, So.hp, Sl.hp, pur_int, Bool.and_true]
  have w1 : (evq (kk (L + 1)) noL t.G (.calll 169 (.callv 5 (.cons (.cst (.int 3)) (.cons (.var 2) (.cons (.var 3) .nil)))))).e (eS bad odd low T f (some (.lst [.str (wd "field")], true)) x7 a b c) = .ok (.str (catS (wd "number ") so), false) (eS bad odd low T f (some (.lst [.str (wd "field")], true)) x7 a b c) := by
    refine e_calll rfl rfl (word_num L _ a b c odd so So.hc So.hdf So.hr So.hz ?_)
    refine (lam_v (f := f) (xs := [(.int 3, false), (odd, false), (low, false)]) rfl rfl hf rfl p1_).trans ?_
    show (match kk (L + 1) f noL [.int 3, odd, low] [] with | .ok d o [] => RC.ok d o _ | .er x [] => .er x _ | _ => .no) = _
    rw [h1]
  have p2_ : (fsts ([(.int 3, false), (.int 2, false), (low, false)] : List (D × Bool))).all (D.pure PUD) = true := by
    show ((D.pure PUD (.int 3) && (D.pure PUD (.int 2) && (D.pure PUD (low) && true)))) = true
    simp only [pb, p0, p1, So.hp, Sl.hp, pur_int, Bool.and_true]
  have w2 : (evq (kk (L + 1)) noL t.G (.calll 169 (.callv 5 (.cons (.cst (.int 3)) (.cons (.cst (.int 2)) (.cons (.var 3) .nil)))))).e (eS bad odd low T f (some (.lst [.str (wd "field"), .str (catS (wd "number ") so)], true)) x7 a b c) = .ok (.str (catS (wd "number ") sl), false) (eS bad odd low T f (some (.lst [.str (wd "field"), .str (catS (wd "number ") so)], true)) x7 a b c) := by
    refine e_calll rfl rfl (word_num L _ a b c low sl Sl.hc Sl.hdf Sl.hr Sl.hz ?_)
    refine (lam_v (f := f) (xs := [(.int 3, false), (.int 2, false), (low, false)]) rfl rfl hf rfl p2_).trans ?_
    show (match kk (L + 1) f noL [.int 3, .int 2, low] [] with | .ok d o [] => RC.ok d o _ | .er x [] => .er x _ | _ => .no) = _
    rw [h2]
  have p3_ : (fsts ([(f0, false), (odd, false), (f1, false)] : List (D × Bool))).all (D.pure PUD) = true := by
    show ((D.pure PUD (f0) && (D.pure PUD (odd) && (D.pure PUD (f1) && true)))) = true
    simp only [pb, p0, p1, So.hp, Sl.hp, pur_int, Bool.and_true]
  have w3 : (evq (kk (L + 1)) noL t.G (.calll 169 (.callv 5 (.cons (.op2 .idx (.peek 4) (.cst (.int 0))) (.cons (.var 2) (.cons (.op2 .idx (.peek 4) (.cst (.int 1))) .nil)))))).e (eS bad odd low T f (some (.lst [.str (wd "field"), .str (catS (wd "number ") so), .str (catS (wd "number ") sl)], true)) x7 a b c) = .ok (.str (catS (wd "number ") so), false) (eS bad odd low T f (some (.lst [.str (wd "field"), .str (catS (wd "number ") so), .str (catS (wd "number ") sl)], true)) x7 a b c) := by
    refine e_calll rfl rfl (word_num L _ a b c odd so So.hc So.hdf So.hr So.hz ?_)
    refine (lam_v (f := f) (xs := [(f0, false), (odd, false), (f1, false)]) rfl rfl hf rfl p3_).trans ?_
    show (match kk (L + 1) f noL [f0, odd, f1] [] with | .ok d o [] => RC.ok d o _ | .er x [] => .er x _ | _ => .no) = _
    rw [h3]
  have p4_ : (fsts ([(f0, false), (.int 1, false), (f1, false)] : List (D × Bool))).all (D.pure PUD) = true := by
    show ((D.pure PUD (f0) && (D.pure PUD (.int 1) && (D.pure PUD (f1) && true)))) = true
    simp only [pb, p0, p1, So.hp, Sl.hp, pur_int, Bool.and_true]
  have w4 : (evq (kk (L + 1)) noL t.G (.calll 169 (.callv 5 (.cons (.op2 .idx (.peek 4) (.cst (.int 0))) (.cons (.cst (.int 1)) (.cons (.op2 .idx (.peek 4) (.cst (.int 1))) .nil)))))).e (eS bad odd low T f (some (.lst [.str (wd "field"), .str (catS (wd "number ") so), .str (catS (wd "number ") sl), .str (catS (wd "number ") so)], true)) x7 a b c) = .ok (.str (wd "many 16"), false) (eS bad odd low T f (some (.lst [.str (wd "field"), .str (catS (wd "number ") so), .str (catS (wd "number ") sl), .str (catS (wd "number ") so)], true)) x7 a b c) := by
    refine e_calll rfl rfl (word_many L _ a b c ?_)
    refine (lam_v (f := f) (xs := [(f0, false), (.int 1, false), (f1, false)]) rfl rfl hf rfl p4_).trans ?_
    show (match kk (L + 1) f noL [f0, .int 1, f1] [] with | .ok d o [] => RC.ok d o _ | .er x [] => .er x _ | _ => .no) = _
    rw [h4]
  have p5_ : (fsts ([(.int 9, false), (.int 1, false), (.int 1, false)] : List (D × Bool))).all (D.pure PUD) = true := by
    show ((D.pure PUD (.int 9) && (D.pure PUD (.int 1) && (D.pure PUD (.int 1) && true)))) = true
    simp only [pb, p0, p1, So.hp, Sl.hp, pur_int, Bool.and_true]
  have w5 : (evq (kk (L + 1)) noL t.G (.calll 169 (.callv 5 (.cons (.cst (.int 9)) (.cons (.cst (.int 1)) (.cons (.cst (.int 1)) .nil)))))).e (eS bad odd low T f (some (.lst [.str (wd "field"), .str (catS (wd "number ") so), .str (catS (wd "number ") sl), .str (catS (wd "number ") so), .str (wd "many 16")], true)) x7 a b c) = .ok (.str (wd "fine"), false) (eS bad odd low T f (some (.lst [.str (wd "field"), .str (catS (wd "number ") so), .str (catS (wd "number ") sl), .str (catS (wd "number ") so), .str (wd "many 16")], true)) x7 a b c) := by
    refine e_calll rfl rfl (word_fine L _ _ d9 o9 ?_)
    refine (lam_v (f := f) (xs := [(.int 9, false), (.int 1, false), (.int 1, false)]) rfl rfl hf rfl p5_).trans ?_
    show (match kk (L + 1) f noL [.int 9, .int 1, .int 1] [] with | .ok d o [] => RC.ok d o _ | .er x [] => .er x _ | _ => .no) = _
    rw [h5]
  refine (x_cons (x_asg (e_lst (xs := [(.str (wd "field"), false)]) (a_cons rfl w0 rfl) rfl) (lt_ rfl))).trans ?_
  refine (x_cons (x_app (s := eS bad odd low T f (some (.lst [.str (wd "field")], true)) x7 a b c) (i := 6) rfl (a_cons rfl w1 rfl) rfl)).trans ?_
  refine (x_cons (x_app (s := eS bad odd low T f (some (.lst [.str (wd "field"), .str (catS (wd "number ") so)], true)) x7 a b c) (i := 6) rfl (a_cons rfl w2 rfl) rfl)).trans ?_
  refine (x_cons (x_app (s := eS bad odd low T f (some (.lst [.str (wd "field"), .str (catS (wd "number ") so), .str (catS (wd "number ") sl)], true)) x7 a b c) (i := 6) rfl (a_cons rfl w3 rfl) rfl)).trans ?_
  refine (x_cons (x_app (s := eS bad odd low T f (some (.lst [.str (wd "field"), .str (catS (wd "number ") so), .str (catS (wd "number ") sl), .str (catS (wd "number ") so)], true)) x7 a b c) (i := 6) rfl (a_cons rfl w4 rfl) rfl)).trans ?_
  refine (x_cons (x_app (s := eS bad odd low T f (some (.lst [.str (wd "field"), .str (catS (wd "number ") so), .str (catS (wd "number ") sl), .str (catS (wd "number ") so), .str (wd "many 16")], true)) x7 a b c) (i := 6) rfl (a_cons rfl w5 rfl) rfl)).trans ?_
  have q2 : (evq (kk (L + 1)) noL t.G (.op1 .repr (.peek 2))).e (eS bad odd low T f (some (.lst [.str (wd "field"), .str (catS (wd "number ") so), .str (catS (wd "number ") sl), .str (catS (wd "number ") so), .str (wd "many 16"), .str (wd "fine")], true)) (x7) a b c) = .ok (.str so, false) (eS bad odd low T f (some (.lst [.str (wd "field"), .str (catS (wd "number ") so), .str (catS (wd "number ") sl), .str (catS (wd "number ") so), .str (wd "many 16"), .str (wd "fine")], true)) (x7) a b c) := by
    show liftO ((some ((eS bad odd low T f (some (.lst [.str (wd "field"), .str (catS (wd "number ") so), .str (catS (wd "number ") sl), .str (catS (wd "number ") so), .str (wd "many 16"), .str (wd "fine")], true)) (x7) a b c).deref odd)).bind fun d => d.rep.bind fun s => val (.str s)) _ = _
    rw [So.hdf]
    show liftO ((odd).rep.bind fun s => val (.str s)) _ = _
    rw [So.hr]
    rfl
  have m2 : (evq (kk (L + 1)) noL t.G (.op2 .add (.cst (.str (wd "number "))) (.op1 .repr (.peek 2)))).e (eS bad odd low T f (some (.lst [.str (wd "field"), .str (catS (wd "number ") so), .str (catS (wd "number ") sl), .str (catS (wd "number ") so), .str (wd "many 16"), .str (wd "fine")], true)) (x7) a b c) = .ok (.str (catS (wd "number ") so), false) (eS bad odd low T f (some (.lst [.str (wd "field"), .str (catS (wd "number ") so), .str (catS (wd "number ") sl), .str (catS (wd "number ") so), .str (wd "many 16"), .str (wd "fine")], true)) (x7) a b c) := by
    refine e_op2 (h := .v (.str (wd "number "))) (k := .v (.str so)) (s1 := eS bad odd low T f (some (.lst [.str (wd "field"), .str (catS (wd "number ") so), .str (catS (wd "number ") sl), .str (catS (wd "number ") so), .str (wd "many 16"), .str (wd "fine")], true)) (x7) a b c) rfl (hd_op1 q2) ?_
    show (if Nat.ble (7 + so.cps.size) LINE then _ else _) = _
    rw [if_pos So.hz]
  refine (x_cons (x_asg m2 (lt_ rfl))).trans ?_
  have r3 : (evq (kk (L + 1)) noL t.G (.op1 .repr (.peek 3))).e (eS bad odd low T f (some (.lst [.str (wd "field"), .str (catS (wd "number ") so), .str (catS (wd "number ") sl), .str (catS (wd "number ") so), .str (wd "many 16"), .str (wd "fine")], true)) (some (.str (catS (wd "number ") so), false)) a b c) = .ok (.str sl, false) (eS bad odd low T f (some (.lst [.str (wd "field"), .str (catS (wd "number ") so), .str (catS (wd "number ") sl), .str (catS (wd "number ") so), .str (wd "many 16"), .str (wd "fine")], true)) (some (.str (catS (wd "number ") so), false)) a b c) := by
    show liftO ((some ((eS bad odd low T f (some (.lst [.str (wd "field"), .str (catS (wd "number ") so), .str (catS (wd "number ") sl), .str (catS (wd "number ") so), .str (wd "many 16"), .str (wd "fine")], true)) (some (.str (catS (wd "number ") so), false)) a b c).deref low)).bind fun d => d.rep.bind fun s => val (.str s)) _ = _
    rw [Sl.hdf]
    show liftO ((low).rep.bind fun s => val (.str s)) _ = _
    rw [Sl.hr]
    rfl
  have n3 : (evq (kk (L + 1)) noL t.G (.op2 .add (.cst (.str (wd "number "))) (.op1 .repr (.peek 3)))).e (eS bad odd low T f (some (.lst [.str (wd "field"), .str (catS (wd "number ") so), .str (catS (wd "number ") sl), .str (catS (wd "number ") so), .str (wd "many 16"), .str (wd "fine")], true)) (some (.str (catS (wd "number ") so), false)) a b c) = .ok (.str (catS (wd "number ") sl), false) (eS bad odd low T f (some (.lst [.str (wd "field"), .str (catS (wd "number ") so), .str (catS (wd "number ") sl), .str (catS (wd "number ") so), .str (wd "many 16"), .str (wd "fine")], true)) (some (.str (catS (wd "number ") so), false)) a b c) := by
    refine e_op2 (h := .v (.str (wd "number "))) (k := .v (.str sl)) (s1 := eS bad odd low T f (some (.lst [.str (wd "field"), .str (catS (wd "number ") so), .str (catS (wd "number ") sl), .str (catS (wd "number ") so), .str (wd "many 16"), .str (wd "fine")], true)) (some (.str (catS (wd "number ") so), false)) a b c) rfl (hd_op1 r3) ?_
    show (if Nat.ble (7 + sl.cps.size) LINE then _ else _) = _
    rw [if_pos Sl.hz]
  have g1 : (evq (kk (L + 1)) noL t.G (.lst (.cons (.cst (.str (wd "field"))) (.cons (.var 7) (.cons (.op2 .add (.cst (.str (wd "number "))) (.op1 .repr (.peek 3))) (.cons (.var 7) (.cons (.cst (.str (wd "many 16"))) (.cons (.cst (.str (wd "fine"))) .nil)))))))).e (eS bad odd low T f (some (.lst [.str (wd "field"), .str (catS (wd "number ") so), .str (catS (wd "number ") sl), .str (catS (wd "number ") so), .str (wd "many 16"), .str (wd "fine")], true)) (some (.str (catS (wd "number ") so), false)) a b c) = .ok (.lst [.str (wd "field"), .str (catS (wd "number ") so), .str (catS (wd "number ") sl), .str (catS (wd "number ") so), .str (wd "many 16"), .str (wd "fine")], true) (eS bad odd low T f (some (.lst [.str (wd "field"), .str (catS (wd "number ") so), .str (catS (wd "number ") sl), .str (catS (wd "number ") so), .str (wd "many 16"), .str (wd "fine")], true)) (some (.str (catS (wd "number ") so), false)) a b c) := e_lst (xs := [(.str (wd "field"), false), (.str (catS (wd "number ") so), false), (.str (catS (wd "number ") sl), false), (.str (catS (wd "number ") so), false), (.str (wd "many 16"), false), (.str (wd "fine"), false)]) (a_cons (s1 := (eS bad odd low T f (some (.lst [.str (wd "field"), .str (catS (wd "number ") so), .str (catS (wd "number ") sl), .str (catS (wd "number ") so), .str (wd "many 16"), .str (wd "fine")], true)) (some (.str (catS (wd "number ") so), false)) a b c)) rfl rfl (a_cons (s1 := (eS bad odd low T f (some (.lst [.str (wd "field"), .str (catS (wd "number ") so), .str (catS (wd "number ") sl), .str (catS (wd "number ") so), .str (wd "many 16"), .str (wd "fine")], true)) (some (.str (catS (wd "number ") so), false)) a b c)) rfl rfl (a_cons (s1 := (eS bad odd low T f (some (.lst [.str (wd "field"), .str (catS (wd "number ") so), .str (catS (wd "number ") sl), .str (catS (wd "number ") so), .str (wd "many 16"), .str (wd "fine")], true)) (some (.str (catS (wd "number ") so), false)) a b c)) rfl n3 (a_cons (s1 := (eS bad odd low T f (some (.lst [.str (wd "field"), .str (catS (wd "number ") so), .str (catS (wd "number ") sl), .str (catS (wd "number ") so), .str (wd "many 16"), .str (wd "fine")], true)) (some (.str (catS (wd "number ") so), false)) a b c)) rfl rfl (a_cons (s1 := (eS bad odd low T f (some (.lst [.str (wd "field"), .str (catS (wd "number ") so), .str (catS (wd "number ") sl), .str (catS (wd "number ") so), .str (wd "many 16"), .str (wd "fine")], true)) (some (.str (catS (wd "number ") so), false)) a b c)) rfl rfl (a_cons (s1 := (eS bad odd low T f (some (.lst [.str (wd "field"), .str (catS (wd "number ") so), .str (catS (wd "number ") sl), .str (catS (wd "number ") so), .str (wd "many 16"), .str (wd "fine")], true)) (some (.str (catS (wd "number ") so), false)) a b c)) rfl rfl rfl)))))) rfl
  have g2 : (evq (kk (L + 1)) noL t.G (.lst (.cons (.cst (.str (wd "field"))) (.cons (.var 7) (.cons (.op2 .add (.cst (.str (wd "number "))) (.op1 .repr (.peek 3))) (.cons (.var 7) (.cons (.cst (.str (wd "many 16"))) (.cons (.cst (.str (wd "fine"))) .nil)))))))).hd (eS bad odd low T f (some (.lst [.str (wd "field"), .str (catS (wd "number ") so), .str (catS (wd "number ") sl), .str (catS (wd "number ") so), .str (wd "many 16"), .str (wd "fine")], true)) (some (.str (catS (wd "number ") so), false)) a b c) = .ok (.v (.lst [.str (wd "field"), .str (catS (wd "number ") so), .str (catS (wd "number ") sl), .str (catS (wd "number ") so), .str (wd "many 16"), .str (wd "fine")])) (eS bad odd low T f (some (.lst [.str (wd "field"), .str (catS (wd "number ") so), .str (catS (wd "number ") sl), .str (catS (wd "number ") so), .str (wd "many 16"), .str (wd "fine")], true)) (some (.str (catS (wd "number ") so), false)) a b c) := by
    show ((evq (kk (L + 1)) noL t.G (.lst (.cons (.cst (.str (wd "field"))) (.cons (.var 7) (.cons (.op2 .add (.cst (.str (wd "number "))) (.op1 .repr (.peek 3))) (.cons (.var 7) (.cons (.cst (.str (wd "many 16"))) (.cons (.cst (.str (wd "fine"))) .nil)))))))).e (eS bad odd low T f (some (.lst [.str (wd "field"), .str (catS (wd "number ") so), .str (catS (wd "number ") sl), .str (catS (wd "number ") so), .str (wd "many 16"), .str (wd "fine")], true)) (some (.str (catS (wd "number ") so), false)) a b c)).bind (fun d s => R.ok (Hd.v d.1) s) = _
    rw [g1]
    rfl
  have g3 : (evq (kk (L + 1)) noL t.G (.op2 .ne (.peek 6) (.lst (.cons (.cst (.str (wd "field"))) (.cons (.var 7) (.cons (.op2 .add (.cst (.str (wd "number "))) (.op1 .repr (.peek 3))) (.cons (.var 7) (.cons (.cst (.str (wd "many 16"))) (.cons (.cst (.str (wd "fine"))) .nil))))))))).e (eS bad odd low T f (some (.lst [.str (wd "field"), .str (catS (wd "number ") so), .str (catS (wd "number ") sl), .str (catS (wd "number ") so), .str (wd "many 16"), .str (wd "fine")], true)) (some (.str (catS (wd "number ") so), false)) a b c) = .ok (.bl false, false) (eS bad odd low T f (some (.lst [.str (wd "field"), .str (catS (wd "number ") so), .str (catS (wd "number ") sl), .str (catS (wd "number ") so), .str (wd "many 16"), .str (wd "fine")], true)) (some (.str (catS (wd "number ") so), false)) a b c) := by
    refine e_op2 (h := .sl 6) (k := .v (.lst [.str (wd "field"), .str (catS (wd "number ") so), .str (catS (wd "number ") sl), .str (catS (wd "number ") so), .str (wd "many 16"), .str (wd "fine")])) (s1 := (eS bad odd low T f (some (.lst [.str (wd "field"), .str (catS (wd "number ") so), .str (catS (wd "number ") sl), .str (catS (wd "number ") so), .str (wd "many 16"), .str (wd "fine")], true)) (some (.str (catS (wd "number ") so), false)) a b c)) rfl g2 ?_
    refine ne_self [wd "field", catS (wd "number ") so, catS (wd "number ") sl, catS (wd "number ") so, wd "many 16", wd "fine"] ?_
    show ((D.okEq 11 (.str (wd "field")) && (D.okEq 11 (.str (catS (wd "number ") so)) && (D.okEq 11 (.str (catS (wd "number ") sl)) && (D.okEq 11 (.str (catS (wd "number ") so)) && (D.okEq 11 (.str (wd "many 16")) && (D.okEq 11 (.str (wd "fine")) && true))))))) = true
    rw [So.ok, Sl.ok]
    decide +kernel
  refine (x_cons ((x_ifs g3).trans ?_)).trans rfl
  rfl
theorem loop2 (L : Nat) (bad odd low f0 f1 : D) (so sl : PySem.Str) (f : Nat) (x6 x7 : Option (D × Bool)) (a b c : Int) (v8 d9 : D) (o9 : Bool) (hf : t.G.fns f = true) (pb : bad.pure PUD = true) (p0 : f0.pure PUD = true) (p1 : f1.pure PUD = true) (So : Shn odd so) (Sl : Shn low sl)
    (h0 : kk (L + 1) f noL [bad, odd] [] = .er (.exc 8 v8) [])
    (h1 : kk (L + 1) f noL [.int 3, odd] [] = .er (.exc 42 odd) [])
    (h2 : kk (L + 1) f noL [.int 5, .int 4] [] = .ok d9 o9 [])
    : (evq (kk (L + 1)) noL t.G (.cons (.asg (.n 6) (.lst (.cons (.calll 169 (.callv 5 (.cons (.var 1) (.cons (.var 2) .nil)))) .nil))) (.cons (.xpr (.mut .append 6 (.cons (.calll 169 (.callv 5 (.cons (.cst (.int 3)) (.cons (.var 2) .nil)))) .nil))) (.cons (.xpr (.mut .append 6 (.cons (.calll 169 (.callv 5 (.cons (.cst (.int 5)) (.cons (.cst (.int 4)) .nil)))) .nil))) (.cons (.ifs (.op2 .ne (.peek 6) (.lst (.cons (.cst (.str (wd "field"))) (.cons (.op2 .add (.cst (.str (wd "number "))) (.op1 .repr (.peek 2))) (.cons (.cst (.str (wd "fine"))) .nil))))) (.cons (.ret (.cst (.bl false))) .nil) .nil) .nil))))).x (eS bad odd low (.tup [f0, f1]) f x6 x7 a b c) = .ok .nx (eS bad odd low (.tup [f0, f1]) f (some (.lst [.str (wd "field"), .str (catS (wd "number ") so), .str (wd "fine")], true)) (x7) a b c) := by
  let T : D := .tup [f0, f1]
  have p0_ : (fsts ([(bad, false), (odd, false)] : List (D × Bool))).all (D.pure PUD) = true := by
    show ((D.pure PUD (bad) && (D.pure PUD (odd) && true))) = true
    simp only [pb, p0, p1, So.hp, Sl.hp, pur_int, Bool.and_true]
  have w0 : (evq (kk (L + 1)) noL t.G (.calll 169 (.callv 5 (.cons (.var 1) (.cons (.var 2) .nil))))).e (eS bad odd low T f x6 x7 a b c) = .ok (.str (wd "field"), false) (eS bad odd low T f x6 x7 a b c) := by
    refine e_calll rfl rfl (word_field L _ _ v8 ?_)
    refine (lam_v (f := f) (xs := [(bad, false), (odd, false)]) rfl rfl hf rfl p0_).trans ?_
    show (match kk (L + 1) f noL [bad, odd] [] with | .ok d o [] => RC.ok d o _ | .er x [] => .er x _ | _ => .no) = _
    rw [h0]
  have p1_ : (fsts ([(.int 3, false), (odd, false)] : List (D × Bool))).all (D.pure PUD) = true := by
    show ((D.pure PUD (.int 3) && (D.pure PUD (odd) && true))) = true
    simp only [pb, p0, p1, So.hp, Sl.hp, pur_int, Bool.and_true]
  have w1 : (evq (kk (L + 1)) noL t.G (.calll 169 (.callv 5 (.cons (.cst (.int 3)) (.cons (.var 2) .nil))))).e (eS bad odd low T f (some (.lst [.str (wd "field")], true)) x7 a b c) = .ok (.str (catS (wd "number ") so), false) (eS bad odd low T f (some (.lst [.str (wd "field")], true)) x7 a b c) := by
    refine e_calll rfl rfl (word_num L _ a b c odd so So.hc So.hdf So.hr So.hz ?_)
    refine (lam_v (f := f) (xs := [(.int 3, false), (odd, false)]) rfl rfl hf rfl p1_).trans ?_
    show (match kk (L + 1) f noL [.int 3, odd] [] with | .ok d o [] => RC.ok d o _ | .er x [] => .er x _ | _ => .no) = _
    rw [h1]
  have p2_ : (fsts ([(.int 5, false), (.int 4, false)] : List (D × Bool))).all (D.pure PUD) = true := by
    show ((D.pure PUD (.int 5) && (D.pure PUD (.int 4) && true))) = true
    simp only [pb, p0, p1, So.hp, Sl.hp, pur_int, Bool.and_true]
  have w2 : (evq (kk (L + 1)) noL t.G (.calll 169 (.callv 5 (.cons (.cst (.int 5)) (.cons (.cst (.int 4)) .nil))))).e (eS bad odd low T f (some (.lst [.str (wd "field"), .str (catS (wd "number ") so)], true)) x7 a b c) = .ok (.str (wd "fine"), false) (eS bad odd low T f (some (.lst [.str (wd "field"), .str (catS (wd "number ") so)], true)) x7 a b c) := by
    refine e_calll rfl rfl (word_fine L _ _ d9 o9 ?_)
    refine (lam_v (f := f) (xs := [(.int 5, false), (.int 4, false)]) rfl rfl hf rfl p2_).trans ?_
    show (match kk (L + 1) f noL [.int 5, .int 4] [] with | .ok d o [] => RC.ok d o _ | .er x [] => .er x _ | _ => .no) = _
    rw [h2]
  refine (x_cons (x_asg (e_lst (xs := [(.str (wd "field"), false)]) (a_cons rfl w0 rfl) rfl) (lt_ rfl))).trans ?_
  refine (x_cons (x_app (s := eS bad odd low T f (some (.lst [.str (wd "field")], true)) x7 a b c) (i := 6) rfl (a_cons rfl w1 rfl) rfl)).trans ?_
  refine (x_cons (x_app (s := eS bad odd low T f (some (.lst [.str (wd "field"), .str (catS (wd "number ") so)], true)) x7 a b c) (i := 6) rfl (a_cons rfl w2 rfl) rfl)).trans ?_
  have r2 : (evq (kk (L + 1)) noL t.G (.op1 .repr (.peek 2))).e (eS bad odd low T f (some (.lst [.str (wd "field"), .str (catS (wd "number ") so), .str (wd "fine")], true)) (x7) a b c) = .ok (.str so, false) (eS bad odd low T f (some (.lst [.str (wd "field"), .str (catS (wd "number ") so), .str (wd "fine")], true)) (x7) a b c) := by
    show liftO ((some ((eS bad odd low T f (some (.lst [.str (wd "field"), .str (catS (wd "number ") so), .str (wd "fine")], true)) (x7) a b c).deref odd)).bind fun d => d.rep.bind fun s => val (.str s)) _ = _
    rw [So.hdf]
    show liftO ((odd).rep.bind fun s => val (.str s)) _ = _
    rw [So.hr]
    rfl
  have n2 : (evq (kk (L + 1)) noL t.G (.op2 .add (.cst (.str (wd "number "))) (.op1 .repr (.peek 2)))).e (eS bad odd low T f (some (.lst [.str (wd "field"), .str (catS (wd "number ") so), .str (wd "fine")], true)) (x7) a b c) = .ok (.str (catS (wd "number ") so), false) (eS bad odd low T f (some (.lst [.str (wd "field"), .str (catS (wd "number ") so), .str (wd "fine")], true)) (x7) a b c) := by
    refine e_op2 (h := .v (.str (wd "number "))) (k := .v (.str so)) (s1 := eS bad odd low T f (some (.lst [.str (wd "field"), .str (catS (wd "number ") so), .str (wd "fine")], true)) (x7) a b c) rfl (hd_op1 r2) ?_
    show (if Nat.ble (7 + so.cps.size) LINE then _ else _) = _
    rw [if_pos So.hz]
  have g1 : (evq (kk (L + 1)) noL t.G (.lst (.cons (.cst (.str (wd "field"))) (.cons (.op2 .add (.cst (.str (wd "number "))) (.op1 .repr (.peek 2))) (.cons (.cst (.str (wd "fine"))) .nil))))).e (eS bad odd low T f (some (.lst [.str (wd "field"), .str (catS (wd "number ") so), .str (wd "fine")], true)) (x7) a b c) = .ok (.lst [.str (wd "field"), .str (catS (wd "number ") so), .str (wd "fine")], true) (eS bad odd low T f (some (.lst [.str (wd "field"), .str (catS (wd "number ") so), .str (wd "fine")], true)) (x7) a b c) := e_lst (xs := [(.str (wd "field"), false), (.str (catS (wd "number ") so), false), (.str (wd "fine"), false)]) (a_cons (s1 := (eS bad odd low T f (some (.lst [.str (wd "field"), .str (catS (wd "number ") so), .str (wd "fine")], true)) (x7) a b c)) rfl rfl (a_cons (s1 := (eS bad odd low T f (some (.lst [.str (wd "field"), .str (catS (wd "number ") so), .str (wd "fine")], true)) (x7) a b c)) rfl n2 (a_cons (s1 := (eS bad odd low T f (some (.lst [.str (wd "field"), .str (catS (wd "number ") so), .str (wd "fine")], true)) (x7) a b c)) rfl rfl rfl))) rfl
  have g2 : (evq (kk (L + 1)) noL t.G (.lst (.cons (.cst (.str (wd "field"))) (.cons (.op2 .add (.cst (.str (wd "number "))) (.op1 .repr (.peek 2))) (.cons (.cst (.str (wd "fine"))) .nil))))).hd (eS bad odd low T f (some (.lst [.str (wd "field"), .str (catS (wd "number ") so), .str (wd "fine")], true)) (x7) a b c) = .ok (.v (.lst [.str (wd "field"), .str (catS (wd "number ") so), .str (wd "fine")])) (eS bad odd low T f (some (.lst [.str (wd "field"), .str (catS (wd "number ") so), .str (wd "fine")], true)) (x7) a b c) := by
    show ((evq (kk (L + 1)) noL t.G (.lst (.cons (.cst (.str (wd "field"))) (.cons (.op2 .add (.cst (.str (wd "number "))) (.op1 .repr (.peek 2))) (.cons (.cst (.str (wd "fine"))) .nil))))).e (eS bad odd low T f (some (.lst [.str (wd "field"), .str (catS (wd "number ") so), .str (wd "fine")], true)) (x7) a b c)).bind (fun d s => R.ok (Hd.v d.1) s) = _
    rw [g1]
    rfl
  have g3 : (evq (kk (L + 1)) noL t.G (.op2 .ne (.peek 6) (.lst (.cons (.cst (.str (wd "field"))) (.cons (.op2 .add (.cst (.str (wd "number "))) (.op1 .repr (.peek 2))) (.cons (.cst (.str (wd "fine"))) .nil)))))).e (eS bad odd low T f (some (.lst [.str (wd "field"), .str (catS (wd "number ") so), .str (wd "fine")], true)) (x7) a b c) = .ok (.bl false, false) (eS bad odd low T f (some (.lst [.str (wd "field"), .str (catS (wd "number ") so), .str (wd "fine")], true)) (x7) a b c) := by
    refine e_op2 (h := .sl 6) (k := .v (.lst [.str (wd "field"), .str (catS (wd "number ") so), .str (wd "fine")])) (s1 := (eS bad odd low T f (some (.lst [.str (wd "field"), .str (catS (wd "number ") so), .str (wd "fine")], true)) (x7) a b c)) rfl g2 ?_
    refine ne_self [wd "field", catS (wd "number ") so, wd "fine"] ?_
    show ((D.okEq 11 (.str (wd "field")) && (D.okEq 11 (.str (catS (wd "number ") so)) && (D.okEq 11 (.str (wd "fine")) && true)))) = true
    rw [So.ok]
    decide +kernel
  refine (x_cons ((x_ifs g3).trans ?_)).trans rfl
  rfl
end
end Mp.k82
end
section
set_option Elab.async false
set_option linter.all false
set_option maxRecDepth 100000
set_option maxHeartbeats 0
namespace Mp.k82
open Mp PySem PyProof.Rows
noncomputable section
def AllD (P : D → Prop) : List D → Prop
  | [] => True
  | d :: r => P d ∧ AllD P r
theorem AllD.mem {P : D → Prop} : ∀ {l : List D}, AllD P l → ∀ d ∈ l, P d
  | [], _, _, h => nomatch h
  | d :: r, ⟨h1, h2⟩, d', hd => by
    rcases List.mem_cons.mp hd with rfl | hd
    · exact h1
    · exact h2.mem d' hd
def Bad : List D := [.non, .int 1, .int 6, .bl true, .str (wd "3"), .tup [.int 2], .int (10 ^ 30), .int (-2)]
def Odd : List D := [.non, .int 0, .int 10, .int (-1), .bl true, .str (wd "2"), .tup [.int 1], .int (10 ^ 50)]
def Low : List D := [.non, .int (-1), .bl true, .str (wd "0"), .tup [], .int ((10 ^ 30) ^ 2)]
abbrev pr (i j : Int) : D := .tup [.int i, .int j]
def Far : List D := [pr 2 5, pr 3 3, pr 4 3, pr 5 2, pr 7 2, pr 8 2, pr 9 2, pr 2 (10 ^ 50)]
abbrev v8 : D := .cls 0
theorem bad167 : AllD (fun bad => AllD (fun odd => ∀ low, kk 23 167 noL [bad, odd, low] [] = .er (.exc 8 v8) []) Odd) Bad := ⟨⟨fun _ => by kernel_rfl, fun _ => by kernel_rfl, fun _ => by kernel_rfl, fun _ => by kernel_rfl, fun _ => by kernel_rfl, fun _ => by kernel_rfl, fun _ => by kernel_rfl, fun _ => by kernel_rfl, trivial⟩, ⟨fun _ => by kernel_rfl, fun _ => by kernel_rfl, fun _ => by kernel_rfl, fun _ => by kernel_rfl, fun _ => by kernel_rfl, fun _ => by kernel_rfl, fun _ => by kernel_rfl, fun _ => by kernel_rfl, trivial⟩, ⟨fun _ => by kernel_rfl, fun _ => by kernel_rfl, fun _ => by kernel_rfl, fun _ => by kernel_rfl, fun _ => by kernel_rfl, fun _ => by kernel_rfl, fun _ => by kernel_rfl, fun _ => by kernel_rfl, trivial⟩, ⟨fun _ => by kernel_rfl, fun _ => by kernel_rfl, fun _ => by kernel_rfl, fun _ => by kernel_rfl, fun _ => by kernel_rfl, fun _ => by kernel_rfl, fun _ => by kernel_rfl, fun _ => by kernel_rfl, trivial⟩, ⟨fun _ => by kernel_rfl, fun _ => by kernel_rfl, fun _ => by kernel_rfl, fun _ => by kernel_rfl, fun _ => by kernel_rfl, fun _ => by kernel_rfl, fun _ => by kernel_rfl, fun _ => by kernel_rfl, trivial⟩, ⟨fun _ => by kernel_rfl, fun _ => by kernel_rfl, fun _ => by kernel_rfl, fun _ => by kernel_rfl, fun _ => by kernel_rfl, fun _ => by kernel_rfl, fun _ => by kernel_rfl, fun _ => by kernel_rfl, trivial⟩, ⟨fun _ => by kernel_rfl, fun _ => by kernel_rfl, fun _ => by kernel_rfl, fun _ => by kernel_rfl, fun _ => by kernel_rfl, fun _ => by kernel_rfl, fun _ => by kernel_rfl, fun _ => by kernel_rfl, trivial⟩, ⟨fun _ => by kernel_rfl, fun _ => by kernel_rfl, fun _ => by kernel_rfl, fun _ => by kernel_rfl, fun _ => by kernel_rfl, fun _ => by kernel_rfl, fun _ => by kernel_rfl, fun _ => by kernel_rfl, trivial⟩, trivial⟩
theorem odd167 : AllD (fun odd => ∀ low, kk 23 167 noL [.int 3, odd, low] [] = .er (.exc 42 odd) []) Odd := ⟨fun _ => by kernel_rfl, fun _ => by kernel_rfl, fun _ => by kernel_rfl, fun _ => by kernel_rfl, fun _ => by kernel_rfl, fun _ => by kernel_rfl, fun _ => by kernel_rfl, fun _ => by kernel_rfl, trivial⟩
theorem low167 : AllD (fun low => kk 23 167 noL [.int 3, .int 2, low] [] = .er (.exc 42 low) []) Low := ⟨by kernel_rfl, by kernel_rfl, by kernel_rfl, by kernel_rfl, by kernel_rfl, by kernel_rfl, trivial⟩
theorem far167 : AllD (fun q => AllD (fun odd => ∀ n, kk 23 167 noL [q, odd, n] [] = .er (.exc 42 odd) []) Odd) [.int 2, .int 3, .int 4, .int 5, .int 7, .int 8, .int 9] := ⟨⟨fun _ => by kernel_rfl, fun _ => by kernel_rfl, fun _ => by kernel_rfl, fun _ => by kernel_rfl, fun _ => by kernel_rfl, fun _ => by kernel_rfl, fun _ => by kernel_rfl, fun _ => by kernel_rfl, trivial⟩, ⟨fun _ => by kernel_rfl, fun _ => by kernel_rfl, fun _ => by kernel_rfl, fun _ => by kernel_rfl, fun _ => by kernel_rfl, fun _ => by kernel_rfl, fun _ => by kernel_rfl, fun _ => by kernel_rfl, trivial⟩, ⟨fun _ => by kernel_rfl, fun _ => by kernel_rfl, fun _ => by kernel_rfl, fun _ => by kernel_rfl, fun _ => by kernel_rfl, fun _ => by kernel_rfl, fun _ => by kernel_rfl, fun _ => by kernel_rfl, trivial⟩, ⟨fun _ => by kernel_rfl, fun _ => by kernel_rfl, fun _ => by kernel_rfl, fun _ => by kernel_rfl, fun _ => by kernel_rfl, fun _ => by kernel_rfl, fun _ => by kernel_rfl, fun _ => by kernel_rfl, trivial⟩, ⟨fun _ => by kernel_rfl, fun _ => by kernel_rfl, fun _ => by kernel_rfl, fun _ => by kernel_rfl, fun _ => by kernel_rfl, fun _ => by kernel_rfl, fun _ => by kernel_rfl, fun _ => by kernel_rfl, trivial⟩, ⟨fun _ => by kernel_rfl, fun _ => by kernel_rfl, fun _ => by kernel_rfl, fun _ => by kernel_rfl, fun _ => by kernel_rfl, fun _ => by kernel_rfl, fun _ => by kernel_rfl, fun _ => by kernel_rfl, trivial⟩, ⟨fun _ => by kernel_rfl, fun _ => by kernel_rfl, fun _ => by kernel_rfl, fun _ => by kernel_rfl, fun _ => by kernel_rfl, fun _ => by kernel_rfl, fun _ => by kernel_rfl, fun _ => by kernel_rfl, trivial⟩, trivial⟩
theorem many167 : AllD (fun p => match p with | .tup [q, n] => kk 23 167 noL [q, .int 1, n] [] = .er (.exc 49 (.int 16)) [] | _ => False) Far := ⟨by kernel_rfl, by kernel_rfl, by kernel_rfl, by kernel_rfl, by kernel_rfl, by kernel_rfl, by kernel_rfl, by kernel_rfl, trivial⟩
theorem bad168 : AllD (fun bad => AllD (fun odd => ∀ low, kk 23 168 noL [bad, odd, low] [] = .er (.exc 8 v8) []) Odd) Bad := ⟨⟨fun _ => by kernel_rfl, fun _ => by kernel_rfl, fun _ => by kernel_rfl, fun _ => by kernel_rfl, fun _ => by kernel_rfl, fun _ => by kernel_rfl, fun _ => by kernel_rfl, fun _ => by kernel_rfl, trivial⟩, ⟨fun _ => by kernel_rfl, fun _ => by kernel_rfl, fun _ => by kernel_rfl, fun _ => by kernel_rfl, fun _ => by kernel_rfl, fun _ => by kernel_rfl, fun _ => by kernel_rfl, fun _ => by kernel_rfl, trivial⟩, ⟨fun _ => by kernel_rfl, fun _ => by kernel_rfl, fun _ => by kernel_rfl, fun _ => by kernel_rfl, fun _ => by kernel_rfl, fun _ => by kernel_rfl, fun _ => by kernel_rfl, fun _ => by kernel_rfl, trivial⟩, ⟨fun _ => by kernel_rfl, fun _ => by kernel_rfl, fun _ => by kernel_rfl, fun _ => by kernel_rfl, fun _ => by kernel_rfl, fun _ => by kernel_rfl, fun _ => by kernel_rfl, fun _ => by kernel_rfl, trivial⟩, ⟨fun _ => by kernel_rfl, fun _ => by kernel_rfl, fun _ => by kernel_rfl, fun _ => by kernel_rfl, fun _ => by kernel_rfl, fun _ => by kernel_rfl, fun _ => by kernel_rfl, fun _ => by kernel_rfl, trivial⟩, ⟨fun _ => by kernel_rfl, fun _ => by kernel_rfl, fun _ => by kernel_rfl, fun _ => by kernel_rfl, fun _ => by kernel_rfl, fun _ => by kernel_rfl, fun _ => by kernel_rfl, fun _ => by kernel_rfl, trivial⟩, ⟨fun _ => by kernel_rfl, fun _ => by kernel_rfl, fun _ => by kernel_rfl, fun _ => by kernel_rfl, fun _ => by kernel_rfl, fun _ => by kernel_rfl, fun _ => by kernel_rfl, fun _ => by kernel_rfl, trivial⟩, ⟨fun _ => by kernel_rfl, fun _ => by kernel_rfl, fun _ => by kernel_rfl, fun _ => by kernel_rfl, fun _ => by kernel_rfl, fun _ => by kernel_rfl, fun _ => by kernel_rfl, fun _ => by kernel_rfl, trivial⟩, trivial⟩
theorem odd168 : AllD (fun odd => ∀ low, kk 23 168 noL [.int 3, odd, low] [] = .er (.exc 42 odd) []) Odd := ⟨fun _ => by kernel_rfl, fun _ => by kernel_rfl, fun _ => by kernel_rfl, fun _ => by kernel_rfl, fun _ => by kernel_rfl, fun _ => by kernel_rfl, fun _ => by kernel_rfl, fun _ => by kernel_rfl, trivial⟩
theorem low168 : AllD (fun low => kk 23 168 noL [.int 3, .int 2, low] [] = .er (.exc 42 low) []) Low := ⟨by kernel_rfl, by kernel_rfl, by kernel_rfl, by kernel_rfl, by kernel_rfl, by kernel_rfl, trivial⟩
theorem far168 : AllD (fun q => AllD (fun odd => ∀ n, kk 23 168 noL [q, odd, n] [] = .er (.exc 42 odd) []) Odd) [.int 2, .int 3, .int 4, .int 5, .int 7, .int 8, .int 9] := ⟨⟨fun _ => by kernel_rfl, fun _ => by kernel_rfl, fun _ => by kernel_rfl, fun _ => by kernel_rfl, fun _ => by kernel_rfl, fun _ => by kernel_rfl, fun _ => by kernel_rfl, fun _ => by kernel_rfl, trivial⟩, ⟨fun _ => by kernel_rfl, fun _ => by kernel_rfl, fun _ => by kernel_rfl, fun _ => by kernel_rfl, fun _ => by kernel_rfl, fun _ => by kernel_rfl, fun _ => by kernel_rfl, fun _ => by kernel_rfl, trivial⟩, ⟨fun _ => by kernel_rfl, fun _ => by kernel_rfl, fun _ => by kernel_rfl, fun _ => by kernel_rfl, fun _ => by kernel_rfl, fun _ => by kernel_rfl, fun _ => by kernel_rfl, fun _ => by kernel_rfl, trivial⟩, ⟨fun _ => by kernel_rfl, fun _ => by kernel_rfl, fun _ => by kernel_rfl, fun _ => by kernel_rfl, fun _ => by kernel_rfl, fun _ => by kernel_rfl, fun _ => by kernel_rfl, fun _ => by kernel_rfl, trivial⟩, ⟨fun _ => by kernel_rfl, fun _ => by kernel_rfl, fun _ => by kernel_rfl, fun _ => by kernel_rfl, fun _ => by kernel_rfl, fun _ => by kernel_rfl, fun _ => by kernel_rfl, fun _ => by kernel_rfl, trivial⟩, ⟨fun _ => by kernel_rfl, fun _ => by kernel_rfl, fun _ => by kernel_rfl, fun _ => by kernel_rfl, fun _ => by kernel_rfl, fun _ => by kernel_rfl, fun _ => by kernel_rfl, fun _ => by kernel_rfl, trivial⟩, ⟨fun _ => by kernel_rfl, fun _ => by kernel_rfl, fun _ => by kernel_rfl, fun _ => by kernel_rfl, fun _ => by kernel_rfl, fun _ => by kernel_rfl, fun _ => by kernel_rfl, fun _ => by kernel_rfl, trivial⟩, trivial⟩
theorem many168 : AllD (fun p => match p with | .tup [q, n] => kk 23 168 noL [q, .int 1, n] [] = .er (.exc 49 (.int 16)) [] | _ => False) Far := ⟨by kernel_rfl, by kernel_rfl, by kernel_rfl, by kernel_rfl, by kernel_rfl, by kernel_rfl, by kernel_rfl, by kernel_rfl, trivial⟩
theorem bad176 : AllD (fun bad => AllD (fun odd => kk 23 176 noL [bad, odd] [] = .er (.exc 8 v8) []) Odd) Bad := ⟨⟨by kernel_rfl, by kernel_rfl, by kernel_rfl, by kernel_rfl, by kernel_rfl, by kernel_rfl, by kernel_rfl, by kernel_rfl, trivial⟩, ⟨by kernel_rfl, by kernel_rfl, by kernel_rfl, by kernel_rfl, by kernel_rfl, by kernel_rfl, by kernel_rfl, by kernel_rfl, trivial⟩, ⟨by kernel_rfl, by kernel_rfl, by kernel_rfl, by kernel_rfl, by kernel_rfl, by kernel_rfl, by kernel_rfl, by kernel_rfl, trivial⟩, ⟨by kernel_rfl, by kernel_rfl, by kernel_rfl, by kernel_rfl, by kernel_rfl, by kernel_rfl, by kernel_rfl, by kernel_rfl, trivial⟩, ⟨by kernel_rfl, by kernel_rfl, by kernel_rfl, by kernel_rfl, by kernel_rfl, by kernel_rfl, by kernel_rfl, by kernel_rfl, trivial⟩, ⟨by kernel_rfl, by kernel_rfl, by kernel_rfl, by kernel_rfl, by kernel_rfl, by kernel_rfl, by kernel_rfl, by kernel_rfl, trivial⟩, ⟨by kernel_rfl, by kernel_rfl, by kernel_rfl, by kernel_rfl, by kernel_rfl, by kernel_rfl, by kernel_rfl, by kernel_rfl, trivial⟩, ⟨by kernel_rfl, by kernel_rfl, by kernel_rfl, by kernel_rfl, by kernel_rfl, by kernel_rfl, by kernel_rfl, by kernel_rfl, trivial⟩, trivial⟩
theorem odd176 : AllD (fun odd => kk 23 176 noL [.int 3, odd] [] = .er (.exc 42 odd) []) Odd := ⟨by kernel_rfl, by kernel_rfl, by kernel_rfl, by kernel_rfl, by kernel_rfl, by kernel_rfl, by kernel_rfl, by kernel_rfl, trivial⟩
theorem bad177 : AllD (fun bad => AllD (fun odd => kk 23 177 noL [bad, odd] [] = .er (.exc 8 v8) []) Odd) Bad := ⟨⟨by kernel_rfl, by kernel_rfl, by kernel_rfl, by kernel_rfl, by kernel_rfl, by kernel_rfl, by kernel_rfl, by kernel_rfl, trivial⟩, ⟨by kernel_rfl, by kernel_rfl, by kernel_rfl, by kernel_rfl, by kernel_rfl, by kernel_rfl, by kernel_rfl, by kernel_rfl, trivial⟩, ⟨by kernel_rfl, by kernel_rfl, by kernel_rfl, by kernel_rfl, by kernel_rfl, by kernel_rfl, by kernel_rfl, by kernel_rfl, trivial⟩, ⟨by kernel_rfl, by kernel_rfl, by kernel_rfl, by kernel_rfl, by kernel_rfl, by kernel_rfl, by kernel_rfl, by kernel_rfl, trivial⟩, ⟨by kernel_rfl, by kernel_rfl, by kernel_rfl, by kernel_rfl, by kernel_rfl, by kernel_rfl, by kernel_rfl, by kernel_rfl, trivial⟩, ⟨by kernel_rfl, by kernel_rfl, by kernel_rfl, by kernel_rfl, by kernel_rfl, by kernel_rfl, by kernel_rfl, by kernel_rfl, trivial⟩, ⟨by kernel_rfl, by kernel_rfl, by kernel_rfl, by kernel_rfl, by kernel_rfl, by kernel_rfl, by kernel_rfl, by kernel_rfl, trivial⟩, ⟨by kernel_rfl, by kernel_rfl, by kernel_rfl, by kernel_rfl, by kernel_rfl, by kernel_rfl, by kernel_rfl, by kernel_rfl, trivial⟩, trivial⟩
theorem odd177 : AllD (fun odd => kk 23 177 noL [.int 3, odd] [] = .er (.exc 42 odd) []) Odd := ⟨by kernel_rfl, by kernel_rfl, by kernel_rfl, by kernel_rfl, by kernel_rfl, by kernel_rfl, by kernel_rfl, by kernel_rfl, trivial⟩
end
end Mp.k82
end
section
set_option Elab.async false
set_option linter.all false
set_option maxRecDepth 100000
set_option maxHeartbeats 0
namespace Mp.k82
open Mp PySem PyProof.Rows
noncomputable section
def isRef : D → Bool | .ref _ => true | _ => false
def shB (v : D) : Bool := !v.isCls && !isRef v && v.pure PUD && (match v.rep with | some sv => Nat.ble (7 + sv.cps.size) LINE && D.okEq 11 (.str (catS (wd "number ") sv)) | none => false)
theorem shn_of {v : D} (h : shB v = true) : ∃ sv, Shn v sv := by
  unfold shB at h
  simp only [Bool.and_eq_true, Bool.not_eq_true'] at h
  obtain ⟨⟨⟨h1, h2⟩, h3⟩, h4⟩ := h
  cases q : v.rep with
  | none => rw [q] at h4; cases h4
  | some sv =>
    rw [q] at h4
    simp only [Bool.and_eq_true] at h4
    refine ⟨sv, h1, fun s => ?_, q, h4.1, h3, h4.2⟩
    cases v <;> first | rfl | (cases h2)
theorem sh_odd : Odd.all shB = true := by decide +kernel
theorem sh_low : Low.all shB = true := by decide +kernel
theorem pu_bad : Bad.all (D.pure PUD) = true := by decide +kernel
def isO1 : RC → Bool | .ok _ _ [] => true | _ => false
theorem isO1_ok {r : RC} (h : isO1 r = true) : ∃ d o, r = .ok d o [] := by
  unfold isO1 at h
  split at h
  · exact ⟨_, _, rfl⟩
  · cases h
theorem fine167 : isO1 (kk 23 167 noL [.int 9, .int 1, .int 1] []) = true := by decide +kernel
theorem fine168 : isO1 (kk 23 168 noL [.int 9, .int 1, .int 1] []) = true := by decide +kernel
theorem fine176 : isO1 (kk 23 176 noL [.int 5, .int 4] []) = true := by decide +kernel
theorem fine177 : isO1 (kk 23 177 noL [.int 5, .int 4] []) = true := by decide +kernel
theorem many177 : AllD (fun m => kk 23 177 noL [.int 2, m] [] = .er (.exc 49 (.int 16)) []) [.int 6, .int 7, .int 8, .int 9] := ⟨by kernel_rfl, by kernel_rfl, by kernel_rfl, by kernel_rfl, trivial⟩
/-- a far pair -/
structure FarOk (p : D) (q n : D) : Prop where
  e : p = .tup [q, n]
  pq : q.pure PUD = true
  pn : n.pure PUD = true
  o167 : ∀ odd ∈ Odd, kk 23 167 noL [q, odd, n] [] = .er (.exc 42 odd) []
  o168 : ∀ odd ∈ Odd, kk 23 168 noL [q, odd, n] [] = .er (.exc 42 odd) []
  m167 : kk 23 167 noL [q, .int 1, n] [] = .er (.exc 49 (.int 16)) []
  m168 : kk 23 168 noL [q, .int 1, n] [] = .er (.exc 49 (.int 16)) []
theorem far_ok (p : D) (hp : p ∈ Far) : ∃ q n, FarOk p q n := by
  have key : ∀ i j : Int, .int i ∈ ([.int 2, .int 3, .int 4, .int 5, .int 7, .int 8, .int 9] : List D) → pr i j ∈ Far → ∃ q n, FarOk (pr i j) q n := fun i j hi hj =>
    ⟨.int i, .int j, rfl, rfl, rfl, fun odd ho => (far167.mem _ hi).mem odd ho _, fun odd ho => (far168.mem _ hi).mem odd ho _, many167.mem _ hj, many168.mem _ hj⟩
  have c : ∃ i j : Int, p = pr i j ∧ D.int i ∈ ([.int 2, .int 3, .int 4, .int 5, .int 7, .int 8, .int 9] : List D) := by
    unfold Far at hp
    simp only [List.mem_cons, List.not_mem_nil, or_false] at hp
    rcases hp with rfl | rfl | rfl | rfl | rfl | rfl | rfl | rfl
    all_goals exact ⟨_, _, rfl, by simp⟩
  obtain ⟨i, j, rfl, hi⟩ := c
  exact key i j hi hp
end
end Mp.k82
end
section
set_option Elab.async false
set_option linter.all false
set_option maxRecDepth 100000
set_option maxHeartbeats 0
namespace Mp.k82
open Mp PySem PyProof.Rows
noncomputable section
section
variable {κ : Nat → (List D → RC) → List D → List D → RC} {Λ : List D → RC} {G : Ev} {s s1 s2 : S} {b hs r : C}
theorem for_two {i : Nat} {it : C} {x y : D} {s0 s1 s1' s2 s2' : S} (hi : (evq κ Λ G it).i s = .ok [x, y] s0) (h1 : setT (.n i) x s0 = some s1) (b1 : (evq κ Λ G b).x s1 = .ok .nx s1') (h2 : setT (.n i) y s1' = some s2) (b2 : (evq κ Λ G b).x s2 = .ok .nx s2') : (evq κ Λ G (.for_ (.n i) it b)).x s = .ok .nx s2' := by
  show ((evq κ Λ G it).i s).bind (fun xs s1 => forLoop (.n i) (evq κ Λ G b).x xs s1) = _
  rw [hi]
  show forLoop (.n i) (evq κ Λ G b).x [x, y] s0 = _
  unfold forLoop
  rw [h1]
  show (match (evq κ Λ G b).x s1 with
      | .ok .nx s2 => forLoop (.n i) (evq κ Λ G b).x [y] s2
      | .ok .ct s2 => forLoop (.n i) (evq κ Λ G b).x [y] s2
      | .ok .bk s2 => .ok .nx s2
      | .ok (.rt d o) s2 => .ok (.rt d o) s2
      | .er x s2 => .er x s2
      | .no => .no) = _
  rw [b1]
  show forLoop (.n i) (evq κ Λ G b).x [y] s1' = _
  unfold forLoop
  rw [h2]
  show (match (evq κ Λ G b).x s2 with
      | .ok .nx s2 => forLoop (.n i) (evq κ Λ G b).x [] s2
      | .ok .ct s2 => forLoop (.n i) (evq κ Λ G b).x [] s2
      | .ok .bk s2 => .ok .nx s2
      | .ok (.rt d o) s2 => .ok (.rt d o) s2
      | .er x s2 => .er x s2
      | .no => .no) = _
  rw [b2]
  rfl
end
def mBad : C := (.cons (.lst (.cons (.cst .non) (.cons (.cst (.int 1)) (.cons (.cst (.int 6)) (.cons (.cst (.bl true)) (.cons (.cst (.str "3")) (.cons (.tup (.cons (.cst (.int 2)) .nil)) (.cons (.op2 .pow (.cst (.int 10)) (.cst (.int 30))) (.cons (.op1 .neg (.cst (.int 2))) .nil))))))))) .nil)
theorem mBad_ok (s : S) : (evq (kk 23) noL t.G mBad).a s = .ok [(.lst Bad, true)] s := by kernel_rfl
def mOdd : C := (.cons (.lst (.cons (.cst .non) (.cons (.cst (.int 0)) (.cons (.cst (.int 10)) (.cons (.op1 .neg (.cst (.int 1))) (.cons (.cst (.bl true)) (.cons (.cst (.str "2")) (.cons (.tup (.cons (.cst (.int 1)) .nil)) (.cons (.op2 .pow (.cst (.int 10)) (.cst (.int 50))) .nil))))))))) .nil)
theorem mOdd_ok (s : S) : (evq (kk 23) noL t.G mOdd).a s = .ok [(.lst Odd, true)] s := by kernel_rfl
def mLow : C := (.cons (.lst (.cons (.cst .non) (.cons (.op1 .neg (.cst (.int 1))) (.cons (.cst (.bl true)) (.cons (.cst (.str "0")) (.cons (.tup .nil) (.cons (.op2 .pow (.op2 .pow (.cst (.int 10)) (.cst (.int 30))) (.cst (.int 2))) .nil))))))) .nil)
theorem mLow_ok (s : S) : (evq (kk 23) noL t.G mLow).a s = .ok [(.lst Low, true)] s := by kernel_rfl
def mFar : C := (.cons (.lst (.cons (.tup (.cons (.cst (.int 2)) (.cons (.cst (.int 5)) .nil))) (.cons (.tup (.cons (.cst (.int 3)) (.cons (.cst (.int 3)) .nil))) (.cons (.tup (.cons (.cst (.int 4)) (.cons (.cst (.int 3)) .nil))) (.cons (.tup (.cons (.cst (.int 5)) (.cons (.cst (.int 2)) .nil))) (.cons (.tup (.cons (.cst (.int 7)) (.cons (.cst (.int 2)) .nil))) (.cons (.tup (.cons (.cst (.int 8)) (.cons (.cst (.int 2)) .nil))) (.cons (.tup (.cons (.cst (.int 9)) (.cons (.cst (.int 2)) .nil))) (.cons (.tup (.cons (.cst (.int 2)) (.cons (.op2 .pow (.cst (.int 10)) (.cst (.int 50))) .nil))) .nil))))))))) .nil)
theorem mFar_ok (s : S) : (evq (kk 23) noL t.G mFar).a s = .ok [(.lst Far, true)] s := by kernel_rfl
abbrev e0 (x1 x2 x3 x4 : Option (D × Bool)) (a b c : Int) : S := ⟨[some (.ref 0, false), x1, x2, x3, x4, none, none, none], [dice a b c]⟩
theorem many_st (a b c a' b' c' : Int) (l : List D → RC) (h : l [dice a b c] = .er (.exc 49 (.int 16)) [dice a' b' c']) : kk 23 169 l [.clo 0 []] [dice a b c] = .ok (.str (wd "many 16")) false [dice a' b' c'] := by
  show runS t.F t.G (kk 22) 169 l [.clo 0 []] [dice a b c] = _
  have e : t.F 169 = some c__law_error_word := by rfl
  unfold runS
  rw [e]
  show ends 1 ((evq (kk 22) l t.G c__law_error_word.body).x (ws0 [dice a b c])) = _
  have e0 : (evq (kk 22) l t.G (.calla 0)).e (ws0 [dice a b c]) = .er (.exc 49 (.int 16)) ⟨[none, none], [dice a' b' c']⟩ := by
    show callCl (ws0 _) (l [dice a b c]) = _
    rw [h]
    rfl
  have x : (evq (kk 22) l t.G c__law_error_word.body).x (ws0 [dice a b c]) = .ok (.rt (.str (wd "many 16")) false) ⟨[none, none], [dice a' b' c']⟩ := by
    refine x_ret ((x_try (x_xpr_er e0)).trans ?_)
    kernel_rfl
  rw [x]
  rfl
theorem last_ok (s : S) (a b c : Int) (h0 : s.get 0 = some (.ref 0, false)) (hst : s.st = [dice a b c]) : ∃ a' b' c' : Int, (evq (kk 23) noL t.G (.op2 .eq (.calll 169 (.call 177 (.cons (.cst (.int 2)) (.cons (.op2 .add (.cst (.int 6)) (.callr 58 0 0 (.cons (.cst (.int 4)) .nil))) .nil)))) (.cst (.str "many 16")))).e s = .ok (.bl true, false) ⟨s.ρ, [dice a' b' c']⟩ := by
  obtain ⟨r, a', b', c', g0, g1, e⟩ := roll 22 a b c 4 (by decide) (by decide)
  refine ⟨a', b', c', ?_⟩
  let s0 : S := ⟨vals s.ρ, [dice a b c]⟩
  let s1 : S := ⟨vals s.ρ, [dice a' b' c']⟩
  have hv : s0.get 0 = some (.ref 0, false) := by
    show (match (vals s.ρ)[0]? with | some o => o | none => none) = _
    unfold S.get at h0
    unfold vals
    rw [List.getElem?_map]
    cases q : s.ρ[0]? with
    | none => rw [q] at h0; cases h0
    | some o =>
      rw [q] at h0
      have h0 : o = some (.ref 0, false) := h0
      subst h0
      rfl
  have k1 : (evq (kk 23) noL t.G (.callr 58 0 0 (.cons (.cst (.int 4)) .nil))).e s0 = .ok (.int r, false) s1 := e_callr (xs := [(.int 4, false)]) hv rfl e
  have k2 : (evq (kk 23) noL t.G (.op2 .add (.cst (.int 6)) (.callr 58 0 0 (.cons (.cst (.int 4)) .nil)))).e s0 = .ok (.int (6 + r), false) s1 := e_op2 (h := .v (.int 6)) (k := .v (.int r)) (s1 := s0) rfl (hd_callr k1) rfl
  have k3 : (evq (kk 23) noL t.G (.cons (.cst (.int 2)) (.cons (.op2 .add (.cst (.int 6)) (.callr 58 0 0 (.cons (.cst (.int 4)) .nil))) .nil))).a s0 = .ok [(.int 2, false), (.int (6 + r), false)] s1 := a_cons rfl rfl (a_cons rfl k2 rfl)
  have mm : kk 23 177 noL [.int 2, .int (6 + r)] [] = .er (.exc 49 (.int 16)) [] := by
    have hr : r = 0 ∨ r = 1 ∨ r = 2 ∨ r = 3 := by omega
    refine many177.mem (.int (6 + r)) ?_
    rcases hr with rfl | rfl | rfl | rfl <;> simp
  have k4 : (evq (kk 23) noL t.G (.call 177 (.cons (.cst (.int 2)) (.cons (.op2 .add (.cst (.int 6)) (.callr 58 0 0 (.cons (.cst (.int 4)) .nil))) .nil)))).e s0 = .er (.exc 49 (.int 16)) s1 := by
    show ((evq (kk 23) noL t.G (.cons (.cst (.int 2)) (.cons (.op2 .add (.cst (.int 6)) (.callr 58 0 0 (.cons (.cst (.int 4)) .nil))) .nil))).a s0).bind (fun xs s1 => callP (kk 23 177 noL) (fsts xs) s1) = _
    rw [k3]
    show liftP s1 (kk 23 177 noL [.int 2, .int (6 + r)] []) = _
    rw [mm]
    rfl
  have k5 : lamR (evq (kk 23) noL t.G (.call 177 (.cons (.cst (.int 2)) (.cons (.op2 .add (.cst (.int 6)) (.callr 58 0 0 (.cons (.cst (.int 4)) .nil))) .nil)))).e s.ρ [dice a b c] = .er (.exc 49 (.int 16)) [dice a' b' c'] := by
    show (match (evq (kk 23) noL t.G (.call 177 (.cons (.cst (.int 2)) (.cons (.op2 .add (.cst (.int 6)) (.callr 58 0 0 (.cons (.cst (.int 4)) .nil))) .nil)))).e s0 with
      | .ok r s => if s.st.length = 1 then RC.ok r.1 r.2 s.st else .no
      | .er x s => if s.st.length = 1 then .er x s.st else .no
      | .no => .no) = _
    rw [k4]
    rfl
  have k6 := many_st a b c a' b' c' _ k5
  have k7 : (evq (kk 23) noL t.G (.calll 169 (.call 177 (.cons (.cst (.int 2)) (.cons (.op2 .add (.cst (.int 6)) (.callr 58 0 0 (.cons (.cst (.int 4)) .nil))) .nil))))).e s = .ok (.str (wd "many 16"), false) ⟨s.ρ, [dice a' b' c']⟩ := by
    show liftC s (lamC (kk 23 169 (lamR (evq (kk 23) noL t.G (.call 177 (.cons (.cst (.int 2)) (.cons (.op2 .add (.cst (.int 6)) (.callr 58 0 0 (.cons (.cst (.int 4)) .nil))) .nil)))).e s.ρ) [.clo 0 []] s.st)) = _
    rw [hst, k6]
    rfl
  have k8 : (evq (kk 23) noL t.G (.calll 169 (.call 177 (.cons (.cst (.int 2)) (.cons (.op2 .add (.cst (.int 6)) (.callr 58 0 0 (.cons (.cst (.int 4)) .nil))) .nil))))).hd s = .ok (.v (.str (wd "many 16"))) ⟨s.ρ, [dice a' b' c']⟩ := by
    show ((evq (kk 23) noL t.G (.calll 169 (.call 177 (.cons (.cst (.int 2)) (.cons (.op2 .add (.cst (.int 6)) (.callr 58 0 0 (.cons (.cst (.int 4)) .nil))) .nil))))).e s).bind (fun d s => R.ok (Hd.v d.1) s) = _
    rw [k7]
    rfl
  refine e_op2 (h := .v (.str (wd "many 16"))) (k := .v (.str (wd "many 16"))) (s1 := ⟨s.ρ, [dice a' b' c']⟩) k8 rfl ?_
  kernel_rfl
theorem errors_ok (a b c : Int) : ∃ a' b' c' : Int, kk 24 183 noL [.ref 0] [dice a b c] = .ok (.bl true) false [dice a' b' c'] := by
  obtain ⟨bad, hbad, a1, b1, c1, q1⟩ := one_of 21 a b c Bad (by decide) (by decide)
  obtain ⟨odd, hodd, a2, b2, c2, q2⟩ := one_of 21 a1 b1 c1 Odd (by decide) (by decide)
  obtain ⟨low, hlow, a3, b3, c3, q3⟩ := one_of 21 a2 b2 c2 Low (by decide) (by decide)
  obtain ⟨far, hfar, a4, b4, c4, q4⟩ := one_of 21 a3 b3 c3 Far (by decide) (by decide)
  obtain ⟨f0, f1, FO⟩ := far_ok far hfar
  have ef := FO.e
  subst ef
  obtain ⟨so, So⟩ := shn_of (List.all_eq_true.mp sh_odd _ hodd)
  obtain ⟨sl, Sl⟩ := shn_of (List.all_eq_true.mp sh_low _ hlow)
  have pb := List.all_eq_true.mp pu_bad _ hbad
  obtain ⟨d7, o7, n7⟩ := isO1_ok fine167
  obtain ⟨d8, o8, n8⟩ := isO1_ok fine168
  obtain ⟨d6, o6, n6⟩ := isO1_ok fine176
  obtain ⟨d5, o5, n5⟩ := isO1_ok fine177
  let far : D := .tup [f0, f1]
  have L1 := loop1 22 bad odd low f0 f1 so sl 167 none none a4 b4 c4 v8 d7 o7 rfl pb FO.pq FO.pn So Sl ((bad167.mem _ hbad).mem _ hodd _) (odd167.mem _ hodd _) (low167.mem _ hlow) (FO.o167 _ hodd) FO.m167 n7
  have L2 := fun x6 x7 => loop1 22 bad odd low f0 f1 so sl 168 x6 x7 a4 b4 c4 v8 d8 o8 rfl pb FO.pq FO.pn So Sl ((bad168.mem _ hbad).mem _ hodd _) (odd168.mem _ hodd _) (low168.mem _ hlow) (FO.o168 _ hodd) FO.m168 n8
  have L3 := fun x6 x7 => loop2 22 bad odd low f0 f1 so sl 176 x6 x7 a4 b4 c4 v8 d6 o6 rfl pb FO.pq FO.pn So Sl ((bad176.mem _ hbad).mem _ hodd) (odd176.mem _ hodd) n6
  have L4 := fun x6 x7 => loop2 22 bad odd low f0 f1 so sl 177 x6 x7 a4 b4 c4 v8 d5 o5 rfl pb FO.pq FO.pn So Sl ((bad177.mem _ hbad).mem _ hodd) (odd177.mem _ hodd) n5
  have key : ∃ a' b' c' : Int, ∃ s' : S, s'.st = [dice a' b' c'] ∧ (evq (kk 23) noL t.G c__law_errors_right.body).x (e0 none none none none a b c) = .ok (.rt (.bl true) false) s' := by
    let v (d : D) : Option (D × Bool) := some (d, false)
    let sE : S := eS bad odd low far 177 (some (.lst [.str (wd "field"), .str (catS (wd "number ") so), .str (wd "fine")], true)) (some (.str (catS (wd "number ") so), false)) a4 b4 c4
    obtain ⟨a', b', c', hl⟩ := last_ok sE a4 b4 c4 rfl rfl
    refine ⟨a', b', c', ⟨sE.ρ, [dice a' b' c']⟩, rfl, ?_⟩
    refine (x_cons (x_asg (s1 := e0 none none none none a1 b1 c1) (e_callr (xs := [(.lst Bad, true)]) rfl (mBad_ok _) q1) (lt_ rfl))).trans ?_
    refine (x_cons (x_asg (s1 := e0 (v bad) none none none a2 b2 c2) (e_callr (xs := [(.lst Odd, true)]) rfl (mOdd_ok _) q2) (lt_ rfl))).trans ?_
    refine (x_cons (x_asg (s1 := e0 (v bad) (v odd) none none a3 b3 c3) (e_callr (xs := [(.lst Low, true)]) rfl (mLow_ok _) q3) (lt_ rfl))).trans ?_
    refine (x_cons (x_asg (s1 := e0 (v bad) (v odd) (v low) none a4 b4 c4) (e_callr (xs := [(.lst Far, true)]) rfl (mFar_ok _) q4) (lt_ rfl))).trans ?_
    refine (x_cons (for_two (x := .fn 167) (y := .fn 168) (s0 := e0 (v bad) (v odd) (v low) (v far) a4 b4 c4) rfl rfl L1 rfl (L2 _ _))).trans ?_
    refine (x_cons (for_two (x := .fn 176) (y := .fn 177) (s0 := eS bad odd low far 168 _ _ a4 b4 c4) rfl rfl (L3 _ _) rfl (L4 _ _))).trans ?_
    exact x_ret (x_retv hl)
  obtain ⟨a', b', c', s', h1, h2⟩ := key
  refine ⟨a', b', c', ?_⟩
  show runS t.F t.G (kk 23) 183 noL [.ref 0] [dice a b c] = _
  have e : t.F 183 = some c__law_errors_right := by rfl
  unfold runS
  rw [e]
  show ends 1 ((evq (kk 23) noL t.G c__law_errors_right.body).x (e0 none none none none a b c)) = _
  rw [h2]
  show (if s'.st.length = 1 then RC.ok (.bl true) false s'.st else .no) = _
  rw [h1]
  rfl
end
end Mp.k82
end
section
set_option Elab.async false
set_option linter.all false
set_option maxRecDepth 100000
set_option maxHeartbeats 0
namespace Mp.k82
open Mp PySem PyProof.Rows
noncomputable section
def bQ : C := (.cons (.asg (.t [5, 6]) (.call 155 (.cons (.var 0) (.cons (.var 1) (.cons (.op2 .sub (.peek 2) (.peek 4)) .nil))))) (.cons (.asg (.n 7) (.call 13 (.cons (.var 0) (.cons (.call 30 (.cons (.var 0) (.cons (.var 4) .nil))) (.cons (.call 14 (.cons (.var 0) (.cons (.var 6) (.cons (.var 4) .nil)))) .nil))))) (.cons (.for_ (.t [8, 9]) (.items (.var 5)) (.cons (.asg (.n 10) (.call 29 (.cons (.var 0) (.cons (.call 14 (.cons (.var 0) (.cons (.var 9) (.cons (.var 4) .nil)))) (.cons (.var 7) .nil))))) (.cons (.asg (.n 11) (.op2 .mul (.peek 8) (.call 23 (.cons (.var 0) (.cons (.var 4) .nil))))) (.cons (.seti 3 (.var 11) (.call 97 (.cons (.var 0) (.cons (.meth3 .get2 (.peek 3) (.peek 11) (.glob 156)) (.cons (.var 10) .nil))))) .nil)))) .nil)))
abbrev q0 : S := ⟨[vi 2, vi 1, vi 3, some (.dic [], true), none, none, none, none, none, none, none, none, none], []⟩
abbrev q1 : S := ⟨[some ((.int 2), false), some ((.int 1), false), some ((.int 3), false), some ((.dic [((.int 1), (.tup [(.tup []), (.tup [(.int 1)])])), ((.int 2), (.tup [(.tup []), (.tup [(.int 1)])])), ((.int 4), (.tup [(.tup []), (.tup [(.int 1)])])), ((.int 8), (.tup [(.tup [(.int 1)]), (.tup [(.int 0), (.int 0), (.int 0), (.int 1), (.int 1), (.int 0), (.int 1), (.int 1), (.int 0), (.int 0), (.int 1), (.int 1), (.int 0), (.int 1), (.int 1)])]))]), true), some ((.int 0), false), some ((.dic [((.int 1), (.tup [])), ((.int 2), (.tup [])), ((.int 4), (.tup [])), ((.int 8), (.tup [(.int 1)]))]), false), some ((.tup [(.int 0), (.int 0), (.int 0), (.int 1), (.int 1), (.int 0), (.int 1), (.int 1), (.int 0), (.int 0), (.int 1), (.int 1), (.int 0), (.int 1), (.int 1)]), false), some ((.tup [(.int 0), (.int 0), (.int 0), (.int 1), (.int 1), (.int 0), (.int 1), (.int 1), (.int 0), (.int 0), (.int 1), (.int 1), (.int 0), (.int 1), (.int 1)]), false), some ((.int 8), false), some ((.tup [(.int 1)]), false), some ((.tup [(.tup [(.int 1)]), (.tup [(.int 0), (.int 0), (.int 0), (.int 1), (.int 1), (.int 0), (.int 1), (.int 1), (.int 0), (.int 0), (.int 1), (.int 1), (.int 0), (.int 1), (.int 1)])]), false), some ((.int 8), false), none], []⟩
abbrev q2 : S := ⟨[some ((.int 2), false), some ((.int 1), false), some ((.int 3), false), some ((.dic [((.int 1), (.tup [(.tup []), (.tup [(.int 1)])])), ((.int 2), (.tup [(.tup []), (.tup [(.int 1)])])), ((.int 4), (.tup [(.tup []), (.tup [(.int 1)])])), ((.int 8), (.tup [(.tup [(.int 1), (.int 1), (.int 0), (.int 0), (.int 1)]), (.tup [(.int 0), (.int 0), (.int 0), (.int 0), (.int 0), (.int 1), (.int 0), (.int 1), (.int 0), (.int 0), (.int 0), (.int 1), (.int 1), (.int 1), (.int 1), (.int 0), (.int 0), (.int 0), (.int 1), (.int 0), (.int 1)])]))]), true), some ((.int 1), false), some ((.dic [((.int 1), (.tup [])), ((.int 2), (.tup [])), ((.int 4), (.tup [(.int 1)]))]), false), some ((.tup [(.int 0), (.int 0), (.int 1), (.int 1), (.int 0), (.int 1), (.int 1)]), false), some ((.tup [(.int 0), (.int 0), (.int 0), (.int 0), (.int 0), (.int 1), (.int 1), (.int 1), (.int 1), (.int 0), (.int 0), (.int 1), (.int 1), (.int 1), (.int 1)]), false), some ((.int 4), false), some ((.tup [(.int 1)]), false), some ((.tup [(.tup [(.int 1)]), (.tup [(.int 0), (.int 0), (.int 0), (.int 0), (.int 0), (.int 1), (.int 1), (.int 1), (.int 1), (.int 0), (.int 0), (.int 1), (.int 1), (.int 1), (.int 1)])]), false), some ((.int 8), false), none], []⟩
abbrev q3 : S := ⟨[some ((.int 2), false), some ((.int 1), false), some ((.int 3), false), some ((.dic [((.int 1), (.tup [(.tup []), (.tup [(.int 1)])])), ((.int 2), (.tup [(.tup []), (.tup [(.int 1)])])), ((.int 4), (.tup [(.tup []), (.tup [(.int 1)])])), ((.int 8), (.tup [(.tup [(.int 1)]), (.tup [(.int 0), (.int 0), (.int 0), (.int 0), (.int 0), (.int 0), (.int 0), (.int 1), (.int 0), (.int 0), (.int 0), (.int 1), (.int 0), (.int 1), (.int 1), (.int 0), (.int 0), (.int 1), (.int 1), (.int 0), (.int 1), (.int 0), (.int 0), (.int 0), (.int 1)])]))]), true), some ((.int 2), false), some ((.dic [((.int 1), (.tup [])), ((.int 2), (.tup [(.int 1)]))]), false), some ((.tup [(.int 0), (.int 1), (.int 1)]), false), some ((.tup [(.int 0), (.int 0), (.int 0), (.int 0), (.int 0), (.int 0), (.int 0), (.int 1), (.int 0), (.int 1), (.int 1), (.int 1), (.int 1), (.int 1), (.int 1), (.int 0), (.int 1)]), false), some ((.int 2), false), some ((.tup [(.int 1)]), false), some ((.tup [(.tup [(.int 1)]), (.tup [(.int 0), (.int 0), (.int 0), (.int 0), (.int 0), (.int 0), (.int 0), (.int 1), (.int 0), (.int 1), (.int 1), (.int 1), (.int 1), (.int 1), (.int 1), (.int 0), (.int 1)])]), false), some ((.int 8), false), none], []⟩
abbrev q4 : S := ⟨[some ((.int 2), false), some ((.int 1), false), some ((.int 3), false), some ((.dic [((.int 1), (.tup [(.tup []), (.tup [(.int 1)])])), ((.int 2), (.tup [(.tup []), (.tup [(.int 1)])])), ((.int 4), (.tup [(.tup []), (.tup [(.int 1)])])), ((.int 8), (.tup [(.tup []), (.tup [(.int 1)])]))]), true), some ((.int 3), false), some ((.dic [((.int 1), (.tup [(.int 1)]))]), false), some ((.tup [(.int 1)]), false), some ((.tup [(.int 0), (.int 0), (.int 0), (.int 0), (.int 0), (.int 0), (.int 0), (.int 1), (.int 0), (.int 0), (.int 0), (.int 1), (.int 0), (.int 1), (.int 1), (.int 0), (.int 0), (.int 1), (.int 1), (.int 0), (.int 1), (.int 0), (.int 0), (.int 0), (.int 1)]), false), some ((.int 1), false), some ((.tup [(.int 1)]), false), some ((.tup [(.tup [(.int 1)]), (.tup [(.int 0), (.int 0), (.int 0), (.int 0), (.int 0), (.int 0), (.int 0), (.int 1), (.int 0), (.int 0), (.int 0), (.int 1), (.int 0), (.int 1), (.int 1), (.int 0), (.int 0), (.int 1), (.int 1), (.int 0), (.int 1), (.int 0), (.int 0), (.int 0), (.int 1)])]), false), some ((.int 8), false), none], []⟩
theorem gq0 : (evq (kk 20) noL t.G bQ).x (q0.put 4 (.int 0) false) = .ok .nx q1 := by kernel_rfl
theorem gq1 : (evq (kk 20) noL t.G bQ).x (q1.put 4 (.int 1) false) = .ok .nx q2 := by kernel_rfl
theorem gq2 : (evq (kk 20) noL t.G bQ).x (q2.put 4 (.int 2) false) = .ok .nx q3 := by kernel_rfl
theorem gq3 : (evq (kk 20) noL t.G bQ).x (q3.put 4 (.int 3) false) = .ok .nx q4 := by kernel_rfl
end
end Mp.k82
end
section
set_option Elab.async false
set_option linter.all false
set_option maxRecDepth 100000
set_option maxHeartbeats 0
namespace Mp.k82
open Mp PySem PyProof.Rows
noncomputable section
theorem runq_succ {F : Nat → Option Fn} {G : Ev} {n f : Nat} {l : List D → RC} {ds st : List D} : runq F G (n + 1) f l ds st = runS F G (runq F G n) f l ds st := rfl
theorem run_fn {F : Nat → Option Fn} {G : Ev} {n f : Nat} {c : Fn} {ds st : List D} {d : D} {o : Bool} {s0 s' : S} (hf : F f = some c) (hc : (decide (ds.length = c.np) && Nat.ble c.np c.ns) = true) (h0 : S.mk (ds.map (fun d => some (d, false)) ++ List.replicate (c.ns - c.np) none) st = s0) (x : (evq (runq F G n) noL G c.body).x s0 = .ok (.rt d o) s') (hs : s'.st.length = st.length) :
    runq F G (n + 1) f noL ds st = .ok d o s'.st := by
  rw [runq_succ]
  unfold runS
  rw [hf]
  dsimp only
  rw [if_pos hc, h0, x]
  show (if s'.st.length = st.length then RC.ok d o s'.st else .no) = _
  rw [if_pos hs]
theorem for_step {t : Tg} {body : S → R Fl} {x : D} {xs : List D} {s s1 s2 : S} (h1 : setT t x s = some s1) (h2 : body s1 = .ok .nx s2) : forLoop t body (x :: xs) s = forLoop t body xs s2 := by
  have e : forLoop t body (x :: xs) s = (match setT t x s with
    | none => .no
    | some s1 => match body s1 with
      | .ok .nx s2 => forLoop t body xs s2
      | .ok .ct s2 => forLoop t body xs s2
      | .ok .bk s2 => .ok .nx s2
      | .ok (.rt d o) s2 => .ok (.rt d o) s2
      | .er x s2 => .er x s2
      | .no => .no) := rfl
  rw [e, h1]
  dsimp only
  rw [h2]
theorem x_for {κ : Nat → (List D → RC) → List D → List D → RC} {Λ : List D → RC} {G : Ev} {s s1 s2 : S} {it b : C} {t : Tg} {xs : List D} (hi : (evq κ Λ G it).i s = .ok xs s1) (hf : forLoop t (evq κ Λ G b).x xs s1 = .ok .nx s2) : (evq κ Λ G (.for_ t it b)).x s = .ok .nx s2 := by
  show ((evq κ Λ G it).i s).bind (fun xs s1 => forLoop t (evq κ Λ G b).x xs s1) = _
  rw [hi]
  exact hf
theorem gq_it : (evq (kk 20) noL t.G (.rng1 (.op2 .add (.peek 2) (.cst (.int 1))))).i q0 = .ok [.int 0, .int 1, .int 2, .int 3] q0 := by kernel_rfl
theorem gq_s0 : setT (.n 4) (.int 0) q0 = some (q0.put 4 (.int 0) false) := by kernel_rfl
theorem gq_s1 : setT (.n 4) (.int 1) q1 = some (q1.put 4 (.int 1) false) := by kernel_rfl
theorem gq_s2 : setT (.n 4) (.int 2) q2 = some (q2.put 4 (.int 2) false) := by kernel_rfl
theorem gq_s3 : setT (.n 4) (.int 3) q3 = some (q3.put 4 (.int 3) false) := by kernel_rfl
theorem gq_nil {t : Tg} {body : S → R Fl} {s : S} : forLoop t body [] s = .ok .nx s := rfl
theorem gq_for : forLoop (.n 4) (evq (kk 20) noL t.G bQ).x [.int 0, .int 1, .int 2, .int 3] q0 = .ok .nx q4 := by
  rw [for_step gq_s0 gq0, for_step gq_s1 gq1, for_step gq_s2 gq2, for_step gq_s3 gq3, gq_nil]
def aQ0 : C := (.asg (.n 3) (.dsp .nil .nil false))
def aQ1 : C := (.for_ (.n 4) (.rng1 (.op2 .add (.peek 2) (.cst (.int 1)))) bQ)
def aQ2 : C := (.cons (.ret (.dcomp [8, 12] (.t [8, 12]) (.items (.var 3)) (.op2 .ne (.peek 12) (.glob 156)) (.var 8) (.var 12) false)) .nil)
theorem aQ_eq : c_stopping_quotients.body = .cons aQ0 (.cons aQ1 aQ2) := by rfl
abbrev qs : S := ⟨[vi 2, vi 1, vi 3, none, none, none, none, none, none, none, none, none, none], []⟩
theorem aQ0_ok : (evq (kk 20) noL t.G aQ0).x qs = .ok .nx q0 := by kernel_rfl
abbrev q5 : S := ⟨q4.ρ.set 3 (match q4.get 3 with | some (d, _) => some (d, false) | none => none), []⟩
theorem aQ2_ok : (evq (kk 20) noL t.G aQ2).x q4 = .ok (.rt (.dic []) true) q5 := by kernel_rfl
theorem fn_157 : t.F 157 = some c_stopping_quotients := by rfl
theorem quot_x : (evq (kk 20) noL t.G c_stopping_quotients.body).x qs = .ok (.rt (.dic []) true) q5 := by
  have h1 : (evq (kk 20) noL t.G aQ1).x q0 = .ok .nx q4 := x_for gq_it gq_for
  rw [aQ_eq, x_cons aQ0_ok, x_cons h1, aQ2_ok]
theorem quot_23 : kk 21 157 noL [.int 2, .int 1, .int 3] [] = .ok (.dic []) true [] := run_fn fn_157 (by decide) (by rfl) quot_x (by rfl)
abbrev ps : S := ⟨[vi 2, vi 1, vi 3, none, none], []⟩
abbrev ps1 : S := ⟨[vi 2, vi 1, vi 3, some (.dic [], true), none], []⟩
def cQ : C := (.call 157 (.cons (.var 0) (.cons (.var 1) (.cons (.var 2) .nil))))
def aP : C := (.cons (.ret (.op1 .tuple (.comp [4] (.n 4) (.rng1 (.op2 .add (.op2 .maxD (.peek 3) (.op1 .neg (.cst (.int 1)))) (.cst (.int 1)))) .nil (.op2 .idx (.meth3 .get2 (.peek 3) (.peek 4) (.glob 156)) (.cst (.int 0)))))) .nil)
theorem aP_eq : c_stopping_part_in.body = .cons (.asg (.n 3) cQ) aP := by rfl
theorem aP_ok : (evq (kk 21) noL t.G aP).x ps1 = .ok (.rt (.tup []) false) ps1 := by kernel_rfl
theorem args_ps : (evq (kk 21) noL t.G (.cons (.var 0) (.cons (.var 1) (.cons (.var 2) .nil)))).a ps = .ok [(.int 2, false), (.int 1, false), (.int 3, false)] ps := by kernel_rfl
theorem e_callX {κ : Nat → (List D → RC) → List D → List D → RC} {Λ : List D → RC} {G : Ev} {s s1 : S} {f : Nat} {as : C} {xs : List (D × Bool)} {d : D} {o : Bool} (ha : (evq κ Λ G as).a s = .ok xs s1) (hp : (fsts xs).all (D.pure PUD) = true) (hk : κ f noL (fsts xs) [] = .ok d o []) : (evq κ Λ G (.call f as)).e s = .ok (d, o) s1 := by
  show ((evq κ Λ G as).a s).bind (fun xs s1 => callP (κ f noL) (fsts xs) s1) = _
  rw [ha]
  show callP (κ f noL) (fsts xs) s1 = _
  unfold callP
  rw [if_pos hp, hk]
  rfl
theorem lt3 : 3 < ps.ρ.length := by decide
theorem fn_165 : t.F 165 = some c_stopping_part_in := by rfl
theorem fn_168 : t.F 168 = some c_stopping_part := by rfl
theorem part_in_x : (evq (kk 21) noL t.G c_stopping_part_in.body).x ps = .ok (.rt (.tup []) false) ps1 := by
  have h1 : (evq (kk 21) noL t.G cQ).e ps = .ok (.dic [], true) ps := e_callX args_ps (by rfl) quot_23
  rw [aP_eq, x_cons (x_asg h1 lt3)]
  exact aP_ok
theorem part_in_23 : kk 22 165 noL [.int 2, .int 1, .int 3] [] = .ok (.tup []) false [] := run_fn fn_165 (by decide) (by rfl) part_in_x (by rfl)
abbrev us : S := ⟨[vi 2, vi 1, vi 3], []⟩
def aU0 : C := (.xpr (.call 162 (.cons (.var 0) (.cons (.var 1) .nil))))
def aU1 : C := (.xpr (.call 163 (.cons (.var 0) (.cons (.var 2) .nil))))
def cU : C := (.call 165 (.cons (.var 0) (.cons (.var 1) (.cons (.var 2) .nil))))
theorem aU_eq : c_stopping_part.body = .cons aU0 (.cons aU1 (.cons (.ret cU) .nil)) := by rfl
theorem aU0_ok : (evq (kk 22) noL t.G aU0).x us = .ok .nx us := by kernel_rfl
theorem aU1_ok : (evq (kk 22) noL t.G aU1).x us = .ok .nx us := by kernel_rfl
theorem args_us : (evq (kk 22) noL t.G (.cons (.var 0) (.cons (.var 1) (.cons (.var 2) .nil)))).a us = .ok [(.int 2, false), (.int 1, false), (.int 3, false)] us := by kernel_rfl
theorem part_x : (evq (kk 22) noL t.G c_stopping_part.body).x us = .ok (.rt (.tup []) false) us := by
  rw [aU_eq, x_cons aU0_ok, x_cons aU1_ok]
  exact x_ret (x_retv (e_callX args_us (by rfl) part_in_23))
theorem part_23 : kk 23 168 noL [.int 2, .int 1, .int 3] [] = .ok (.tup []) false [] := run_fn fn_168 (by decide) (by rfl) part_x (by rfl)
end
end Mp.k82
end
section
set_option Elab.async false
set_option linter.all false
set_option maxRecDepth 100000
set_option maxHeartbeats 0
namespace Mp.k82
open Mp PySem PyProof.Rows
noncomputable section
abbrev eE (x1 x2 x3 : Option (D × Bool)) (a b c : Int) : S := ⟨[some (.ref 0, false), x1, x2, x3], [dice a b c]⟩
def Prs : List D := [pr 2 1, pr 2 2, pr 2 3, pr 3 1, pr 3 2, pr 4 1, pr 5 1, pr 7 1, pr 8 1, pr 9 1]
def mPrs : C := (.cons (.lst (.cons (.tup (.cons (.cst (.int 2)) (.cons (.cst (.int 1)) .nil))) (.cons (.tup (.cons (.cst (.int 2)) (.cons (.cst (.int 2)) .nil))) (.cons (.tup (.cons (.cst (.int 2)) (.cons (.cst (.int 3)) .nil))) (.cons (.tup (.cons (.cst (.int 3)) (.cons (.cst (.int 1)) .nil))) (.cons (.tup (.cons (.cst (.int 3)) (.cons (.cst (.int 2)) .nil))) (.cons (.tup (.cons (.cst (.int 4)) (.cons (.cst (.int 1)) .nil))) (.cons (.tup (.cons (.cst (.int 5)) (.cons (.cst (.int 1)) .nil))) (.cons (.tup (.cons (.cst (.int 7)) (.cons (.cst (.int 1)) .nil))) (.cons (.tup (.cons (.cst (.int 8)) (.cons (.cst (.int 1)) .nil))) (.cons (.tup (.cons (.cst (.int 9)) (.cons (.cst (.int 1)) .nil))) .nil))))))))))) .nil)
theorem mPrs_ok (s : S) : (evq (kk 23) noL t.G mPrs).a s = .ok [(.lst Prs, true)] s := by kernel_rfl
def s1E : C := (.ifs (.or (.op2 .ne (.call 168 (.cons (.var 1) (.cons (.cst (.int 1)) (.cons (.var 2) .nil)))) (.tup .nil)) (.or (.op2 .ne (.call 177 (.cons (.var 1) (.cons (.cst (.int 1)) .nil))) (.tup (.cons (.tup (.cons (.tup .nil) (.cons (.tup (.cons (.cst (.int 1)) .nil)) .nil))) .nil))) (.op2 .ne (.call 176 (.cons (.var 1) (.cons (.cst (.int 1)) .nil))) (.cst (.int 0))))) (.cons (.ret (.cst (.bl false))) .nil) .nil)
def s3E : C := (.ifs (.or (.op2 .ne (.call 177 (.cons (.var 1) (.cons (.var 3) .nil))) (.tup (.cons (.op2 .add (.op2 .mul (.tup (.cons (.tup .nil) .nil)) (.peek 3)) (.tup (.cons (.tup (.cons (.cst (.int 1)) .nil)) .nil))) .nil))) (.op2 .ne (.call 168 (.cons (.var 1) (.cons (.var 3) (.cons (.cst (.int 0)) .nil)))) (.op2 .add (.op2 .mul (.tup (.cons (.tup .nil) .nil)) (.peek 3)) (.tup (.cons (.tup (.cons (.cst (.int 1)) .nil)) .nil))))) (.cons (.ret (.cst (.bl false))) .nil) .nil)
def e5E : C := (.and (.op2 .eq (.call 176 (.cons (.var 1) (.cons (.var 3) .nil))) (.op2 .fdiv (.op2 .sub (.peek 3) (.cst (.int 1))) (.op2 .sub (.peek 1) (.cst (.int 1))))) (.or (.op2 .gt (.peek 2) (.cst (.int 1))) (.or (.op2 .gt (.peek 3) (.cst (.int 3))) (.or (.op2 .ge (.peek 3) (.peek 1)) (.op2 .eq (.call 168 (.cons (.var 1) (.cons (.var 3) (.cons (.cst (.int 1)) .nil)))) (.tup .nil))))))
def kE : C := (.op2 .min2 (.op2 .sub (.peek 1) (.cst (.int 1))) (.cst (.int 3)))
structure EndOk (q n k : Int) : Prop where
  k0 : 0 < k
  k1 : k < 1073741824
  hk : ∀ a b c : Int, (evq (kk 23) noL t.G kE).e (eE (vi q) (vi n) none a b c) = .ok (.int k, false) (eE (vi q) (vi n) none a b c)
  h1 : ∀ a b c : Int, (evq (kk 23) noL t.G s1E).x (eE (vi q) (vi n) none a b c) = .ok .nx (eE (vi q) (vi n) none a b c)
  h3 : ∀ r : Int, 0 ≤ r → r < k → ∀ a b c : Int, (evq (kk 23) noL t.G s3E).x (eE (vi q) (vi n) (vi (1 + r)) a b c) = .ok .nx (eE (vi q) (vi n) (vi (1 + r)) a b c)
  h5 : ∀ r : Int, 0 ≤ r → r < 9 → ∀ a b c : Int, (evq (kk 23) noL t.G e5E).e (eE (vi q) (vi n) (vi (1 + r)) a b c) = .ok (.bl true, false) (eE (vi q) (vi n) (vi (1 + r)) a b c)
theorem ends_pair (q n k : Int) (E : EndOk q n k) (a b c : Int) : ∃ a' b' c' : Int, ∃ s' : S, s'.st = [dice a' b' c'] ∧ (evq (kk 23) noL t.G (.cons (.ifs (.or (.op2 .ne (.call 168 (.cons (.var 1) (.cons (.cst (.int 1)) (.cons (.var 2) .nil)))) (.tup .nil)) (.or (.op2 .ne (.call 177 (.cons (.var 1) (.cons (.cst (.int 1)) .nil))) (.tup (.cons (.tup (.cons (.tup .nil) (.cons (.tup (.cons (.cst (.int 1)) .nil)) .nil))) .nil))) (.op2 .ne (.call 176 (.cons (.var 1) (.cons (.cst (.int 1)) .nil))) (.cst (.int 0))))) (.cons (.ret (.cst (.bl false))) .nil) .nil) (.cons (.asg (.n 3) (.op2 .add (.cst (.int 1)) (.callr 58 0 0 (.cons (.op2 .min2 (.op2 .sub (.peek 1) (.cst (.int 1))) (.cst (.int 3))) .nil)))) (.cons (.ifs (.or (.op2 .ne (.call 177 (.cons (.var 1) (.cons (.var 3) .nil))) (.tup (.cons (.op2 .add (.op2 .mul (.tup (.cons (.tup .nil) .nil)) (.peek 3)) (.tup (.cons (.tup (.cons (.cst (.int 1)) .nil)) .nil))) .nil))) (.op2 .ne (.call 168 (.cons (.var 1) (.cons (.var 3) (.cons (.cst (.int 0)) .nil)))) (.op2 .add (.op2 .mul (.tup (.cons (.tup .nil) .nil)) (.peek 3)) (.tup (.cons (.tup (.cons (.cst (.int 1)) .nil)) .nil))))) (.cons (.ret (.cst (.bl false))) .nil) .nil) (.cons (.asg (.n 3) (.op2 .add (.cst (.int 1)) (.callr 58 0 0 (.cons (.cst (.int 9)) .nil)))) (.cons (.ret (.and (.op2 .eq (.call 176 (.cons (.var 1) (.cons (.var 3) .nil))) (.op2 .fdiv (.op2 .sub (.peek 3) (.cst (.int 1))) (.op2 .sub (.peek 1) (.cst (.int 1))))) (.or (.op2 .gt (.peek 2) (.cst (.int 1))) (.or (.op2 .gt (.peek 3) (.cst (.int 3))) (.or (.op2 .ge (.peek 3) (.peek 1)) (.op2 .eq (.call 168 (.cons (.var 1) (.cons (.var 3) (.cons (.cst (.int 1)) .nil)))) (.tup .nil))))))) .nil)))))).x (eE (vi q) (vi n) none a b c) = .ok (.rt (.bl true) false) s' := by
  obtain ⟨r, a1, b1, c1, g0, g1, e1⟩ := roll 22 a b c k E.k0 E.k1
  obtain ⟨u, a2, b2, c2, i0, i1, e2⟩ := roll 22 a1 b1 c1 9 (by decide) (by decide)
  have k1 : (evq (kk 23) noL t.G (.callr 58 0 0 (.cons (.op2 .min2 (.op2 .sub (.peek 1) (.cst (.int 1))) (.cst (.int 3))) .nil))).e (eE (vi q) (vi n) none a b c) = .ok (.int r, false) (eE (vi q) (vi n) none a1 b1 c1) :=
    e_callr (xs := [(.int k, false)]) rfl (a_cons rfl (E.hk a b c) rfl) e1
  have k2 : (evq (kk 23) noL t.G (.op2 .add (.cst (.int 1)) (.callr 58 0 0 (.cons (.op2 .min2 (.op2 .sub (.peek 1) (.cst (.int 1))) (.cst (.int 3))) .nil)))).e (eE (vi q) (vi n) none a b c) = .ok (.int (1 + r), false) (eE (vi q) (vi n) none a1 b1 c1) :=
    e_op2 (h := .v (.int 1)) (k := .v (.int r)) (s1 := eE (vi q) (vi n) none a b c) rfl (hd_callr k1) rfl
  have k3 : (evq (kk 23) noL t.G (.callr 58 0 0 (.cons (.cst (.int 9)) .nil))).e (eE (vi q) (vi n) (vi (1 + r)) a1 b1 c1) = .ok (.int u, false) (eE (vi q) (vi n) (vi (1 + r)) a2 b2 c2) :=
    e_callr (xs := [(.int 9, false)]) rfl rfl e2
  have k4 : (evq (kk 23) noL t.G (.op2 .add (.cst (.int 1)) (.callr 58 0 0 (.cons (.cst (.int 9)) .nil)))).e (eE (vi q) (vi n) (vi (1 + r)) a1 b1 c1) = .ok (.int (1 + u), false) (eE (vi q) (vi n) (vi (1 + r)) a2 b2 c2) :=
    e_op2 (h := .v (.int 1)) (k := .v (.int u)) (s1 := eE (vi q) (vi n) (vi (1 + r)) a1 b1 c1) rfl (hd_callr k3) rfl
  refine ⟨a2, b2, c2, eE (vi q) (vi n) (vi (1 + u)) a2 b2 c2, rfl, ?_⟩
  refine (x_cons (E.h1 a b c)).trans ?_
  refine (x_cons (x_asg k2 (lt_ rfl))).trans ?_
  refine (x_cons (E.h3 r g0 g1 a1 b1 c1)).trans ?_
  refine (x_cons (x_asg k4 (lt_ rfl))).trans ?_
  exact x_ret (x_retv (E.h5 u i0 i1 a2 b2 c2))
theorem h3_2_1 (n a b c : Int) : (evq (kk 23) noL t.G s3E).x (eE (vi 2) (vi n) (vi 1) a b c) = .ok .nx (eE (vi 2) (vi n) (vi 1) a b c) := by kernel_rfl
theorem h3_3_1 (n a b c : Int) : (evq (kk 23) noL t.G s3E).x (eE (vi 3) (vi n) (vi 1) a b c) = .ok .nx (eE (vi 3) (vi n) (vi 1) a b c) := by kernel_rfl
theorem h3_3_2 (n a b c : Int) : (evq (kk 23) noL t.G s3E).x (eE (vi 3) (vi n) (vi 2) a b c) = .ok .nx (eE (vi 3) (vi n) (vi 2) a b c) := by kernel_rfl
theorem h3_4_1 (n a b c : Int) : (evq (kk 23) noL t.G s3E).x (eE (vi 4) (vi n) (vi 1) a b c) = .ok .nx (eE (vi 4) (vi n) (vi 1) a b c) := by kernel_rfl
theorem h3_4_2 (n a b c : Int) : (evq (kk 23) noL t.G s3E).x (eE (vi 4) (vi n) (vi 2) a b c) = .ok .nx (eE (vi 4) (vi n) (vi 2) a b c) := by kernel_rfl
theorem h3_4_3 (n a b c : Int) : (evq (kk 23) noL t.G s3E).x (eE (vi 4) (vi n) (vi 3) a b c) = .ok .nx (eE (vi 4) (vi n) (vi 3) a b c) := by kernel_rfl
theorem h3_5_1 (n a b c : Int) : (evq (kk 23) noL t.G s3E).x (eE (vi 5) (vi n) (vi 1) a b c) = .ok .nx (eE (vi 5) (vi n) (vi 1) a b c) := by kernel_rfl
theorem h3_5_2 (n a b c : Int) : (evq (kk 23) noL t.G s3E).x (eE (vi 5) (vi n) (vi 2) a b c) = .ok .nx (eE (vi 5) (vi n) (vi 2) a b c) := by kernel_rfl
theorem h3_5_3 (n a b c : Int) : (evq (kk 23) noL t.G s3E).x (eE (vi 5) (vi n) (vi 3) a b c) = .ok .nx (eE (vi 5) (vi n) (vi 3) a b c) := by kernel_rfl
theorem h3_7_1 (n a b c : Int) : (evq (kk 23) noL t.G s3E).x (eE (vi 7) (vi n) (vi 1) a b c) = .ok .nx (eE (vi 7) (vi n) (vi 1) a b c) := by kernel_rfl
theorem h3_7_2 (n a b c : Int) : (evq (kk 23) noL t.G s3E).x (eE (vi 7) (vi n) (vi 2) a b c) = .ok .nx (eE (vi 7) (vi n) (vi 2) a b c) := by kernel_rfl
theorem h3_7_3 (n a b c : Int) : (evq (kk 23) noL t.G s3E).x (eE (vi 7) (vi n) (vi 3) a b c) = .ok .nx (eE (vi 7) (vi n) (vi 3) a b c) := by kernel_rfl
theorem h3_8_1 (n a b c : Int) : (evq (kk 23) noL t.G s3E).x (eE (vi 8) (vi n) (vi 1) a b c) = .ok .nx (eE (vi 8) (vi n) (vi 1) a b c) := by kernel_rfl
theorem h3_8_2 (n a b c : Int) : (evq (kk 23) noL t.G s3E).x (eE (vi 8) (vi n) (vi 2) a b c) = .ok .nx (eE (vi 8) (vi n) (vi 2) a b c) := by kernel_rfl
theorem h3_8_3 (n a b c : Int) : (evq (kk 23) noL t.G s3E).x (eE (vi 8) (vi n) (vi 3) a b c) = .ok .nx (eE (vi 8) (vi n) (vi 3) a b c) := by kernel_rfl
theorem h3_9_1 (n a b c : Int) : (evq (kk 23) noL t.G s3E).x (eE (vi 9) (vi n) (vi 1) a b c) = .ok .nx (eE (vi 9) (vi n) (vi 1) a b c) := by kernel_rfl
theorem h3_9_2 (n a b c : Int) : (evq (kk 23) noL t.G s3E).x (eE (vi 9) (vi n) (vi 2) a b c) = .ok .nx (eE (vi 9) (vi n) (vi 2) a b c) := by kernel_rfl
theorem h3_9_3 (n a b c : Int) : (evq (kk 23) noL t.G s3E).x (eE (vi 9) (vi n) (vi 3) a b c) = .ok .nx (eE (vi 9) (vi n) (vi 3) a b c) := by kernel_rfl
theorem h1_2_1 (a b c : Int) : (evq (kk 23) noL t.G s1E).x (eE (vi 2) (vi 1) none a b c) = .ok .nx (eE (vi 2) (vi 1) none a b c) := by kernel_rfl
theorem h5_2_1_1 (a b c : Int) : (evq (kk 23) noL t.G e5E).e (eE (vi 2) (vi 1) (vi 1) a b c) = .ok (.bl true, false) (eE (vi 2) (vi 1) (vi 1) a b c) := by kernel_rfl
theorem h5_2_1_2 (a b c : Int) : (evq (kk 23) noL t.G e5E).e (eE (vi 2) (vi 1) (vi 2) a b c) = .ok (.bl true, false) (eE (vi 2) (vi 1) (vi 2) a b c) := by kernel_rfl
theorem h5_2_1_3 (a b c : Int) : (evq (kk 23) noL t.G e5E).e (eE (vi 2) (vi 1) (vi 3) a b c) = .ok (.bl true, false) (eE (vi 2) (vi 1) (vi 3) a b c) := by kernel_rfl
theorem h5_2_1_4 (a b c : Int) : (evq (kk 23) noL t.G e5E).e (eE (vi 2) (vi 1) (vi 4) a b c) = .ok (.bl true, false) (eE (vi 2) (vi 1) (vi 4) a b c) := by kernel_rfl
theorem h5_2_1_5 (a b c : Int) : (evq (kk 23) noL t.G e5E).e (eE (vi 2) (vi 1) (vi 5) a b c) = .ok (.bl true, false) (eE (vi 2) (vi 1) (vi 5) a b c) := by kernel_rfl
theorem h5_2_1_6 (a b c : Int) : (evq (kk 23) noL t.G e5E).e (eE (vi 2) (vi 1) (vi 6) a b c) = .ok (.bl true, false) (eE (vi 2) (vi 1) (vi 6) a b c) := by kernel_rfl
theorem h5_2_1_7 (a b c : Int) : (evq (kk 23) noL t.G e5E).e (eE (vi 2) (vi 1) (vi 7) a b c) = .ok (.bl true, false) (eE (vi 2) (vi 1) (vi 7) a b c) := by kernel_rfl
theorem h5_2_1_8 (a b c : Int) : (evq (kk 23) noL t.G e5E).e (eE (vi 2) (vi 1) (vi 8) a b c) = .ok (.bl true, false) (eE (vi 2) (vi 1) (vi 8) a b c) := by kernel_rfl
theorem h5_2_1_9 (a b c : Int) : (evq (kk 23) noL t.G e5E).e (eE (vi 2) (vi 1) (vi 9) a b c) = .ok (.bl true, false) (eE (vi 2) (vi 1) (vi 9) a b c) := by kernel_rfl
theorem h1_2_2 (a b c : Int) : (evq (kk 23) noL t.G s1E).x (eE (vi 2) (vi 2) none a b c) = .ok .nx (eE (vi 2) (vi 2) none a b c) := by kernel_rfl
theorem h5_2_2_1 (a b c : Int) : (evq (kk 23) noL t.G e5E).e (eE (vi 2) (vi 2) (vi 1) a b c) = .ok (.bl true, false) (eE (vi 2) (vi 2) (vi 1) a b c) := by kernel_rfl
theorem h5_2_2_2 (a b c : Int) : (evq (kk 23) noL t.G e5E).e (eE (vi 2) (vi 2) (vi 2) a b c) = .ok (.bl true, false) (eE (vi 2) (vi 2) (vi 2) a b c) := by kernel_rfl
theorem h5_2_2_3 (a b c : Int) : (evq (kk 23) noL t.G e5E).e (eE (vi 2) (vi 2) (vi 3) a b c) = .ok (.bl true, false) (eE (vi 2) (vi 2) (vi 3) a b c) := by kernel_rfl
theorem h5_2_2_4 (a b c : Int) : (evq (kk 23) noL t.G e5E).e (eE (vi 2) (vi 2) (vi 4) a b c) = .ok (.bl true, false) (eE (vi 2) (vi 2) (vi 4) a b c) := by kernel_rfl
theorem h5_2_2_5 (a b c : Int) : (evq (kk 23) noL t.G e5E).e (eE (vi 2) (vi 2) (vi 5) a b c) = .ok (.bl true, false) (eE (vi 2) (vi 2) (vi 5) a b c) := by kernel_rfl
theorem h5_2_2_6 (a b c : Int) : (evq (kk 23) noL t.G e5E).e (eE (vi 2) (vi 2) (vi 6) a b c) = .ok (.bl true, false) (eE (vi 2) (vi 2) (vi 6) a b c) := by kernel_rfl
theorem h5_2_2_7 (a b c : Int) : (evq (kk 23) noL t.G e5E).e (eE (vi 2) (vi 2) (vi 7) a b c) = .ok (.bl true, false) (eE (vi 2) (vi 2) (vi 7) a b c) := by kernel_rfl
theorem h5_2_2_8 (a b c : Int) : (evq (kk 23) noL t.G e5E).e (eE (vi 2) (vi 2) (vi 8) a b c) = .ok (.bl true, false) (eE (vi 2) (vi 2) (vi 8) a b c) := by kernel_rfl
theorem h5_2_2_9 (a b c : Int) : (evq (kk 23) noL t.G e5E).e (eE (vi 2) (vi 2) (vi 9) a b c) = .ok (.bl true, false) (eE (vi 2) (vi 2) (vi 9) a b c) := by kernel_rfl
theorem h1_2_3r (a b c : Int) : (evq (kk 23) noL t.G (.or (.op2 .ne (.call 177 (.cons (.var 1) (.cons (.cst (.int 1)) .nil))) (.tup (.cons (.tup (.cons (.tup .nil) (.cons (.tup (.cons (.cst (.int 1)) .nil)) .nil))) .nil))) (.op2 .ne (.call 176 (.cons (.var 1) (.cons (.cst (.int 1)) .nil))) (.cst (.int 0))))).e (eE (vi 2) (vi 3) none a b c) = .ok (.bl false, false) (eE (vi 2) (vi 3) none a b c) := by kernel_rfl
theorem h1_2_3a (a b c : Int) : (evq (kk 23) noL t.G (.cons (.var 1) (.cons (.cst (.int 1)) (.cons (.var 2) .nil)))).a (eE (vi 2) (vi 3) none a b c) = .ok [(.int 2, false), (.int 1, false), (.int 3, false)] (eE (vi 2) (vi 3) none a b c) := by kernel_rfl
theorem hd_call_v {κ : Nat → (List D → RC) → List D → List D → RC} {Λ : List D → RC} {G : Ev} {s s1 : S} {f : Nat} {as : C} {d : D × Bool} (h : (evq κ Λ G (.call f as)).e s = .ok d s1) : (evq κ Λ G (.call f as)).hd s = .ok (.v d.1) s1 := by
  show ((evq κ Λ G (.call f as)).e s).bind _ = _
  rw [h]
  rfl
theorem e_or_f {κ : Nat → (List D → RC) → List D → List D → RC} {Λ : List D → RC} {G : Ev} {s s1 s2 : S} {x y : C} {o : Bool} {d : D × Bool} (h : (evq κ Λ G x).e s = .ok (.bl false, o) s1) (h2 : (evq κ Λ G y).e s1 = .ok d s2) : (evq κ Λ G (.or x y)).e s = .ok (d.1, false) s2 := by
  show ((evq κ Λ G x).e s).bind _ = _
  rw [h]
  show ((evq κ Λ G y).e s1).bind _ = _
  rw [h2]
  rfl
theorem h1_2_3k {s : S} : (evq (kk 23) noL t.G (.tup .nil)).hd s = .ok (.v (.tup [])) s := by kernel_rfl
theorem h1_2_3n {s : S} : res2 (.v (.tup [])) (.v (.tup [])) s (ap2q .ne) = some (.bl false, false) := by kernel_rfl
theorem h1_2_3w {s : S} : (evq (kk 23) noL t.G .nil).x s = .ok .nx s := rfl
theorem h1_2_3 (a b c : Int) : (evq (kk 23) noL t.G s1E).x (eE (vi 2) (vi 3) none a b c) = .ok .nx (eE (vi 2) (vi 3) none a b c) := by
  have k1 : (evq (kk 23) noL t.G (.call 168 (.cons (.var 1) (.cons (.cst (.int 1)) (.cons (.var 2) .nil))))).e (eE (vi 2) (vi 3) none a b c) = .ok (.tup [], false) (eE (vi 2) (vi 3) none a b c) := e_callX (h1_2_3a a b c) (by rfl) part_23
  have k2 : (evq (kk 23) noL t.G (.op2 .ne (.call 168 (.cons (.var 1) (.cons (.cst (.int 1)) (.cons (.var 2) .nil)))) (.tup .nil))).e (eE (vi 2) (vi 3) none a b c) = .ok (.bl false, false) (eE (vi 2) (vi 3) none a b c) := e_op2 (hd_call_v k1) h1_2_3k h1_2_3n
  have k3 := e_or_f k2 (h1_2_3r a b c)
  exact (x_ifs (a := (.cons (.ret (.cst (.bl false))) .nil)) (b := .nil) k3).trans h1_2_3w
theorem h5_2_3_1 (a b c : Int) : (evq (kk 23) noL t.G e5E).e (eE (vi 2) (vi 3) (vi 1) a b c) = .ok (.bl true, false) (eE (vi 2) (vi 3) (vi 1) a b c) := by kernel_rfl
theorem h5_2_3_2 (a b c : Int) : (evq (kk 23) noL t.G e5E).e (eE (vi 2) (vi 3) (vi 2) a b c) = .ok (.bl true, false) (eE (vi 2) (vi 3) (vi 2) a b c) := by kernel_rfl
theorem h5_2_3_3 (a b c : Int) : (evq (kk 23) noL t.G e5E).e (eE (vi 2) (vi 3) (vi 3) a b c) = .ok (.bl true, false) (eE (vi 2) (vi 3) (vi 3) a b c) := by kernel_rfl
theorem h5_2_3_4 (a b c : Int) : (evq (kk 23) noL t.G e5E).e (eE (vi 2) (vi 3) (vi 4) a b c) = .ok (.bl true, false) (eE (vi 2) (vi 3) (vi 4) a b c) := by kernel_rfl
theorem h5_2_3_5 (a b c : Int) : (evq (kk 23) noL t.G e5E).e (eE (vi 2) (vi 3) (vi 5) a b c) = .ok (.bl true, false) (eE (vi 2) (vi 3) (vi 5) a b c) := by kernel_rfl
theorem h5_2_3_6 (a b c : Int) : (evq (kk 23) noL t.G e5E).e (eE (vi 2) (vi 3) (vi 6) a b c) = .ok (.bl true, false) (eE (vi 2) (vi 3) (vi 6) a b c) := by kernel_rfl
theorem h5_2_3_7 (a b c : Int) : (evq (kk 23) noL t.G e5E).e (eE (vi 2) (vi 3) (vi 7) a b c) = .ok (.bl true, false) (eE (vi 2) (vi 3) (vi 7) a b c) := by kernel_rfl
theorem h5_2_3_8 (a b c : Int) : (evq (kk 23) noL t.G e5E).e (eE (vi 2) (vi 3) (vi 8) a b c) = .ok (.bl true, false) (eE (vi 2) (vi 3) (vi 8) a b c) := by kernel_rfl
theorem h5_2_3_9 (a b c : Int) : (evq (kk 23) noL t.G e5E).e (eE (vi 2) (vi 3) (vi 9) a b c) = .ok (.bl true, false) (eE (vi 2) (vi 3) (vi 9) a b c) := by kernel_rfl
theorem h1_3_1 (a b c : Int) : (evq (kk 23) noL t.G s1E).x (eE (vi 3) (vi 1) none a b c) = .ok .nx (eE (vi 3) (vi 1) none a b c) := by kernel_rfl
theorem h5_3_1_1 (a b c : Int) : (evq (kk 23) noL t.G e5E).e (eE (vi 3) (vi 1) (vi 1) a b c) = .ok (.bl true, false) (eE (vi 3) (vi 1) (vi 1) a b c) := by kernel_rfl
theorem h5_3_1_2 (a b c : Int) : (evq (kk 23) noL t.G e5E).e (eE (vi 3) (vi 1) (vi 2) a b c) = .ok (.bl true, false) (eE (vi 3) (vi 1) (vi 2) a b c) := by kernel_rfl
theorem h5_3_1_3 (a b c : Int) : (evq (kk 23) noL t.G e5E).e (eE (vi 3) (vi 1) (vi 3) a b c) = .ok (.bl true, false) (eE (vi 3) (vi 1) (vi 3) a b c) := by kernel_rfl
theorem h5_3_1_4 (a b c : Int) : (evq (kk 23) noL t.G e5E).e (eE (vi 3) (vi 1) (vi 4) a b c) = .ok (.bl true, false) (eE (vi 3) (vi 1) (vi 4) a b c) := by kernel_rfl
theorem h5_3_1_5 (a b c : Int) : (evq (kk 23) noL t.G e5E).e (eE (vi 3) (vi 1) (vi 5) a b c) = .ok (.bl true, false) (eE (vi 3) (vi 1) (vi 5) a b c) := by kernel_rfl
theorem h5_3_1_6 (a b c : Int) : (evq (kk 23) noL t.G e5E).e (eE (vi 3) (vi 1) (vi 6) a b c) = .ok (.bl true, false) (eE (vi 3) (vi 1) (vi 6) a b c) := by kernel_rfl
theorem h5_3_1_7 (a b c : Int) : (evq (kk 23) noL t.G e5E).e (eE (vi 3) (vi 1) (vi 7) a b c) = .ok (.bl true, false) (eE (vi 3) (vi 1) (vi 7) a b c) := by kernel_rfl
theorem h5_3_1_8 (a b c : Int) : (evq (kk 23) noL t.G e5E).e (eE (vi 3) (vi 1) (vi 8) a b c) = .ok (.bl true, false) (eE (vi 3) (vi 1) (vi 8) a b c) := by kernel_rfl
theorem h5_3_1_9 (a b c : Int) : (evq (kk 23) noL t.G e5E).e (eE (vi 3) (vi 1) (vi 9) a b c) = .ok (.bl true, false) (eE (vi 3) (vi 1) (vi 9) a b c) := by kernel_rfl
theorem h1_3_2 (a b c : Int) : (evq (kk 23) noL t.G s1E).x (eE (vi 3) (vi 2) none a b c) = .ok .nx (eE (vi 3) (vi 2) none a b c) := by kernel_rfl
theorem h5_3_2_1 (a b c : Int) : (evq (kk 23) noL t.G e5E).e (eE (vi 3) (vi 2) (vi 1) a b c) = .ok (.bl true, false) (eE (vi 3) (vi 2) (vi 1) a b c) := by kernel_rfl
theorem h5_3_2_2 (a b c : Int) : (evq (kk 23) noL t.G e5E).e (eE (vi 3) (vi 2) (vi 2) a b c) = .ok (.bl true, false) (eE (vi 3) (vi 2) (vi 2) a b c) := by kernel_rfl
theorem h5_3_2_3 (a b c : Int) : (evq (kk 23) noL t.G e5E).e (eE (vi 3) (vi 2) (vi 3) a b c) = .ok (.bl true, false) (eE (vi 3) (vi 2) (vi 3) a b c) := by kernel_rfl
theorem h5_3_2_4 (a b c : Int) : (evq (kk 23) noL t.G e5E).e (eE (vi 3) (vi 2) (vi 4) a b c) = .ok (.bl true, false) (eE (vi 3) (vi 2) (vi 4) a b c) := by kernel_rfl
theorem h5_3_2_5 (a b c : Int) : (evq (kk 23) noL t.G e5E).e (eE (vi 3) (vi 2) (vi 5) a b c) = .ok (.bl true, false) (eE (vi 3) (vi 2) (vi 5) a b c) := by kernel_rfl
theorem h5_3_2_6 (a b c : Int) : (evq (kk 23) noL t.G e5E).e (eE (vi 3) (vi 2) (vi 6) a b c) = .ok (.bl true, false) (eE (vi 3) (vi 2) (vi 6) a b c) := by kernel_rfl
theorem h5_3_2_7 (a b c : Int) : (evq (kk 23) noL t.G e5E).e (eE (vi 3) (vi 2) (vi 7) a b c) = .ok (.bl true, false) (eE (vi 3) (vi 2) (vi 7) a b c) := by kernel_rfl
theorem h5_3_2_8 (a b c : Int) : (evq (kk 23) noL t.G e5E).e (eE (vi 3) (vi 2) (vi 8) a b c) = .ok (.bl true, false) (eE (vi 3) (vi 2) (vi 8) a b c) := by kernel_rfl
theorem h5_3_2_9 (a b c : Int) : (evq (kk 23) noL t.G e5E).e (eE (vi 3) (vi 2) (vi 9) a b c) = .ok (.bl true, false) (eE (vi 3) (vi 2) (vi 9) a b c) := by kernel_rfl
theorem h1_4_1 (a b c : Int) : (evq (kk 23) noL t.G s1E).x (eE (vi 4) (vi 1) none a b c) = .ok .nx (eE (vi 4) (vi 1) none a b c) := by kernel_rfl
theorem h5_4_1_1 (a b c : Int) : (evq (kk 23) noL t.G e5E).e (eE (vi 4) (vi 1) (vi 1) a b c) = .ok (.bl true, false) (eE (vi 4) (vi 1) (vi 1) a b c) := by kernel_rfl
theorem h5_4_1_2 (a b c : Int) : (evq (kk 23) noL t.G e5E).e (eE (vi 4) (vi 1) (vi 2) a b c) = .ok (.bl true, false) (eE (vi 4) (vi 1) (vi 2) a b c) := by kernel_rfl
theorem h5_4_1_3 (a b c : Int) : (evq (kk 23) noL t.G e5E).e (eE (vi 4) (vi 1) (vi 3) a b c) = .ok (.bl true, false) (eE (vi 4) (vi 1) (vi 3) a b c) := by kernel_rfl
theorem h5_4_1_4 (a b c : Int) : (evq (kk 23) noL t.G e5E).e (eE (vi 4) (vi 1) (vi 4) a b c) = .ok (.bl true, false) (eE (vi 4) (vi 1) (vi 4) a b c) := by kernel_rfl
theorem h5_4_1_5 (a b c : Int) : (evq (kk 23) noL t.G e5E).e (eE (vi 4) (vi 1) (vi 5) a b c) = .ok (.bl true, false) (eE (vi 4) (vi 1) (vi 5) a b c) := by kernel_rfl
theorem h5_4_1_6 (a b c : Int) : (evq (kk 23) noL t.G e5E).e (eE (vi 4) (vi 1) (vi 6) a b c) = .ok (.bl true, false) (eE (vi 4) (vi 1) (vi 6) a b c) := by kernel_rfl
theorem h5_4_1_7 (a b c : Int) : (evq (kk 23) noL t.G e5E).e (eE (vi 4) (vi 1) (vi 7) a b c) = .ok (.bl true, false) (eE (vi 4) (vi 1) (vi 7) a b c) := by kernel_rfl
theorem h5_4_1_8 (a b c : Int) : (evq (kk 23) noL t.G e5E).e (eE (vi 4) (vi 1) (vi 8) a b c) = .ok (.bl true, false) (eE (vi 4) (vi 1) (vi 8) a b c) := by kernel_rfl
theorem h5_4_1_9 (a b c : Int) : (evq (kk 23) noL t.G e5E).e (eE (vi 4) (vi 1) (vi 9) a b c) = .ok (.bl true, false) (eE (vi 4) (vi 1) (vi 9) a b c) := by kernel_rfl
theorem h1_5_1 (a b c : Int) : (evq (kk 23) noL t.G s1E).x (eE (vi 5) (vi 1) none a b c) = .ok .nx (eE (vi 5) (vi 1) none a b c) := by kernel_rfl
theorem h5_5_1_1 (a b c : Int) : (evq (kk 23) noL t.G e5E).e (eE (vi 5) (vi 1) (vi 1) a b c) = .ok (.bl true, false) (eE (vi 5) (vi 1) (vi 1) a b c) := by kernel_rfl
theorem h5_5_1_2 (a b c : Int) : (evq (kk 23) noL t.G e5E).e (eE (vi 5) (vi 1) (vi 2) a b c) = .ok (.bl true, false) (eE (vi 5) (vi 1) (vi 2) a b c) := by kernel_rfl
theorem h5_5_1_3 (a b c : Int) : (evq (kk 23) noL t.G e5E).e (eE (vi 5) (vi 1) (vi 3) a b c) = .ok (.bl true, false) (eE (vi 5) (vi 1) (vi 3) a b c) := by kernel_rfl
theorem h5_5_1_4 (a b c : Int) : (evq (kk 23) noL t.G e5E).e (eE (vi 5) (vi 1) (vi 4) a b c) = .ok (.bl true, false) (eE (vi 5) (vi 1) (vi 4) a b c) := by kernel_rfl
theorem h5_5_1_5 (a b c : Int) : (evq (kk 23) noL t.G e5E).e (eE (vi 5) (vi 1) (vi 5) a b c) = .ok (.bl true, false) (eE (vi 5) (vi 1) (vi 5) a b c) := by kernel_rfl
theorem h5_5_1_6 (a b c : Int) : (evq (kk 23) noL t.G e5E).e (eE (vi 5) (vi 1) (vi 6) a b c) = .ok (.bl true, false) (eE (vi 5) (vi 1) (vi 6) a b c) := by kernel_rfl
theorem h5_5_1_7 (a b c : Int) : (evq (kk 23) noL t.G e5E).e (eE (vi 5) (vi 1) (vi 7) a b c) = .ok (.bl true, false) (eE (vi 5) (vi 1) (vi 7) a b c) := by kernel_rfl
theorem h5_5_1_8 (a b c : Int) : (evq (kk 23) noL t.G e5E).e (eE (vi 5) (vi 1) (vi 8) a b c) = .ok (.bl true, false) (eE (vi 5) (vi 1) (vi 8) a b c) := by kernel_rfl
theorem h5_5_1_9 (a b c : Int) : (evq (kk 23) noL t.G e5E).e (eE (vi 5) (vi 1) (vi 9) a b c) = .ok (.bl true, false) (eE (vi 5) (vi 1) (vi 9) a b c) := by kernel_rfl
theorem h1_7_1 (a b c : Int) : (evq (kk 23) noL t.G s1E).x (eE (vi 7) (vi 1) none a b c) = .ok .nx (eE (vi 7) (vi 1) none a b c) := by kernel_rfl
theorem h5_7_1_1 (a b c : Int) : (evq (kk 23) noL t.G e5E).e (eE (vi 7) (vi 1) (vi 1) a b c) = .ok (.bl true, false) (eE (vi 7) (vi 1) (vi 1) a b c) := by kernel_rfl
theorem h5_7_1_2 (a b c : Int) : (evq (kk 23) noL t.G e5E).e (eE (vi 7) (vi 1) (vi 2) a b c) = .ok (.bl true, false) (eE (vi 7) (vi 1) (vi 2) a b c) := by kernel_rfl
theorem h5_7_1_3 (a b c : Int) : (evq (kk 23) noL t.G e5E).e (eE (vi 7) (vi 1) (vi 3) a b c) = .ok (.bl true, false) (eE (vi 7) (vi 1) (vi 3) a b c) := by kernel_rfl
theorem h5_7_1_4 (a b c : Int) : (evq (kk 23) noL t.G e5E).e (eE (vi 7) (vi 1) (vi 4) a b c) = .ok (.bl true, false) (eE (vi 7) (vi 1) (vi 4) a b c) := by kernel_rfl
theorem h5_7_1_5 (a b c : Int) : (evq (kk 23) noL t.G e5E).e (eE (vi 7) (vi 1) (vi 5) a b c) = .ok (.bl true, false) (eE (vi 7) (vi 1) (vi 5) a b c) := by kernel_rfl
theorem h5_7_1_6 (a b c : Int) : (evq (kk 23) noL t.G e5E).e (eE (vi 7) (vi 1) (vi 6) a b c) = .ok (.bl true, false) (eE (vi 7) (vi 1) (vi 6) a b c) := by kernel_rfl
theorem h5_7_1_7 (a b c : Int) : (evq (kk 23) noL t.G e5E).e (eE (vi 7) (vi 1) (vi 7) a b c) = .ok (.bl true, false) (eE (vi 7) (vi 1) (vi 7) a b c) := by kernel_rfl
theorem h5_7_1_8 (a b c : Int) : (evq (kk 23) noL t.G e5E).e (eE (vi 7) (vi 1) (vi 8) a b c) = .ok (.bl true, false) (eE (vi 7) (vi 1) (vi 8) a b c) := by kernel_rfl
theorem h5_7_1_9 (a b c : Int) : (evq (kk 23) noL t.G e5E).e (eE (vi 7) (vi 1) (vi 9) a b c) = .ok (.bl true, false) (eE (vi 7) (vi 1) (vi 9) a b c) := by kernel_rfl
theorem h1_8_1 (a b c : Int) : (evq (kk 23) noL t.G s1E).x (eE (vi 8) (vi 1) none a b c) = .ok .nx (eE (vi 8) (vi 1) none a b c) := by kernel_rfl
theorem h5_8_1_1 (a b c : Int) : (evq (kk 23) noL t.G e5E).e (eE (vi 8) (vi 1) (vi 1) a b c) = .ok (.bl true, false) (eE (vi 8) (vi 1) (vi 1) a b c) := by kernel_rfl
theorem h5_8_1_2 (a b c : Int) : (evq (kk 23) noL t.G e5E).e (eE (vi 8) (vi 1) (vi 2) a b c) = .ok (.bl true, false) (eE (vi 8) (vi 1) (vi 2) a b c) := by kernel_rfl
theorem h5_8_1_3 (a b c : Int) : (evq (kk 23) noL t.G e5E).e (eE (vi 8) (vi 1) (vi 3) a b c) = .ok (.bl true, false) (eE (vi 8) (vi 1) (vi 3) a b c) := by kernel_rfl
theorem h5_8_1_4 (a b c : Int) : (evq (kk 23) noL t.G e5E).e (eE (vi 8) (vi 1) (vi 4) a b c) = .ok (.bl true, false) (eE (vi 8) (vi 1) (vi 4) a b c) := by kernel_rfl
theorem h5_8_1_5 (a b c : Int) : (evq (kk 23) noL t.G e5E).e (eE (vi 8) (vi 1) (vi 5) a b c) = .ok (.bl true, false) (eE (vi 8) (vi 1) (vi 5) a b c) := by kernel_rfl
theorem h5_8_1_6 (a b c : Int) : (evq (kk 23) noL t.G e5E).e (eE (vi 8) (vi 1) (vi 6) a b c) = .ok (.bl true, false) (eE (vi 8) (vi 1) (vi 6) a b c) := by kernel_rfl
theorem h5_8_1_7 (a b c : Int) : (evq (kk 23) noL t.G e5E).e (eE (vi 8) (vi 1) (vi 7) a b c) = .ok (.bl true, false) (eE (vi 8) (vi 1) (vi 7) a b c) := by kernel_rfl
theorem h5_8_1_8 (a b c : Int) : (evq (kk 23) noL t.G e5E).e (eE (vi 8) (vi 1) (vi 8) a b c) = .ok (.bl true, false) (eE (vi 8) (vi 1) (vi 8) a b c) := by kernel_rfl
theorem h5_8_1_9 (a b c : Int) : (evq (kk 23) noL t.G e5E).e (eE (vi 8) (vi 1) (vi 9) a b c) = .ok (.bl true, false) (eE (vi 8) (vi 1) (vi 9) a b c) := by kernel_rfl
theorem h1_9_1 (a b c : Int) : (evq (kk 23) noL t.G s1E).x (eE (vi 9) (vi 1) none a b c) = .ok .nx (eE (vi 9) (vi 1) none a b c) := by kernel_rfl
theorem h5_9_1_1 (a b c : Int) : (evq (kk 23) noL t.G e5E).e (eE (vi 9) (vi 1) (vi 1) a b c) = .ok (.bl true, false) (eE (vi 9) (vi 1) (vi 1) a b c) := by kernel_rfl
theorem h5_9_1_2 (a b c : Int) : (evq (kk 23) noL t.G e5E).e (eE (vi 9) (vi 1) (vi 2) a b c) = .ok (.bl true, false) (eE (vi 9) (vi 1) (vi 2) a b c) := by kernel_rfl
theorem h5_9_1_3 (a b c : Int) : (evq (kk 23) noL t.G e5E).e (eE (vi 9) (vi 1) (vi 3) a b c) = .ok (.bl true, false) (eE (vi 9) (vi 1) (vi 3) a b c) := by kernel_rfl
theorem h5_9_1_4 (a b c : Int) : (evq (kk 23) noL t.G e5E).e (eE (vi 9) (vi 1) (vi 4) a b c) = .ok (.bl true, false) (eE (vi 9) (vi 1) (vi 4) a b c) := by kernel_rfl
theorem h5_9_1_5 (a b c : Int) : (evq (kk 23) noL t.G e5E).e (eE (vi 9) (vi 1) (vi 5) a b c) = .ok (.bl true, false) (eE (vi 9) (vi 1) (vi 5) a b c) := by kernel_rfl
theorem h5_9_1_6 (a b c : Int) : (evq (kk 23) noL t.G e5E).e (eE (vi 9) (vi 1) (vi 6) a b c) = .ok (.bl true, false) (eE (vi 9) (vi 1) (vi 6) a b c) := by kernel_rfl
theorem h5_9_1_7 (a b c : Int) : (evq (kk 23) noL t.G e5E).e (eE (vi 9) (vi 1) (vi 7) a b c) = .ok (.bl true, false) (eE (vi 9) (vi 1) (vi 7) a b c) := by kernel_rfl
theorem h5_9_1_8 (a b c : Int) : (evq (kk 23) noL t.G e5E).e (eE (vi 9) (vi 1) (vi 8) a b c) = .ok (.bl true, false) (eE (vi 9) (vi 1) (vi 8) a b c) := by kernel_rfl
theorem h5_9_1_9 (a b c : Int) : (evq (kk 23) noL t.G e5E).e (eE (vi 9) (vi 1) (vi 9) a b c) = .ok (.bl true, false) (eE (vi 9) (vi 1) (vi 9) a b c) := by kernel_rfl
theorem end_2_1 : EndOk 2 1 1 := ⟨by decide, by decide, fun _ _ _ => rfl, h1_2_1, fun r h0 h1 => by
  have h : r = 0 := by omega
  rcases h with rfl
  · exact h3_2_1 1
, fun r h0 h1 => by
  have h : r = 0 ∨ r = 1 ∨ r = 2 ∨ r = 3 ∨ r = 4 ∨ r = 5 ∨ r = 6 ∨ r = 7 ∨ r = 8 := by omega
  rcases h with rfl | rfl | rfl | rfl | rfl | rfl | rfl | rfl | rfl
  · exact h5_2_1_1
  · exact h5_2_1_2
  · exact h5_2_1_3
  · exact h5_2_1_4
  · exact h5_2_1_5
  · exact h5_2_1_6
  · exact h5_2_1_7
  · exact h5_2_1_8
  · exact h5_2_1_9
⟩
theorem end_2_2 : EndOk 2 2 1 := ⟨by decide, by decide, fun _ _ _ => rfl, h1_2_2, fun r h0 h1 => by
  have h : r = 0 := by omega
  rcases h with rfl
  · exact h3_2_1 2
, fun r h0 h1 => by
  have h : r = 0 ∨ r = 1 ∨ r = 2 ∨ r = 3 ∨ r = 4 ∨ r = 5 ∨ r = 6 ∨ r = 7 ∨ r = 8 := by omega
  rcases h with rfl | rfl | rfl | rfl | rfl | rfl | rfl | rfl | rfl
  · exact h5_2_2_1
  · exact h5_2_2_2
  · exact h5_2_2_3
  · exact h5_2_2_4
  · exact h5_2_2_5
  · exact h5_2_2_6
  · exact h5_2_2_7
  · exact h5_2_2_8
  · exact h5_2_2_9
⟩
theorem end_2_3 : EndOk 2 3 1 := ⟨by decide, by decide, fun _ _ _ => rfl, h1_2_3, fun r h0 h1 => by
  have h : r = 0 := by omega
  rcases h with rfl
  · exact h3_2_1 3
, fun r h0 h1 => by
  have h : r = 0 ∨ r = 1 ∨ r = 2 ∨ r = 3 ∨ r = 4 ∨ r = 5 ∨ r = 6 ∨ r = 7 ∨ r = 8 := by omega
  rcases h with rfl | rfl | rfl | rfl | rfl | rfl | rfl | rfl | rfl
  · exact h5_2_3_1
  · exact h5_2_3_2
  · exact h5_2_3_3
  · exact h5_2_3_4
  · exact h5_2_3_5
  · exact h5_2_3_6
  · exact h5_2_3_7
  · exact h5_2_3_8
  · exact h5_2_3_9
⟩
theorem end_3_1 : EndOk 3 1 2 := ⟨by decide, by decide, fun _ _ _ => rfl, h1_3_1, fun r h0 h1 => by
  have h : r = 0 ∨ r = 1 := by omega
  rcases h with rfl | rfl
  · exact h3_3_1 1
  · exact h3_3_2 1
, fun r h0 h1 => by
  have h : r = 0 ∨ r = 1 ∨ r = 2 ∨ r = 3 ∨ r = 4 ∨ r = 5 ∨ r = 6 ∨ r = 7 ∨ r = 8 := by omega
  rcases h with rfl | rfl | rfl | rfl | rfl | rfl | rfl | rfl | rfl
  · exact h5_3_1_1
  · exact h5_3_1_2
  · exact h5_3_1_3
  · exact h5_3_1_4
  · exact h5_3_1_5
  · exact h5_3_1_6
  · exact h5_3_1_7
  · exact h5_3_1_8
  · exact h5_3_1_9
⟩
theorem end_3_2 : EndOk 3 2 2 := ⟨by decide, by decide, fun _ _ _ => rfl, h1_3_2, fun r h0 h1 => by
  have h : r = 0 ∨ r = 1 := by omega
  rcases h with rfl | rfl
  · exact h3_3_1 2
  · exact h3_3_2 2
, fun r h0 h1 => by
  have h : r = 0 ∨ r = 1 ∨ r = 2 ∨ r = 3 ∨ r = 4 ∨ r = 5 ∨ r = 6 ∨ r = 7 ∨ r = 8 := by omega
  rcases h with rfl | rfl | rfl | rfl | rfl | rfl | rfl | rfl | rfl
  · exact h5_3_2_1
  · exact h5_3_2_2
  · exact h5_3_2_3
  · exact h5_3_2_4
  · exact h5_3_2_5
  · exact h5_3_2_6
  · exact h5_3_2_7
  · exact h5_3_2_8
  · exact h5_3_2_9
⟩
theorem end_4_1 : EndOk 4 1 3 := ⟨by decide, by decide, fun _ _ _ => rfl, h1_4_1, fun r h0 h1 => by
  have h : r = 0 ∨ r = 1 ∨ r = 2 := by omega
  rcases h with rfl | rfl | rfl
  · exact h3_4_1 1
  · exact h3_4_2 1
  · exact h3_4_3 1
, fun r h0 h1 => by
  have h : r = 0 ∨ r = 1 ∨ r = 2 ∨ r = 3 ∨ r = 4 ∨ r = 5 ∨ r = 6 ∨ r = 7 ∨ r = 8 := by omega
  rcases h with rfl | rfl | rfl | rfl | rfl | rfl | rfl | rfl | rfl
  · exact h5_4_1_1
  · exact h5_4_1_2
  · exact h5_4_1_3
  · exact h5_4_1_4
  · exact h5_4_1_5
  · exact h5_4_1_6
  · exact h5_4_1_7
  · exact h5_4_1_8
  · exact h5_4_1_9
⟩
theorem end_5_1 : EndOk 5 1 3 := ⟨by decide, by decide, fun _ _ _ => rfl, h1_5_1, fun r h0 h1 => by
  have h : r = 0 ∨ r = 1 ∨ r = 2 := by omega
  rcases h with rfl | rfl | rfl
  · exact h3_5_1 1
  · exact h3_5_2 1
  · exact h3_5_3 1
, fun r h0 h1 => by
  have h : r = 0 ∨ r = 1 ∨ r = 2 ∨ r = 3 ∨ r = 4 ∨ r = 5 ∨ r = 6 ∨ r = 7 ∨ r = 8 := by omega
  rcases h with rfl | rfl | rfl | rfl | rfl | rfl | rfl | rfl | rfl
  · exact h5_5_1_1
  · exact h5_5_1_2
  · exact h5_5_1_3
  · exact h5_5_1_4
  · exact h5_5_1_5
  · exact h5_5_1_6
  · exact h5_5_1_7
  · exact h5_5_1_8
  · exact h5_5_1_9
⟩
theorem end_7_1 : EndOk 7 1 3 := ⟨by decide, by decide, fun _ _ _ => rfl, h1_7_1, fun r h0 h1 => by
  have h : r = 0 ∨ r = 1 ∨ r = 2 := by omega
  rcases h with rfl | rfl | rfl
  · exact h3_7_1 1
  · exact h3_7_2 1
  · exact h3_7_3 1
, fun r h0 h1 => by
  have h : r = 0 ∨ r = 1 ∨ r = 2 ∨ r = 3 ∨ r = 4 ∨ r = 5 ∨ r = 6 ∨ r = 7 ∨ r = 8 := by omega
  rcases h with rfl | rfl | rfl | rfl | rfl | rfl | rfl | rfl | rfl
  · exact h5_7_1_1
  · exact h5_7_1_2
  · exact h5_7_1_3
  · exact h5_7_1_4
  · exact h5_7_1_5
  · exact h5_7_1_6
  · exact h5_7_1_7
  · exact h5_7_1_8
  · exact h5_7_1_9
⟩
theorem end_8_1 : EndOk 8 1 3 := ⟨by decide, by decide, fun _ _ _ => rfl, h1_8_1, fun r h0 h1 => by
  have h : r = 0 ∨ r = 1 ∨ r = 2 := by omega
  rcases h with rfl | rfl | rfl
  · exact h3_8_1 1
  · exact h3_8_2 1
  · exact h3_8_3 1
, fun r h0 h1 => by
  have h : r = 0 ∨ r = 1 ∨ r = 2 ∨ r = 3 ∨ r = 4 ∨ r = 5 ∨ r = 6 ∨ r = 7 ∨ r = 8 := by omega
  rcases h with rfl | rfl | rfl | rfl | rfl | rfl | rfl | rfl | rfl
  · exact h5_8_1_1
  · exact h5_8_1_2
  · exact h5_8_1_3
  · exact h5_8_1_4
  · exact h5_8_1_5
  · exact h5_8_1_6
  · exact h5_8_1_7
  · exact h5_8_1_8
  · exact h5_8_1_9
⟩
theorem end_9_1 : EndOk 9 1 3 := ⟨by decide, by decide, fun _ _ _ => rfl, h1_9_1, fun r h0 h1 => by
  have h : r = 0 ∨ r = 1 ∨ r = 2 := by omega
  rcases h with rfl | rfl | rfl
  · exact h3_9_1 1
  · exact h3_9_2 1
  · exact h3_9_3 1
, fun r h0 h1 => by
  have h : r = 0 ∨ r = 1 ∨ r = 2 ∨ r = 3 ∨ r = 4 ∨ r = 5 ∨ r = 6 ∨ r = 7 ∨ r = 8 := by omega
  rcases h with rfl | rfl | rfl | rfl | rfl | rfl | rfl | rfl | rfl
  · exact h5_9_1_1
  · exact h5_9_1_2
  · exact h5_9_1_3
  · exact h5_9_1_4
  · exact h5_9_1_5
  · exact h5_9_1_6
  · exact h5_9_1_7
  · exact h5_9_1_8
  · exact h5_9_1_9
⟩
theorem ends_ok (a b c : Int) : ∃ a' b' c' : Int, kk 24 182 noL [.ref 0] [dice a b c] = .ok (.bl true) false [dice a' b' c'] := by
  obtain ⟨p, hp, a1, b1, c1, q1⟩ := one_of 21 a b c Prs (by decide) (by decide)
  have hc : ∃ q n k : Int, p = pr q n ∧ EndOk q n k := by
    unfold Prs at hp
    simp only [List.mem_cons, List.not_mem_nil, or_false] at hp
    rcases hp with rfl | rfl | rfl | rfl | rfl | rfl | rfl | rfl | rfl | rfl
    · exact ⟨_, _, _, rfl, end_2_1⟩
    · exact ⟨_, _, _, rfl, end_2_2⟩
    · exact ⟨_, _, _, rfl, end_2_3⟩
    · exact ⟨_, _, _, rfl, end_3_1⟩
    · exact ⟨_, _, _, rfl, end_3_2⟩
    · exact ⟨_, _, _, rfl, end_4_1⟩
    · exact ⟨_, _, _, rfl, end_5_1⟩
    · exact ⟨_, _, _, rfl, end_7_1⟩
    · exact ⟨_, _, _, rfl, end_8_1⟩
    · exact ⟨_, _, _, rfl, end_9_1⟩
  obtain ⟨q, n, k, rfl, E⟩ := hc
  obtain ⟨a', b', c', s', h1, h2⟩ := ends_pair q n k E a1 b1 c1
  refine ⟨a', b', c', ?_⟩
  have x0 : (evq (kk 23) noL t.G (.asg (.t [1, 2]) (.callr 59 0 0 (.cons (.lst (.cons (.tup (.cons (.cst (.int 2)) (.cons (.cst (.int 1)) .nil))) (.cons (.tup (.cons (.cst (.int 2)) (.cons (.cst (.int 2)) .nil))) (.cons (.tup (.cons (.cst (.int 2)) (.cons (.cst (.int 3)) .nil))) (.cons (.tup (.cons (.cst (.int 3)) (.cons (.cst (.int 1)) .nil))) (.cons (.tup (.cons (.cst (.int 3)) (.cons (.cst (.int 2)) .nil))) (.cons (.tup (.cons (.cst (.int 4)) (.cons (.cst (.int 1)) .nil))) (.cons (.tup (.cons (.cst (.int 5)) (.cons (.cst (.int 1)) .nil))) (.cons (.tup (.cons (.cst (.int 7)) (.cons (.cst (.int 1)) .nil))) (.cons (.tup (.cons (.cst (.int 8)) (.cons (.cst (.int 1)) .nil))) (.cons (.tup (.cons (.cst (.int 9)) (.cons (.cst (.int 1)) .nil))) .nil))))))))))) .nil)))).x (eE none none none a b c) = .ok .nx (eE (vi q) (vi n) none a1 b1 c1) := by
    have y : (evq (kk 23) noL t.G (.callr 59 0 0 mPrs)).e (eE none none none a b c) = .ok (pr q n, false) (eE none none none a1 b1 c1) := e_callr (xs := [(.lst Prs, true)]) rfl (mPrs_ok _) q1
    show ((evq (kk 23) noL t.G (.callr 59 0 0 mPrs)).e (eE none none none a b c)).bind _ = _
    rw [y]
    rfl
  show runS t.F t.G (kk 23) 182 noL [.ref 0] [dice a b c] = _
  have e : t.F 182 = some c__law_ends_right := by rfl
  unfold runS
  rw [e]
  show ends 1 ((evq (kk 23) noL t.G c__law_ends_right.body).x (eE none none none a b c)) = _
  have x : (evq (kk 23) noL t.G c__law_ends_right.body).x (eE none none none a b c) = .ok (.rt (.bl true) false) s' := (x_cons x0).trans h2
  rw [x]
  show (if s'.st.length = 1 then RC.ok (.bl true) false s'.st else .no) = _
  rw [h1]
  rfl
end
end Mp.k82
end
section
set_option Elab.async false
set_option linter.all false
set_option maxRecDepth 100000
set_option maxHeartbeats 0
namespace Mp.k82
open Mp PySem PyProof.Rows
noncomputable section
abbrev lS (ns : List Int) (x1 x2 : Option (D × Bool)) : S := ⟨[some (.lst (ns.map .int), false), x1, x2], []⟩
theorem pure_ints (ns : List Int) : D.pure PUD (.lst (ns.map .int)) = true := by
  show ((ns.map D.int).all (D.pure 11)) = true
  rw [List.all_map]
  exact List.all_eq_true.mpr fun _ _ => rfl
/-- a call with the own object of slot 2 handed down -/
theorem e_own {f : Nat} {ns : List Int} {x1 : Option (D × Bool)} {a b c a' b' c' : Int} (h : kk 24 f noL [.ref 0] [dice a b c] = .ok (.bl true) false [dice a' b' c']) : (evq (kk 24) noL t.G (.callr f 0 2 .nil)).e (lS ns x1 (some (dice a b c, true))) = .ok (.bl true, false) (lS ns x1 (some (dice a' b' c', true))) := by
  show callRef (kk 24) f 0 2 [] (lS ns x1 (some (dice a b c, true))) = _
  show (match lent 0 (kk 24 f noL [.ref 0] [dice a b c]) with
    | some (d, w, o', st) => R.ok (d, w) ⟨(lS ns x1 (some (dice a b c, true))).ρ.set 2 (some (o', true)), st⟩
    | none => .no) = _
  rw [h]
  rfl
def lB : C := (.cons (.asg (.n 2) (.call 87 (.cons (.var 0) (.cons (.var 1) .nil)))) (.cons (.ifs (.or (.not (.callr 183 0 2 .nil)) (.not (.callr 182 0 2 .nil))) (.cons (.ret (.cst (.bl false))) .nil) .nil) .nil))
theorem turn_ok (ns : List Int) (k : Int) (hk : 0 ≤ k) (x2 : Option (D × Bool)) : ∃ x2', (evq (kk 24) noL t.G lB).x (lS ns (vi k) x2) = .ok .nx (lS ns (vi k) x2') := by
  obtain ⟨a, b, c, e1⟩ := dice_ok 23 ns k hk
  obtain ⟨a1, b1, c1, e2⟩ := errors_ok a b c
  obtain ⟨a2, b2, c2, e3⟩ := ends_ok a1 b1 c1
  refine ⟨some (dice a2 b2 c2, true), ?_⟩
  have k1 : (evq (kk 24) noL t.G (.call 87 (.cons (.var 0) (.cons (.var 1) .nil)))).e (lS ns (vi k) x2) = .ok (dice a b c, true) (lS ns (vi k) x2) := by
    show callP (kk 24 87 noL) [.lst (ns.map .int), .int k] (lS ns (vi k) x2) = _
    unfold callP
    have hp : ([.lst (ns.map .int), .int k] : List D).all (D.pure PUD) = true := by
      show (D.pure PUD (.lst (ns.map .int)) && (D.pure PUD (.int k) && true)) = true
      rw [pure_ints]
      rfl
    rw [if_pos hp, e1]
    rfl
  refine (x_cons (x_asg k1 (lt_ rfl))).trans ?_
  have k2 := e_own (ns := ns) (x1 := vi k) e2
  have k3 := e_own (ns := ns) (x1 := vi k) e3
  have k4 : (evq (kk 24) noL t.G (.or (.not (.callr 183 0 2 .nil)) (.not (.callr 182 0 2 .nil)))).e (lS ns (vi k) (some (dice a b c, true))) = .ok (.bl false, false) (lS ns (vi k) (some (dice a2 b2 c2, true))) := by
    show ((((evq (kk 24) noL t.G (.callr 183 0 2 .nil)).e (lS ns (vi k) (some (dice a b c, true)))).bind fun x s1 => match x.1 with
      | .bl b => R.ok (D.bl (!b), false) s1
      | _ => .no).bind fun x s1 => match x.1 with
      | .bl false => (((evq (kk 24) noL t.G (.callr 182 0 2 .nil)).e s1).bind fun x s1 => match x.1 with
        | .bl b => R.ok (D.bl (!b), false) s1
        | _ => .no).bind fun y s2 => R.ok (y.1, false) s2
      | .bl true => R.ok (D.bl true, false) s1
      | _ => .no) = _
    rw [k2]
    show (((evq (kk 24) noL t.G (.callr 182 0 2 .nil)).e (lS ns (vi k) (some (dice a1 b1 c1, true)))).bind fun x s1 => match x.1 with
        | .bl b => R.ok (D.bl (!b), false) s1
        | _ => .no).bind (fun y s2 => R.ok (y.1, false) s2) = _
    rw [k3]
    rfl
  exact (x_cons ((x_ifs k4).trans rfl)).trans rfl
theorem turns_ok (ns : List Int) : ∀ (m : Nat) (k : Int), 0 ≤ k → ∀ x1 x2, ∃ x1' x2', forLoop (.n 1) (evq (kk 24) noL t.G lB).x (intsR k 1 m) (lS ns x1 x2) = .ok .nx (lS ns x1' x2')
  | 0, _, _, x1, x2 => ⟨x1, x2, rfl⟩
  | m + 1, k, hk, x1, x2 => by
    obtain ⟨x2', e⟩ := turn_ok ns k hk x2
    obtain ⟨y1, y2, e2⟩ := turns_ok ns m (k + 1) (by omega) (vi k) x2'
    refine ⟨y1, y2, ?_⟩
    show (match (evq (kk 24) noL t.G lB).x (lS ns (vi k) x2) with
      | .ok .nx s2 => forLoop (.n 1) (evq (kk 24) noL t.G lB).x (intsR (k + 1) 1 m) s2
      | .ok .ct s2 => forLoop (.n 1) (evq (kk 24) noL t.G lB).x (intsR (k + 1) 1 m) s2
      | .ok .bk s2 => .ok .nx s2
      | .ok (.rt d o) s2 => .ok (.rt d o) s2
      | .er x s2 => .er x s2
      | .no => .no) = _
    rw [e]
    exact e2
theorem law_ok (ns : List Int) (h : ns.length ≤ 63) : law ns = .ok (.bl true) false [] := by
  unfold law
  rw [runq_eq]
  let n : Int := ns.length
  let j : Int := if (if n < 4 then n else 4) > 1 then (if n < 4 then n else 4) else 1
  have hj : rngOk j = true := by
    have h1 : 1 ≤ j ∧ j ≤ 4 := by
      show 1 ≤ (if (if n < 4 then n else 4) > 1 then (if n < 4 then n else 4) else 1) ∧ (if (if n < 4 then n else 4) > 1 then (if n < 4 then n else 4) else 1) ≤ 4
      split <;> split <;> omega
    unfold rngOk
    rw [Bool.and_eq_true, decide_eq_true_eq, decide_eq_true_eq]
    omega
  obtain ⟨x1, x2, e⟩ := turns_ok ns j.toNat 0 (by decide) none none
  let s0 : S := lS ns none none
  have l1 : (evq (kk 24) noL t.G (.op1 .len (.peek 0))).e s0 = .ok (.int n, false) s0 := by
    show liftO (ap1q .len (.lst (ns.map .int))) s0 = _
    rw [ap_len]
    rfl
  have l2 : (evq (kk 24) noL t.G (.op2 .min2 (.cst (.int 4)) (.op1 .len (.peek 0)))).e s0 = .ok (.int (if n < 4 then n else 4), false) s0 := e_op2 (h := .v (.int 4)) (k := .v (.int n)) (s1 := s0) rfl (hd_op1 l1) rfl
  have l3 : (evq (kk 24) noL t.G (.op2 .max2 (.cst (.int 1)) (.op2 .min2 (.cst (.int 4)) (.op1 .len (.peek 0))))).e s0 = .ok (.int j, false) s0 := e_op2 (h := .v (.int 1)) (k := .v (.int (if n < 4 then n else 4))) (s1 := s0) rfl (e_hd l2) rfl
  have l4 : (evq (kk 24) noL t.G (.rng1 (.op2 .max2 (.cst (.int 1)) (.op2 .min2 (.cst (.int 4)) (.op1 .len (.peek 0)))))).i s0 = .ok (intsR 0 1 j.toNat) s0 := by
    show ((evq (kk 24) noL t.G (.op2 .max2 (.cst (.int 1)) (.op2 .min2 (.cst (.int 4)) (.op1 .len (.peek 0))))).e s0).bind (fun x s1 => match x.1 with
      | .int j => if rngOk j then R.ok (intsR 0 1 j.toNat) s1 else .no
      | _ => .no) = _
    rw [l3]
    show (if rngOk j then R.ok (intsR 0 1 j.toNat) s0 else .no) = _
    rw [if_pos hj]
  show runS t.F t.G (kk 24) 88 noL [.lst (ns.map .int)] [] = _
  have eF : t.F 88 = some c_law := by rfl
  unfold runS
  rw [eF]
  show ends 0 ((evq (kk 24) noL t.G c_law.body).x s0) = _
  have x0 : (evq (kk 24) noL t.G (.for_ (.n 1) (.rng1 (.op2 .max2 (.cst (.int 1)) (.op2 .min2 (.cst (.int 4)) (.op1 .len (.peek 0))))) lB)).x s0 = .ok .nx (lS ns x1 x2) := by
    show ((evq (kk 24) noL t.G (.rng1 (.op2 .max2 (.cst (.int 1)) (.op2 .min2 (.cst (.int 4)) (.op1 .len (.peek 0)))))).i s0).bind (fun xs s1 => forLoop (.n 1) (evq (kk 24) noL t.G lB).x xs s1) = _
    rw [l4]
    exact e
  have x : (evq (kk 24) noL t.G c_law.body).x s0 = .ok (.rt (.bl true) false) (lS ns x1 x2) := (x_cons x0).trans rfl
  rw [x]
  rfl
end
end Mp.k82
end
section
set_option Elab.async false
set_option linter.all false
set_option maxRecDepth 100000
set_option maxHeartbeats 0
open PySem PySem.W PySem.Calls PyProof.Rows
theorem PySem.Challenge.cw_monicsums_k82_ends_and_errors_of_stoppin_holds : PySem.Challenge.rw_monicsums_k82_ends_and_errors_of_stoppin.Holds := by
  w_on; o_law
  refine HandSHeadRun.head_any (r := OpenLaw.row PySem.Challenge.rw_monicsums_k82_ends_and_errors_of_stoppin) (q := view (OpenLaw.row PySem.Challenge.rw_monicsums_k82_ends_and_errors_of_stoppin).prog [71]) (H := Mp.k82.lk.hook) (ob := Mp.k82.lk.ob) (M := 9000) (loose := Mp.k82.names) (d := HandSHeadRun.topDef (OpenLaw.row PySem.Challenge.rw_monicsums_k82_ends_and_errors_of_stoppin).prog 71) (kwd := []) Mp.k82.lk.ob_eq
    (by kernel_rfl) (fun s => by kernel_rfl) Mp.k82.run (by kernel_rfl) (by kernel_rfl) (by kernel_rfl) (by rfl) (by first | assumption | decide +kernel) (by decide +kernel) ⟨rfl, rfl, rfl, rfl, rfl, by decide +kernel⟩ ?hw ?hc
  case hw => w_witness2
  case hc => exact Mp.law_walk (l := PySem.Challenge.rw_monicsums_k82_ends_and_errors_of_stoppin) (t := Mp.k82.t) (xs := Mp.k82.xs) (n := 4) (L := 25) (df := Mp.k82.lawD) (by kernel_rfl) (by kernel_rfl) Mp.k82.okB Mp.k82.xsB Mp.k82.bnd Mp.k82.xbnd Mp.k82.hF.mem (by kernel_rfl) Mp.k82.lawD_in ⟨rfl, by decide, by decide⟩ (fun ns h _ => Mp.k82.law_ok ns h)
end
