import PyProof.Rows.All
import Wide.All
import OpenK.AllK
import Wide.FinOn
import HandS.ForMost
import KE.DataEq
import KE.DataCmp
import HandS.Star
import HandS.Flow
import HandS.TupAny
import HandS.TupMul
import HandS.Style
import HandS.Zip
import HandS.DictComp
import HandS.SetFor
import HandS.SortInts
import HandS.IsInst
import KE.KSortedM
import HandS.Strs
import KE.GoesEnum
import HandS.Iter
import PyProof.EnumMake
import HandS.Defaults
import HandS.Words
import HandS.Set
import HandS.SetTxt0
import PyProof.Rows.SortStr
import PyProof.Rows.SortShellK
import KE.KExcSuper
import KE.KExcInit
import KE.KExcMake
import KE.KSuper
import HandS.Exc
import HandS.ExcField
import HandS.TryOnly
import HandS.ExcOwn
import HandS.WordsExc
import PyProof.ExcBaseAll.LookupError
import KE.KStateDown
import HandS.Head0
import HandS.Head1
import HandS.Head2
import HandS.HeadEnd
import HandS.HeadHook1
import HandS.HeadHook2
import PySem.Challenge.RW_weighedterms_k00_terms_counted_by_own_wa
set_option Elab.async false
set_option autoImplicit false
set_option linter.all false
set_option maxRecDepth 100000
/-! An evaluator of the program's own statements over data (PyData): mutable lists of one def's own in its slots, mutable lists that are handed on in a store. An exception is no answer here. -/
namespace Ev
open PySem

inductive Val where
  | d (x : PyData)
  | ref (n : Nat)
  | set (xs : List PyData)

inductive Slot where
  | no
  | v (w : Val)
  | own (xs : List PyData)

abbrev Sto := List (List PyData)
structure S where
  env : List Slot
  sto : Sto
abbrev Calls := Nat → List Val → Sto → Option (Val × Sto)

inductive BOp where | add | sub | mul | fdiv | mod | pow
inductive COp where | eq | ne | lt | le | gt | ge | isIn | notIn | is | isNot
inductive Ty where | int | bool | str | tuple | list
inductive BF where | len | tuple | list | int | abs | sum | max | min | all | any | sorted | set
/-- targets -/
inductive Tg where
  | n (i : Nat)
  | t (is : List Nat)

mutual
inductive E where
  | var (i : Nat)
  | con (d : PyData)
  | tup (es : Es)
  | lst (es : Es)
  | bin (o : BOp) (a b : E)
  | neg (a : E)
  | cmp (o : COp) (a b : E)
  | chain (o p : COp) (a b c : E)
  | and (a b : E)
  | or (a b : E)
  | not (a : E)
  | ite (c a b : E)
  | ix (a b : E)
  | dget (a b : E)
  | dIn (neg : Bool) (a b : E)
  | sl (a lo hi : E)
  | rev (a : E)
  | call (f : Nat) (es : Es)
  | blt (f : BF) (a : E)
  | isi (a : E) (t : Ty)
  | isi2 (a : E) (t u : Ty)
  | lc (tg : Tg) (it : It) (c : E) (elt : E) (own : List Nat)
  | dc (tg : Tg) (it : It) (k v : E) (own : List Nat)
  | star (a b : E)
  | count (a b : E)
  | frz (i : Nat)
  | ownNe (i : Nat)
  | ownIx (i : Nat) (a : E)
  | ownTup (i : Nat)
  | ownPop (i : Nat)
  | srt (a : E)
  | orL (a b : E)
  | box (es : Es)
inductive Es where
  | nil
  | cons (e : E) (es : Es)
inductive It where
  | seq (a : E)
  | rng (a : E)
  | enum (a : E)
  | zip (a b : E)
  | chars (a : E)
end

mutual
inductive St where
  | set (tg : Tg) (a : E)
  | par (i j : Nat) (a b : E)
  | own (i : Nat) (a : E)
  | parOwn (i j : Nat) (a b : Es)
  | ownApp (i : Nat) (a : E)
  | ownExt (i : Nat) (a : E)
  | ownSet (i : Nat) (a b : E)
  | refSet (a b c : E)
  | expr (a : E)
  | ite (c : E) (t e : Sts)
  | for (tg : Tg) (it : It) (b : Sts)
  | while (c : E) (b : Sts)
  | ret (a : E)
  | never
  | cont
  | brk
inductive Sts where
  | nil
  | cons (s : St) (r : Sts)
end

/-- data that is no dict -/
def noDict : PyData → Bool
  | .dict _ => false
  | _ => true
def noDicts : List PyData → Bool
  | [] => true
  | x :: r => noDict x && noDicts r
def isNoneC : E → Bool
  | .con .none => true
  | _ => false
/-! ### operations on data -/
def isD : Val → Option PyData
  | .d x => some x
  | _ => none
def binD : BOp → PyData → PyData → Option PyData
  | .add, .int i, .int j => some (.int (i + j))
  | .add, .str x, .str y => if x.length + y.length ≤ 100000 then some (.str (x ++ y)) else none
  | .add, .list xs, .list ys => if xs.length + ys.length ≤ 100000 then some (.list (xs ++ ys)) else none
  | .add, .tuple xs, .tuple ys => if xs.length + ys.length ≤ 100000 then some (.tuple (xs ++ ys)) else none
  | .sub, .int i, .int j => some (.int (i - j))
  | .mul, .int i, .int j => if (-(2 ^ 64) < i ∧ i < 2 ^ 64) ∨ (-(2 ^ 64) < j ∧ j < 2 ^ 64) then some (.int (i * j)) else none
  | .mul, .tuple xs, .int j => if 0 ≤ j ∧ j ≤ 1000 ∧ xs.length ≤ 100 then some (.tuple (List.replicate j.toNat xs).flatten) else none
  | .mul, .list xs, .int j => if 0 ≤ j ∧ j ≤ 1000 ∧ xs.length ≤ 100 then some (.list (List.replicate j.toNat xs).flatten) else none
  | .fdiv, .int i, .int j => if 0 < j ∧ j < 1073741824 then some (.int (i / j)) else none
  | .mod, .int i, .int j => if 0 < j then some (.int (i % j)) else none
  | .pow, .int i, .int j => if 0 ≤ j ∧ j ≤ 1000 ∧ i.natAbs < 2 ^ 64 then some (.int (i ^ j.toNat)) else none
  | _, _, _ => none
def isNone : PyData → Bool
  | .none => true
  | _ => false
def low (d e : PyData) : Bool := decide (d.depth ≤ 64) || decide (e.depth ≤ 64)
def inD : PyData → PyData → Option Bool
  | x, .list ys => if noDict x && low x (.list ys) then some (ys.any fun y => PyData.eqv y x) else none
  | x, .tuple ys => if noDict x && low x (.tuple ys) then some (ys.any fun y => PyData.eqv y x) else none
  | .str x, .str y => some (!(Builtin.Str.occurrences y x 0 y.length 1).isEmpty)
  | _, _ => none
def ltStr (x y : Str) : Bool := decide (x.cps.toList < y.cps.toList)
def cmpD : COp → PyData → PyData → Option Bool
  | .eq, x, y => if noDict x && noDict y && low x y then some (PyData.eqv x y) else none
  | .ne, x, y => if noDict x && noDict y && low x y then some (!PyData.eqv x y) else none
  | .lt, .int i, .int j => some (decide (i < j))
  | .le, .int i, .int j => some (decide (i ≤ j))
  | .gt, .int i, .int j => some (decide (j < i))
  | .ge, .int i, .int j => some (decide (j ≤ i))
  | .lt, .str x, .str y => some (ltStr x y)
  | .isIn, x, y => inD x y
  | .notIn, x, y => (inD x y).map (!·)
  | .is, x, .none => some (isNone x)
  | .isNot, x, .none => some (!isNone x)
  | _, _, _ => none
def dGet : List (PyData × PyData) → Str → Option PyData
  | [], _ => none
  | (.str y, v) :: r, x => if y = x then some v else dGet r x
  | _ :: r, x => dGet r x
def ixD : PyData → PyData → Option PyData
  | .list xs, .int i => L2.atI xs i
  | .tuple xs, .int i => L2.atI xs i
  | _, _ => none
def cutD (xs : List PyData) (lo hi : Option Int) : List PyData := (xs.drop (HT.sIx xs.length 0 lo)).take (HT.sIx xs.length xs.length hi - HT.sIx xs.length 0 lo)
def partI : PyData → Option (Option Int)
  | .int i => some (some i)
  | _ => none
def slD (x : PyData) (lo hi : Option Int) : Option PyData := match x with
  | .list xs => some (.list (cutD xs lo hi))
  | .tuple xs => some (.tuple (cutD xs lo hi))
  | _ => none
def intsOf : List PyData → Option (List Int)
  | [] => some []
  | .int i :: r => (intsOf r).map (i :: ·)
  | _ => none
def strsOf : List PyData → Option (List Str)
  | [] => some []
  | .str x :: r => (strsOf r).map (x :: ·)
  | _ => none
def boolsOf : List PyData → Option (List Bool)
  | [] => some []
  | .bool b :: r => (boolsOf r).map (b :: ·)
  | _ => none
def maxI : Int → List Int → Int
  | m, [] => m
  | m, x :: r => maxI (if m < x then x else m) r
def insI (x : Int) : List Int → List Int
  | [] => [x]
  | y :: r => if x ≤ y then x :: y :: r else y :: insI x r
def sortI : List Int → List Int
  | [] => []
  | x :: r => insI x (sortI r)
def insS (x : Str) : List Str → List Str
  | [] => [x]
  | y :: r => if ltStr y x then y :: insS x r else x :: y :: r
def sortS : List Str → List Str
  | [] => []
  | x :: r => insS x (sortS r)
def nubI : List Int → List Int
  | [] => []
  | x :: r => if x ∈ r then nubI r else x :: nubI r
def nubS : List Str → List Str
  | [] => []
  | x :: r => if x ∈ r then nubS r else x :: nubS r
def sortD (xs : List PyData) : Option (List PyData) :=
  match intsOf xs with
  | some is => some ((sortI is).map .int)
  | none => match strsOf xs with
    | some ss => if ss.length < 64 then some ((sortS ss).map .str) else none
    | none => none
def nubD (xs : List PyData) : Option (List PyData) :=
  if 64 ≤ xs.length then none else
  match intsOf xs with
  | some is => some ((nubI is).map .int)
  | none => match strsOf xs with
    | some ss => some ((nubS ss).map .str)
    | none => none
/-- sorted(set(xs)) -/
def insN (x : Int) : List Int → List Int
  | [] => [x]
  | y :: r => if x < y then x :: y :: r else if x = y then y :: r else y :: insN x r
def srtI : List Int → List Int
  | [] => []
  | x :: r => insN x (srtI r)
def insT (x : Str) : List Str → List Str
  | [] => [x]
  | y :: r => if ltStr x y then x :: y :: r else if x = y then y :: r else y :: insT x r
def srtS : List Str → List Str
  | [] => []
  | x :: r => insT x (srtS r)
def srtD (xs : List PyData) : Option (List PyData) :=
  if 64 ≤ xs.length then none else
  match intsOf xs with
  | some is => some ((srtI is).map .int)
  | none => match strsOf xs with
    | some ss => some ((srtS ss).map .str)
    | none => none
def seqD : PyData → Option (List PyData)
  | .list xs => some xs
  | .tuple xs => some xs
  | _ => none
def bltD : BF → Val → Option Val
  | .len, .d (.list xs) => some (.d (.int xs.length))
  | .len, .d (.tuple xs) => some (.d (.int xs.length))
  | .len, .d (.str x) => if x.length ≤ 100000 then some (.d (.int x.length)) else none
  | .tuple, .d x => (seqD x).map fun xs => .d (.tuple xs)
  | .list, .d x => (seqD x).map fun xs => .d (.list xs)
  | .int, .d (.int i) => some (.d (.int i))
  | .int, .d (.bool b) => some (.d (.int (if b then 1 else 0)))
  | .abs, .d (.int i) => some (.d (.int (if i < 0 then -i else i)))
  | .sum, .d (.list xs) => (intsOf xs).map fun is => .d (.int is.sum)
  | .max, .d (.list xs) => (intsOf xs).bind fun is => match is with | [] => none | m :: r => some (.d (.int (maxI m r)))
  | .all, .d (.list xs) => (boolsOf xs).map fun bs => .d (.bool (bs.all id))
  | .any, .d (.list xs) => (boolsOf xs).map fun bs => .d (.bool (bs.any id))
  | .sorted, .d (.list xs) => (sortD xs).map fun ys => .d (.list ys)
  | .sorted, .set xs => (sortD xs).map fun ys => .d (.list ys)
  | .set, .d (.list xs) => (nubD xs).map .set
  | _, _ => none
def isTy : Ty → PyData → Bool
  | .int, .int _ => true
  | .int, .bool _ => true
  | .bool, .bool _ => true
  | .str, .str _ => true
  | .tuple, .tuple _ => true
  | .list, .list _ => true
  | _, _ => false
def asB : Val → Option Bool
  | .d (.bool b) => some b
  | _ => none
def assignD : List Nat → List PyData → List Slot → Option (List Slot)
  | [], [], env => some env
  | i :: is, x :: xs, env => assignD is xs (env.set i (.v (.d x)))
  | _, _, _ => none
def assign : Tg → Val → List Slot → Option (List Slot)
  | .n i, w, env => some (env.set i (.v w))
  | .t is, .d (.tuple xs), env => assignD is xs env
  | .t _, _, _ => none
def hide : List Slot → List Slot
  | [] => []
  | .own _ :: r => .no :: hide r
  | x :: r => x :: hide r
def wipe : List Slot → List Nat → List Slot
  | env, [] => env
  | env, v :: vs => (wipe env vs).set v .no
def enumD : Nat → List PyData → List PyData
  | _, [] => []
  | n, x :: r => .tuple [.int n, x] :: enumD (n + 1) r
def zipD : List PyData → List PyData → List PyData
  | x :: r, y :: s => .tuple [x, y] :: zipD r s
  | _, _ => []
def charsD (x : Str) : List PyData := x.cps.toList.map fun c => .str ⟨#[c]⟩
/-- the pairs of a dict comprehension, its keys texts and each new -/
def dictOf : List (PyData × PyData) → List PyData → Option (List (PyData × PyData))
  | kvs, [] => some kvs
  | kvs, .tuple [.str y, z] :: r => match dGet kvs y with
    | some _ => none
    | none => dictOf (kvs ++ [(.str y, z)]) r
  | _, _ => none
/-! ### the walks -/
/-- a comprehension's turns: none out of f: no answer; some none: the item is left out -/
def lcGo (f : PyData → Sto → Option (Option PyData × Sto)) : List PyData → Sto → Option (List PyData × Sto)
  | [], st => some ([], st)
  | x :: r, st => match f x st with
    | none => none
    | some (o, st1) => match lcGo f r st1 with
      | none => none
      | some (ys, st2) => some ((match o with | some y => y :: ys | none => ys), st2)
inductive Fl where
  | next (s : S)
  | ret (w : Val) (st : Sto)
  | cont (s : S)
  | brk (s : S)
def forGo (f : PyData → S → Option Fl) : List PyData → S → Option Fl
  | [], s => some (.next s)
  | x :: r, s => match f x s with
    | none => none
    | some (.next s1) => forGo f r s1
    | some (.cont s1) => forGo f r s1
    | some (.brk s1) => some (.next s1)
    | some (.ret w st) => some (.ret w st)
def whileGo (c : S → Option (Bool × S)) (f : S → Option Fl) : Nat → S → Option Fl
  | 0, _ => none
  | n + 1, s => match c s with
    | none => none
    | some (false, s1) => some (.next s1)
    | some (true, s1) => match f s1 with
      | none => none
      | some (.next s2) => whileGo c f n s2
      | some (.cont s2) => whileGo c f n s2
      | some (.brk s2) => some (.next s2)
      | some (.ret w st) => some (.ret w st)

section
variable (C : Calls)
mutual
def ev : E → S → Option (Val × S)
  | .var i, s => match s.env[i]? with
    | some (.v w) => some (w, s)
    | _ => none
  | .con d, s => some (.d d, s)
  | .tup es, s => match evs es s with
    | some (ws, s1) => match ws.mapM isD with
      | some xs => if xs.length ≤ 1000 ∧ noDicts xs = true then some (.d (.tuple xs), s1) else none
      | none => none
    | none => none
  | .lst es, s => match evs es s with
    | some (ws, s1) => match ws.mapM isD with
      | some xs => if xs.length ≤ 1000 ∧ noDicts xs = true then some (.d (.list xs), s1) else none
      | none => none
    | none => none
  | .bin o a b, s => match ev a s with
    | some (.d x, s1) => match ev b s1 with
      | some (.d y, s2) => (binD o x y).map fun z => (.d z, s2)
      | _ => none
    | _ => none
  | .neg a, s => match ev a s with
    | some (.d (.int i), s1) => some (.d (.int (-i)), s1)
    | _ => none
  | .cmp o a b, s => match ev a s with
    | some (.d x, s1) => match ev b s1 with
      | some (.d y, s2) => (cmpD o x y).map fun z => (.d (.bool z), s2)
      | _ => none
    | _ => none
  | .chain o p a b c, s => match ev a s with
    | some (.d x, s1) => match ev b s1 with
      | some (.d y, s2) => match cmpD o x y with
        | some true => match ev c s2 with
          | some (.d z, s3) => (cmpD p y z).map fun k => (.d (.bool k), s3)
          | _ => none
        | some false => some (.d (.bool false), s2)
        | none => none
      | _ => none
    | _ => none
  | .and a b, s => match ev a s with
    | some (.d (.bool true), s1) => match ev b s1 with
      | some (.d (.bool k), s2) => some (.d (.bool k), s2)
      | _ => none
    | some (.d (.bool false), s1) => some (.d (.bool false), s1)
    | _ => none
  | .or a b, s => match ev a s with
    | some (.d (.bool false), s1) => match ev b s1 with
      | some (.d (.bool k), s2) => some (.d (.bool k), s2)
      | _ => none
    | some (.d (.bool true), s1) => some (.d (.bool true), s1)
    | _ => none
  | .not a, s => match ev a s with
    | some (.d (.bool k), s1) => some (.d (.bool (!k)), s1)
    | _ => none
  | .ite c a b, s => match ev c s with
    | some (.d (.bool true), s1) => ev a s1
    | some (.d (.bool false), s1) => ev b s1
    | _ => none
  | .ix a b, s => match ev a s with
    | some (.d x, s1) => match ev b s1 with
      | some (.d y, s2) => (ixD x y).map fun z => (.d z, s2)
      | _ => none
    | some (.ref n, s1) => match ev b s1 with
      | some (.d y, s2) => match s2.sto[n]? with
        | some xs => (ixD (.list xs) y).map fun z => (.d z, s2)
        | none => none
      | _ => none
    | _ => none
  | .dget a b, s => match ev a s with
    | some (.d (.dict kvs), s1) => match ev b s1 with
      | some (.d (.str x), s2) => (dGet kvs x).map fun z => (.d z, s2)
      | _ => none
    | _ => none
  | .dIn n a b, s => match ev a s with
    | some (.d (.str x), s1) => match ev b s1 with
      | some (.d (.dict kvs), s2) => some (.d (.bool (if n then !(dGet kvs x).isSome else (dGet kvs x).isSome)), s2)
      | _ => none
    | _ => none
  | .sl a lo hi, s => match ev a s with
    | some (.d x, s1) => match ev lo s1 with
      | some (.d l, s2) => match ev hi s2 with
        | some (.d h, s3) => match (if isNoneC lo then some none else partI l), (if isNoneC hi then some none else partI h) with
          | some l1, some h1 => (slD x l1 h1).map fun z => (.d z, s3)
          | _, _ => none
        | _ => none
      | _ => none
    | _ => none
  | .rev a, s => match ev a s with
    | some (.d (.list xs), s1) => some (.d (.list xs.reverse), s1)
    | _ => none
  | .call f es, s => match evs es s with
    | some (ws, s1) => match C f ws s1.sto with
      | some (w, st) => some (w, ⟨s1.env, st⟩)
      | none => none
    | none => none
  | .blt f a, s => match ev a s with
    | some (w, s1) => (bltD f w).map fun z => (z, s1)
    | none => none
  | .isi a t, s => match ev a s with
    | some (.d x, s1) => some (.d (.bool (isTy t x)), s1)
    | _ => none
  | .isi2 a t u, s => match ev a s with
    | some (.d x, s1) => some (.d (.bool (isTy t x || isTy u x)), s1)
    | _ => none
  | .lc tg it c elt own, s => match evIt it s with
    | some (xs, s1) => match lcGo (fun x st => match assign tg (.d x) (wipe (hide s1.env) own) with
        | none => none
        | some env => match ev c ⟨env, st⟩ with
          | some (.d (.bool false), s2) => some (none, s2.sto)
          | some (.d (.bool true), s2) => match ev elt s2 with
            | some (.d y, s3) => if noDict y = true then some (some y, s3.sto) else none
            | _ => none
          | _ => none) xs s1.sto with
      | some (ys, st) => if ys.length ≤ 100000 then some (.d (.list ys), ⟨s1.env, st⟩) else none
      | none => none
    | none => none
  | .dc tg it k v own, s => match evIt it s with
    | some (xs, s1) => match lcGo (fun x st => match assign tg (.d x) (wipe (hide s1.env) own) with
        | none => none
        | some env => match ev k ⟨env, st⟩ with
          | some (.d y, s2) => match ev v s2 with
            | some (.d z, s3) => if noDict z = true then some (some (.tuple [y, z]), s3.sto) else none
            | _ => none
          | _ => none) xs s1.sto with
      | some (ys, st) => if ys.length ≤ 100000 then (dictOf [] ys).map fun kvs => (.d (.dict kvs), ⟨s1.env, st⟩) else none
      | none => none
    | none => none
  | .star a b, s => match ev a s with
    | some (.d (.tuple xs), s1) => match ev b s1 with
      | some (.d y, s2) => if xs.length ≤ 1000 ∧ noDict y = true then some (.d (.tuple (xs ++ [y])), s2) else none
      | _ => none
    | _ => none
  | .count a b, s => match ev a s with
    | some (.d (.list xs), s1) => match ev b s1 with
      | some (.d (.int k), s2) => (intsOf xs).map fun is => (.d (.int (is.count k)), s2)
      | _ => none
    | _ => none
  | .frz i, s => match s.env[i]? with
    | some (.own xs) => some (.d (.list xs), ⟨s.env.set i (.v (.d (.list xs))), s.sto⟩)
    | _ => none
  | .ownNe i, s => match s.env[i]? with
    | some (.own xs) => some (.d (.bool (!xs.isEmpty)), s)
    | _ => none
  | .ownIx i a, s => match s.env[i]? with
    | some (.own _) => match ev a s with
      | some (.d y, s1) => match s1.env[i]? with
        | some (.own xs) => (ixD (.list xs) y).map fun z => (.d z, s1)
        | _ => none
      | _ => none
    | _ => none
  | .ownTup i, s => match s.env[i]? with
    | some (.own xs) => some (.d (.tuple xs), s)
    | _ => none
  | .ownPop i, s => match s.env[i]? with
    | some (.own xs) => match xs.getLast? with
      | some x => some (.d x, ⟨s.env.set i (.own xs.dropLast), s.sto⟩)
      | none => none
    | _ => none
  | .orL a b, s => match ev a s with
    | some (.d (.list (x :: r)), s1) => some (.d (.list (x :: r)), s1)
    | some (.d (.list []), s1) => ev b s1
    | _ => none
  | .srt a, s => match ev a s with
    | some (.d (.list xs), s1) => (srtD xs).map fun ys => (.d (.list ys), s1)
    | _ => none
  | .box es, s => match evs es s with
    | some (ws, s1) => match ws.mapM isD with
      | some xs => if xs.length ≤ 1000 ∧ noDicts xs = true then some (.ref s1.sto.length, ⟨s1.env, s1.sto ++ [xs]⟩) else none
      | none => none
    | none => none
def evs : Es → S → Option (List Val × S)
  | .nil, s => some ([], s)
  | .cons e es, s => match ev e s with
    | some (w, s1) => match evs es s1 with
      | some (ws, s2) => some (w :: ws, s2)
      | none => none
    | none => none
def evIt : It → S → Option (List PyData × S)
  | .seq a, s => match ev a s with
    | some (.d x, s1) => (seqD x).map fun xs => (xs, s1)
    | _ => none
  | .rng a, s => match ev a s with
    | some (.d (.int i), s1) => if -1000 ≤ i ∧ i ≤ 1000 then some ((List.range i.toNat).map fun (k : Nat) => PyData.int (k : Int), s1) else none
    | _ => none
  | .enum a, s => match ev a s with
    | some (.d x, s1) => (seqD x).map fun xs => (enumD 0 xs, s1)
    | _ => none
  | .zip a b, s => match ev a s with
    | some (.d x, s1) => match ev b s1 with
      | some (.d y, s2) => match x, y with
        | .list xs, .list ys => some (zipD xs ys, s2)
        | .tuple xs, .tuple ys => some (zipD xs ys, s2)
        | _, _ => none
      | _ => none
    | _ => none
  | .chars a, s => match ev a s with
    | some (.d (.str x), s1) => some (charsD x, s1)
    | _ => none
end
mutual
def ex : St → S → Option Fl
  | .set tg a, s => match ev C a s with
    | some (w, s1) => (assign tg w s1.env).map fun env => .next ⟨env, s1.sto⟩
    | none => none
  | .par i j a b, s => match ev C a s with
    | some (w, s1) => match ev C b s1 with
      | some (u, s2) => some (.next ⟨(s2.env.set i (.v w)).set j (.v u), s2.sto⟩)
      | none => none
    | none => none
  | .own i a, s => match ev C a s with
    | some (.d (.list xs), s1) => some (.next ⟨s1.env.set i (.own xs), s1.sto⟩)
    | _ => none
  | .parOwn i j a b, s => match evs C a s with
    | some (ws, s1) => match evs C b s1 with
      | some (us, s2) => match ws.mapM isD, us.mapM isD with
        | some xs, some ys => if (xs.length ≤ 1000 ∧ ys.length ≤ 1000) ∧ noDicts xs = true ∧ noDicts ys = true then some (.next ⟨(s2.env.set i (.own xs)).set j (.own ys), s2.sto⟩) else none
        | _, _ => none
      | none => none
    | none => none
  | .ownApp i a, s => match s.env[i]? with
    | some (.own _) => match ev C a s with
      | some (.d x, s1) => match s1.env[i]? with
        | some (.own xs) => if xs.length < 100000 ∧ noDict x = true then some (.next ⟨s1.env.set i (.own (xs ++ [x])), s1.sto⟩) else none
        | _ => none
      | _ => none
    | _ => none
  | .ownExt i a, s => match s.env[i]? with
    | some (.own _) => match ev C a s with
      | some (.d (.list ys), s1) => match s1.env[i]? with
        | some (.own xs) => if xs.length + ys.length < 100000 then some (.next ⟨s1.env.set i (.own (xs ++ ys)), s1.sto⟩) else none
        | _ => none
      | _ => none
    | _ => none
  | .ownSet i a b, s => match ev C b s with
    | some (.d x, s1) => match s1.env[i]? with
      | some (.own _) => match ev C a s1 with
        | some (.d (.int k), s2) => match s2.env[i]? with
          | some (.own xs) => if (0 ≤ k ∧ k < xs.length) ∧ noDict x = true then some (.next ⟨s2.env.set i (.own (xs.set k.toNat x)), s2.sto⟩) else none
          | _ => none
        | _ => none
      | _ => none
    | _ => none
  | .refSet a b c, s => match ev C c s with
    | some (.d x, s1) => match ev C a s1 with
      | some (.ref n, s2) => match ev C b s2 with
        | some (.d (.int k), s3) => match s3.sto[n]? with
          | some xs => if (0 ≤ k ∧ k < xs.length) ∧ noDict x = true then some (.next ⟨s3.env, s3.sto.set n (xs.set k.toNat x)⟩) else none
          | none => none
        | _ => none
      | _ => none
    | _ => none
  | .expr a, s => match ev C a s with
    | some (_, s1) => some (.next s1)
    | none => none
  | .ite c t e, s => match ev C c s with
    | some (.d (.bool true), s1) => exs t s1
    | some (.d (.bool false), s1) => exs e s1
    | _ => none
  | .for tg it b, s => match evIt C it s with
    | some (xs, s1) => forGo (fun x s => match assign tg (.d x) s.env with
        | some env => exs b ⟨env, s.sto⟩
        | none => none) xs s1
    | none => none
  | .while c b, s => whileGo (fun s => match ev C c s with
        | some (.d (.bool k), s1) => some (k, s1)
        | _ => none) (exs b) 100000 s
  | .ret a, s => match ev C a s with
    | some (w, s1) => some (.ret w s1.sto)
    | none => none
  | .never, _ => none
  | .cont, s => some (.cont s)
  | .brk, s => some (.brk s)
def exs : Sts → S → Option Fl
  | .nil, s => some (.next s)
  | .cons a r, s => match ex a s with
    | some (.next s1) => exs r s1
    | some x => some x
    | none => none
end
end

/-- a def: its parameters, its slots, its body -/
structure Fn where
  ps : Nat
  n : Nat
  body : Sts
def runFn (C : Calls) (F : Fn) (ws : List Val) (st : Sto) : Option (Val × Sto) :=
  if ws.length = F.ps then
    match exs C F.body ⟨ws.map Slot.v ++ List.replicate (F.n - ws.length) .no, st⟩ with
    | some (.ret w st1) => some (w, st1)
    | some (.next s) => some (.d .none, s.sto)
    | _ => none
  else none
def callF (T : Nat → Option Fn) : Nat → Calls
  | 0, _, _, _ => none
  | k + 1, f, ws, st => match T f with
    | some F => runFn (callF T k) F ws st
    | none => none
end Ev
/-! What ties the evaluator's state to the abstract heap: F the frozen part, ρ where the store's lists stand, B what other defs hold and may change. -/
namespace Ev
open PySem L2

def Ex (F H : Hp) : Prop := ∀ a o, F a = some o → H a = some o
theorem Ex.refl (H : Hp) : Ex H H := fun _ _ h => h
theorem Ex.trans {F G H : Hp} (a : Ex F G) (b : Ex G H) : Ex F H := fun x o h => b x o (a x o h)
theorem Ex.free {F H : Hp} (e : Ex F H) {p : Addr} (h : H p = none) : F p = none := by
  cases q : F p with
  | none => rfl
  | some o => rw [e p o q] at h; cases h
theorem Ex.new {F : Hp} {p : Addr} {o : HO} (h : F p = none) : Ex F (upd F p o) := fun a u e => by
  rw [upd_ne (ne_of_none e h)]; exact e
theorem ex_rd {F G : Hp} {a : Addr} {u : HO} (e : Ex F G) (h : Rd F a u) : Rd G a u := by
  rcases h with h | ⟨o, h⟩
  · exact .inl (e a _ h)
  · exact .inr ⟨o, e a _ h⟩
section
variable {K : PySem.W.Frag} {F G : Hp}
theorem ex_l {a : Addr} {xs : List V} (e : Ex F G) (h : SqL K F a xs) : SqL K G a xs := h.elim (fun h => .inl (ex_rd e h)) .inr
theorem ex_t {a : Addr} {xs : List V} (e : Ex F G) (h : SqT K F a xs) : SqT K G a xs := h.elim (fun h => .inl (ex_rd e h)) .inr
mutual
theorem dp_ex (e : Ex F G) : ∀ {v : V} {d : PyData}, Dp K F v d → Dp K G v d
  | _, _, .non => .non
  | _, _, .bl b => .bl b
  | _, _, .int i => .int i
  | _, _, .str x => .str x
  | _, _, .lst h r => .lst (ex_l e h) (dps_ex e r)
  | _, _, .tup h r => .tup (ex_t e h) (dps_ex e r)
theorem dps_ex (e : Ex F G) : ∀ {vs : List V} {ds : List PyData}, DpAll K F vs ds → DpAll K G vs ds
  | _, _, .nil => .nil
  | _, _, .cons h r => .cons (dp_ex e h) (dps_ex e r)
end
theorem dps_len : ∀ {vs : List V} {ds : List PyData}, DpAll K F vs ds → vs.length = ds.length
  | _, _, .nil => rfl
  | _, _, .cons _ r => by rw [List.length_cons, List.length_cons, dps_len r]
theorem dps_get : ∀ {vs : List V} {ds : List PyData} {i : Nat} {v : V}, DpAll K F vs ds → vs[i]? = some v → ∃ d, ds[i]? = some d ∧ Dp K F v d
  | _, _, _, _, .nil, h => by simp at h
  | _, _, 0, _, .cons a _, h => by simp at h; subst h; exact ⟨_, rfl, a⟩
  | _, _, i + 1, _, .cons _ r, h => by
    obtain ⟨d, h1, h2⟩ := dps_get (i := i) r (by simpa using h)
    exact ⟨d, by simpa using h1, h2⟩
theorem dps_get' : ∀ {vs : List V} {ds : List PyData} {i : Nat} {d : PyData}, DpAll K F vs ds → ds[i]? = some d → ∃ v, vs[i]? = some v ∧ Dp K F v d
  | _, _, _, _, .nil, h => by simp at h
  | _, _, 0, _, .cons a _, h => by simp at h; subst h; exact ⟨_, rfl, a⟩
  | _, _, i + 1, _, .cons _ r, h => by
    obtain ⟨d, h1, h2⟩ := dps_get' (i := i) r (by simpa using h)
    exact ⟨d, by simpa using h1, h2⟩
theorem dps_app : ∀ {vs ws : List V} {ds es : List PyData}, DpAll K F vs ds → DpAll K F ws es → DpAll K F (vs ++ ws) (ds ++ es)
  | _, _, _, _, .nil, h => h
  | _, _, _, _, .cons a r, h => .cons a (dps_app r h)
theorem dps_drop : ∀ {vs : List V} {ds : List PyData} (n : Nat), DpAll K F vs ds → DpAll K F (vs.drop n) (ds.drop n)
  | _, _, 0, h => h
  | _, _, n + 1, .nil => .nil
  | _, _, n + 1, .cons _ r => dps_drop n r
theorem dps_take : ∀ {vs : List V} {ds : List PyData} (n : Nat), DpAll K F vs ds → DpAll K F (vs.take n) (ds.take n)
  | _, _, 0, _ => .nil
  | _, _, n + 1, .nil => .nil
  | _, _, n + 1, .cons a r => .cons a (dps_take n r)
theorem dps_rev : ∀ {vs : List V} {ds : List PyData}, DpAll K F vs ds → DpAll K F vs.reverse ds.reverse
  | _, _, .nil => .nil
  | _, _, .cons a r => by rw [List.reverse_cons, List.reverse_cons]; exact dps_app (dps_rev r) (.cons a .nil)
theorem dps_set : ∀ {vs : List V} {ds : List PyData} {v : V} {d : PyData} (n : Nat), DpAll K F vs ds → Dp K F v d → DpAll K F (vs.set n v) (ds.set n d)
  | _, _, _, _, _, .nil, _ => .nil
  | _, _, _, _, 0, .cons _ r, h => .cons h r
  | _, _, _, _, n + 1, .cons a r, h => .cons a (dps_set n r h)
theorem dps_dropLast : ∀ {vs : List V} {ds : List PyData}, DpAll K F vs ds → DpAll K F vs.dropLast ds.dropLast := by
  intro vs ds h
  rw [List.dropLast_eq_take, List.dropLast_eq_take, dps_len h]
  exact dps_take _ h
theorem dps_ints : ∀ {vs : List V} {ds : List PyData} {is : List Int}, DpAll K F vs ds → intsOf ds = some is → vs = is.map V.int
  | _, _, is, .nil, h => by simp [intsOf] at h; subst h; rfl
  | _, _, is, .cons (d := d) (ds := ds) a r, h => by
    cases a with
    | int i =>
      rw [intsOf] at h
      cases q : intsOf ds with
      | none => rw [q] at h; cases h
      | some js =>
        rw [q] at h
        have e : i :: js = is := Option.some.inj h
        rw [← e, dps_ints r q]; rfl
    | _ => simp [intsOf] at h
theorem dps_strs : ∀ {vs : List V} {ds : List PyData} {is : List Str}, DpAll K F vs ds → strsOf ds = some is → vs = is.map V.str
  | _, _, is, .nil, h => by simp [strsOf] at h; subst h; rfl
  | _, _, is, .cons (d := d) (ds := ds) a r, h => by
    cases a with
    | str i =>
      rw [strsOf] at h
      cases q : strsOf ds with
      | none => rw [q] at h; cases h
      | some js =>
        rw [q] at h
        have e : i :: js = is := Option.some.inj h
        rw [← e, dps_strs r q]; rfl
    | _ => simp [strsOf] at h
theorem dps_bools : ∀ {vs : List V} {ds : List PyData} {is : List Bool}, DpAll K F vs ds → boolsOf ds = some is → vs = is.map V.bl
  | _, _, is, .nil, h => by simp [boolsOf] at h; subst h; rfl
  | _, _, is, .cons (d := d) (ds := ds) a r, h => by
    cases a with
    | bl i =>
      rw [boolsOf] at h
      cases q : boolsOf ds with
      | none => rw [q] at h; cases h
      | some js =>
        rw [q] at h
        have e : i :: js = is := Option.some.inj h
        rw [← e, dps_bools r q]; rfl
    | _ => simp [boolsOf] at h
theorem ints_dps : ∀ is : List Int, DpAll K F (is.map V.int) (is.map PyData.int)
  | [] => .nil
  | i :: r => .cons (.int i) (ints_dps r)
theorem strs_dps : ∀ is : List Str, DpAll K F (is.map V.str) (is.map PyData.str)
  | [] => .nil
  | i :: r => .cons (.str i) (strs_dps r)
end

/-- a dict with text keys -/
def DictR (K : PySem.W.Frag) (F : Hp) : List (Key × V) → List (PyData × PyData) → Prop
  | [], [] => True
  | (k, v) :: r, (d, e) :: s => (∃ x, k = .inr x ∧ d = .str x) ∧ Dp K F v e ∧ DictR K F r s
  | _, _ => False
def RVal (K : PySem.W.Frag) (F : Hp) (ρ : List Addr) (v : V) : Val → Prop
  | .d (.dict kvs) => ∃ a ws, v = .ref a ∧ F a = some (.dK ws) ∧ DictR K F ws kvs
  | .d x => Dp K F v x
  | .ref n => ∃ a, v = .ref a ∧ ρ[n]? = some a
  | .set _ => False
def RSlot (K : PySem.W.Frag) (F : Hp) (ρ : List Addr) (H : Hp) : Option V → Slot → Prop
  | _, .no => True
  | some v, .v w => RVal K F ρ v w
  | some v, .own xs => ∃ a vs, v = .ref a ∧ F a = none ∧ a ∉ ρ ∧ H a = some (.lst vs) ∧ DpAll K F vs xs
  | none, .v _ => False
  | none, .own _ => False
structure Rel (K : PySem.W.Frag) (B F : Hp) (ρ : List Addr) (σ : L2.St) (H : Hp) (s : S) : Prop where
  fr : Ex F H
  len : s.env.length = σ.length
  env : ∀ (i : Nat) (sl : Slot), s.env[i]? = some sl → ∃ ov, σ[i]? = some ov ∧ RSlot K F ρ H ov sl
  inj : ∀ (i j : Nat) (xs ys : List PyData) (a : Addr), s.env[i]? = some (.own xs) → s.env[j]? = some (.own ys) → σ[i]? = some (some (.ref a)) → σ[j]? = some (some (.ref a)) → i = j
  slen : ρ.length = s.sto.length
  nd : ρ.Nodup
  sto : ∀ (n : Nat) (a : Addr) (xs : List PyData), ρ[n]? = some a → s.sto[n]? = some xs → F a = none ∧ ∃ vs, H a = some (.lst vs) ∧ DpAll K F vs xs
  bg : ∀ (a : Addr) (o : HO), B a = some o → H a = some o ∧ F a = none ∧ a ∉ ρ ∧ ∀ (i : Nat) (xs : List PyData), s.env[i]? = some (.own xs) → σ[i]? ≠ some (some (.ref a))

section
variable {K : PySem.W.Frag} {B F G H : Hp} {ρ ρ' : List Addr} {σ : L2.St} {s : S} {v : V} {w : Val}
theorem dictR_ex (e : Ex F G) : ∀ {ws : List (Key × V)} {kvs : List (PyData × PyData)}, DictR K F ws kvs → DictR K G ws kvs
  | [], [], _ => trivial
  | (k, v) :: r, (d, x) :: s, h => ⟨h.1, dp_ex e h.2.1, dictR_ex e h.2.2⟩
  | [], _ :: _, h => h.elim
  | _ :: _, [], h => h.elim
theorem rval_d {x : PyData} (h : Dp K F v x) : RVal K F ρ v (.d x) := by
  cases h with
  | non => exact .non
  | bl b => exact .bl b
  | int i => exact .int i
  | str x => exact .str x
  | lst h r => exact .lst h r
  | tup h r => exact .tup h r
theorem d_rval {x : PyData} (hx : noDict x = true) (h : RVal K F ρ v (.d x)) : Dp K F v x := by
  cases x with
  | dict kvs => cases hx
  | none => exact h
  | bool b => exact h
  | int i => exact h
  | str x => exact h
  | list xs => exact h
  | tuple xs => exact h
theorem pre_get {n : Nat} {a : Addr} (p : ρ <+: ρ') (h : ρ[n]? = some a) : ρ'[n]? = some a := by
  obtain ⟨t, rfl⟩ := p
  rw [List.getElem?_append_left (List.getElem?_eq_some_iff.mp h).1]; exact h
theorem rval_ex (e : Ex F G) (p : ρ <+: ρ') : ∀ {w : Val}, RVal K F ρ v w → RVal K G ρ' v w
  | .d (.dict kvs), ⟨a, ws, h1, h2, h3⟩ => ⟨a, ws, h1, e a _ h2, dictR_ex e h3⟩
  | .d .none, h => dp_ex e h
  | .d (.bool _), h => dp_ex e h
  | .d (.int _), h => dp_ex e h
  | .d (.str _), h => dp_ex e h
  | .d (.list _), h => dp_ex e h
  | .d (.tuple _), h => dp_ex e h
  | .ref n, ⟨a, h1, h2⟩ => ⟨a, h1, pre_get p h2⟩
  | .set _, h => h.elim
/-- a frozen object is laid -/
theorem Rel.new (R : Rel K B F ρ σ H s) {p : Addr} {o : HO} (hp : H p = none) : Rel K B (upd F p o) ρ σ (upd H p o) s := by
  have hF := R.fr.free hp
  have e : Ex F (upd F p o) := Ex.new hF
  have neB : ∀ a, (∃ u, H a = some u) → a ≠ p := fun a ⟨u, h⟩ q => by rw [q, hp] at h; cases h
  refine ⟨fun a u h => ?_, R.len, fun i sl h => ?_, R.inj, R.slen, R.nd, fun n a xs h1 h2 => ?_, fun a u h => ?_⟩
  · by_cases q : a = p
    · subst q; rw [upd_same] at h ⊢; exact h
    · rw [upd_ne q] at h ⊢; exact R.fr a u h
  · obtain ⟨ov, h1, h2⟩ := R.env i sl h
    refine ⟨ov, h1, ?_⟩
    cases sl with
    | no => cases ov <;> trivial
    | v w =>
      cases ov with
      | none => exact h2
      | some v => exact rval_ex e (List.prefix_refl _) h2
    | own xs =>
      cases ov with
      | none => exact h2
      | some v =>
        obtain ⟨a, vs, h3, h4, h5, h6, h7⟩ := h2
        have ne := neB a ⟨_, h6⟩
        exact ⟨a, vs, h3, by rw [upd_ne ne]; exact h4, h5, by rw [upd_ne ne]; exact h6, dps_ex e h7⟩
  · obtain ⟨h3, vs, h4, h5⟩ := R.sto n a xs h1 h2
    have ne := neB a ⟨_, h4⟩
    exact ⟨by rw [upd_ne ne]; exact h3, vs, by rw [upd_ne ne]; exact h4, dps_ex e h5⟩
  · obtain ⟨h1, h2, h3⟩ := R.bg a u h
    have ne := neB a ⟨_, h1⟩
    exact ⟨by rw [upd_ne ne]; exact h1, by rw [upd_ne ne]; exact h2, h3⟩
end
end Ev
/-! The evaluator's expressions and statements as readings of the hand layer. -/
namespace Ev
open PySem L2

section
variable (K : PySem.W.Frag)
/-! ### operators by values -/
def rAdd : R2 := fun x y H Q => (∃ i j, x = V.int i ∧ y = .int j ∧ Q (.int (i + j)) H) ∨ (∃ i j, x = V.str i ∧ y = .str j ∧ i.length + j.length ≤ sizeLine ∧ Q (.str (i ++ j)) H) ∨
  (∃ l b xs zs, x = V.ref l ∧ y = .ref b ∧ SqL K H l xs ∧ SqL K H b zs ∧ xs.length + zs.length ≤ sizeLine ∧ ∀ p, H p = none → Q (.ref p) (upd H p (.lst (xs ++ zs)))) ∨ rCatA K x y H Q
def rBin : BOp → R2
  | .add => rAdd K
  | .sub => rI0 fun i j => .int (i - j)
  | .mul => fun x y H Q => rI CMul (fun i j => .int (i * j)) x y H Q ∨ (∃ l k xs, x = V.ref l ∧ y = .int k ∧ SqL K H l xs ∧ 0 ≤ k ∧ k ≤ 1000 ∧ xs.length ≤ 100 ∧ ∀ p, H p = none → Q (.ref p) (upd H p (.lst (List.replicate k.toNat xs).flatten))) ∨
      (∃ l k xs, x = V.ref l ∧ y = .int k ∧ SqT K H l xs ∧ 0 ≤ k ∧ k ≤ 1000 ∧ xs.length ≤ 100 ∧ (k = 1 → Q (.ref l) H) ∧ (xs = [] → Q (.ref l) H) ∧ (xs ≠ [] → k ≠ 1 → ∀ p, H p = none → Q (.ref p) (upd H p (.tup (List.replicate k.toNat xs).flatten))))
  | .fdiv => rI CDiv fun i j => .int (i / j)
  | .mod => rI (fun _ j => 0 < j) fun i j => .int (i % j)
  | .pow => rI CPow fun i j => .int (i ^ j.toNat)
def rEq (neg : Bool) : R2 := fun x y H Q => ∃ d e, Dp K H x d ∧ Dp K H y e ∧ low d e = true ∧ Q (.bl (if neg then !PyData.eqv d e else PyData.eqv d e)) H
def rInD (neg : Bool) : R2 := fun x y H Q => (∃ d ys, Dp K H x d ∧ ((Dp K H y (.list ys) ∧ low d (.list ys) = true) ∨ (Dp K H y (.tuple ys) ∧ low d (.tuple ys) = true)) ∧ Q (.bl (if neg then !(ys.any fun z => PyData.eqv z d) else ys.any fun z => PyData.eqv z d)) H) ∨
  ∃ i j, x = V.str i ∧ y = .str j ∧ Q (.bl (if neg then !(!(Builtin.Str.occurrences j i 0 j.length 1).isEmpty) else !(Builtin.Str.occurrences j i 0 j.length 1).isEmpty)) H
def rCmp : COp → R2
  | .eq => rEq K false
  | .ne => rEq K true
  | .lt => fun x y H Q => rI0 (fun i j => .bl (decide (i < j))) x y H Q ∨ ∃ i j, x = V.str i ∧ y = .str j ∧ Q (.bl (decide (i.cps.toList < j.cps.toList))) H
  | .le => rI0 fun i j => .bl (decide (i ≤ j))
  | .gt => rI0 fun i j => .bl (decide (j < i))
  | .ge => rI0 fun i j => .bl (decide (j ≤ i))
  | .isIn => rInD K false
  | .notIn => rInD K true
  | .is => fun x y H Q => y = .non ∧ Q (.bl (decide (x = .non))) H
  | .isNot => fun x y H Q => y = .non ∧ Q (.bl (!decide (x = .non))) H
def rIx : R2 := fun x y H Q => rIxL K x y H Q ∨ rIxT K x y H Q
def rSl : V → Option Int → Option Int → Hp → VK → Prop := fun x lo hi H Q => rSlL K x lo hi H Q ∨ rSlA K x lo hi H Q
def tyName : Ty → String
  | .int => "int"
  | .bool => "bool"
  | .str => "str"
  | .tuple => "tuple"
  | .list => "list"
/-! ### built-in functions by values -/
def rBlt : BF → List V → Hp → VK → Prop
  | .len => fun xs H Q => (∃ p ys, xs = [V.ref p] ∧ (SqL K H p ys ∨ SqT K H p ys) ∧ Q (.int ys.length) H) ∨ ∃ z, xs = [V.str z] ∧ z.length ≤ sizeLine ∧ Q (.int z.length) H
  | .tuple => fun xs H Q => ∃ p ys, xs = [V.ref p] ∧ ((SqL K H p ys ∧ ∀ l, H l = none → Q (.ref l) (upd H l (.tup ys))) ∨ (SqT K H p ys ∧ Q (.ref p) H))
  | .list => fun xs H Q => ∃ p ys, xs = [V.ref p] ∧ (SqL K H p ys ∨ SqT K H p ys) ∧ ∀ l, H l = none → Q (.ref l) (upd H l (.lst ys))
  | .int => fun xs H Q => (∃ i, xs = [V.int i] ∧ Q (.int i) H) ∨ ∃ k, xs = [V.bl k] ∧ Q (.int (if k then 1 else 0)) H
  | .abs => fun xs H Q => ∃ i, xs = [V.int i] ∧ Q (.int (if i < 0 then -i else i)) H
  | .sum => rSum K
  | .max => rMax K
  | .min => rMin K
  | .all => rAll K
  | .any => rAny K
  | .sorted => fun xs H Q => rSortedI K xs H Q ∨ rSortedS K xs H Q
  | .set => fun _ _ _ => False

/-- a list or a tuple walked -/
def iSeq (tl : TE) : TI := fun σ H R => tl σ H fun x H1 => ∃ a, x = V.ref a ∧ (((∃ xs, SqL K H1 a xs) ∧ R (Itl K a) H1) ∨ ((∃ xs, SqT K H1 a xs) ∧ R (Itt K a) H1))
/-- the tuple at a as it stands at each turn, each item in a new pair -/
def IteT (a : Addr) : L2.It :=
  ⟨fun i H => ∃ (xs : List V) (x : V), SqT K H a xs ∧ xs[i]? = some x, fun i H v H' => ∃ T x, v = .ref T ∧ H T = none ∧ H' = upd H T (.tup [.int (i : Nat), x]) ∧ ∀ xs, SqT K H a xs → xs[i]? = some x, fun i H => ∃ xs : List V, SqT K H a xs ∧ xs.length ≤ i⟩
def iEnumA (ta : TA) : TI := fun σ H R => ta σ H fun vs H1 => ∃ a xs, vs = [V.ref a] ∧ ((SqL K H1 a xs ∧ R (Ite K a) H1) ∨ (SqT K H1 a xs ∧ R (IteT K a) H1))

/-- sorted(set(a)), a a list of fewer than 64 ints or texts -/
def tSrt (ta : TE) : TE := fun σ H Q => ta σ H fun x H1 => ∃ l, x = V.ref l ∧
  ((∃ ns : List Int, SqL K H1 l (ns.map V.int) ∧ ns.length < 64 ∧ ∀ ms : List Int, ms.Pairwise (· < ·) → (∀ k : Int, k ∈ ms ↔ k ∈ ns) → ∀ p, H1 p = none → Q (.ref p) (upd H1 p (.lst (ms.map V.int)))) ∨
   (∃ ns : List Str, SqL K H1 l (ns.map V.str) ∧ ns.length < 64 ∧ ∀ ms : List Str, ms.Pairwise (fun x y => x.cps.toList < y.cps.toList) → (∀ k : Str, k ∈ ms ↔ k ∈ ns) → ∀ p, H1 p = none → Q (.ref p) (upd H1 p (.lst (ms.map V.str)))))

variable (SP : Nat → Sp)
def gTgs : List Nat → TGs
  | [] => gNil
  | i :: r => gCons (gName i) (gTgs r)
def gTg : Tg → TG
  | .n i => gName i
  | .t is => gTup K is.length (gTgs is)
def isTrueC : E → Bool
  | .con (.bool true) => true
  | _ => false
def vOf : PyData → V
  | .bool b => .bl b
  | .int i => .int i
  | .str x => .str x
  | _ => .non
def mkO (e : E) (t : TE) : TO := if isNoneC e then tNoPart else tPart t
mutual
/-- as a value, in a test's place -/
def rd : E → TE × TT
  | .var i => let t := tVar i; (t, tB t)
  | .con d => let t := tC (vOf d); (t, tB t)
  | .tup es => let t := tTup (readA es); (t, tB t)
  | .lst es => let t := tLst (readA es); (t, tB t)
  | .bin o a b => let t := tOp (rBin K o) (rd a).1 (rd b).1; (t, tB t)
  | .neg a => let t := tUn (rU fun i => .int (-i)) (rd a).1; (t, tB t)
  | .cmp o a b => let t := tOp (rCmp K o) (rd a).1 (rd b).1; (t, tB t)
  | .chain o p a b c => let t := tChain (rCmp K o) (rCmp K p) (rd a).1 (rd b).1 (rd c).1; (t, tB t)
  | .and a b => (tAndV (rd a).1 (rd b).1, tAnd (rd a).2 (rd b).2)
  | .or a b => (tOrV (rd a).1 (rd b).1, tOr (rd a).2 (rd b).2)
  | .not a => (tNotV (rd a).1, tNot (rd a).2)
  | .ite c a b => let t := tIf (rd c).2 (rd a).1 (rd b).1; (t, tB t)
  | .ix a b => let t := tOp (rIx K) (rd a).1 (rd b).1; (t, tB t)
  | .dget a b => let t := tDGet (rd a).1 (rd b).1; (t, tB t)
  | .dIn n a b => let t := (if n then tDNotIn (rd a).1 (rd b).1 else tDIn (rd a).1 (rd b).1); (t, tB t)
  | .sl a lo hi => let t := tSl (rSl K) (rd a).1 (mkO lo (rd lo).1) (mkO hi (rd hi).1); (t, tB t)
  | .rev a => let t := tRevL K (rd a).1; (t, tB t)
  | .call f es => let t := tCall (SP f) [] E0 (readA es); (t, tB t)
  | .blt f a => let t := tCB (rBlt K f) (tCons (rd a).1 tNil); (t, tB t)
  | .isi a u => let t := tCB (rIsi K) (tCons (rd a).1 (tCons (tC (.ty (tyName u))) tNil)); (t, tB t)
  | .isi2 a u v => let t := tCB (rIsiT K) (tCons (rd a).1 (tCons (tTup (tCons (tC (.ty (tyName u))) (tCons (tC (.ty (tyName v))) tNil))) tNil)); (t, tB t)
  | .lc tg it c elt own => let t := tLc (readI it) (gTg K tg) (if isTrueC c then tYes else (rd c).2) (rd elt).1 own; (t, tB t)
  | .dc tg it k v own => let t := tDc (readI it) (gTg K tg) tYes (rd k).1 (rd v).1 own; (t, tB t)
  | .star a b => let t := tTup (StX.tStar K (rd a).1 (tCons (rd b).1 tNil)); (t, tB t)
  | .count a b => let t := tBM K "list" (rCntI K) (rd a).1 (tCons (rd b).1 tNil); (t, tB t)
  | .frz i => let t := tVar i; (t, tB t)
  | .ownNe i => let t := tOp (rEq K true) (tVar i) (tLst tNil); (t, tB t)
  | .ownIx i a => let t := tOp (rIx K) (tVar i) (rd a).1; (t, tB t)
  | .ownTup i => let t := tCB (rBlt K .tuple) (tCons (tVar i) tNil); (t, tB t)
  | .ownPop i => let t := tBM0 K "list" rPop (tVar i); (t, tB t)
  | .orL a b => let t := tOrT K (rd a).1 (rd b).1; (t, tB t)
  | .srt a => let t := tSrt K (rd a).1; (t, tB t)
  | .box es => let t := tLst (readA es); (t, tB t)
def readA : Es → TA
  | .nil => tNil
  | .cons e es => tCons (rd e).1 (readA es)
def readI : It → TI
  | .seq a => iSeq K (rd a).1
  | .rng a => iRng1 (tCons (rd a).1 tNil)
  | .enum a => iEnumA K (tCons (rd a).1 tNil)
  | .zip a b => RZ.iZipA K (tCons (rd a).1 (tCons (rd b).1 tNil))
  | .chars a => iStr (rd a).1
end
abbrev read (e : E) : TE := (rd K SP e).1
abbrev readT (e : E) : TT := (rd K SP e).2
mutual
def rds : St → TS
  | .set tg a => tAsg (read K SP a) (gTg K tg)
  | .par i j a b => tPar i j (tCons (read K SP a) (tCons (read K SP b) tNil))
  | .own i a => tAsg (read K SP a) (gName i)
  | .parOwn i j a b => tPar i j (tCons (tLst (readA K SP a)) (tCons (tLst (readA K SP b)) tNil))
  | .ownApp i a => tDrop (tBM K "list" rAppend (tVar i) (tCons (read K SP a) tNil))
  | .ownExt i a => tDrop (tBM K "list" rExtend (tVar i) (tCons (read K SP a) tNil))
  | .ownSet i a b => tAsg (read K SP b) (gSub (tVar i) (read K SP a) rSetL)
  | .refSet a b c => tAsg (read K SP c) (gSub (read K SP a) (read K SP b) rSetL)
  | .expr a => tDrop (read K SP a)
  | .ite c t e => tIfS (readT K SP c) (rdss t) (rdss e)
  | .for tg it b => tFor (readI K SP it) (gTg K tg) (rdss b)
  | .while c b => tWhile (readT K SP c) (rdss b)
  | .ret a => tRet (read K SP a)
  | .never => tNever
  | .cont => tCont
  | .brk => tBreak
def rdss : Sts → TS
  | .nil => tNext
  | .cons a r => tSeq (rds a) (rdss r)
end
end
example (K : PySem.W.Frag) (SP : Nat → Sp) (a b : E) : read K SP (.bin .add a b) = tOp (rBin K .add) (read K SP a) (read K SP b) := rfl
example (K : PySem.W.Frag) (SP : Nat → Sp) (a b : E) : readT K SP (.and a b) = tAnd (readT K SP a) (readT K SP b) := rfl
example (K : PySem.W.Frag) (SP : Nat → Sp) (a : E) : rds K SP (.ret a) = tRet (read K SP a) := rfl
end Ev
/-! Frames within frames: what the evaluator's state says of a callee's, of a comprehension's. -/
namespace Ev
open PySem L2
section
variable {K : PySem.W.Frag} {B B' F F' G H H' : Hp} {ρ ρ' : List Addr} {σ σ' : L2.St} {s : S} {env' : List Slot} {sto' : Sto} {v : V} {w : Val} {a : Addr} {o : HO}
/-- a stands in a slot of one's own -/
def Owns (σ : L2.St) (env : List Slot) (a : Addr) : Prop := ∃ (i : Nat) (xs : List PyData), env[i]? = some (.own xs) ∧ σ[i]? = some (some (.ref a))
theorem Rel.owned (R : Rel K B F ρ σ H s) (h : Owns σ s.env a) : F a = none ∧ a ∉ ρ ∧ ∃ vs, H a = some (.lst vs) := by
  obtain ⟨i, xs, h1, h2⟩ := h
  obtain ⟨ov, h3, h4⟩ := R.env i _ h1
  rw [h2] at h3
  cases h3
  obtain ⟨b, vs, e, h5, h6, h7, _⟩ := h4
  cases e
  exact ⟨h5, h6, vs, h7⟩
/-- what others hold, one's own lists among it -/
noncomputable def Bown (B : Hp) (σ : L2.St) (env : List Slot) (H : Hp) : Hp := open Classical in fun a => if Owns σ env a then H a else B a
theorem bown_own (h : Owns σ s.env a) : Bown B σ s.env H a = H a := if_pos h
theorem bown_not (h : ¬ Owns σ s.env a) : Bown B σ s.env H a = B a := if_neg h
theorem Rel.bown (R : Rel K B F ρ σ H s) : ∀ (a : Addr) (o : HO), Bown B σ s.env H a = some o → H a = some o ∧ F a = none ∧ a ∉ ρ := fun a o h => by
  by_cases q : Owns σ s.env a
  · rw [bown_own q] at h
    obtain ⟨h1, h2, _⟩ := R.owned q
    exact ⟨h, h1, h2⟩
  · rw [bown_not q] at h
    obtain ⟨h1, h2, h3, _⟩ := R.bg a o h
    exact ⟨h1, h2, h3⟩
/-- a frame within: its slots are some of these, none of them one's own -/
theorem Rel.sub (R : Rel K B F ρ σ H s) (hl : env'.length = σ'.length) (he : ∀ (i : Nat) (sl : Slot), env'[i]? = some sl → sl = .no ∨ ∃ w ov, sl = .v w ∧ σ'[i]? = some ov ∧ RSlot K F ρ H ov (.v w)) :
    Rel K (Bown B σ s.env H) F ρ σ' H ⟨env', s.sto⟩ := by
  have nown : ∀ (i : Nat) (xs : List PyData), env'[i]? ≠ some (.own xs) := fun i xs h => by
    rcases he i _ h with e | ⟨w, ov, e, _⟩ <;> cases e
  refine ⟨R.fr, hl, fun i sl h => ?_, fun i j xs ys a h => absurd h (nown i xs), R.slen, R.nd, R.sto, fun a o h => ?_⟩
  · rcases he i sl h with e | ⟨w, ov, e, h1, h2⟩
    · subst e
      have hi : i < σ'.length := by rw [← hl]; exact (List.getElem?_eq_some_iff.mp h).1
      refine ⟨σ'[i], List.getElem?_eq_getElem hi, ?_⟩
      cases σ'[i] <;> trivial
    · subst e; exact ⟨ov, h1, h2⟩
  · obtain ⟨h1, h2, h3⟩ := R.bown a o h
    exact ⟨h1, h2, h3, fun i xs q => absurd q (nown i xs)⟩
/-- behind it -/
theorem Rel.back {s' : S} (R : Rel K B F ρ σ H s) (R' : Rel K (Bown B σ s.env H) F' ρ' σ' H' s') (e : Ex F F') (p : ρ <+: ρ') : Rel K B F' ρ' σ H' ⟨s.env, s'.sto⟩ := by
  refine ⟨R'.fr, R.len, fun i sl h => ?_, R.inj, R'.slen, R'.nd, R'.sto, fun a o h => ?_⟩
  · obtain ⟨ov, h1, h2⟩ := R.env i sl h
    refine ⟨ov, h1, ?_⟩
    cases sl with
    | no => cases ov <;> trivial
    | v w =>
      cases ov with
      | none => exact h2
      | some v => exact rval_ex e p h2
    | own xs =>
      cases ov with
      | none => exact h2
      | some v =>
        obtain ⟨a, vs, rfl, h4, h5, h6, h7⟩ := h2
        have q : Owns σ s.env a := ⟨i, xs, h, h1⟩
        obtain ⟨g1, g2, g3, _⟩ := R'.bg a (.lst vs) (by rw [bown_own q]; exact h6)
        exact ⟨a, vs, rfl, g2, g3, g1, dps_ex e h7⟩
  · by_cases q : Owns σ s.env a
    · obtain ⟨i, xs, q1, q2⟩ := q
      exact absurd q2 ((R.bg a o h).2.2.2 i xs q1)
    · obtain ⟨g1, g2, g3, _⟩ := R'.bg a o (by rw [bown_not q]; exact h)
      exact ⟨g1, g2, g3, (R.bg a o h).2.2.2⟩
theorem Rel.monoB (R : Rel K B F ρ σ H s) (h : ∀ a o, B' a = some o → B a = some o) : Rel K B' F ρ σ H s :=
  ⟨R.fr, R.len, R.env, R.inj, R.slen, R.nd, R.sto, fun a o q => R.bg a o (h a o q)⟩
/-- one more object that others hold -/
theorem Rel.addB (R : Rel K B F ρ σ H s) (h : H a = some o) (hF : F a = none) (hρ : a ∉ ρ) (ho : ¬ Owns σ s.env a) : Rel K (upd B a o) F ρ σ H s :=
  ⟨R.fr, R.len, R.env, R.inj, R.slen, R.nd, R.sto, fun b u q => by
    by_cases e : b = a
    · subst e
      rw [upd_same] at q
      cases q
      exact ⟨h, hF, hρ, fun i xs q1 q2 => ho ⟨i, xs, q1, q2⟩⟩
    · rw [upd_ne e] at q
      exact R.bg b u q⟩
/-- an object that no one here knows is changed -/
theorem Rel.chg {u : HO} (R : Rel K B F ρ σ H s) (hF : F a = none) (hρ : a ∉ ρ) (ho : ¬ Owns σ s.env a) (hB : B a = none) : Rel K B F ρ σ (upd H a u) s := by
  refine ⟨fun b x q => ?_, R.len, fun i sl q => ?_, R.inj, R.slen, R.nd, fun n b xs h1 h2 => ?_, fun b x q => ?_⟩
  · rw [upd_ne (ne_of_none q hF)]; exact R.fr b x q
  · obtain ⟨ov, h1, h2⟩ := R.env i sl q
    refine ⟨ov, h1, ?_⟩
    cases sl with
    | no => cases ov <;> trivial
    | v w => cases ov <;> exact h2
    | own xs =>
      cases ov with
      | none => exact h2
      | some v =>
        obtain ⟨b, vs, rfl, h4, h5, h6, h7⟩ := h2
        have ne : b ≠ a := fun e => ho ⟨i, xs, q, by rw [h1, e]⟩
        exact ⟨b, vs, rfl, h4, h5, by rw [upd_ne ne]; exact h6, h7⟩
  · obtain ⟨h3, vs, h4, h5⟩ := R.sto n b xs h1 h2
    have ne : b ≠ a := fun e => hρ (by rw [← e]; exact List.mem_of_getElem? h1)
    exact ⟨h3, vs, by rw [upd_ne ne]; exact h4, h5⟩
  · obtain ⟨h1, h2⟩ := R.bg b x q
    rw [upd_ne (ne_of_none q hB)]
    exact ⟨h1, h2⟩
/-- an object that no one here knows is frozen -/
theorem Rel.freeze (R : Rel K B F ρ σ H s) (h : H a = some o) (hF : F a = none) (hρ : a ∉ ρ) (ho : ¬ Owns σ s.env a) (hB : B a = none) : Rel K B (upd F a o) ρ σ H s := by
  have e : Ex F (upd F a o) := Ex.new hF
  refine ⟨fun b x q => ?_, R.len, fun i sl q => ?_, R.inj, R.slen, R.nd, fun n b xs h1 h2 => ?_, fun b x q => ?_⟩
  · by_cases z : b = a
    · subst z; rw [upd_same] at q; cases q; exact h
    · rw [upd_ne z] at q; exact R.fr b x q
  · obtain ⟨ov, h1, h2⟩ := R.env i sl q
    refine ⟨ov, h1, ?_⟩
    cases sl with
    | no => cases ov <;> trivial
    | v w =>
      cases ov with
      | none => exact h2
      | some v => exact rval_ex e (List.prefix_refl _) h2
    | own xs =>
      cases ov with
      | none => exact h2
      | some v =>
        obtain ⟨b, vs, rfl, h4, h5, h6, h7⟩ := h2
        have ne : b ≠ a := fun e => ho ⟨i, xs, q, by rw [h1, e]⟩
        exact ⟨b, vs, rfl, by rw [upd_ne ne]; exact h4, h5, h6, dps_ex e h7⟩
  · obtain ⟨h3, vs, h4, h5⟩ := R.sto n b xs h1 h2
    have ne : b ≠ a := fun e => hρ (by rw [← e]; exact List.mem_of_getElem? h1)
    exact ⟨by rw [upd_ne ne]; exact h3, vs, h4, dps_ex e h5⟩
  · obtain ⟨h1, h2, h3⟩ := R.bg b x q
    have ne : b ≠ a := ne_of_none q hB
    exact ⟨h1, by rw [upd_ne ne]; exact h2, h3⟩
/-- a new object that is not frozen -/
theorem Rel.lay (R : Rel K B F ρ σ H s) (hp : H a = none) : Rel K B F ρ σ (upd H a o) s ∧ F a = none ∧ a ∉ ρ ∧ ¬ Owns σ s.env a ∧ B a = none := by
  have hF := R.fr.free hp
  have hρ : a ∉ ρ := fun m => by
    obtain ⟨n, h2⟩ := List.getElem?_of_mem m
    have hn : n < s.sto.length := by rw [← R.slen]; exact (List.getElem?_eq_some_iff.mp h2).1
    obtain ⟨_, vs, h4, _⟩ := R.sto n a _ h2 (List.getElem?_eq_getElem hn)
    rw [hp] at h4; cases h4
  have ho : ¬ Owns σ s.env a := fun q => by
    obtain ⟨_, _, vs, h⟩ := R.owned q
    rw [hp] at h; cases h
  have hB : B a = none := by
    cases q : B a with
    | none => rfl
    | some u => rw [(R.bg a u q).1] at hp; cases hp
  exact ⟨R.chg hF hρ ho hB, hF, hρ, ho, hB⟩
/-- a value is stored in a slot -/
theorem Rel.setv (R : Rel K B F ρ σ H s) (i : Nat) (h : RVal K F ρ v w) : Rel K B F ρ (σ.set i (some v)) H ⟨s.env.set i (.v w), s.sto⟩ := by
  refine ⟨R.fr, by simpa using R.len, fun j sl q => ?_, fun j k xs ys a h1 h2 h3 h4 => ?_, R.slen, R.nd, R.sto, fun a o q => ?_⟩
  · by_cases e : i = j
    · subst e
      have hi : i < s.env.length := by
        have := (List.getElem?_eq_some_iff.mp q).1
        simpa using this
      rw [List.getElem?_set_self hi] at q
      cases q
      exact ⟨some v, by rw [List.getElem?_set_self (by rw [← R.len]; exact hi)], h⟩
    · rw [List.getElem?_set_ne e] at q
      rw [List.getElem?_set_ne e]
      exact R.env j sl q
  · have n1 : i ≠ j := fun e => by
      subst e
      by_cases hi : i < s.env.length
      · rw [List.getElem?_set_self hi] at h1; cases h1
      · rw [List.getElem?_eq_none (by simpa using hi)] at h1; cases h1
    have n2 : i ≠ k := fun e => by
      subst e
      by_cases hi : i < s.env.length
      · rw [List.getElem?_set_self hi] at h2; cases h2
      · rw [List.getElem?_eq_none (by simpa using hi)] at h2; cases h2
    rw [List.getElem?_set_ne n1] at h1 h3
    rw [List.getElem?_set_ne n2] at h2 h4
    exact R.inj j k xs ys a h1 h2 h3 h4
  · obtain ⟨h1, h2, h3, h4⟩ := R.bg a o q
    refine ⟨h1, h2, h3, fun j xs q1 q2 => ?_⟩
    have n1 : i ≠ j := fun e => by
      subst e
      by_cases hi : i < s.env.length
      · rw [List.getElem?_set_self hi] at q1; cases q1
      · rw [List.getElem?_eq_none (by simpa using hi)] at q1; cases q1
    rw [List.getElem?_set_ne n1] at q1 q2
    exact h4 j xs q1 q2
end
end Ev
set_option maxHeartbeats 1000000
/-! The readings' values, node by node. -/
namespace Ev
open PySem L2
theorem line_le {n : Nat} (h : n ≤ 100000) : n ≤ sizeLine := Nat.le_trans h (by decide)
theorem line_lt {n : Nat} (h : n < 100000) : n < sizeLine := Nat.lt_of_lt_of_le h (by decide)
section
variable {K : PySem.W.Frag}
def RVals (K : PySem.W.Frag) (F : Hp) (ρ : List Addr) : List V → List Val → Prop
  | [], [] => True
  | v :: vs, w :: ws => RVal K F ρ v w ∧ RVals K F ρ vs ws
  | _, _ => False
theorem rvals_ex {F G : Hp} {ρ ρ' : List Addr} (e : Ex F G) (p : ρ <+: ρ') : ∀ {vs : List V} {ws : List Val}, RVals K F ρ vs ws → RVals K G ρ' vs ws
  | [], [], _ => trivial
  | _ :: _, _ :: _, h => ⟨rval_ex e p h.1, rvals_ex e p h.2⟩
  | [], _ :: _, h => h.elim
  | _ :: _, [], h => h.elim
theorem rvals_len {F : Hp} {ρ : List Addr} : ∀ {vs : List V} {ws : List Val}, RVals K F ρ vs ws → vs.length = ws.length
  | [], [], _ => rfl
  | _ :: _, _ :: _, h => by rw [List.length_cons, List.length_cons, rvals_len h.2]
  | [], _ :: _, h => h.elim
  | _ :: _, [], h => h.elim
theorem isD_some {w : Val} {x : PyData} (h : isD w = some x) : w = .d x := by
  cases w with
  | d y => exact congrArg Val.d (Option.some.inj h)
  | ref n => cases h
  | set xs => cases h
theorem rvals_dps {F : Hp} {ρ : List Addr} : ∀ {vs : List V} {ws : List Val} {xs : List PyData}, RVals K F ρ vs ws → ws.mapM isD = some xs → noDicts xs = true → DpAll K F vs xs
  | [], [], xs, _, h, _ => by simp at h; subst h; exact .nil
  | v :: vs, w :: ws, xs, r, h, hn => by
    rw [List.mapM_cons] at h
    cases e : isD w with
    | none => rw [e] at h; cases h
    | some x =>
      rw [e] at h
      cases e2 : ws.mapM isD with
      | none => rw [e2] at h; cases h
      | some ys =>
        rw [e2] at h
        have e3 : x :: ys = xs := Option.some.inj h
        subst e3
        have e4 := isD_some e
        subst e4
        rw [noDicts, Bool.and_eq_true] at hn
        exact .cons (d_rval hn.1 r.1) (rvals_dps r.2 e2 hn.2)
  | [], _ :: _, _, h, _, _ => h.elim
  | _ :: _, [], _, h, _, _ => h.elim

variable (K) (C : Calls)
/-- what a def is worth -/
def spOf (f : Nat) : Sp := fun vs H Q _ => ∃ (B F : Hp) (ρ : List Addr) (sto : Sto) (ws : List Val) (w : Val) (sto' : Sto), Rel K B F ρ [] H ⟨[], sto⟩ ∧ RVals K F ρ vs ws ∧ C f ws sto = some (w, sto') ∧
  ∀ (v : V) (H' F' : Hp) (ρ' : List Addr), Ex F F' → ρ <+: ρ' → Rel K B F' ρ' [] H' ⟨[], sto'⟩ → RVal K F' ρ' v w → Q v H'
/-- what is asked behind an expression -/
def Pst (B F : Hp) (ρ : List Addr) (σ : L2.St) (s1 : S) (P : Hp → Hp → List Addr → Prop) : Prop :=
  ∀ (H' F' : Hp) (ρ' : List Addr), Ex F F' → ρ <+: ρ' → Rel K B F' ρ' σ H' s1 → P H' F' ρ'
structure G (e : E) : Prop where
  val : ∀ {B F H : Hp} {ρ : List Addr} {σ : L2.St} {s s1 : S} {w : Val} {Q : VK}, Rel K B F ρ σ H s → ev C e s = some (w, s1) →
    Pst K B F ρ σ s1 (fun H' F' ρ' => ∀ v, RVal K F' ρ' v w → Q v H') → read K (spOf K C) e σ H Q
  tst : ∀ {B F H : Hp} {ρ : List Addr} {σ : L2.St} {s s1 : S} {k : Bool} {Q : Bool → Hp → Prop}, Rel K B F ρ σ H s → ev C e s = some (.d (.bool k), s1) →
    Pst K B F ρ σ s1 (fun H' _ _ => Q k H') → readT K (spOf K C) e σ H Q
/-- a new list, not yet frozen -/
structure GFr (e : E) : Prop where
  val : ∀ {B F H : Hp} {ρ : List Addr} {σ : L2.St} {s s1 : S} {w : Val} {Q : VK}, Rel K B F ρ σ H s → ev C e s = some (w, s1) →
    (∀ (H' F' : Hp) (ρ' : List Addr) (p : Addr) (vs : List V) (xs : List PyData), w = .d (.list xs) → Ex F F' → ρ <+: ρ' → Rel K B F' ρ' σ H' s1 → H' p = some (.lst vs) → F' p = none → p ∉ ρ' → ¬ Owns σ s1.env p → B p = none → DpAll K F' vs xs → Q (.ref p) H') →
    read K (spOf K C) e σ H Q
structure GA (es : Es) : Prop where
  val : ∀ {B F H : Hp} {ρ : List Addr} {σ : L2.St} {s s1 : S} {ws : List Val} {Q : List V → Hp → Prop}, Rel K B F ρ σ H s → evs C es s = some (ws, s1) →
    Pst K B F ρ σ s1 (fun H' F' ρ' => ∀ vs, RVals K F' ρ' vs ws → Q vs H') → readA K (spOf K C) es σ H Q
/-- what is walked yields these data, one a turn, in this heap and in any that keeps what is frozen -/
def Yl (F : Hp) (J : L2.It) (xs : List PyData) : Prop := ∀ (F' H' : Hp), Ex F F' → Ex F' H' → J.stop xs.length H' ∧ ∀ (i : Nat) (x : PyData), xs[i]? = some x → J.go i H' ∧
  ∀ (v : V) (H2 : Hp), J.yld i H' v H2 → (H2 = H' ∧ Dp K F' v x) ∨ ∃ (T : Addr) (o : HO), H' T = none ∧ H2 = upd H' T o ∧ Dp K (upd F' T o) v x
structure GI (it : It) : Prop where
  val : ∀ {B F H : Hp} {ρ : List Addr} {σ : L2.St} {s s1 : S} {xs : List PyData} {R : L2.It → Hp → Prop}, Rel K B F ρ σ H s → evIt C it s = some (xs, s1) →
    Pst K B F ρ σ s1 (fun H' F' ρ' => ∀ J, Yl K F' J xs → R J H') → readI K (spOf K C) it σ H R
variable {K C}
theorem Pst.now {B F H : Hp} {ρ : List Addr} {σ : L2.St} {s : S} {P : Hp → Hp → List Addr → Prop} (h : Pst K B F ρ σ s P) (R : Rel K B F ρ σ H s) : P H F ρ := h H F ρ (Ex.refl F) (List.prefix_refl _) R
theorem Pst.on {B F F1 : Hp} {ρ ρ1 : List Addr} {σ : L2.St} {s : S} {P : Hp → Hp → List Addr → Prop} (h : Pst K B F ρ σ s P) (e : Ex F F1) (p : ρ <+: ρ1) : Pst K B F1 ρ1 σ s P :=
  fun H' F' ρ' e' p' R => h H' F' ρ' (e.trans e') (p.trans p') R
/-- a value that is a new frozen object -/
theorem Pst.new {B F H : Hp} {ρ : List Addr} {σ : L2.St} {s : S} {Q : VK} {w : Val} (h : Pst K B F ρ σ s (fun H' F' ρ' => ∀ v, RVal K F' ρ' v w → Q v H')) (R : Rel K B F ρ σ H s) {o : HO} {p : Addr} (hp : H p = none)
    (hv : RVal K (upd F p o) ρ (.ref p) w) : Q (.ref p) (upd H p o) := h _ _ _ (Ex.new (R.fr.free hp)) (List.prefix_refl _) (R.new hp) _ hv

/-- as a test, where the test is the value -/
theorem tst_of {e : E} (hb : readT K (spOf K C) e = tB (read K (spOf K C) e))
    (val : ∀ {B F H : Hp} {ρ : List Addr} {σ : L2.St} {s s1 : S} {w : Val} {Q : VK}, Rel K B F ρ σ H s → ev C e s = some (w, s1) → Pst K B F ρ σ s1 (fun H' F' ρ' => ∀ v, RVal K F' ρ' v w → Q v H') → read K (spOf K C) e σ H Q) : G K C e where
  val := val
  tst := by
    intro B F H ρ σ s s1 k Q R h q
    rw [hb]
    refine val R h fun H' F' ρ' e p R' v r => ?_
    cases (show Dp K F' v (.bool k) from r)
    exact ⟨k, rfl, q H' F' ρ' e p R'⟩

theorem g_fr {e : E} (hb : readT K (spOf K C) e = tB (read K (spOf K C) e)) (h : GFr K C e) : G K C e := tst_of hb fun {B F H ρ σ s s1 w Q} R e q =>
  h.val R e fun H' F' ρ' p vs xs hw x p' R' hp hF hρ ho hB d => by
    subst hw
    exact q H' _ ρ' (x.trans (Ex.new hF)) p' (R'.freeze hp hF hρ ho hB) _ (show Dp K _ _ (.list _) from .lst (.inl (.inl upd_same)) (dps_ex (Ex.new hF) d))
theorem g_var {i : Nat} : G K C (.var i) := tst_of rfl fun {B F H ρ σ s s1 w Q} R h q => by
  rw [ev] at h
  split at h
  · rename_i w' e
    cases h
    obtain ⟨ov, h1, h2⟩ := R.env i _ e
    cases ov with
    | none => exact h2.elim
    | some v => exact ⟨v, h1, q.now R v h2⟩
  · cases h
/-- a scalar -/
def scalD : PyData → Bool
  | .none => true
  | .bool _ => true
  | .int _ => true
  | .str _ => true
  | _ => false
theorem g_con {d : PyData} (hd : scalD d = true) : G K C (.con d) := tst_of rfl fun {B F H ρ σ s s1 w Q} R h q => by
  rw [ev] at h
  cases h
  refine q.now R _ ?_
  cases d with
  | none => exact Dp.non
  | bool b => exact Dp.bl b
  | int i => exact Dp.int i
  | str x => exact Dp.str x
  | _ => cases hd
theorem ga_nil : GA K C .nil where
  val := by
    intro B F H ρ σ s s1 ws Q R h q
    rw [evs] at h
    cases h
    exact q.now R [] trivial
theorem ga_cons {e : E} {es : Es} (he : G K C e) (hs : GA K C es) : GA K C (.cons e es) where
  val := by
    intro B F H ρ σ s s1 ws Q R h q
    rw [evs] at h
    split at h
    · rename_i w s2 e1
      split at h
      · rename_i ws' s3 e2
        cases h
        refine he.val R e1 fun H1 F1 ρ1 x1 p1 R1 v r => ?_
        refine hs.val R1 e2 fun H2 F2 ρ2 x2 p2 R2 vs rs => ?_
        exact q H2 F2 ρ2 (x1.trans x2) (p1.trans p2) R2 (v :: vs) ⟨rval_ex x2 p2 r, rs⟩
      · cases h
    · cases h
end
end Ev
set_option maxHeartbeats 1000000
/-! Operators on data. -/
namespace Ev
open PySem L2
section
variable {K : PySem.W.Frag} {C : Calls} {B F H : Hp} {ρ : List Addr} {σ : L2.St} {s : S} {Q : VK} {vx vy : V}
theorem dp_plain : ∀ {v : V} {d : PyData}, Dp K F v d → noDict d = true
  | _, _, .non => rfl
  | _, _, .bl b => rfl
  | _, _, .int i => rfl
  | _, _, .str x => rfl
  | _, _, .lst h r => rfl
  | _, _, .tup h r => rfl
theorem dps_rep : ∀ (n : Nat) {G : Hp} {us : List V} {es : List PyData}, DpAll K G us es → DpAll K G (List.replicate n us).flatten (List.replicate n es).flatten := by
  intro n
  induction n with
  | zero => intro G us es _; exact .nil
  | succ n ih =>
    intro G us es d
    rw [List.replicate_succ, List.replicate_succ, List.flatten_cons, List.flatten_cons]
    exact dps_app d (ih d)
theorem bin_ok {o : BOp} {x y z : PyData} (h : binD o x y = some z) (rx : RVal K F ρ vx (.d x)) (ry : RVal K F ρ vy (.d y)) (R : Rel K B F ρ σ H s)
    (q : Pst K B F ρ σ s (fun H' F' ρ' => ∀ v, RVal K F' ρ' v (.d z) → Q v H')) : rBin K o vx vy H Q := by
  unfold binD at h
  split at h
  · cases h
    cases (show Dp K F vx (.int _) from rx)
    cases (show Dp K F vy (.int _) from ry)
    exact .inl ⟨_, _, rfl, rfl, q.now R _ (Dp.int _)⟩
  · split at h
    · rename_i hl
      cases h
      cases (show Dp K F vx (.str _) from rx)
      cases (show Dp K F vy (.str _) from ry)
      exact .inr (.inl ⟨_, _, rfl, rfl, line_le hl, q.now R _ (Dp.str _)⟩)
    · cases h
  · split at h
    · rename_i hl
      cases h
      cases (show Dp K F vx (.list _) from rx) with
      | lst hx dx =>
      cases (show Dp K F vy (.list _) from ry) with
      | lst hy dy =>
      refine .inr (.inr (.inl ⟨_, _, _, _, rfl, rfl, ex_l R.fr hx, ex_l R.fr hy, by rw [dps_len dx, dps_len dy]; exact line_le hl, fun p hp => ?_⟩))
      exact q.new R hp (show Dp K _ _ (.list _) from .lst (.inl (.inl upd_same)) (dps_ex (Ex.new (R.fr.free hp)) (dps_app dx dy)))
    · cases h
  · split at h
    · rename_i hl
      cases h
      cases (show Dp K F vx (.tuple _) from rx) with
      | tup hx dx =>
      cases (show Dp K F vy (.tuple _) from ry) with
      | tup hy dy =>
      refine .inr (.inr (.inr ⟨_, _, _, _, rfl, rfl, ex_t R.fr hx, ex_t R.fr hy, by rw [dps_len dx, dps_len dy]; exact line_le hl, fun e => ?_, fun _ e => ?_, fun _ _ p hp => ?_⟩))
      · subst e
        have e2 := dps_app dx dy
        exact q.now R _ (show Dp K F _ (.tuple _) from .tup hy e2)
      · subst e
        have e2 := dps_app dx dy
        rw [List.append_nil] at e2
        exact q.now R _ (show Dp K F _ (.tuple _) from .tup hx e2)
      · exact q.new R hp (show Dp K _ _ (.tuple _) from .tup (.inl (.inl upd_same)) (dps_ex (Ex.new (R.fr.free hp)) (dps_app dx dy)))
    · cases h
  · cases h
    cases (show Dp K F vx (.int _) from rx)
    cases (show Dp K F vy (.int _) from ry)
    exact ⟨_, _, rfl, rfl, q.now R _ (Dp.int _)⟩
  · split at h
    · rename_i hl
      cases h
      cases (show Dp K F vx (.int _) from rx)
      cases (show Dp K F vy (.int _) from ry)
      exact .inl ⟨_, _, rfl, rfl, hl, q.now R _ (Dp.int _)⟩
    · cases h
  · split at h
    · rename_i hl
      obtain ⟨l1, l2, l3⟩ := hl
      cases h
      cases (show Dp K F vx (.tuple _) from rx) with
      | tup hx dx =>
      cases (show Dp K F vy (.int _) from ry)
      refine .inr (.inr ⟨_, _, _, rfl, rfl, ex_t R.fr hx, l1, l2, by rw [dps_len dx]; exact l3, fun e => ?_, fun e => ?_, fun _ _ p hp => ?_⟩)
      · subst e
        refine q.now R _ (show Dp K F _ (.tuple _) from .tup hx ?_)
        have := dps_rep 1 dx
        simpa using this
      · subst e
        cases dx
        have e0 : ∀ n, (List.replicate n ([] : List PyData)).flatten = [] := by
          intro n
          induction n with
          | zero => rfl
          | succ n ih => rw [List.replicate_succ, List.flatten_cons, ih]; rfl
        refine q.now R _ (show Dp K F _ (.tuple (List.replicate _ []).flatten) from ?_)
        rw [e0]
        exact .tup hx .nil
      · exact q.new R hp (show Dp K _ _ (.tuple _) from .tup (.inl (.inl upd_same)) (dps_ex (Ex.new (R.fr.free hp)) (dps_rep _ dx)))
    · cases h
  · split at h
    · rename_i hl
      obtain ⟨l1, l2, l3⟩ := hl
      cases h
      cases (show Dp K F vx (.list _) from rx) with
      | lst hx dx =>
      cases (show Dp K F vy (.int _) from ry)
      exact .inr (.inl ⟨_, _, _, rfl, rfl, ex_l R.fr hx, l1, l2, by rw [dps_len dx]; exact l3, fun p hp => q.new R hp (show Dp K _ _ (.list _) from .lst (.inl (.inl upd_same)) (dps_ex (Ex.new (R.fr.free hp)) (dps_rep _ dx)))⟩)
    · cases h
  · split at h
    · rename_i hl
      cases h
      cases (show Dp K F vx (.int _) from rx)
      cases (show Dp K F vy (.int _) from ry)
      exact ⟨_, _, rfl, rfl, hl, q.now R _ (Dp.int _)⟩
    · cases h
  · split at h
    · rename_i hl
      cases h
      cases (show Dp K F vx (.int _) from rx)
      cases (show Dp K F vy (.int _) from ry)
      exact ⟨_, _, rfl, rfl, hl, q.now R _ (Dp.int _)⟩
    · cases h
  · split at h
    · rename_i hl
      cases h
      cases (show Dp K F vx (.int _) from rx)
      cases (show Dp K F vy (.int _) from ry)
      exact ⟨_, _, rfl, rfl, ⟨hl.1, by omega, hl.2.2⟩, q.now R _ (Dp.int _)⟩
    · cases h
  · cases h

theorem in_ok {x y : PyData} {k neg : Bool} (h : inD x y = some k) (rx : RVal K F ρ vx (.d x)) (ry : RVal K F ρ vy (.d y)) (R : Rel K B F ρ σ H s)
    (q : Q (.bl (if neg then !k else k)) H) : rInD K neg vx vy H Q := by
  unfold inD at h
  split at h
  · split at h
    · rename_i hf
      cases h
      rw [Bool.and_eq_true] at hf
      exact .inl ⟨_, _, dp_ex R.fr (d_rval hf.1 rx), .inl ⟨dp_ex R.fr (d_rval rfl ry), hf.2⟩, q⟩
    · cases h
  · split at h
    · rename_i hf
      cases h
      rw [Bool.and_eq_true] at hf
      exact .inl ⟨_, _, dp_ex R.fr (d_rval hf.1 rx), .inr ⟨dp_ex R.fr (d_rval rfl ry), hf.2⟩, q⟩
    · cases h
  · cases h
    cases (show Dp K F vx (.str _) from rx)
    cases (show Dp K F vy (.str _) from ry)
    refine .inr ⟨_, _, rfl, rfl, ?_⟩
    exact q
  · cases h
theorem none_ok {x : PyData} (rx : RVal K F ρ vx (.d x)) : isNone x = decide (vx = V.non) := by
  cases x with
  | dict kvs => obtain ⟨a, ws, e, _⟩ := rx; subst e; simp [isNone]
  | none => cases (show Dp K F vx .none from rx); simp [isNone]
  | bool b => cases (show Dp K F vx (.bool b) from rx); simp [isNone]
  | int b => cases (show Dp K F vx (.int b) from rx); simp [isNone]
  | str b => cases (show Dp K F vx (.str b) from rx); simp [isNone]
  | list b => cases (show Dp K F vx (.list b) from rx); simp [isNone]
  | tuple b => cases (show Dp K F vx (.tuple b) from rx); simp [isNone]
theorem cmp_ok {o : COp} {x y : PyData} {k : Bool} (h : cmpD o x y = some k) (rx : RVal K F ρ vx (.d x)) (ry : RVal K F ρ vy (.d y)) (R : Rel K B F ρ σ H s) (q : Q (.bl k) H) : rCmp K o vx vy H Q := by
  unfold cmpD at h
  split at h
  · split at h
    · rename_i hf
      cases h
      rw [Bool.and_eq_true, Bool.and_eq_true] at hf
      exact ⟨_, _, dp_ex R.fr (d_rval hf.1.1 rx), dp_ex R.fr (d_rval hf.1.2 ry), hf.2, q⟩
    · cases h
  · split at h
    · rename_i hf
      cases h
      rw [Bool.and_eq_true, Bool.and_eq_true] at hf
      exact ⟨_, _, dp_ex R.fr (d_rval hf.1.1 rx), dp_ex R.fr (d_rval hf.1.2 ry), hf.2, q⟩
    · cases h
  · cases h
    cases (show Dp K F vx (.int _) from rx)
    cases (show Dp K F vy (.int _) from ry)
    exact .inl ⟨_, _, rfl, rfl, q⟩
  · cases h
    cases (show Dp K F vx (.int _) from rx)
    cases (show Dp K F vy (.int _) from ry)
    exact ⟨_, _, rfl, rfl, q⟩
  · cases h
    cases (show Dp K F vx (.int _) from rx)
    cases (show Dp K F vy (.int _) from ry)
    exact ⟨_, _, rfl, rfl, q⟩
  · cases h
    cases (show Dp K F vx (.int _) from rx)
    cases (show Dp K F vy (.int _) from ry)
    exact ⟨_, _, rfl, rfl, q⟩
  · cases h
    cases (show Dp K F vx (.str _) from rx)
    cases (show Dp K F vy (.str _) from ry)
    exact .inr ⟨_, _, rfl, rfl, q⟩
  · exact in_ok (neg := false) h rx ry R q
  · obtain ⟨j, e, rfl⟩ := Option.map_eq_some_iff.mp h
    exact in_ok (neg := true) e rx ry R q
  · cases h
    cases (show Dp K F vy .none from ry)
    rw [none_ok rx] at q
    exact ⟨rfl, q⟩
  · cases h
    cases (show Dp K F vy .none from ry)
    rw [none_ok rx] at q
    exact ⟨rfl, q⟩
  · cases h
theorem ix_seq {vs : List V} {xs : List PyData} {i : Int} {x : PyData} (d : DpAll K F vs xs) (h : atI xs i = some x) : ∃ v, atI vs i = some v ∧ Dp K F v x := by
  unfold atI at h ⊢
  rw [dps_len d]
  cases e : ixN xs.length i with
  | none => rw [e] at h; cases h
  | some j =>
    rw [e] at h
    exact dps_get' d h
theorem ix_ok {x y z : PyData} (h : ixD x y = some z) (rx : RVal K F ρ vx (.d x)) (ry : RVal K F ρ vy (.d y)) (R : Rel K B F ρ σ H s) (q : ∀ v, RVal K F ρ v (.d z) → Q v H) : rIx K vx vy H Q := by
  unfold ixD at h
  split at h
  · cases (show Dp K F vx (.list _) from rx) with
    | lst hx dx =>
    cases (show Dp K F vy (.int _) from ry)
    obtain ⟨v, h1, h2⟩ := ix_seq dx h
    exact .inl ⟨_, _, _, v, rfl, rfl, ex_l R.fr hx, h1, q v (rval_d h2)⟩
  · cases (show Dp K F vx (.tuple _) from rx) with
    | tup hx dx =>
    cases (show Dp K F vy (.int _) from ry)
    obtain ⟨v, h1, h2⟩ := ix_seq dx h
    exact .inr ⟨_, _, _, v, rfl, rfl, ex_t R.fr hx, h1, q v (rval_d h2)⟩
  · cases h
theorem cut_ok {vs : List V} {xs : List PyData} {lo hi : Option Int} (d : DpAll K F vs xs) : DpAll K F (cutV vs lo hi) (cutD xs lo hi) := by
  unfold cutV cutD
  rw [dps_len d]
  exact dps_take _ (dps_drop _ d)
theorem sl_ok {x z : PyData} {l h : Option Int} (hz : slD x l h = some z) (rx : RVal K F ρ vx (.d x)) (R : Rel K B F ρ σ H s)
    (q : Pst K B F ρ σ s (fun H' F' ρ' => ∀ v, RVal K F' ρ' v (.d z) → Q v H')) : rSl K vx l h H Q := by
  unfold slD at hz
  split at hz
  · cases hz
    cases (show Dp K F vx (.list _) from rx) with
    | lst hx dx =>
    refine .inl ⟨_, _, rfl, ex_l R.fr hx, fun p hp => ?_⟩
    exact q.new R hp (show Dp K _ _ (.list _) from .lst (.inl (.inl upd_same)) (dps_ex (Ex.new (R.fr.free hp)) (cut_ok dx)))
  · cases hz
    cases (show Dp K F vx (.tuple _) from rx) with
    | tup hx dx =>
    refine .inr ⟨_, _, rfl, ex_t R.fr hx, fun e => ?_, fun _ p hp => ?_⟩
    · refine q.now R _ (show Dp K F _ (.tuple _) from .tup hx ?_)
      have c := cut_ok (lo := l) (hi := h) dx
      unfold cutV at c
      rw [e.1, e.2, List.drop_zero, Nat.sub_zero, List.take_length] at c
      exact c
    · exact q.new R hp (show Dp K _ _ (.tuple _) from .tup (.inl (.inl upd_same)) (dps_ex (Ex.new (R.fr.free hp)) (cut_ok dx)))
  · cases hz
end
end Ev
set_option maxHeartbeats 1000000
/-! Built-in functions on data. -/
namespace Ev
open PySem L2
/-! ### least, greatest, sorted -/
theorem maxI_mem : ∀ (r : List Int) (m : Int), maxI m r = m ∨ maxI m r ∈ r
  | [], m => .inl rfl
  | x :: r, m => by
    rw [maxI]
    rcases maxI_mem r (if m < x then x else m) with h | h
    · rw [h]
      by_cases c : m < x
      · rw [if_pos c]; exact .inr List.mem_cons_self
      · rw [if_neg c]; exact .inl rfl
    · exact .inr (List.mem_cons_of_mem _ h)
theorem maxI_ge : ∀ (r : List Int) (m : Int), m ≤ maxI m r ∧ ∀ y ∈ r, y ≤ maxI m r
  | [], m => ⟨Int.le_refl _, fun y h => nomatch h⟩
  | x :: r, m => by
    rw [maxI]
    obtain ⟨h1, h2⟩ := maxI_ge r (if m < x then x else m)
    have h3 : m ≤ (if m < x then x else m) ∧ x ≤ (if m < x then x else m) := by
      by_cases c : m < x
      · rw [if_pos c]; omega
      · rw [if_neg c]; omega
    refine ⟨Int.le_trans h3.1 h1, fun y hy => ?_⟩
    rcases List.mem_cons.mp hy with e | e
    · rw [e]; exact Int.le_trans h3.2 h1
    · exact h2 y e
theorem maxI_only {m : Int} {r : List Int} {k : Int} (hk : k ∈ m :: r) (hg : ∀ y, y ∈ m :: r → y ≤ k) : k = maxI m r := by
  obtain ⟨h1, h2⟩ := maxI_ge r m
  have g1 : k ≤ maxI m r := by
    rcases List.mem_cons.mp hk with e | e
    · rw [e]; exact h1
    · exact h2 k e
  have g2 : maxI m r ≤ k := by
    rcases maxI_mem r m with e | e
    · rw [e]; exact hg m List.mem_cons_self
    · exact hg _ (List.mem_cons_of_mem _ e)
  omega
theorem insI_perm (x : Int) : ∀ l : List Int, (insI x l).Perm (x :: l)
  | [] => .refl _
  | y :: r => by
    rw [insI]
    by_cases c : x ≤ y
    · rw [if_pos c]
    · rw [if_neg c]
      exact ((insI_perm x r).cons y).trans (.swap x y r)
theorem sortI_perm : ∀ l : List Int, (sortI l).Perm l
  | [] => .refl _
  | x :: r => (insI_perm x (sortI r)).trans ((sortI_perm r).cons x)
theorem insI_sorted (x : Int) : ∀ l : List Int, l.Pairwise (· ≤ ·) → (insI x l).Pairwise (· ≤ ·)
  | [], _ => by rw [insI]; exact List.pairwise_singleton _ _
  | y :: r, h => by
    rw [insI]
    obtain ⟨h1, h2⟩ := List.pairwise_cons.mp h
    by_cases c : x ≤ y
    · rw [if_pos c]
      refine List.pairwise_cons.mpr ⟨fun z hz => ?_, h⟩
      rcases List.mem_cons.mp hz with e | e
      · rw [e]; exact c
      · exact Int.le_trans c (h1 z e)
    · rw [if_neg c]
      refine List.pairwise_cons.mpr ⟨fun z hz => ?_, insI_sorted x r h2⟩
      rcases List.mem_cons.mp ((insI_perm x r).mem_iff.mp hz) with e | e
      · rw [e]; omega
      · exact h1 z e
theorem sortI_sorted : ∀ l : List Int, (sortI l).Pairwise (· ≤ ·)
  | [] => .nil
  | x :: r => insI_sorted x _ (sortI_sorted r)
theorem sortI_only {l k : List Int} (hp : k.Perm l) (hs : k.Pairwise (· ≤ ·)) : k = sortI l := PySem.W.ksm_same (hp.trans (sortI_perm l).symm) hs (sortI_sorted l)
theorem insS_perm (x : Str) : ∀ l : List Str, (insS x l).Perm (x :: l)
  | [] => .refl _
  | y :: r => by
    rw [insS]
    by_cases c : ltStr y x = true
    · rw [if_pos c]
      exact ((insS_perm x r).cons y).trans (.swap x y r)
    · rw [if_neg c]
theorem sortS_perm : ∀ l : List Str, (sortS l).Perm l
  | [] => .refl _
  | x :: r => (insS_perm x (sortS r)).trans ((sortS_perm r).cons x)
end Ev
namespace Ev
open PySem L2
section
variable {K : PySem.W.Frag} {C : Calls} {B F H : Hp} {ρ : List Addr} {σ : L2.St} {s : S} {Q : VK} {vx vy : V}
theorem seq_of {x : PyData} {xs : List PyData} (h : seqD x = some xs) (r : RVal K F ρ vx (.d x)) : ∃ a vs, vx = V.ref a ∧ DpAll K F vs xs ∧ ((x = .list xs ∧ SqL K F a vs) ∨ (x = .tuple xs ∧ SqT K F a vs)) := by
  cases x with
  | list ys =>
    cases h
    cases (show Dp K F vx (.list _) from r) with
    | lst h d => exact ⟨_, _, rfl, d, .inl ⟨rfl, h⟩⟩
  | tuple ys =>
    cases h
    cases (show Dp K F vx (.tuple _) from r) with
    | tup h d => exact ⟨_, _, rfl, d, .inr ⟨rfl, h⟩⟩
  | _ => cases h
theorem blt_ok {f : BF} {w z : Val} (h : bltD f w = some z) (hf : f ≠ .set ∧ f ≠ .sorted) (r : RVal K F ρ vx w) (R : Rel K B F ρ σ H s) (q : Pst K B F ρ σ s (fun H' F' ρ' => ∀ v, RVal K F' ρ' v z → Q v H')) : rBlt K f [vx] H Q := by
  unfold bltD at h
  split at h
  · cases h
    cases (show Dp K F vx (.list _) from r) with
    | lst hx dx =>
    refine .inl ⟨_, _, rfl, .inl (ex_l R.fr hx), ?_⟩
    rw [dps_len dx]
    exact q.now R _ (Dp.int _)
  · cases h
    cases (show Dp K F vx (.tuple _) from r) with
    | tup hx dx =>
    refine .inl ⟨_, _, rfl, .inr (ex_t R.fr hx), ?_⟩
    rw [dps_len dx]
    exact q.now R _ (Dp.int _)
  · split at h
    · rename_i hl
      cases h
      cases (show Dp K F vx (.str _) from r)
      exact .inr ⟨_, rfl, line_le hl, q.now R _ (Dp.int _)⟩
    · cases h
  · obtain ⟨xs, h1, rfl⟩ := Option.map_eq_some_iff.mp h
    obtain ⟨a, vs, rfl, d, h2 | h2⟩ := seq_of h1 r
    · refine ⟨a, vs, rfl, .inl ⟨ex_l R.fr h2.2, fun p hp => ?_⟩⟩
      exact q.new R hp (show Dp K _ _ (.tuple _) from .tup (.inl (.inl upd_same)) (dps_ex (Ex.new (R.fr.free hp)) d))
    · exact ⟨a, vs, rfl, .inr ⟨ex_t R.fr h2.2, q.now R _ (show Dp K F _ (.tuple _) from .tup h2.2 d)⟩⟩
  · obtain ⟨xs, h1, rfl⟩ := Option.map_eq_some_iff.mp h
    obtain ⟨a, vs, rfl, d, h2⟩ := seq_of h1 r
    refine ⟨a, vs, rfl, h2.elim (fun h => .inl (ex_l R.fr h.2)) (fun h => .inr (ex_t R.fr h.2)), fun p hp => ?_⟩
    exact q.new R hp (show Dp K _ _ (.list _) from .lst (.inl (.inl upd_same)) (dps_ex (Ex.new (R.fr.free hp)) d))
  · cases h
    cases (show Dp K F vx (.int _) from r)
    exact .inl ⟨_, rfl, q.now R _ (Dp.int _)⟩
  · cases h
    cases (show Dp K F vx (.bool _) from r)
    exact .inr ⟨_, rfl, q.now R _ (Dp.int _)⟩
  · cases h
    cases (show Dp K F vx (.int _) from r)
    exact ⟨_, rfl, q.now R _ (Dp.int _)⟩
  · obtain ⟨is, h1, rfl⟩ := Option.map_eq_some_iff.mp h
    cases (show Dp K F vx (.list _) from r) with
    | lst hx dx =>
    refine ⟨_, is, rfl, ?_, q.now R _ (Dp.int _)⟩
    rw [← dps_ints dx h1]
    exact ex_l R.fr hx
  · obtain ⟨is, h1, h2⟩ := Option.bind_eq_some_iff.mp h
    cases is with
    | nil => cases h2
    | cons m l =>
      cases h2
      cases (show Dp K F vx (.list _) from r) with
      | lst hx dx =>
      refine ⟨_, m :: l, rfl, ?_, Nat.zero_lt_succ _, fun k hk hg => ?_⟩
      · rw [← dps_ints dx h1]
        exact ex_l R.fr hx
      · rw [maxI_only hk hg]
        exact q.now R _ (Dp.int _)
  · obtain ⟨is, h1, rfl⟩ := Option.map_eq_some_iff.mp h
    cases (show Dp K F vx (.list _) from r) with
    | lst hx dx =>
    refine ⟨_, is, rfl, ?_, q.now R _ (Dp.bl _)⟩
    rw [← dps_bools dx h1]
    exact ex_l R.fr hx
  · obtain ⟨is, h1, rfl⟩ := Option.map_eq_some_iff.mp h
    cases (show Dp K F vx (.list _) from r) with
    | lst hx dx =>
    refine ⟨_, is, rfl, ?_, q.now R _ (Dp.bl _)⟩
    rw [← dps_bools dx h1]
    exact ex_l R.fr hx
  · exact absurd rfl hf.2
  · exact absurd rfl hf.2
  · exact absurd rfl hf.1
  · cases h
/-! ### types -/
def tyD : PyData → String
  | .none => "NoneType"
  | .bool _ => "bool"
  | .int _ => "int"
  | .str _ => "str"
  | .list _ => "list"
  | .tuple _ => "tuple"
  | .dict _ => "dict"
theorem ty_ok {x : PyData} (r : RVal K F ρ vx (.d x)) (R : Rel K B F ρ σ H s) : TyX K H vx (.type (tyD x)) := by
  cases x with
  | none => cases (show Dp K F vx .none from r); exact .base .non
  | bool b => cases (show Dp K F vx (.bool b) from r); exact .base (.bl _)
  | int b => cases (show Dp K F vx (.int b) from r); exact .base (.int _)
  | str b => cases (show Dp K F vx (.str b) from r); exact .base (.str _)
  | list b =>
    cases (show Dp K F vx (.list b) from r) with
    | lst h d =>
    rcases ex_l R.fr h with (h | ⟨o, h⟩) | ⟨o, its, n, h, hc, _⟩
    · exact .base (.lst h)
    · exact .base (.frz h)
    · exact .kList h hc
  | tuple b =>
    cases (show Dp K F vx (.tuple b) from r) with
    | tup h d =>
    rcases ex_t R.fr h with (h | ⟨o, h⟩) | ⟨o, its, n, h, hc, _⟩
    · exact .base (.tup h)
    · exact .fTuple h
    · exact .kTuple h hc
  | dict kvs =>
    obtain ⟨a, ws, rfl, h, _⟩ := r
    exact .base (.dK (R.fr a _ h))
theorem kit_ok (K : PySem.W.Frag) (t : Ty) (x : PyData) : PySem.W.kitOne K (.type (tyD x)) (.type (tyName t)) = some (isTy t x) := by
  cases t <;> cases x <;> (refine kit_ty ?_; simp only [tyD, tyName, isTy]; decide +kernel)
theorem isi_ok {t : Ty} {x : PyData} (r : RVal K F ρ vx (.d x)) (R : Rel K B F ρ σ H s) (q : Q (.bl (isTy t x)) H) : rIsi K [vx, .ty (tyName t)] H Q :=
  ⟨vx, .ty (tyName t), _, .type (tyName t), _, rfl, .ty _, ty_ok r R, kit_ok K t x, q⟩
theorem isi2_ok {t u : Ty} {x : PyData} {tp : Addr} (r : RVal K F ρ vx (.d x)) (R : Rel K B F ρ σ H s) (ht : H tp = some (.tup [.ty (tyName t), .ty (tyName u)])) (q : Q (.bl (isTy t x || isTy u x)) H) : rIsiT K [vx, .ref tp] H Q := by
  refine ⟨vx, tp, _, _, [.type (tyName t), .type (tyName u)], _, rfl, ht, .cons (.ty _) (.cons (.ty _) .nil), ty_ok r R, ?_, q⟩
  refine kitAny_cons (kit_ok K t x) (fun e => ?_) (fun e => by rw [e]; rfl)
  rw [e, Bool.false_or]
  refine kitAny_cons (kit_ok K u x) (fun e => ?_) (fun e => e)
  rw [e]
  exact kitAny_nil
end
end Ev
set_option maxHeartbeats 1000000
/-! The nodes without walks. -/
namespace Ev
open PySem L2
section
variable {K : PySem.W.Frag} {C : Calls}
theorem g_tup {es : Es} (hs : GA K C es) : G K C (.tup es) := tst_of rfl fun {B F H ρ σ s s1 w Q} R h q => by
  rw [ev] at h
  split at h
  · rename_i ws s2 e1
    split at h
    · rename_i xs e2
      split at h
      · rename_i hl
        cases h
        refine hs.val R e1 fun H1 F1 ρ1 x1 p1 R1 vs rs => ?_
        have d := rvals_dps rs e2 hl.2
        refine ⟨Nat.le_of_lt (small1000 (by rw [dps_len d]; exact hl.1)), fun p hp => (q.on x1 p1).new R1 hp ?_⟩
        exact (show Dp K _ _ (.tuple _) from .tup (.inl (.inl upd_same)) (dps_ex (Ex.new (R1.fr.free hp)) d))
      · cases h
    · cases h
  · cases h
theorem gf_lst {es : Es} (hs : GA K C es) : GFr K C (.lst es) where
  val := by
    intro B F H ρ σ s s1 w Q R h q
    rw [ev] at h
    split at h
    · rename_i ws s2 e1
      split at h
      · rename_i xs e2
        split at h
        · rename_i hl
          cases h
          refine hs.val R e1 fun H1 F1 ρ1 x1 p1 R1 vs rs => ?_
          have d := rvals_dps rs e2 hl.2
          refine ⟨Nat.le_of_lt (small1000 (by rw [dps_len d]; exact hl.1)), fun p hp => ?_⟩
          obtain ⟨R2, hF, hρ, ho, hB⟩ := R1.lay (o := .lst vs) hp
          exact q _ F1 ρ1 p vs xs rfl x1 p1 R2 upd_same hF hρ ho hB d
        · cases h
      · cases h
    · cases h
theorem g_lst {es : Es} (hs : GA K C es) : G K C (.lst es) := g_fr rfl (gf_lst hs)
theorem g_bin {o : BOp} {a b : E} (ha : G K C a) (hb : G K C b) : G K C (.bin o a b) := tst_of rfl fun {B F H ρ σ s s1 w Q} R h q => by
  rw [ev] at h
  split at h
  · rename_i x s2 e1
    split at h
    · rename_i y s3 e2
      obtain ⟨z, e3, e4⟩ := Option.map_eq_some_iff.mp h
      cases e4
      refine ha.val R e1 fun H1 F1 ρ1 x1 p1 R1 vx rx => ?_
      refine hb.val R1 e2 fun H2 F2 ρ2 x2 p2 R2 vy ry => ?_
      exact bin_ok e3 (rval_ex x2 p2 rx) ry R2 (q.on (x1.trans x2) (p1.trans p2))
    · cases h
  · cases h
theorem g_neg {a : E} (ha : G K C a) : G K C (.neg a) := tst_of rfl fun {B F H ρ σ s s1 w Q} R h q => by
  rw [ev] at h
  split at h
  · rename_i i s2 e1
    cases h
    refine ha.val R e1 fun H1 F1 ρ1 x1 p1 R1 vx rx => ?_
    cases (show Dp K F1 vx (.int _) from rx)
    exact ⟨_, rfl, q H1 F1 ρ1 x1 p1 R1 _ (Dp.int _)⟩
  · cases h
theorem g_cmp {o : COp} {a b : E} (ha : G K C a) (hb : G K C b) : G K C (.cmp o a b) := tst_of rfl fun {B F H ρ σ s s1 w Q} R h q => by
  rw [ev] at h
  split at h
  · rename_i x s2 e1
    split at h
    · rename_i y s3 e2
      obtain ⟨z, e3, e4⟩ := Option.map_eq_some_iff.mp h
      cases e4
      refine ha.val R e1 fun H1 F1 ρ1 x1 p1 R1 vx rx => ?_
      refine hb.val R1 e2 fun H2 F2 ρ2 x2 p2 R2 vy ry => ?_
      exact cmp_ok e3 (rval_ex x2 p2 rx) ry R2 (q H2 F2 ρ2 (x1.trans x2) (p1.trans p2) R2 _ (Dp.bl _))
    · cases h
  · cases h
theorem g_chain {o p : COp} {a b c : E} (ha : G K C a) (hb : G K C b) (hc : G K C c) : G K C (.chain o p a b c) := tst_of rfl fun {B F H ρ σ s s1 w Q} R h q => by
  rw [ev] at h
  split at h
  · rename_i x s2 e1
    split at h
    · rename_i y s3 e2
      refine ha.val R e1 fun H1 F1 ρ1 x1 p1 R1 vx rx => ?_
      refine hb.val R1 e2 fun H2 F2 ρ2 x2 p2 R2 vy ry => ?_
      split at h
      · rename_i e3
        split at h
        · rename_i z s4 e4
          obtain ⟨k, e5, e6⟩ := Option.map_eq_some_iff.mp h
          cases e6
          refine cmp_ok e3 (rval_ex x2 p2 rx) ry R2 ⟨true, rfl, ?_⟩
          refine iteT ?_
          refine hc.val R2 e4 fun H3 F3 ρ3 x3 p3 R3 vz rz => ?_
          exact cmp_ok e5 (rval_ex x3 p3 ry) rz R3 (q H3 F3 ρ3 ((x1.trans x2).trans x3) ((p1.trans p2).trans p3) R3 _ (Dp.bl _))
        · cases h
      · rename_i e3
        cases h
        refine cmp_ok e3 (rval_ex x2 p2 rx) ry R2 ⟨false, rfl, ?_⟩
        refine iteF ?_
        exact q H2 F2 ρ2 (x1.trans x2) (p1.trans p2) R2 _ (Dp.bl _)
      · cases h
    · cases h
  · cases h
theorem g_and {a b : E} (ha : G K C a) (hb : G K C b) : G K C (.and a b) where
  val := by
    intro B F H ρ σ s s1 w Q R h q
    rw [ev] at h
    split at h
    · rename_i s2 e1
      split at h
      · rename_i k s3 e2
        cases h
        refine ha.val R e1 fun H1 F1 ρ1 x1 p1 R1 vx rx => ?_
        cases (show Dp K F1 vx (.bool _) from rx)
        refine ⟨true, rfl, ?_⟩
        refine iteT ?_
        exact hb.val R1 e2 (q.on x1 p1)
      · cases h
    · rename_i s2 e1
      cases h
      refine ha.val R e1 fun H1 F1 ρ1 x1 p1 R1 vx rx => ?_
      cases (show Dp K F1 vx (.bool _) from rx)
      refine ⟨false, rfl, ?_⟩
      refine iteF ?_
      exact q H1 F1 ρ1 x1 p1 R1 _ (Dp.bl _)
    · cases h
  tst := by
    intro B F H ρ σ s s1 k Q R h q
    rw [ev] at h
    split at h
    · rename_i s2 e1
      split at h
      · rename_i k s3 e2
        cases h
        refine ha.tst R e1 fun H1 F1 ρ1 x1 p1 R1 => ?_
        refine iteT ?_
        exact hb.tst R1 e2 (q.on x1 p1)
      · cases h
    · rename_i s2 e1
      cases h
      refine ha.tst R e1 fun H1 F1 ρ1 x1 p1 R1 => ?_
      refine iteF ?_
      exact q H1 F1 ρ1 x1 p1 R1
    · cases h
theorem g_or {a b : E} (ha : G K C a) (hb : G K C b) : G K C (.or a b) where
  val := by
    intro B F H ρ σ s s1 w Q R h q
    rw [ev] at h
    split at h
    · rename_i s2 e1
      split at h
      · rename_i k s3 e2
        cases h
        refine ha.val R e1 fun H1 F1 ρ1 x1 p1 R1 vx rx => ?_
        cases (show Dp K F1 vx (.bool _) from rx)
        refine ⟨false, rfl, ?_⟩
        refine iteF ?_
        exact hb.val R1 e2 (q.on x1 p1)
      · cases h
    · rename_i s2 e1
      cases h
      refine ha.val R e1 fun H1 F1 ρ1 x1 p1 R1 vx rx => ?_
      cases (show Dp K F1 vx (.bool _) from rx)
      refine ⟨true, rfl, ?_⟩
      refine iteT ?_
      exact q H1 F1 ρ1 x1 p1 R1 _ (Dp.bl _)
    · cases h
  tst := by
    intro B F H ρ σ s s1 k Q R h q
    rw [ev] at h
    split at h
    · rename_i s2 e1
      split at h
      · rename_i k s3 e2
        cases h
        refine ha.tst R e1 fun H1 F1 ρ1 x1 p1 R1 => ?_
        refine iteF ?_
        exact hb.tst R1 e2 (q.on x1 p1)
      · cases h
    · rename_i s2 e1
      cases h
      refine ha.tst R e1 fun H1 F1 ρ1 x1 p1 R1 => ?_
      refine iteT ?_
      exact q H1 F1 ρ1 x1 p1 R1
    · cases h
theorem g_not {a : E} (ha : G K C a) : G K C (.not a) where
  val := by
    intro B F H ρ σ s s1 w Q R h q
    rw [ev] at h
    split at h
    · rename_i k s2 e1
      cases h
      refine ha.val R e1 fun H1 F1 ρ1 x1 p1 R1 vx rx => ?_
      cases (show Dp K F1 vx (.bool _) from rx)
      exact ⟨k, rfl, q H1 F1 ρ1 x1 p1 R1 _ (Dp.bl _)⟩
    · cases h
  tst := by
    intro B F H ρ σ s s1 k Q R h q
    rw [ev] at h
    split at h
    · rename_i k s2 e1
      cases h
      exact ha.tst R e1 fun H1 F1 ρ1 x1 p1 R1 => q H1 F1 ρ1 x1 p1 R1
    · cases h
theorem g_ite {c a b : E} (hc : G K C c) (ha : G K C a) (hb : G K C b) : G K C (.ite c a b) := tst_of rfl fun {B F H ρ σ s s1 w Q} R h q => by
  rw [ev] at h
  split at h
  · rename_i s2 e1
    refine hc.tst R e1 fun H1 F1 ρ1 x1 p1 R1 => ?_
    refine iteT ?_
    exact ha.val R1 h (q.on x1 p1)
  · rename_i s2 e1
    refine hc.tst R e1 fun H1 F1 ρ1 x1 p1 R1 => ?_
    refine iteF ?_
    exact hb.val R1 h (q.on x1 p1)
  · cases h
theorem g_ix {a b : E} (ha : G K C a) (hb : G K C b) : G K C (.ix a b) := tst_of rfl fun {B F H ρ σ s s1 w Q} R h q => by
  rw [ev] at h
  split at h
  · rename_i x s2 e1
    split at h
    · rename_i y s3 e2
      obtain ⟨z, e3, e4⟩ := Option.map_eq_some_iff.mp h
      cases e4
      refine ha.val R e1 fun H1 F1 ρ1 x1 p1 R1 vx rx => ?_
      refine hb.val R1 e2 fun H2 F2 ρ2 x2 p2 R2 vy ry => ?_
      exact ix_ok e3 (rval_ex x2 p2 rx) ry R2 (q H2 F2 ρ2 (x1.trans x2) (p1.trans p2) R2)
    · cases h
  · rename_i n s2 e1
    split at h
    · rename_i y s3 e2
      split at h
      · rename_i xs e5
        obtain ⟨z, e3, e4⟩ := Option.map_eq_some_iff.mp h
        cases e4
        refine ha.val R e1 fun H1 F1 ρ1 x1 p1 R1 vx rx => ?_
        refine hb.val R1 e2 fun H2 F2 ρ2 x2 p2 R2 vy ry => ?_
        obtain ⟨a, rfl, e6⟩ := rx
        obtain ⟨_, vs, e7, d⟩ := R2.sto n a xs (pre_get p2 e6) e5
        unfold ixD at e3
        split at e3
        · rename_i hx
          cases hx
          cases (show Dp K F2 vy (.int _) from ry)
          obtain ⟨v, h1, h2⟩ := ix_seq d e3
          exact .inl ⟨a, vs, _, v, rfl, rfl, SqL.of e7, h1, q H2 F2 ρ2 (x1.trans x2) (p1.trans p2) R2 v (rval_d h2)⟩
        · rename_i hx; cases hx
        · cases e3
      · cases h
    · cases h
  · cases h
theorem dget_ok {F : Hp} : ∀ {ws : List (Key × V)} {kvs : List (PyData × PyData)} (x : Str), DictR K F ws kvs → (dGet kvs x = none ∧ valV ws (.inr x) = none) ∨ ∃ d v, dGet kvs x = some d ∧ valV ws (.inr x) = some v ∧ Dp K F v d
  | [], [], x, _ => .inl ⟨rfl, rfl⟩
  | (k, v) :: r, (d, e) :: s, x, h => by
    obtain ⟨⟨y, rfl, rfl⟩, h2, h3⟩ := h
    by_cases c : y = x
    · subst c
      refine .inr ⟨e, v, by rw [dGet, if_pos rfl], ?_, h2⟩
      simp [valV, List.find?]
    · have h4 := dget_ok x h3
      have c1 : dGet ((.str y, e) :: s) x = dGet s x := by rw [dGet, if_neg c]
      have c2 : valV ((Sum.inr y, v) :: r) (.inr x) = valV r (.inr x) := by
        have : ¬ ((Sum.inr y : Key) = .inr x) := fun q => c (Sum.inr.inj q)
        simp [valV, List.find?, this]
      rw [c1, c2]
      exact h4
  | [], _ :: _, _, h => h.elim
  | _ :: _, [], _, h => h.elim
theorem g_dget {a b : E} (ha : G K C a) (hb : G K C b) : G K C (.dget a b) := tst_of rfl fun {B F H ρ σ s s1 w Q} R h q => by
  rw [ev] at h
  split at h
  · rename_i kvs s2 e1
    split at h
    · rename_i x s3 e2
      obtain ⟨z, e3, e4⟩ := Option.map_eq_some_iff.mp h
      cases e4
      refine ha.val R e1 fun H1 F1 ρ1 x1 p1 R1 vx rx => ?_
      refine hb.val R1 e2 fun H2 F2 ρ2 x2 p2 R2 vy ry => ?_
      obtain ⟨a, ws, rfl, e5, e6⟩ := rx
      cases (show Dp K F2 vy (.str _) from ry)
      rcases dget_ok x (dictR_ex x2 e6) with ⟨c1, _⟩ | ⟨d, v, c1, c2, c3⟩
      · rw [c1] at e3; cases e3
      · rw [c1] at e3
        cases e3
        refine ⟨a, v, rfl, ?_, q H2 F2 ρ2 (x1.trans x2) (p1.trans p2) R2 v (rval_d c3)⟩
        have g := DGet.k (k := .inr x) (R2.fr a _ (x2 a _ e5))
        rw [c2] at g
        exact g
    · cases h
  · cases h
theorem g_dIn {n : Bool} {a b : E} (ha : G K C a) (hb : G K C b) : G K C (.dIn n a b) := by
  refine tst_of rfl fun {B F H ρ σ s s1 w Q} R h q => ?_
  rw [ev] at h
  split at h
  · rename_i x s2 e1
    split at h
    · rename_i kvs s3 e2
      cases h
      have key : ∀ {F1 : Hp} {ρ1 : List Addr} {vx : V} {H2 F2 : Hp} {ρ2 : List Addr} {vy : V}, Ex F F1 → ρ <+: ρ1 → RVal K F1 ρ1 vx (.d (.str x)) → Ex F1 F2 → ρ1 <+: ρ2 → Rel K B F2 ρ2 σ H2 s1 → RVal K F2 ρ2 vy (.d (.dict kvs)) →
          ∃ a o, vy = V.ref a ∧ DGet H2 a vx o ∧ o.isSome = (dGet kvs x).isSome := by
        intro F1 ρ1 vx H2 F2 ρ2 vy x1 p1 rx x2 p2 R2 ry
        obtain ⟨a, ws, rfl, e5, e6⟩ := ry
        cases (show Dp K F1 vx (.str _) from rx)
        refine ⟨a, _, rfl, DGet.k (k := .inr x) (R2.fr a _ e5), ?_⟩
        rcases dget_ok x e6 with ⟨c1, c2⟩ | ⟨d, v, c1, c2, c3⟩
        · rw [c1, c2]; rfl
        · rw [c1, c2]; rfl
      cases n with
      | true =>
        refine ha.val R e1 fun H1 F1 ρ1 x1 p1 R1 vx rx => ?_
        refine hb.val R1 e2 fun H2 F2 ρ2 x2 p2 R2 vy ry => ?_
        obtain ⟨a, o, h1, h2, h3⟩ := key x1 p1 rx x2 p2 R2 ry
        refine ⟨a, o, h1, h2, ?_⟩
        rw [h3]
        exact q H2 F2 ρ2 (x1.trans x2) (p1.trans p2) R2 _ (Dp.bl _)
      | false =>
        refine ha.val R e1 fun H1 F1 ρ1 x1 p1 R1 vx rx => ?_
        refine hb.val R1 e2 fun H2 F2 ρ2 x2 p2 R2 vy ry => ?_
        obtain ⟨a, o, h1, h2, h3⟩ := key x1 p1 rx x2 p2 R2 ry
        refine ⟨a, o, h1, h2, ?_⟩
        rw [h3]
        exact q H2 F2 ρ2 (x1.trans x2) (p1.trans p2) R2 _ (Dp.bl _)
    · cases h
  · cases h
end
end Ev
set_option maxHeartbeats 1000000
/-! Further nodes: slices, calls, types, stars, one's own lists. -/
namespace Ev
open PySem L2
section
variable {K : PySem.W.Frag} {C : Calls}
/-- a part of a slice: left out, or an int -/
theorem mkO_ok {lo : E} {l : PyData} {o : Option Int} {B F H : Hp} {ρ : List Addr} {σ : L2.St} {s s1 : S} {Q : Option Int → Hp → Prop} (hl : G K C lo) (h : ev C lo s = some (.d l, s1)) (hp : (if isNoneC lo then some none else partI l) = some o) (R : Rel K B F ρ σ H s)
    (q : Pst K B F ρ σ s1 (fun H' _ _ => Q o H')) : mkO lo (read K (spOf K C) lo) σ H Q := by
  unfold mkO
  cases c : isNoneC lo with
  | true =>
    rw [c, if_pos rfl] at hp
    cases hp
    have e : lo = .con .none := by
      unfold isNoneC at c
      split at c
      · rfl
      · cases c
    subst e
    rw [ev] at h
    cases h
    exact q.now R
  | false =>
    rw [c, if_neg Bool.false_ne_true] at hp
    rw [if_neg Bool.false_ne_true]
    refine hl.val R h fun H1 F1 ρ1 x1 p1 R1 v r => ?_
    unfold partI at hp
    split at hp
    · cases hp
      cases (show Dp K F1 v (.int _) from r)
      exact ⟨_, rfl, q H1 F1 ρ1 x1 p1 R1⟩
    · cases hp
theorem g_sl {a lo hi : E} (ha : G K C a) (hl : G K C lo) (hh : G K C hi) : G K C (.sl a lo hi) := tst_of rfl fun {B F H ρ σ s s1 w Q} R h q => by
  rw [ev] at h
  split at h
  · rename_i x s2 e1
    split at h
    · rename_i l s3 e2
      split at h
      · rename_i u s4 e3
        split at h
        · rename_i l1 h1 e4 e5
          obtain ⟨z, e6, e7⟩ := Option.map_eq_some_iff.mp h
          cases e7
          refine ha.val R e1 fun H1 F1 ρ1 x1 p1 R1 vx rx => ?_
          refine mkO_ok hl e2 e4 R1 fun H2 F2 ρ2 x2 p2 R2 => ?_
          refine mkO_ok hh e3 e5 R2 fun H3 F3 ρ3 x3 p3 R3 => ?_
          exact sl_ok e6 (rval_ex (x2.trans x3) (p2.trans p3) rx) R3 (q.on ((x1.trans x2).trans x3) ((p1.trans p2).trans p3))
        · cases h
      · cases h
    · cases h
  · cases h
theorem g_rev {a : E} (ha : G K C a) : G K C (.rev a) := tst_of rfl fun {B F H ρ σ s s1 w Q} R h q => by
  rw [ev] at h
  split at h
  · rename_i xs s2 e1
    cases h
    refine ha.val R e1 fun H1 F1 ρ1 x1 p1 R1 vx rx => ?_
    cases (show Dp K F1 vx (.list _) from rx) with
    | lst hx dx =>
    refine ⟨_, _, rfl, ex_l R1.fr hx, fun p hp => (q.on x1 p1).new R1 hp ?_⟩
    exact (show Dp K _ _ (.list _) from .lst (.inl (.inl upd_same)) (dps_ex (Ex.new (R1.fr.free hp)) (dps_rev dx)))
  · cases h
theorem g_call {f : Nat} {es : Es} (hs : GA K C es) : G K C (.call f es) := tst_of rfl fun {B F H ρ σ s s1 w Q} R h q => by
  rw [ev] at h
  split at h
  · rename_i ws s2 e1
    split at h
    · rename_i w' st e2
      cases h
      refine hs.val R e1 fun H1 F1 ρ1 x1 p1 R1 vs rs => ?_
      show spOf K C f (vs ++ []) H1 Q E0
      rw [List.append_nil]
      refine ⟨Bown B σ s2.env H1, F1, ρ1, s2.sto, ws, _, st, R1.sub (σ' := []) (env' := []) rfl fun i sl h => by simp at h, rs, e2, fun v H2 F2 ρ2 x2 p2 R2 r => ?_⟩
      exact q H2 F2 ρ2 (x1.trans x2) (p1.trans p2) (R1.back R2 x2 p2) v r
    · cases h
  · cases h
theorem g_blt {f : BF} {a : E} (hf : f ≠ .set ∧ f ≠ .sorted) (ha : G K C a) : G K C (.blt f a) := tst_of rfl fun {B F H ρ σ s s1 w Q} R h q => by
  rw [ev] at h
  split at h
  · rename_i w' s2 e1
    obtain ⟨z, e6, e7⟩ := Option.map_eq_some_iff.mp h
    cases e7
    exact ha.val R e1 fun H1 F1 ρ1 x1 p1 R1 vx rx => blt_ok e6 hf rx R1 (q.on x1 p1)
  · cases h
theorem g_isi {a : E} {t : Ty} (ha : G K C a) : G K C (.isi a t) := tst_of rfl fun {B F H ρ σ s s1 w Q} R h q => by
  rw [ev] at h
  split at h
  · rename_i x s2 e1
    cases h
    exact ha.val R e1 fun H1 F1 ρ1 x1 p1 R1 vx rx => isi_ok rx R1 (q H1 F1 ρ1 x1 p1 R1 _ (Dp.bl _))
  · cases h
theorem g_isi2 {a : E} {t u : Ty} (ha : G K C a) : G K C (.isi2 a t u) := tst_of rfl fun {B F H ρ σ s s1 w Q} R h q => by
  rw [ev] at h
  split at h
  · rename_i x s2 e1
    cases h
    refine ha.val R e1 fun H1 F1 ρ1 x1 p1 R1 vx rx => ⟨(by show 2 ≤ sizeLine; decide), fun p hp => ?_⟩
    have R2 := R1.new (o := .tup [.ty (tyName t), .ty (tyName u)]) hp
    have x2 := Ex.new (o := .tup [.ty (tyName t), .ty (tyName u)]) (R1.fr.free hp)
    exact isi2_ok (rval_ex x2 (List.prefix_refl _) rx) R2 upd_same (q _ _ ρ1 (x1.trans x2) p1 R2 _ (Dp.bl _))
  · cases h
theorem g_star {a b : E} (ha : G K C a) (hb : G K C b) : G K C (.star a b) := tst_of rfl fun {B F H ρ σ s s1 w Q} R h q => by
  rw [ev] at h
  split at h
  · rename_i xs s2 e1
    split at h
    · rename_i y s3 e2
      split at h
      · rename_i hl
        cases h
        refine ha.val R e1 fun H1 F1 ρ1 x1 p1 R1 vx rx => ?_
        cases (show Dp K F1 vx (.tuple _) from rx) with
        | @tup a vs ds hx dx =>
        refine ⟨a, vs, rfl, .inl (ex_t R1.fr hx), ?_⟩
        refine hb.val R1 e2 fun H2 F2 ρ2 x2 p2 R2 vy ry => ?_
        have d := dps_app (dps_ex x2 dx) (.cons (d_rval hl.2 ry) .nil)
        refine ⟨?_, fun p hp => (q.on (x1.trans x2) (p1.trans p2)).new R2 hp ?_⟩
        · rw [dps_len d, List.length_append]
          exact Nat.le_of_lt (Nat.lt_of_le_of_lt (Nat.add_le_add_right hl.1 1) (by decide))
        · exact (show Dp K _ _ (.tuple _) from .tup (.inl (.inl upd_same)) (dps_ex (Ex.new (R2.fr.free hp)) d))
      · cases h
    · cases h
  · cases h
theorem g_count {a b : E} (ha : G K C a) (hb : G K C b) : G K C (.count a b) := tst_of rfl fun {B F H ρ σ s s1 w Q} R h q => by
  rw [ev] at h
  split at h
  · rename_i xs s2 e1
    split at h
    · rename_i k s3 e2
      obtain ⟨is, e6, e7⟩ := Option.map_eq_some_iff.mp h
      cases e7
      refine ha.val R e1 fun H1 F1 ρ1 x1 p1 R1 vx rx => ?_
      cases (show Dp K F1 vx (.list _) from rx) with
      | lst hx dx =>
      refine ⟨.inl ⟨rfl, _, ex_l R1.fr hx⟩, ?_⟩
      refine hb.val R1 e2 fun H2 F2 ρ2 x2 p2 R2 vy ry => ?_
      cases (show Dp K F2 vy (.int _) from ry)
      refine ⟨_, is, k, rfl, rfl, ?_, q H2 F2 ρ2 (x1.trans x2) (p1.trans p2) R2 _ (Dp.int _)⟩
      rw [← dps_ints dx e6]
      exact ex_l R2.fr (ex_l x2 hx)
    · cases h
  · cases h
theorem g_box {es : Es} (hs : GA K C es) : G K C (.box es) := tst_of rfl fun {B F H ρ σ s s1 w Q} R h q => by
  rw [ev] at h
  split at h
  · rename_i ws s2 e1
    split at h
    · rename_i xs e2
      split at h
      · rename_i hl
        cases h
        refine hs.val R e1 fun H1 F1 ρ1 x1 p1 R1 vs rs => ?_
        have d := rvals_dps rs e2 hl.2
        refine ⟨Nat.le_of_lt (small1000 (by rw [dps_len d]; exact hl.1)), fun p hp => ?_⟩
        obtain ⟨R2, hF, hρ, ho, hB⟩ := R1.lay (o := .lst vs) hp
        refine q _ F1 (ρ1 ++ [p]) x1 (p1.trans (List.prefix_append _ _)) ?_ _ ⟨p, rfl, by rw [← R1.slen, List.getElem?_append_right (Nat.le_refl _), Nat.sub_self]; rfl⟩
        refine ⟨R2.fr, R2.len, fun i sl h => ?_, R2.inj, by simp [R1.slen], ?_, fun n a ys h1 h2 => ?_, fun a o h => ?_⟩
        · obtain ⟨ov, g1, g2⟩ := R2.env i sl h
          refine ⟨ov, g1, ?_⟩
          cases sl with
          | no => cases ov <;> trivial
          | v w =>
            cases ov with
            | none => exact g2
            | some v => exact rval_ex (Ex.refl _) (List.prefix_append _ _) g2
          | own zs =>
            cases ov with
            | none => exact g2
            | some v =>
              obtain ⟨b, us, rfl, h4, h5, h6, h7⟩ := g2
              have ne : b ≠ p := fun e => ho ⟨i, zs, h, by rw [g1, e]⟩
              exact ⟨b, us, rfl, h4, by simp [h5, ne], h6, h7⟩
        · refine List.nodup_append.mpr ⟨R1.nd, by simp, fun x hx y hy e => hρ ?_⟩
          have e2 : y = p := by simpa using hy
          rw [← e2, ← e]
          exact hx
        · by_cases hn : n < ρ1.length
          · rw [List.getElem?_append_left hn] at h1
            have hn2 : n < s2.sto.length := by rw [← R1.slen]; exact hn
            rw [List.getElem?_append_left hn2] at h2
            exact R2.sto n a ys h1 h2
          · have hn1 : n = ρ1.length := by
              have := (List.getElem?_eq_some_iff.mp h1).1
              simp at this
              omega
            subst hn1
            rw [List.getElem?_append_right (Nat.le_refl _), Nat.sub_self] at h1
            rw [R1.slen, List.getElem?_append_right (Nat.le_refl _), Nat.sub_self] at h2
            cases h1
            cases h2
            exact ⟨hF, vs, upd_same, d⟩
        · obtain ⟨g1, g2, g3, g4⟩ := R2.bg a o h
          refine ⟨g1, g2, fun m => ?_, g4⟩
          rcases List.mem_append.mp m with m | m
          · exact g3 m
          · have e : a = p := by simpa using m
            rw [e] at h
            rw [hB] at h
            cases h
      · cases h
    · cases h
  · cases h
end
end Ev
set_option maxHeartbeats 1000000
/-! One's own lists. -/
namespace Ev
open PySem L2
section
variable {K : PySem.W.Frag} {C : Calls} {B F H : Hp} {ρ : List Addr} {σ : L2.St} {s : S} {v : V} {w : Val} {a : Addr} {o : HO} {xs ys : List PyData} {vs : List V}
theorem set_own {env : List Slot} {i j : Nat} {sl : Slot} {xs : List PyData} (hs : ∀ ys, sl ≠ .own ys) (h : (env.set i sl)[j]? = some (.own xs)) : i ≠ j ∧ env[j]? = some (.own xs) := by
  by_cases e : i = j
  · subst e
    by_cases hi : i < env.length
    · rw [List.getElem?_set_self hi] at h
      exact absurd (Option.some.inj h) (hs xs)
    · rw [List.getElem?_eq_none (by simpa using hi)] at h; cases h
  · rw [List.getElem?_set_ne e] at h
    exact ⟨e, h⟩
/-- what a slot is told to hold is told otherwise -/
theorem Rel.reslot (R : Rel K B F ρ σ H s) (i : Nat) {sl : Slot} (hs : ∀ ys, sl ≠ .own ys) (h : ∀ ov, σ[i]? = some ov → RSlot K F ρ H ov sl) : Rel K B F ρ σ H ⟨s.env.set i sl, s.sto⟩ := by
  refine ⟨R.fr, by simpa using R.len, fun j sl' q => ?_, fun j k xs ys a h1 h2 h3 h4 => ?_, R.slen, R.nd, R.sto, fun a o q => ?_⟩
  · by_cases e : i = j
    · subst e
      have hi : i < s.env.length := by
        have := (List.getElem?_eq_some_iff.mp q).1
        simpa using this
      rw [List.getElem?_set_self hi] at q
      cases q
      have hi2 : i < σ.length := by rw [← R.len]; exact hi
      exact ⟨_, List.getElem?_eq_getElem hi2, h _ (List.getElem?_eq_getElem hi2)⟩
    · rw [List.getElem?_set_ne e] at q
      exact R.env j sl' q
  · exact R.inj j k xs ys a (set_own hs h1).2 (set_own hs h2).2 h3 h4
  · obtain ⟨h1, h2, h3, h4⟩ := R.bg a o q
    exact ⟨h1, h2, h3, fun j xs q1 => h4 j xs (set_own hs q1).2⟩
theorem Rel.slot_own (R : Rel K B F ρ σ H s) {i : Nat} (h : s.env[i]? = some (.own xs)) : ∃ a vs, σ[i]? = some (some (.ref a)) ∧ F a = none ∧ a ∉ ρ ∧ H a = some (.lst vs) ∧ DpAll K F vs xs ∧ B a = none := by
  obtain ⟨ov, h1, h2⟩ := R.env i _ h
  cases ov with
  | none => exact h2.elim
  | some v =>
    obtain ⟨a, vs, rfl, h4, h5, h6, h7⟩ := h2
    refine ⟨a, vs, h1, h4, h5, h6, h7, ?_⟩
    cases q : B a with
    | none => rfl
    | some u => exact absurd h1 ((R.bg a u q).2.2.2 i xs h)
theorem owns_other {i : Nat} (R : Rel K B F ρ σ H s) (h : s.env[i]? = some (.own xs)) (h1 : σ[i]? = some (some (.ref a))) {sl : Slot} (hs : ∀ ys, sl ≠ .own ys) : ¬ Owns σ (s.env.set i sl) a := fun ⟨j, ys, q1, q2⟩ => by
  obtain ⟨ne, q3⟩ := set_own hs q1
  exact ne (R.inj i j xs ys a h q3 h1 q2)
/-- one's own list is given out, frozen -/
theorem Rel.frz (R : Rel K B F ρ σ H s) {i : Nat} (h : s.env[i]? = some (.own xs)) : ∃ a vs, σ[i]? = some (some (.ref a)) ∧ F a = none ∧ Rel K B (upd F a (.lst vs)) ρ σ H ⟨s.env.set i (.v (.d (.list xs))), s.sto⟩ ∧ Dp K (upd F a (.lst vs)) (.ref a) (.list xs) := by
  obtain ⟨a, vs, h1, h2, h3, h4, h5, h6⟩ := R.slot_own h
  have R1 := R.reslot i (sl := .no) (fun ys e => nomatch e) (fun ov _ => by cases ov <;> trivial)
  have R2 := R1.freeze h4 h2 h3 (owns_other R h h1 fun ys e => nomatch e) h6
  have d : Dp K (upd F a (.lst vs)) (.ref a) (.list xs) := .lst (.inl (.inl upd_same)) (dps_ex (Ex.new h2) h5)
  have R3 := R2.reslot i (sl := .v (.d (.list xs))) (fun ys e => nomatch e) (fun ov e => by
    rw [h1] at e
    cases e
    exact d)
  rw [show (s.env.set i Slot.no).set i (.v (.d (.list xs))) = s.env.set i (.v (.d (.list xs))) by simp] at R3
  exact ⟨a, vs, h1, h2, R3, d⟩
/-- one's own list is changed -/
theorem Rel.own_chg (R : Rel K B F ρ σ H s) {i : Nat} (h : s.env[i]? = some (.own xs)) (h1 : σ[i]? = some (some (.ref a))) (d : DpAll K F vs ys) : Rel K B F ρ σ (upd H a (.lst vs)) ⟨s.env.set i (.own ys), s.sto⟩ := by
  obtain ⟨b, us, e1, h2, h3, h4, h5, h6⟩ := R.slot_own h
  rw [h1] at e1
  cases e1
  have R1 := R.reslot i (sl := .no) (fun ys e => nomatch e) (fun ov _ => by cases ov <;> trivial)
  have R2 := R1.chg (u := .lst vs) h2 h3 (owns_other R h h1 fun ys e => nomatch e) h6
  have hi : i < s.env.length := (List.getElem?_eq_some_iff.mp h).1
  have old : ∀ {j : Nat} {zs : List PyData}, i ≠ j → (s.env.set i (.own ys))[j]? = some (.own zs) → (s.env.set i Slot.no)[j]? = some (.own zs) := fun {j zs} ne q => by
    rw [List.getElem?_set_ne ne] at q ⊢; exact q
  refine ⟨R2.fr, by simpa using R2.len, fun j sl q => ?_, fun j k zs ws b q1 q2 q3 q4 => ?_, R2.slen, R2.nd, R2.sto, fun b o q => ?_⟩
  · by_cases e : i = j
    · subst e
      rw [List.getElem?_set_self hi] at q
      cases q
      exact ⟨_, h1, a, vs, rfl, h2, h3, upd_same, d⟩
    · have q' : (s.env.set i Slot.no)[j]? = some sl := by rw [List.getElem?_set_ne e] at q ⊢; exact q
      exact R2.env j sl q'
  · by_cases e1 : i = j
    · by_cases e2 : i = k
      · exact e1.symm.trans e2
      · subst e1
        rw [h1] at q3
        cases q3
        rw [List.getElem?_set_ne e2] at q2
        exact absurd (R.inj i k xs ws a h q2 h1 q4) e2
    · by_cases e2 : i = k
      · subst e2
        rw [h1] at q4
        cases q4
        rw [List.getElem?_set_ne e1] at q1
        exact absurd (R.inj i j xs zs a h q1 h1 q3) e1
      · exact R2.inj j k zs ws b (old e1 q1) (old e2 q2) q3 q4
  · obtain ⟨g1, g2, g3, g4⟩ := R2.bg b o q
    refine ⟨g1, g2, g3, fun j zs q1 q2 => ?_⟩
    by_cases e : i = j
    · subst e
      rw [h1] at q2
      cases q2
      rw [h6] at q
      cases q
    · exact g4 j zs (old e q1) q2
theorem g_frz {i : Nat} : G K C (.frz i) := tst_of rfl fun {B F H ρ σ s s1 w Q} R h q => by
  rw [ev] at h
  split at h
  · rename_i xs e1
    cases h
    obtain ⟨a, vs, h1, h2, h3, h4⟩ := R.frz e1
    exact ⟨.ref a, h1, q H _ ρ (Ex.new h2) (List.prefix_refl _) h3 _ h4⟩
  · cases h
theorem g_ownNe {i : Nat} : G K C (.ownNe i) := tst_of rfl fun {B F H ρ σ s s1 w Q} R h q => by
  rw [ev] at h
  split at h
  · rename_i xs e1
    cases h
    obtain ⟨a, vs, h1, h2, h3, h4, h5, h6⟩ := R.slot_own e1
    refine ⟨.ref a, h1, ⟨Nat.zero_le _, fun p hp => ?_⟩⟩
    have ne : a ≠ p := fun e => by rw [e, hp] at h4; cases h4
    have x2 := Ex.new (o := .lst []) hp
    refine ⟨.list xs, .list [], .lst (.inl (.inl (by rw [upd_ne ne]; exact h4))) (dps_ex x2 (dps_ex R.fr h5)), .lst (.inl (.inl upd_same)) .nil, ?_, ?_⟩
    · simp [low, PyData.depth, PyData.depthAll]
    · have e : (if true = true then !PyData.eqv (.list xs) (.list []) else PyData.eqv (.list xs) (.list [])) = !xs.isEmpty := by
        cases xs <;> simp [PyData.eqv, PyData.eqvAll]
      rw [e]
      exact q _ _ ρ (Ex.new (R.fr.free hp)) (List.prefix_refl _) (R.new hp) _ (Dp.bl _)
  · cases h
theorem g_ownIx {i : Nat} {a : E} (ha : G K C a) : G K C (.ownIx i a) := tst_of rfl fun {B F H ρ σ s s1 w Q} R h q => by
  rw [ev] at h
  split at h
  · rename_i xs0 e0
    obtain ⟨b, _, h1, _⟩ := R.slot_own e0
    split at h
    · rename_i y s2 e1
      split at h
      · rename_i xs e2
        obtain ⟨z, e6, e7⟩ := Option.map_eq_some_iff.mp h
        cases e7
        refine ⟨.ref b, h1, ?_⟩
        refine ha.val R e1 fun H1 F1 ρ1 x1 p1 R1 vy ry => ?_
        obtain ⟨c, vs, g1, g2, g3, g4, g5, g6⟩ := R1.slot_own e2
        rw [h1] at g1
        cases g1
        unfold ixD at e6
        split at e6
        · rename_i hx
          cases hx
          cases (show Dp K F1 vy (.int _) from ry)
          obtain ⟨v, k1, k2⟩ := ix_seq g5 e6
          exact .inl ⟨b, vs, _, v, rfl, rfl, SqL.of g4, k1, q H1 F1 ρ1 x1 p1 R1 v (rval_d k2)⟩
        · rename_i hx; cases hx
        · cases e6
      · cases h
    · cases h
  · cases h
theorem g_ownTup {i : Nat} : G K C (.ownTup i) := tst_of rfl fun {B F H ρ σ s s1 w Q} R h q => by
  rw [ev] at h
  split at h
  · rename_i xs e1
    cases h
    obtain ⟨a, vs, h1, h2, h3, h4, h5, h6⟩ := R.slot_own e1
    refine ⟨.ref a, h1, a, vs, rfl, .inl ⟨SqL.of h4, fun p hp => ?_⟩⟩
    exact q.new R hp (show Dp K _ _ (.tuple _) from .tup (.inl (.inl upd_same)) (dps_ex (Ex.new (R.fr.free hp)) h5))
  · cases h
theorem getLast_at : ∀ {vs : List V} {xs : List PyData} {x : PyData}, DpAll K F vs xs → xs.getLast? = some x → ∃ v, vs[vs.length - 1]? = some v ∧ Dp K F v x := by
  intro vs xs x d h
  rw [List.getLast?_eq_getElem?] at h
  rw [dps_len d]
  exact dps_get' d h
theorem g_ownPop {i : Nat} : G K C (.ownPop i) := tst_of rfl fun {B F H ρ σ s s1 w Q} R h q => by
  rw [ev] at h
  split at h
  · rename_i xs e1
    split at h
    · rename_i x e2
      cases h
      obtain ⟨a, vs, h1, h2, h3, h4, h5, h6⟩ := R.slot_own e1
      obtain ⟨v, h7, h8⟩ := getLast_at h5 e2
      refine ⟨.ref a, h1, .inl ⟨rfl, vs, SqL.of h4⟩, a, vs, v, rfl, rfl, h4, h7, ?_⟩
      exact q _ F ρ (Ex.refl F) (List.prefix_refl _) (R.own_chg e1 h1 (dps_dropLast h5)) v (rval_d h8)
    · cases h
  · cases h
end
end Ev
set_option maxHeartbeats 1000000
/-! What is walked. -/
namespace Ev
open PySem L2
section
variable {K : PySem.W.Frag} {C : Calls}
theorem yl_list {F : Hp} {a : Addr} {vs : List V} {xs : List PyData} (h : SqL K F a vs) (d : DpAll K F vs xs) : Yl K F (Itl K a) xs := fun F' H' e1 e2 => by
  have h' := ex_l e2 (ex_l e1 h)
  refine ⟨⟨vs, h', by rw [dps_len d]; exact Nat.le_refl _⟩, fun i x hx => ?_⟩
  obtain ⟨v, h1, h2⟩ := dps_get' d hx
  refine ⟨⟨vs, v, h', h1⟩, fun u H2 y => .inl ⟨y.1, ?_⟩⟩
  have := (y.2 vs h').symm.trans h1
  cases this
  exact dp_ex e1 h2
theorem yl_tup {F : Hp} {a : Addr} {vs : List V} {xs : List PyData} (h : SqT K F a vs) (d : DpAll K F vs xs) : Yl K F (Itt K a) xs := fun F' H' e1 e2 => by
  have h' := ex_t e2 (ex_t e1 h)
  refine ⟨⟨vs, h', by rw [dps_len d]; exact Nat.le_refl _⟩, fun i x hx => ?_⟩
  obtain ⟨v, h1, h2⟩ := dps_get' d hx
  refine ⟨⟨vs, v, h', h1⟩, fun u H2 y => .inl ⟨y.1, ?_⟩⟩
  have := (y.2 vs h').symm.trans h1
  cases this
  exact dp_ex e1 h2
theorem gi_seq {a : E} (ha : G K C a) : GI K C (.seq a) where
  val := by
    intro B F H ρ σ s s1 xs R Rl h q
    rw [evIt] at h
    split at h
    · rename_i x s2 e1
      obtain ⟨ys, e2, e3⟩ := Option.map_eq_some_iff.mp h
      cases e3
      refine ha.val Rl e1 fun H1 F1 ρ1 x1 p1 R1 v r => ?_
      obtain ⟨b, vs, rfl, d, hk | hk⟩ := seq_of e2 r
      · exact ⟨b, rfl, .inl ⟨⟨vs, ex_l R1.fr hk.2⟩, q H1 F1 ρ1 x1 p1 R1 _ (yl_list hk.2 d)⟩⟩
      · exact ⟨b, rfl, .inr ⟨⟨vs, ex_t R1.fr hk.2⟩, q H1 F1 ρ1 x1 p1 R1 _ (yl_tup hk.2 d)⟩⟩
    · cases h
theorem gi_rng {a : E} (ha : G K C a) : GI K C (.rng a) where
  val := by
    intro B F H ρ σ s s1 xs R Rl h q
    rw [evIt] at h
    split at h
    · rename_i i s2 e1
      split at h
      · rename_i hi
        cases h
        refine ha.val Rl e1 fun H1 F1 ρ1 x1 p1 R1 v r => ?_
        cases (show Dp K F1 v (.int _) from r)
        · refine ⟨i, rfl, by omega, by omega, q H1 F1 ρ1 x1 p1 R1 _ fun F' H' e2 e3 => ⟨?_, fun j x hx => ?_⟩⟩
          · show i.toNat ≤ _
            simp
          · have hj : j < i.toNat := by
              have := (List.getElem?_eq_some_iff.mp hx).1
              simpa using this
            refine ⟨hj, fun u H2 y => .inl ⟨y.1, ?_⟩⟩
            have hx2 : x = .int (j : Int) := by
              rw [List.getElem?_map, List.getElem?_range hj] at hx
              exact (Option.some.inj hx).symm
            rw [y.2, hx2]
            have : (0 : Int) + (j : Int) = j := by omega
            rw [this]
            exact Dp.int _
      · cases h
    · cases h
theorem enumD_get : ∀ (xs : List PyData) (n i : Nat) (x : PyData), (enumD n xs)[i]? = some x → ∃ y, xs[i]? = some y ∧ x = .tuple [.int ((n + i : Nat) : Int), y]
  | [], _, _, _, h => by simp [enumD] at h
  | y :: r, n, 0, x, h => by
    simp [enumD] at h
    exact ⟨y, by simp, by rw [← h]; simp⟩
  | y :: r, n, i + 1, x, h => by
    simp [enumD] at h
    obtain ⟨z, h1, h2⟩ := enumD_get r (n + 1) i x h
    refine ⟨z, by simpa using h1, ?_⟩
    rw [h2]
    have : n + 1 + i = n + (i + 1) := by omega
    rw [this]
theorem enumD_len : ∀ (xs : List PyData) (n : Nat), (enumD n xs).length = xs.length
  | [], _ => rfl
  | _ :: r, n => by rw [enumD, List.length_cons, List.length_cons, enumD_len r]
theorem gi_enum {a : E} (ha : G K C a) : GI K C (.enum a) where
  val := by
    intro B F H ρ σ s s1 xs R Rl h q
    rw [evIt] at h
    split at h
    · rename_i x s2 e1
      obtain ⟨ys, e2, e3⟩ := Option.map_eq_some_iff.mp h
      cases e3
      refine ha.val Rl e1 fun H1 F1 ρ1 x1 p1 R1 v r => ?_
      obtain ⟨b, vs, rfl, d, hk | hk⟩ := seq_of e2 r
      · refine ⟨b, vs, rfl, .inl ⟨ex_l R1.fr hk.2, q H1 F1 ρ1 x1 p1 R1 _ fun F' H' e4 e5 => ?_⟩⟩
        have h' := ex_l e5 (ex_l e4 hk.2)
        refine ⟨⟨vs, h', by rw [enumD_len, dps_len d]; exact Nat.le_refl _⟩, fun i z hz => ?_⟩
        obtain ⟨y, g1, g2⟩ := enumD_get _ _ _ _ hz
        obtain ⟨u, g3, g4⟩ := dps_get' d g1
        refine ⟨⟨vs, u, h', g3⟩, fun w H2 y2 => .inr ?_⟩
        obtain ⟨T, x', k1, k2, k3, k4⟩ := y2
        have k5 := (k4 vs h').symm.trans g3
        cases k5
        refine ⟨T, _, k2, k3, ?_⟩
        rw [k1, g2, Nat.zero_add]
        have hT : F' T = none := Ex.free e5 k2
        exact .tup (.inl (.inl upd_same)) (.cons (.int _) (.cons (dp_ex (Ex.new hT) (dp_ex e4 g4)) .nil))
      · refine ⟨b, vs, rfl, .inr ⟨ex_t R1.fr hk.2, q H1 F1 ρ1 x1 p1 R1 _ fun F' H' e4 e5 => ?_⟩⟩
        have h' := ex_t e5 (ex_t e4 hk.2)
        refine ⟨⟨vs, h', by rw [enumD_len, dps_len d]; exact Nat.le_refl _⟩, fun i z hz => ?_⟩
        obtain ⟨y, g1, g2⟩ := enumD_get _ _ _ _ hz
        obtain ⟨u, g3, g4⟩ := dps_get' d g1
        refine ⟨⟨vs, u, h', g3⟩, fun w H2 y2 => .inr ?_⟩
        obtain ⟨T, x', k1, k2, k3, k4⟩ := y2
        have k5 := (k4 vs h').symm.trans g3
        cases k5
        refine ⟨T, _, k2, k3, ?_⟩
        rw [k1, g2, Nat.zero_add]
        have hT : F' T = none := Ex.free e5 k2
        exact .tup (.inl (.inl upd_same)) (.cons (.int _) (.cons (dp_ex (Ex.new hT) (dp_ex e4 g4)) .nil))
    · cases h
theorem zipD_get : ∀ (xs ys : List PyData) (i : Nat) (x : PyData), (zipD xs ys)[i]? = some x → ∃ y z, xs[i]? = some y ∧ ys[i]? = some z ∧ x = .tuple [y, z]
  | [], _, _, _, h => by simp [zipD] at h
  | _ :: _, [], _, _, h => by simp [zipD] at h
  | y :: r, z :: t, 0, x, h => by
    simp [zipD] at h
    exact ⟨y, z, by simp, by simp, h.symm⟩
  | y :: r, z :: t, i + 1, x, h => by
    simp [zipD] at h
    obtain ⟨a, b, h1, h2, h3⟩ := zipD_get r t i x h
    exact ⟨a, b, by simpa using h1, by simpa using h2, h3⟩
theorem zipD_len : ∀ (xs ys : List PyData), (zipD xs ys).length = min xs.length ys.length
  | [], ys => by simp [zipD]
  | _ :: _, [] => by simp [zipD]
  | _ :: r, _ :: t => by rw [zipD, List.length_cons, zipD_len r t]; simp
theorem gi_zip {a b : E} (ha : G K C a) (hb : G K C b) : GI K C (.zip a b) where
  val := by
    intro B F H ρ σ s s1 xs R Rl h q
    rw [evIt] at h
    split at h
    · rename_i x s2 e1
      split at h
      · rename_i y s3 e2
        refine ha.val Rl e1 fun H1 F1 ρ1 x1 p1 R1 v r => ?_
        refine hb.val R1 e2 fun H2 F2 ρ2 x2 p2 R2 u t => ?_
        split at h
        · cases h
          cases (show Dp K F1 v (.list _) from r) with
          | @lst a1 vs _ ha1 d1 =>
          cases (show Dp K F2 u (.list _) from t) with
          | @lst a2 us _ ha2 d2 =>
          refine ⟨a1, a2, vs, us, rfl, .inl ⟨ex_l R2.fr (ex_l x2 ha1), ex_l R2.fr ha2, q H2 F2 ρ2 (x1.trans x2) (p1.trans p2) R2 _ fun F' H' e4 e5 => ?_⟩⟩
          have h1' := ex_l e5 (ex_l e4 (ex_l x2 ha1))
          have h2' := ex_l e5 (ex_l e4 ha2)
          refine ⟨⟨vs, us, h1', h2', by rw [zipD_len, dps_len d1, dps_len d2]; omega⟩, fun i z hz => ?_⟩
          obtain ⟨y1, y2, g1, g2, g3⟩ := zipD_get _ _ _ _ hz
          obtain ⟨u1, k1, k2⟩ := dps_get' d1 g1
          obtain ⟨u2, k3, k4⟩ := dps_get' d2 g2
          refine ⟨⟨vs, us, u1, u2, h1', h2', k1, k3⟩, fun w H3 yy => .inr ?_⟩
          obtain ⟨T, z1, z2, m1, m2, m3, m4, m5⟩ := yy
          have n1 := (m4 vs h1').symm.trans k1
          have n2 := (m5 us h2').symm.trans k3
          cases n1
          cases n2
          refine ⟨T, _, m2, m3, ?_⟩
          rw [m1, g3]
          have hT : F' T = none := Ex.free e5 m2
          exact .tup (.inl (.inl upd_same)) (.cons (dp_ex (Ex.new hT) (dp_ex (x2.trans e4) k2)) (.cons (dp_ex (Ex.new hT) (dp_ex e4 k4)) .nil))
        · cases h
          cases (show Dp K F1 v (.tuple _) from r) with
          | @tup a1 vs _ ha1 d1 =>
          cases (show Dp K F2 u (.tuple _) from t) with
          | @tup a2 us _ ha2 d2 =>
          refine ⟨a1, a2, vs, us, rfl, .inr ⟨ex_t R2.fr (ex_t x2 ha1), ex_t R2.fr ha2, q H2 F2 ρ2 (x1.trans x2) (p1.trans p2) R2 _ fun F' H' e4 e5 => ?_⟩⟩
          have h1' := ex_t e5 (ex_t e4 (ex_t x2 ha1))
          have h2' := ex_t e5 (ex_t e4 ha2)
          refine ⟨⟨vs, us, h1', h2', by rw [zipD_len, dps_len d1, dps_len d2]; omega⟩, fun i z hz => ?_⟩
          obtain ⟨y1, y2, g1, g2, g3⟩ := zipD_get _ _ _ _ hz
          obtain ⟨u1, k1, k2⟩ := dps_get' d1 g1
          obtain ⟨u2, k3, k4⟩ := dps_get' d2 g2
          refine ⟨⟨vs, us, u1, u2, h1', h2', k1, k3⟩, fun w H3 yy => .inr ?_⟩
          obtain ⟨T, z1, z2, m1, m2, m3, m4, m5⟩ := yy
          have n1 := (m4 vs h1').symm.trans k1
          have n2 := (m5 us h2').symm.trans k3
          cases n1
          cases n2
          refine ⟨T, _, m2, m3, ?_⟩
          rw [m1, g3]
          have hT : F' T = none := Ex.free e5 m2
          exact .tup (.inl (.inl upd_same)) (.cons (dp_ex (Ex.new hT) (dp_ex (x2.trans e4) k2)) (.cons (dp_ex (Ex.new hT) (dp_ex e4 k4)) .nil))
        · cases h
      · cases h
    · cases h
theorem gi_chars {a : E} (ha : G K C a) : GI K C (.chars a) where
  val := by
    intro B F H ρ σ s s1 xs R Rl h q
    rw [evIt] at h
    split at h
    · rename_i x s2 e1
      cases h
      refine ha.val Rl e1 fun H1 F1 ρ1 x1 p1 R1 v r => ?_
      cases (show Dp K F1 v (.str _) from r)
      refine ⟨x, rfl, q H1 F1 ρ1 x1 p1 R1 _ fun F' H' e4 e5 => ⟨?_, fun i z hz => ?_⟩⟩
      · show x.cps.size ≤ _
        simp [charsD]
      · unfold charsD at hz
        rw [List.getElem?_map] at hz
        obtain ⟨c, g1, g2⟩ := Option.map_eq_some_iff.mp hz
        have hc : x.cps[i]? = some c := by simpa using g1
        refine ⟨(Array.getElem?_eq_some_iff.mp hc).1, fun w H3 yy => .inl ⟨yy.1, ?_⟩⟩
        obtain ⟨c', m1, m2⟩ := yy.2
        have : c' = c := Option.some.inj (m1.symm.trans hc)
        rw [m2, this, ← g2]
        exact .str _
    · cases h
end
end Ev
set_option maxHeartbeats 2000000
/-! Targets and comprehensions. -/
namespace Ev
open PySem L2
/-! ### slots -/
def tgIs : Tg → List Nat
  | .n i => [i]
  | .t is => is
theorem wipe_len (env : List Slot) : ∀ vs : List Nat, (wipe env vs).length = env.length
  | [] => rfl
  | v :: vs => by rw [wipe, List.length_set, wipe_len env vs]
theorem hide_len : ∀ env : List Slot, (hide env).length = env.length
  | [] => rfl
  | .own _ :: r => by rw [hide, List.length_cons, List.length_cons, hide_len r]
  | .no :: r => by rw [hide, List.length_cons, List.length_cons, hide_len r]; intro _ h; cases h
  | .v _ :: r => by rw [hide, List.length_cons, List.length_cons, hide_len r]; intro _ h; cases h
theorem hide_get : ∀ (env : List Slot) (i : Nat) (sl : Slot), (hide env)[i]? = some sl → sl = .no ∨ ∃ w, sl = .v w ∧ env[i]? = some (.v w)
  | [], i, sl, h => by simp [hide] at h
  | .own xs :: r, 0, sl, h => by simp [hide] at h; exact .inl h.symm
  | .no :: r, 0, sl, h => by simp [hide] at h; exact .inl h.symm
  | .v w :: r, 0, sl, h => by simp [hide] at h; exact .inr ⟨w, h.symm, by simp⟩
  | .own xs :: r, i + 1, sl, h => by simp [hide] at h; simpa using hide_get r i sl h
  | .no :: r, i + 1, sl, h => by simp [hide] at h; simpa using hide_get r i sl h
  | .v w :: r, i + 1, sl, h => by simp [hide] at h; simpa using hide_get r i sl h
theorem wipe_get (env : List Slot) (i : Nat) (sl : Slot) : ∀ vs : List Nat, (wipe env vs)[i]? = some sl → sl = .no ∨ (i ∉ vs ∧ env[i]? = some sl)
  | [], h => .inr ⟨by simp, h⟩
  | v :: vs, h => by
    rw [wipe] at h
    by_cases e : v = i
    · subst e
      by_cases hi : v < (wipe env vs).length
      · rw [List.getElem?_set_self hi] at h
        exact .inl (Option.some.inj h).symm
      · rw [List.getElem?_eq_none (by simpa using hi)] at h; cases h
    · rw [List.getElem?_set_ne e] at h
      rcases wipe_get env i sl vs h with h | ⟨h1, h2⟩
      · exact .inl h
      · exact .inr ⟨by simp [h1, Ne.symm e], h2⟩
theorem l2wipe_out {σ : L2.St} {i : Nat} : ∀ {vs : List Nat}, i ∉ vs → (L2.wipe σ vs)[i]? = σ[i]?
  | [], _ => rfl
  | v :: vs, h => by
    have h1 : v ≠ i := fun e => h (by rw [e]; exact List.mem_cons_self)
    have h2 : i ∉ vs := fun m => h (List.mem_cons_of_mem _ m)
    unfold L2.wipe
    rw [List.getElem?_set_ne h1]
    exact l2wipe_out h2
theorem l2wipe_in {σ : L2.St} {i : Nat} : ∀ {vs : List Nat}, i ∈ vs → (L2.wipe σ vs)[i]? = if i < σ.length then some none else none
  | [], h => nomatch h
  | v :: vs, h => by
    unfold L2.wipe
    by_cases e : v = i
    · subst e
      rw [List.getElem?_set]
      simp [L2.wipe_length]
    · rw [List.getElem?_set_ne e]
      rcases List.mem_cons.mp h with m | m
      · exact absurd m.symm e
      · exact l2wipe_in m
theorem l2wipe_eq {σ σ' : L2.St} {vs : List Nat} (hl : σ'.length = σ.length) (h : ∀ i, i ∉ vs → σ'[i]? = σ[i]?) : L2.wipe σ' vs = L2.wipe σ vs := by
  apply List.ext_getElem?
  intro i
  by_cases m : i ∈ vs
  · rw [l2wipe_in m, l2wipe_in m, hl]
  · rw [l2wipe_out m, l2wipe_out m, h i m]
section
variable {K : PySem.W.Frag} {C : Calls} {B F H : Hp} {ρ : List Addr} {σ : L2.St} {s : S}
theorem assignD_ok : ∀ {is : List Nat} {xs : List PyData} {vs : List V} {σ : L2.St} {env env' : List Slot} {sto : Sto} {Q : L2.St → Hp → Prop}, assignD is xs env = some env' → DpAll K F vs xs → Rel K B F ρ σ H ⟨env, sto⟩ →
    (∀ σ', σ'.length = σ.length → (∀ i, i ∉ is → σ'[i]? = σ[i]?) → Rel K B F ρ σ' H ⟨env', sto⟩ → Q σ' H) → gTgs is vs σ H Q
  | [], [], _, σ, env, env', sto, Q, h, d, R, q => by
    cases h
    cases d
    exact ⟨rfl, q σ rfl (fun _ _ => rfl) R⟩
  | i :: is, x :: xs, _, σ, env, env', sto, Q, h, d, R, q => by
    cases d with
    | @cons v vs _ _ d1 d2 =>
    refine ⟨v, vs, rfl, ?_⟩
    show gTgs is vs (σ.set i (some v)) H Q
    refine assignD_ok (env := env.set i (.v (.d x))) h d2 (R.setv i (rval_d d1)) fun σ' hl ho R' => q σ' (by simpa using hl) (fun j hj => ?_) R'
    have h1 : j ≠ i := fun e => hj (by rw [e]; exact List.mem_cons_self)
    rw [ho j fun m => hj (List.mem_cons_of_mem _ m), List.getElem?_set_ne (Ne.symm h1)]
  | [], _ :: _, _, _, _, _, _, _, h, _, _, _ => by cases h
  | _ :: _, [], _, _, _, _, _, _, h, _, _, _ => by cases h
theorem assignD_len : ∀ {is : List Nat} {xs : List PyData} {env env' : List Slot}, assignD is xs env = some env' → xs.length = is.length
  | [], [], _, _, _ => rfl
  | _ :: is, _ :: xs, _, _, h => congrArg (· + 1) (assignD_len (is := is) (xs := xs) h)
  | [], _ :: _, _, _, h => by cases h
  | _ :: _, [], _, _, h => by cases h
theorem assign_ok {tg : Tg} {w : Val} {v : V} {env env' : List Slot} {sto : Sto} {Q : L2.St → Hp → Prop} (h : assign tg w env = some env') (r : RVal K F ρ v w) (R : Rel K B F ρ σ H ⟨env, sto⟩)
    (q : ∀ σ', σ'.length = σ.length → (∀ i, i ∉ tgIs tg → σ'[i]? = σ[i]?) → Rel K B F ρ σ' H ⟨env', sto⟩ → Q σ' H) : gTg K tg v σ H Q := by
  unfold assign at h
  split at h
  · rename_i w' env0 i
    cases h
    exact q _ (by simp) (fun j hj => List.getElem?_set_ne (fun e => hj (by simp [tgIs, e]))) (R.setv i r)
  · rename_i is xs env0
    cases (show Dp K F v (.tuple _) from r) with
    | @tup a vs _ hx d =>
    refine ⟨a, vs, rfl, ex_t R.fr hx, ?_, assignD_ok h d R q⟩
    rw [dps_len d, assignD_len h]
  · cases h
/-! ### list comprehensions -/
/-- the turn's function -/
def lcF (C : Calls) (tg : Tg) (c elt : E) (env0 : List Slot) : PyData → Sto → Option (Option PyData × Sto) := fun x st => match assign tg (.d x) env0 with
  | none => none
  | some env => match ev C c ⟨env, st⟩ with
    | some (.d (.bool false), s2) => some (none, s2.sto)
    | some (.d (.bool true), s2) => match ev C elt s2 with
      | some (.d y, s3) => if noDict y = true then some (some y, s3.sto) else none
      | _ => none
    | _ => none
theorem bown_none {a : Addr} (hB : B a = none) (ho : ¬ Owns σ s.env a) : Bown B σ s.env H a = none := by rw [bown_not ho]; exact hB
/-- the slots of a comprehension's turn -/
theorem Rel.comp (R : Rel K B F ρ σ H s) (own : List Nat) : Rel K (Bown B σ s.env H) F ρ (L2.wipe σ own) H ⟨wipe (hide s.env) own, s.sto⟩ := by
  refine R.sub (by rw [wipe_len, hide_len, L2.wipe_length, R.len]) fun i sl h => ?_
  rcases wipe_get _ i sl own h with h | ⟨h1, h2⟩
  · exact .inl h
  · rcases hide_get _ i sl h2 with h | ⟨w, h3, h4⟩
    · exact .inl h
    · obtain ⟨ov, g1, g2⟩ := R.env i _ h4
      exact .inr ⟨w, ov, h3, by rw [l2wipe_out h1]; exact g1, g2⟩
theorem gf_lc {tg : Tg} {it : It} {c elt : E} {own : List Nat} (hi : GI K C it) (hc : G K C c) (he : G K C elt) (ht : ∀ i ∈ tgIs tg, i ∈ own) : GFr K C (.lc tg it c elt own) := ⟨fun {B F H ρ σ s s1 w Q} R h q => by
  rw [ev] at h
  split at h
  · rename_i xs s2 e1
    split at h
    · rename_i ys st e2
      split at h
      · rename_i hz
        cases h
        have e2' : lcGo (lcF C tg c elt (wipe (hide s2.env) own)) xs s2.sto = some (ys, st) := e2
        refine hi.val R e1 fun H1 F1 ρ1 x1 p1 R1 J hJ => fun D hD => ?_
        obtain ⟨R2, hF, hρ, ho, hB⟩ := R1.lay (o := .lst []) hD
        refine ⟨fun i m H' => m = xs.length - i ∧ i ≤ xs.length ∧ ∃ (F' : Hp) (ρ' : List Addr) (sto' : Sto) (acc : List V) (ds rest : List PyData), Ex F1 F' ∧ ρ1 <+: ρ' ∧ Rel K B F' ρ' σ H' ⟨s2.env, sto'⟩ ∧ F' D = none ∧ D ∉ ρ' ∧
            H' D = some (.lst acc) ∧ DpAll K F' acc ds ∧ lcGo (lcF C tg c elt (wipe (hide s2.env) own)) (xs.drop i) sto' = some (rest, st) ∧ ys = ds ++ rest,
          ⟨xs.length, by omega, Nat.zero_le _, F1, ρ1, s2.sto, [], [], ys, Ex.refl F1, List.prefix_refl _, R2, hF, hρ, upd_same, .nil, e2', rfl⟩, ?_⟩
        rintro i m H' ⟨rfl, hle, F', ρ', sto', acc, ds, rest, x2, p2, R', hF', hρ', hD', da, hgo, hys⟩
        obtain ⟨stop, turn⟩ := hJ F' H' x2 R'.fr
        by_cases hlt : i < xs.length
        · obtain ⟨go, yld⟩ := turn i xs[i] (List.getElem?_eq_getElem hlt)
          refine .inr ⟨go, _, fun H'' hn => ⟨xs.length - (i + 1), by omega, rfl, hlt, hn⟩, fun x H2 y => ?_⟩
          rw [List.drop_eq_getElem_cons hlt] at hgo
          rw [lcGo] at hgo
          split at hgo
          · cases hgo
          rename_i o st1 hf
          split at hgo
          · cases hgo
          rename_i rest' st2 hgo'
          cases hgo
          -- the item
          obtain ⟨F3, x3, R3, hD3, hF3, hx⟩ : ∃ F3, Ex F' F3 ∧ Rel K B F3 ρ' σ H2 ⟨s2.env, sto'⟩ ∧ H2 D = some (.lst acc) ∧ F3 D = none ∧ Dp K F3 x xs[i] := by
            rcases yld x H2 y with ⟨rfl, hx⟩ | ⟨T, u, hT, rfl, hx⟩
            · exact ⟨F', Ex.refl F', R', hD', hF', hx⟩
            · have ne : D ≠ T := fun e => by rw [e, hT] at hD'; cases hD'
              exact ⟨upd F' T u, Ex.new (R'.fr.free hT), R'.new hT, by rw [upd_ne ne]; exact hD', by rw [upd_ne ne]; exact hF', hx⟩
          have hBo : Bown B σ s2.env H2 D = none := bown_none (s := ⟨s2.env, sto'⟩) hB ho
          have Rc := R3.comp own
          have hoc : ¬ Owns (L2.wipe σ own) (wipe (hide s2.env) own) D := fun ⟨j, zs, q1, q2⟩ => by
            rcases wipe_get _ j _ own q1 with e | ⟨_, e⟩
            · cases e
            · rcases hide_get _ j _ e with e | ⟨w, e, _⟩ <;> cases e
          have Rd := Rc.addB (a := D) (o := .lst acc) hD3 hF3 hρ' hoc
          unfold lcF at hf
          split at hf
          · cases hf
          rename_i env hasg
          refine assign_ok hasg (rval_d hx) Rd fun σ2 hl2 ho2 R4 => ⟨?_, ?_⟩
          · refine (l2wipe_eq (σ := L2.wipe σ own) hl2 fun j hj => ho2 j fun m => hj (ht j m)).trans ?_
            exact l2wipe_eq (L2.wipe_length _ _) fun j hj => l2wipe_out hj
          -- back to the walk
          have back : ∀ {H5 F5 : Hp} {ρ5 : List Addr} {s5 : S}, Ex F3 F5 → ρ' <+: ρ5 → Rel K (upd (Bown B σ s2.env H2) D (.lst acc)) F5 ρ5 σ2 H5 s5 → Rel K B F5 ρ5 σ H5 ⟨s2.env, s5.sto⟩ ∧ F5 D = none ∧ D ∉ ρ5 ∧ H5 D = some (.lst acc) := by
            intro H5 F5 ρ5 s5 x5 p5 R5
            obtain ⟨g1, g2, g3, _⟩ := R5.bg D (.lst acc) upd_same
            refine ⟨Rel.back (s := ⟨s2.env, sto'⟩) R3 (R5.monoB fun a o e => ?_) x5 p5, g2, g3, g1⟩
            rw [upd_ne (ne_of_none e hBo)]
            exact e
          -- behind the element
          have fin : ∀ {H5 F5 : Hp} {ρ5 : List Addr} {s5 : S} {y : V} {d : PyData}, Ex F3 F5 → ρ' <+: ρ5 → Rel K (upd (Bown B σ s2.env H2) D (.lst acc)) F5 ρ5 σ2 H5 s5 → Dp K F5 y d → o = some d → s5.sto = st1 →
              ∃ acc', H5 D = some (.lst acc') ∧ acc'.length < sizeLine ∧ (∃ (F' : Hp) (ρ' : List Addr) (sto' : Sto) (acc1 : List V) (ds rest : List PyData), Ex F1 F' ∧ ρ1 <+: ρ' ∧ Rel K B F' ρ' σ (upd H5 D (.lst (acc' ++ [y]))) ⟨s2.env, sto'⟩ ∧ F' D = none ∧ D ∉ ρ' ∧
                upd H5 D (.lst (acc' ++ [y])) D = some (.lst acc1) ∧ DpAll K F' acc1 ds ∧ lcGo (lcF C tg c elt (wipe (hide s2.env) own)) (xs.drop (i + 1)) sto' = some (rest, st) ∧ ys = ds ++ rest) := by
            intro H5 F5 ρ5 s5 y d x5 p5 R5 hy ho5 hs5
            obtain ⟨R6, g1, g2, g3⟩ := back x5 p5 R5
            subst ho5 hs5
            refine ⟨acc, g3, ?_, F5, ρ5, s5.sto, acc ++ [y], ds ++ [d], rest', (x2.trans x3).trans x5, p2.trans p5, R6.chg g1 g2 ho hB, g1, g2, upd_same, dps_app (dps_ex (x3.trans x5) da) (.cons hy .nil), hgo', by rw [hys]; simp⟩
            have hl : ds.length < ys.length := by rw [hys]; simp
            rw [dps_len da]
            exact line_lt (Nat.lt_of_lt_of_le hl hz)
          have skip : ∀ {H5 F5 : Hp} {ρ5 : List Addr} {s5 : S}, Ex F3 F5 → ρ' <+: ρ5 → Rel K (upd (Bown B σ s2.env H2) D (.lst acc)) F5 ρ5 σ2 H5 s5 → o = none → s5.sto = st1 →
              (∃ (F' : Hp) (ρ' : List Addr) (sto' : Sto) (acc1 : List V) (ds rest : List PyData), Ex F1 F' ∧ ρ1 <+: ρ' ∧ Rel K B F' ρ' σ H5 ⟨s2.env, sto'⟩ ∧ F' D = none ∧ D ∉ ρ' ∧
                H5 D = some (.lst acc1) ∧ DpAll K F' acc1 ds ∧ lcGo (lcF C tg c elt (wipe (hide s2.env) own)) (xs.drop (i + 1)) sto' = some (rest, st) ∧ ys = ds ++ rest) := by
            intro H5 F5 ρ5 s5 x5 p5 R5 ho5 hs5
            obtain ⟨R6, g1, g2, g3⟩ := back x5 p5 R5
            subst ho5 hs5
            exact ⟨F5, ρ5, s5.sto, acc, ds, rest', (x2.trans x3).trans x5, p2.trans p5, R6, g1, g2, g3, dps_ex (x3.trans x5) da, hgo', hys⟩
          -- the element, its slots as they were
          have elem : ∀ {H5 F5 : Hp} {ρ5 : List Addr} {s5 : S}, Ex F3 F5 → ρ' <+: ρ5 → Rel K (upd (Bown B σ s2.env H2) D (.lst acc)) F5 ρ5 σ2 H5 s5 → (match ev C elt s5 with | some (.d y, s3) => if noDict y = true then some (some y, s3.sto) else none | _ => none) = some (o, st1) →
              read K (spOf K C) elt σ2 H5 fun y H6 => ∃ acc', H6 D = some (.lst acc') ∧ acc'.length < sizeLine ∧ (∃ (F' : Hp) (ρ' : List Addr) (sto' : Sto) (acc1 : List V) (ds rest : List PyData), Ex F1 F' ∧ ρ1 <+: ρ' ∧ Rel K B F' ρ' σ (upd H6 D (.lst (acc' ++ [y]))) ⟨s2.env, sto'⟩ ∧ F' D = none ∧ D ∉ ρ' ∧
                upd H6 D (.lst (acc' ++ [y])) D = some (.lst acc1) ∧ DpAll K F' acc1 ds ∧ lcGo (lcF C tg c elt (wipe (hide s2.env) own)) (xs.drop (i + 1)) sto' = some (rest, st) ∧ ys = ds ++ rest) := by
            intro H5 F5 ρ5 s5 x5 p5 R5 hm
            split at hm
            · rename_i y s3 e5
              split at hm
              · rename_i hnd
                cases hm
                exact he.val R5 e5 fun H6 F6 ρ6 x6 p6 R6 v r => fin (x5.trans x6) (p5.trans p6) R6 (d_rval hnd r) rfl rfl
              · cases hm
            · cases hm
          by_cases htc : isTrueC c = true
          · have hce : ev C c ⟨env, sto'⟩ = some (.d (.bool true), ⟨env, sto'⟩) := by
              cases c with
              | con d => cases d with
                | bool b => cases b with
                  | true => rfl
                  | false => cases htc
                | _ => cases htc
              | _ => cases htc
            rw [hce] at hf
            refine (show (if isTrueC c then tYes else readT K (spOf K C) c) _ _ _ from ?_)
            rw [if_pos htc]
            exact elem (s5 := ⟨env, sto'⟩) (Ex.refl F3) (List.prefix_refl _) R4 hf
          · refine (show (if isTrueC c then tYes else readT K (spOf K C) c) _ _ _ from ?_)
            rw [if_neg htc]
            split at hf
            · rename_i s5 e5
              cases hf
              exact hc.tst R4 e5 fun H5 F5 ρ5 x5 p5 R5 => skip x5 p5 R5 rfl rfl
            · rename_i s5 e5
              exact hc.tst R4 e5 fun H5 F5 ρ5 x5 p5 R5 => elem x5 p5 R5 hf
            · cases hf
        · have ei : i = xs.length := by omega
          subst ei
          refine .inl ⟨stop, ?_⟩
          rw [List.drop_eq_nil_of_le (Nat.le_refl _), lcGo] at hgo
          cases hgo
          rw [List.append_nil] at hys
          subst hys
          exact q H' F' ρ' D acc _ rfl (x1.trans x2) (p1.trans p2) R' hD' hF' hρ' ho hB da
      · cases h
    · cases h
  · cases h⟩
theorem g_lc {tg : Tg} {it : It} {c elt : E} {own : List Nat} (hi : GI K C it) (hc : G K C c) (he : G K C elt) (ht : ∀ i ∈ tgIs tg, i ∈ own) : G K C (.lc tg it c elt own) := g_fr rfl (gf_lc hi hc he ht)
end
end Ev
set_option maxHeartbeats 2000000
/-! Dict comprehensions. -/
namespace Ev
open PySem L2
section
variable {K : PySem.W.Frag} {C : Calls} {B F H : Hp} {ρ : List Addr} {σ : L2.St} {s : S}
theorem dictR_app {F : Hp} : ∀ {ws vs : List (Key × V)} {kvs es : List (PyData × PyData)}, DictR K F ws kvs → DictR K F vs es → DictR K F (ws ++ vs) (kvs ++ es)
  | [], _, [], _, _, h => h
  | (k, v) :: r, _, (d, e) :: s, _, h, g => ⟨h.1, h.2.1, dictR_app h.2.2 g⟩
  | [], _, _ :: _, _, h, _ => h.elim
  | _ :: _, _, [], _, h, _ => h.elim
theorem dictR_len {F : Hp} : ∀ {ws : List (Key × V)} {kvs : List (PyData × PyData)}, DictR K F ws kvs → ws.length = kvs.length
  | [], [], _ => rfl
  | (k, v) :: r, (d, e) :: s, h => by rw [List.length_cons, List.length_cons, dictR_len h.2.2]
  | [], _ :: _, h => h.elim
  | _ :: _, [], h => h.elim
theorem put_new {ws : List (Key × V)} {k : Key} {v : V} (h : valV ws k = none) : putK ws k v = ws ++ [(k, v)] := by
  unfold putK
  rw [valV_any, h]
  rfl
theorem dictOf_cons {kvs f : List (PyData × PyData)} {y z : PyData} {r : List PyData} (h : dictOf kvs (.tuple [y, z] :: r) = some f) : ∃ t, y = .str t ∧ dGet kvs t = none ∧ dictOf (kvs ++ [(.str t, z)]) r = some f := by
  cases y with
  | str t =>
    rw [dictOf] at h
    cases e : dGet kvs t with
    | none => rw [e] at h; exact ⟨t, rfl, e, h⟩
    | some u => rw [e] at h; cases h
  | _ => simp [dictOf] at h
/-- the turn's function -/
def dcF (C : Calls) (tg : Tg) (k v : E) (env0 : List Slot) : PyData → Sto → Option (Option PyData × Sto) := fun x st => match assign tg (.d x) env0 with
  | none => none
  | some env => match ev C k ⟨env, st⟩ with
    | some (.d y, s2) => match ev C v s2 with
      | some (.d z, s3) => if noDict z = true then some (some (.tuple [y, z]), s3.sto) else none
      | _ => none
    | _ => none
theorem g_dc {tg : Tg} {it : It} {k v : E} {own : List Nat} (hi : GI K C it) (hk : G K C k) (hv : G K C v) (ht : ∀ i ∈ tgIs tg, i ∈ own) : G K C (.dc tg it k v own) := tst_of rfl fun {B F H ρ σ s s1 w Q} R h q => by
  rw [ev] at h
  split at h
  · rename_i xs s2 e1
    split at h
    · rename_i ys st e2
      split at h
      · rename_i hz
        obtain ⟨kvsF, hkf, h⟩ := Option.map_eq_some_iff.mp h
        cases h
        have e2' : lcGo (dcF C tg k v (wipe (hide s2.env) own)) xs s2.sto = some (ys, st) := e2
        refine hi.val R e1 fun H1 F1 ρ1 x1 p1 R1 J hJ => fun D hD => ?_
        obtain ⟨R2, hF, hρ, ho, hB⟩ := R1.lay (o := .dK []) hD
        refine ⟨fun i m H' => m = xs.length - i ∧ i ≤ xs.length ∧ ∃ (F' : Hp) (ρ' : List Addr) (sto' : Sto) (acc : List (Key × V)) (kvs : List (PyData × PyData)) (done rest : List PyData), Ex F1 F' ∧ ρ1 <+: ρ' ∧ Rel K B F' ρ' σ H' ⟨s2.env, sto'⟩ ∧ F' D = none ∧ D ∉ ρ' ∧
            H' D = some (.dK acc) ∧ DictR K F' acc kvs ∧ kvs.length = done.length ∧ lcGo (dcF C tg k v (wipe (hide s2.env) own)) (xs.drop i) sto' = some (rest, st) ∧ ys = done ++ rest ∧ dictOf kvs rest = some kvsF,
          ⟨xs.length, by omega, Nat.zero_le _, F1, ρ1, s2.sto, [], [], [], ys, Ex.refl F1, List.prefix_refl _, R2, hF, hρ, upd_same, trivial, rfl, e2', rfl, hkf⟩, ?_⟩
        rintro i m H' ⟨rfl, hle, F', ρ', sto', acc, kvs, done, rest, x2, p2, R', hF', hρ', hD', da, hdl, hgo, hys, hdk⟩
        obtain ⟨stop, turn⟩ := hJ F' H' x2 R'.fr
        by_cases hlt : i < xs.length
        · obtain ⟨go, yld⟩ := turn i xs[i] (List.getElem?_eq_getElem hlt)
          refine .inr ⟨go, _, fun H'' hn => ⟨xs.length - (i + 1), by omega, rfl, hlt, hn⟩, fun x H2 y => ?_⟩
          rw [List.drop_eq_getElem_cons hlt] at hgo
          rw [lcGo] at hgo
          split at hgo
          · cases hgo
          rename_i o st1 hf
          split at hgo
          · cases hgo
          rename_i rest' st2 hgo'
          cases hgo
          -- the item
          obtain ⟨F3, x3, R3, hD3, hF3, hx⟩ : ∃ F3, Ex F' F3 ∧ Rel K B F3 ρ' σ H2 ⟨s2.env, sto'⟩ ∧ H2 D = some (.dK acc) ∧ F3 D = none ∧ Dp K F3 x xs[i] := by
            rcases yld x H2 y with ⟨rfl, hx⟩ | ⟨T, u, hT, rfl, hx⟩
            · exact ⟨F', Ex.refl F', R', hD', hF', hx⟩
            · have ne : D ≠ T := fun e => by rw [e, hT] at hD'; cases hD'
              exact ⟨upd F' T u, Ex.new (R'.fr.free hT), R'.new hT, by rw [upd_ne ne]; exact hD', by rw [upd_ne ne]; exact hF', hx⟩
          have hBo : Bown B σ s2.env H2 D = none := bown_none (s := ⟨s2.env, sto'⟩) hB ho
          have Rc := R3.comp own
          have hoc : ¬ Owns (L2.wipe σ own) (wipe (hide s2.env) own) D := fun ⟨j, zs, q1, q2⟩ => by
            rcases wipe_get _ j _ own q1 with e | ⟨_, e⟩
            · cases e
            · rcases hide_get _ j _ e with e | ⟨w, e, _⟩ <;> cases e
          have Rd := Rc.addB (a := D) (o := .dK acc) hD3 hF3 hρ' hoc
          unfold dcF at hf
          split at hf
          · cases hf
          rename_i env hasg
          split at hf
          case h_2 => cases hf
          rename_i yk s5 e5
          split at hf
          case h_2 => cases hf
          rename_i zv s6 e6
          split at hf
          case isFalse => cases hf
          rename_i hnd
          cases hf
          refine assign_ok hasg (rval_d hx) Rd fun σ2 hl2 ho2 R4 => ⟨?_, ?_⟩
          · refine (l2wipe_eq (σ := L2.wipe σ own) hl2 fun j hj => ho2 j fun m => hj (ht j m)).trans ?_
            exact l2wipe_eq (L2.wipe_length _ _) fun j hj => l2wipe_out hj
          refine hk.val R4 e5 fun H5 F5 ρ5 x5 p5 R5 vk rk => ?_
          refine hv.val R5 e6 fun H6 F6 ρ6 x6 p6 R6 vv rv => ?_
          obtain ⟨g1, g2, g3, _⟩ := R6.bg D (.dK acc) upd_same
          have R7 : Rel K B F6 ρ6 σ H6 ⟨s2.env, s6.sto⟩ := Rel.back (s := ⟨s2.env, sto'⟩) R3 (R6.monoB fun a o e => by
            rw [upd_ne (ne_of_none e hBo)]
            exact e) (x5.trans x6) (p5.trans p6)
          have x7 : Ex F' F6 := x3.trans (x5.trans x6)
          have da' := dictR_ex x7 da
          -- the key
          obtain ⟨yt, rfl, hnk, hdk⟩ := dictOf_cons hdk
          cases (show Dp K F5 vk (.str _) from rk)
          have hval : valV acc (.inr yt) = none := by
            rcases dget_ok yt da' with ⟨_, c⟩ | ⟨d, u, c, _, _⟩
            · exact c
            · rw [c] at hnk; cases hnk
          refine ⟨acc, .inr yt, rfl, g1, ?_, F6, ρ6, s6.sto, putK acc (.inr yt) vv, kvs ++ [(.str yt, zv)], done ++ [.tuple [.str yt, zv]], rest', x2.trans x7, p2.trans (p5.trans p6), R7.chg g2 g3 ho hB, g2, g3, upd_same, ?_, by simp [hdl], hgo', by rw [hys]; simp, hdk⟩
          · have hl : done.length < ys.length := by rw [hys]; simp
            rw [dictR_len da, hdl]
            exact line_lt (Nat.lt_of_lt_of_le hl hz)
          · rw [put_new hval]
            exact dictR_app da' ⟨⟨yt, rfl, rfl⟩, d_rval hnd rv, trivial⟩
        · have ei : i = xs.length := by omega
          subst ei
          refine .inl ⟨stop, ?_⟩
          rw [List.drop_eq_nil_of_le (Nat.le_refl _), lcGo] at hgo
          cases hgo
          rw [List.append_nil] at hys
          subst hys
          rw [dictOf] at hdk
          cases hdk
          have R5 := R'.freeze hD' hF' hρ' ho hB
          exact q H' _ ρ' ((x1.trans x2).trans (Ex.new hF')) (p1.trans p2) R5 _ ⟨D, acc, rfl, upd_same, dictR_ex (Ex.new hF') da⟩
      · cases h
    · cases h
  · cases h
end
end Ev
set_option maxHeartbeats 2000000
/-! sorted(set(..)), and the expressions together. -/
namespace Ev
open PySem L2
theorem only_sorted {α : Type} {R : α → α → Prop} (irr : ∀ x, ¬ R x x) (tr : ∀ x y z, R x y → R y z → R x z) : ∀ {l k : List α}, l.Pairwise R → k.Pairwise R → (∀ x, x ∈ l ↔ x ∈ k) → l = k
  | [], [], _, _, _ => rfl
  | [], y :: k, _, _, h => absurd ((h y).mpr List.mem_cons_self) (by simp)
  | x :: l, [], _, _, h => absurd ((h x).mp List.mem_cons_self) (by simp)
  | x :: l, y :: k, hl, hk, h => by
    obtain ⟨h1, h2⟩ := List.pairwise_cons.mp hl
    obtain ⟨k1, k2⟩ := List.pairwise_cons.mp hk
    have e : x = y := by
      rcases List.mem_cons.mp ((h x).mp List.mem_cons_self) with e | m
      · exact e
      · rcases List.mem_cons.mp ((h y).mpr List.mem_cons_self) with e | m'
        · exact e.symm
        · exact absurd (tr _ _ _ (h1 y m') (k1 x m)) (irr x)
    subst e
    congr 1
    refine only_sorted irr tr h2 k2 fun z => ⟨fun m => ?_, fun m => ?_⟩
    · rcases List.mem_cons.mp ((h z).mp (List.mem_cons_of_mem _ m)) with e | m'
      · exact absurd (h1 z m) (by rw [e]; exact irr x)
      · exact m'
    · rcases List.mem_cons.mp ((h z).mpr (List.mem_cons_of_mem _ m)) with e | m'
      · exact absurd (k1 z m) (by rw [e]; exact irr x)
      · exact m'
theorem insN_mem (x k : Int) : ∀ l : List Int, k ∈ insN x l ↔ k = x ∨ k ∈ l
  | [] => by simp [insN]
  | y :: r => by
    rw [insN]
    split
    · simp
    · split
      · rename_i e; subst e; simp
      · simp only [List.mem_cons, insN_mem x k r]
        constructor
        · rintro (h | h | h)
          · exact .inr (.inl h)
          · exact .inl h
          · exact .inr (.inr h)
        · rintro (h | h | h)
          · exact .inr (.inl h)
          · exact .inl h
          · exact .inr (.inr h)
theorem srtI_mem (k : Int) : ∀ l : List Int, k ∈ srtI l ↔ k ∈ l
  | [] => by simp [srtI]
  | x :: r => by rw [srtI, insN_mem, srtI_mem k r, List.mem_cons]
theorem insN_sorted (x : Int) : ∀ l : List Int, l.Pairwise (· < ·) → (insN x l).Pairwise (· < ·)
  | [], _ => by rw [insN]; exact List.pairwise_singleton _ _
  | y :: r, h => by
    obtain ⟨h1, h2⟩ := List.pairwise_cons.mp h
    rw [insN]
    split
    · rename_i c
      refine List.pairwise_cons.mpr ⟨fun z hz => ?_, h⟩
      rcases List.mem_cons.mp hz with e | e
      · rw [e]; exact c
      · exact Int.lt_trans c (h1 z e)
    · split
      · exact h
      · refine List.pairwise_cons.mpr ⟨fun z hz => ?_, insN_sorted x r h2⟩
        rcases (insN_mem x z r).mp hz with e | e
        · rw [e]; omega
        · exact h1 z e
theorem srtI_sorted : ∀ l : List Int, (srtI l).Pairwise (· < ·)
  | [] => .nil
  | x :: r => insN_sorted x _ (srtI_sorted r)
theorem ltStr_iff {x y : Str} : ltStr x y = true ↔ x.cps.toList < y.cps.toList := by unfold ltStr; exact decide_eq_true_iff
theorem str_eq {x y : Str} (h : x.cps.toList = y.cps.toList) : x = y := by
  cases x; cases y
  simp only at h
  congr 1
  exact Array.toList_inj.mp h
theorem lt_irr (x : Str) : ¬ x.cps.toList < x.cps.toList := List.lt_irrefl _
theorem lt_tr (x y z : Str) (h : x.cps.toList < y.cps.toList) (g : y.cps.toList < z.cps.toList) : x.cps.toList < z.cps.toList := List.lt_trans h g
theorem lt_tri {x y : Str} (h : ¬ x.cps.toList < y.cps.toList) (g : ¬ x = y) : y.cps.toList < x.cps.toList := by
  have h1 : y.cps.toList ≤ x.cps.toList := List.not_lt.mp h
  rcases Decidable.em (y.cps.toList < x.cps.toList) with h2 | h2
  · exact h2
  · exact absurd (str_eq (List.le_antisymm (List.not_lt.mp h2) h1)) g
theorem insT_mem (x k : Str) : ∀ l : List Str, k ∈ insT x l ↔ k = x ∨ k ∈ l
  | [] => by simp [insT]
  | y :: r => by
    rw [insT]
    split
    · simp
    · split
      · rename_i e; subst e; simp
      · simp only [List.mem_cons, insT_mem x k r]
        constructor
        · rintro (h | h | h)
          · exact .inr (.inl h)
          · exact .inl h
          · exact .inr (.inr h)
        · rintro (h | h | h)
          · exact .inr (.inl h)
          · exact .inl h
          · exact .inr (.inr h)
theorem srtS_mem (k : Str) : ∀ l : List Str, k ∈ srtS l ↔ k ∈ l
  | [] => by simp [srtS]
  | x :: r => by rw [srtS, insT_mem, srtS_mem k r, List.mem_cons]
theorem insT_sorted (x : Str) : ∀ l : List Str, l.Pairwise (fun x y => x.cps.toList < y.cps.toList) → (insT x l).Pairwise (fun x y => x.cps.toList < y.cps.toList)
  | [], _ => by rw [insT]; exact List.pairwise_singleton _ _
  | y :: r, h => by
    obtain ⟨h1, h2⟩ := List.pairwise_cons.mp h
    rw [insT]
    split
    · rename_i c
      refine List.pairwise_cons.mpr ⟨fun z hz => ?_, h⟩
      rcases List.mem_cons.mp hz with e | e
      · rw [e]; exact ltStr_iff.mp c
      · exact lt_tr _ _ _ (ltStr_iff.mp c) (h1 z e)
    · rename_i c
      split
      · exact h
      · rename_i g
        refine List.pairwise_cons.mpr ⟨fun z hz => ?_, insT_sorted x r h2⟩
        rcases (insT_mem x z r).mp hz with e | e
        · rw [e]; exact lt_tri (fun e => c (ltStr_iff.mpr e)) g
        · exact h1 z e
theorem srtS_sorted : ∀ l : List Str, (srtS l).Pairwise (fun x y => x.cps.toList < y.cps.toList)
  | [] => .nil
  | x :: r => insT_sorted x _ (srtS_sorted r)
section
variable {K : PySem.W.Frag} {C : Calls} {B F H : Hp} {ρ : List Addr} {σ : L2.St} {s : S}
theorem g_srt {a : E} (ha : G K C a) : G K C (.srt a) := tst_of rfl fun {B F H ρ σ s s1 w Q} R h q => by
  rw [ev] at h
  split at h
  · rename_i xs s2 e1
    obtain ⟨ys, h1, h2⟩ := Option.map_eq_some_iff.mp h
    cases h2
    refine ha.val R e1 fun H1 F1 ρ1 x1 p1 R1 v r => ?_
    cases (show Dp K F1 v (.list _) from r) with
    | @lst l vs _ hx dx =>
    refine ⟨l, rfl, ?_⟩
    unfold srtD at h1
    split at h1
    · cases h1
    rename_i hl
    split at h1
    · rename_i is hi
      cases h1
      have ei := dps_ints dx hi
      subst ei
      have hlen := dps_len dx
      rw [List.length_map] at hlen
      refine .inl ⟨is, ex_l R1.fr hx, by omega, fun ms hs hm p hp => ?_⟩
      have e : ms = srtI is := only_sorted (fun x => Int.lt_irrefl x) (fun _ _ _ => Int.lt_trans) hs (srtI_sorted is) fun k => (hm k).trans (srtI_mem k is).symm
      rw [e]
      exact (q.on x1 p1).new R1 hp (show Dp K _ _ (.list _) from .lst (.inl (.inl upd_same)) (ints_dps _))
    · split at h1
      · rename_i is hi
        cases h1
        have ei := dps_strs dx hi
        subst ei
        have hlen := dps_len dx
        rw [List.length_map] at hlen
        refine .inr ⟨is, ex_l R1.fr hx, by omega, fun ms hs hm p hp => ?_⟩
        have e : ms = srtS is := only_sorted lt_irr lt_tr hs (srtS_sorted is) fun k => (hm k).trans (srtS_mem k is).symm
        rw [e]
        exact (q.on x1 p1).new R1 hp (show Dp K _ _ (.list _) from .lst (.inl (.inl upd_same)) (strs_dps _))
      · cases h1
  · cases h
end
section
variable {K : PySem.W.Frag} {C : Calls} {B F H : Hp} {ρ : List Addr} {σ : L2.St} {s : S}
theorem tru_list {G : Hp} {l : Addr} {vs : List V} {x : PyData} {r : List PyData} (h : SqL K H l vs) (d : DpAll K G vs (x :: r)) : TruV K (.ref l) H true := by
  cases d with
  | cons a b => exact .inl ⟨_, h, rfl⟩
theorem tru_none {G : Hp} {l : Addr} {vs : List V} (h : SqL K H l vs) (d : DpAll K G vs []) : TruV K (.ref l) H false := by
  cases d
  exact .inl ⟨_, h, rfl⟩
theorem g_orL {a b : E} (ha : G K C a) (hb : G K C b) : G K C (.orL a b) := tst_of rfl fun {B F H ρ σ s s1 w Q} R h q => by
  rw [ev] at h
  split at h
  · rename_i x r s2 e1
    cases h
    refine ha.val R e1 fun H1 F1 ρ1 x1 p1 R1 v rv => ?_
    cases (show Dp K F1 v (.list _) from rv) with
    | @lst l vs _ hx dx =>
    refine ⟨true, tru_list (ex_l R1.fr hx) dx, ?_⟩
    rw [if_pos rfl]
    exact q H1 F1 ρ1 x1 p1 R1 _ rv
  · rename_i s2 e1
    refine ha.val R e1 fun H1 F1 ρ1 x1 p1 R1 v rv => ?_
    cases (show Dp K F1 v (.list _) from rv) with
    | @lst l vs _ hx dx =>
    refine ⟨false, tru_none (ex_l R1.fr hx) dx, ?_⟩
    rw [if_neg Bool.false_ne_true]
    exact hb.val R1 h (q.on x1 p1)
  · cases h
theorem gf_orL {a b : E} (ha : GFr K C a) (hb : GFr K C b) : GFr K C (.orL a b) := ⟨fun {B F H ρ σ s s1 w Q} R h q => by
  rw [ev] at h
  split at h
  · rename_i x r s2 e1
    cases h
    refine ha.val R e1 fun H1 F1 ρ1 p vs xs hw x1 p1 R1 hp hF hρ ho hB d => ?_
    cases hw
    refine ⟨true, tru_list (SqL.of hp) d, ?_⟩
    rw [if_pos rfl]
    exact q H1 F1 ρ1 p vs _ rfl x1 p1 R1 hp hF hρ ho hB d
  · rename_i s2 e1
    refine ha.val R e1 fun H1 F1 ρ1 p vs xs hw x1 p1 R1 hp hF hρ ho hB d => ?_
    cases hw
    refine ⟨false, tru_none (SqL.of hp) d, ?_⟩
    rw [if_neg Bool.false_ne_true]
    exact hb.val R1 h fun H2 F2 ρ2 p2 vs2 xs2 hw2 x2 q2 R2 h1 h2 h3 h4 h5 h6 => q H2 F2 ρ2 p2 vs2 xs2 hw2 (x1.trans x2) (p1.trans q2) R2 h1 h2 h3 h4 h5 h6
  · cases h⟩
end
/-! ### the expressions together -/
def subB (a b : List Nat) : Bool := a.all fun i => b.any fun j => i == j
theorem subB_mem {a b : List Nat} (h : subB a b = true) : ∀ i ∈ a, i ∈ b := fun i hi => by
  have h1 := List.all_eq_true.mp h i hi
  obtain ⟨j, h2, h3⟩ := List.any_eq_true.mp h1
  rw [eq_of_beq h3]
  exact h2
def okB : BF → Bool
  | .set => false
  | .sorted => false
  | _ => true
theorem okB_ne {f : BF} (h : okB f = true) : f ≠ .set ∧ f ≠ .sorted := ⟨fun e => (by subst e; cases h), fun e => (by subst e; cases h)⟩
mutual
def wf : E → Bool
  | .var _ => true
  | .con d => scalD d
  | .tup es => wfs es
  | .lst es => wfs es
  | .bin _ a b => wf a && wf b
  | .neg a => wf a
  | .cmp _ a b => wf a && wf b
  | .chain _ _ a b c => wf a && (wf b && wf c)
  | .and a b => wf a && wf b
  | .or a b => wf a && wf b
  | .not a => wf a
  | .ite c a b => wf c && (wf a && wf b)
  | .ix a b => wf a && wf b
  | .dget a b => wf a && wf b
  | .dIn _ a b => wf a && wf b
  | .sl a lo hi => wf a && (wf lo && wf hi)
  | .rev a => wf a
  | .call _ es => wfs es
  | .blt f a => okB f && wf a
  | .isi a _ => wf a
  | .isi2 a _ _ => wf a
  | .lc tg it c elt own => subB (tgIs tg) own && (wfi it && (wf c && wf elt))
  | .dc tg it k v own => subB (tgIs tg) own && (wfi it && (wf k && wf v))
  | .star a b => wf a && wf b
  | .count a b => wf a && wf b
  | .frz _ => true
  | .ownNe _ => true
  | .ownIx _ a => wf a
  | .ownTup _ => true
  | .ownPop _ => true
  | .srt a => wf a
  | .orL a b => wf a && wf b
  | .box es => wfs es
def wfs : Es → Bool
  | .nil => true
  | .cons e es => wf e && wfs es
def wfi : It → Bool
  | .seq a => wf a
  | .rng a => wf a
  | .enum a => wf a
  | .zip a b => wf a && wf b
  | .chars a => wf a
end
theorem and2 {a b : Bool} (h : (a && b) = true) : a = true ∧ b = true := (Bool.and_eq_true a b).mp h
section
variable {K : PySem.W.Frag} {C : Calls}
mutual
theorem snd : ∀ e : E, wf e = true → G K C e
  | .var _, _ => g_var
  | .con _, h => g_con h
  | .tup es, h => g_tup (sndA es h)
  | .lst es, h => g_lst (sndA es h)
  | .bin _ a b, h => g_bin (snd a (and2 h).1) (snd b (and2 h).2)
  | .neg a, h => g_neg (snd a h)
  | .cmp _ a b, h => g_cmp (snd a (and2 h).1) (snd b (and2 h).2)
  | .chain _ _ a b c, h => g_chain (snd a (and2 h).1) (snd b (and2 (and2 h).2).1) (snd c (and2 (and2 h).2).2)
  | .and a b, h => g_and (snd a (and2 h).1) (snd b (and2 h).2)
  | .or a b, h => g_or (snd a (and2 h).1) (snd b (and2 h).2)
  | .not a, h => g_not (snd a h)
  | .ite c a b, h => g_ite (snd c (and2 h).1) (snd a (and2 (and2 h).2).1) (snd b (and2 (and2 h).2).2)
  | .ix a b, h => g_ix (snd a (and2 h).1) (snd b (and2 h).2)
  | .dget a b, h => g_dget (snd a (and2 h).1) (snd b (and2 h).2)
  | .dIn _ a b, h => g_dIn (snd a (and2 h).1) (snd b (and2 h).2)
  | .sl a lo hi, h => g_sl (snd a (and2 h).1) (snd lo (and2 (and2 h).2).1) (snd hi (and2 (and2 h).2).2)
  | .rev a, h => g_rev (snd a h)
  | .call _ es, h => g_call (sndA es h)
  | .blt f a, h => g_blt (okB_ne (and2 h).1) (snd a (and2 h).2)
  | .isi a _, h => g_isi (snd a h)
  | .isi2 a _ _, h => g_isi2 (snd a h)
  | .lc _ it c elt _, h => g_lc (sndI it (and2 (and2 h).2).1) (snd c (and2 (and2 (and2 h).2).2).1) (snd elt (and2 (and2 (and2 h).2).2).2) (subB_mem (and2 h).1)
  | .dc _ it k v _, h => g_dc (sndI it (and2 (and2 h).2).1) (snd k (and2 (and2 (and2 h).2).2).1) (snd v (and2 (and2 (and2 h).2).2).2) (subB_mem (and2 h).1)
  | .star a b, h => g_star (snd a (and2 h).1) (snd b (and2 h).2)
  | .count a b, h => g_count (snd a (and2 h).1) (snd b (and2 h).2)
  | .frz _, _ => g_frz
  | .ownNe _, _ => g_ownNe
  | .ownIx _ a, h => g_ownIx (snd a h)
  | .ownTup _, _ => g_ownTup
  | .ownPop _, _ => g_ownPop
  | .srt a, h => g_srt (snd a h)
  | .orL a b, h => g_orL (snd a (and2 h).1) (snd b (and2 h).2)
  | .box es, h => g_box (sndA es h)
theorem sndA : ∀ es : Es, wfs es = true → GA K C es
  | .nil, _ => ga_nil
  | .cons e es, h => ga_cons (snd e (and2 h).1) (sndA es (and2 h).2)
theorem sndI : ∀ it : It, wfi it = true → GI K C it
  | .seq a, h => gi_seq (snd a h)
  | .rng a, h => gi_rng (snd a h)
  | .enum a, h => gi_enum (snd a h)
  | .zip a b, h => gi_zip (snd a (and2 h).1) (snd b (and2 h).2)
  | .chars a, h => gi_chars (snd a h)
end
end
end Ev
set_option maxHeartbeats 2000000
/-! New lists; statements that are no walks. -/
namespace Ev
open PySem L2
section
variable {K : PySem.W.Frag} {C : Calls} {B F H : Hp} {ρ : List Addr} {σ : L2.St} {s : S} {a : Addr} {vs : List V} {xs : List PyData}
theorem gf_list {e : E} (he : G K C e) : GFr K C (.blt .list e) := ⟨fun {B F H ρ σ s s1 w Q} R h q => by
  rw [ev] at h
  split at h
  · rename_i w' s2 e1
    obtain ⟨z, e6, e7⟩ := Option.map_eq_some_iff.mp h
    cases e7
    refine he.val R e1 fun H1 F1 ρ1 x1 p1 R1 vx rx => ?_
    cases w' with
    | d x =>
      obtain ⟨xs, h1, rfl⟩ := Option.map_eq_some_iff.mp (show (seqD x).map (fun xs => Val.d (.list xs)) = some _ from e6)
      obtain ⟨a, vs, rfl, d, h2⟩ := seq_of h1 rx
      refine ⟨a, vs, rfl, h2.elim (fun h => .inl (ex_l R1.fr h.2)) (fun h => .inr (ex_t R1.fr h.2)), fun p hp => ?_⟩
      obtain ⟨R2, hF, hρ, ho, hB⟩ := R1.lay (o := .lst vs) hp
      exact q _ F1 ρ1 p vs xs rfl x1 p1 R2 upd_same hF hρ ho hB d
    | ref n => cases e6
    | set ys => cases e6
  · cases h⟩
theorem gf_rev {e : E} (he : G K C e) : GFr K C (.rev e) := ⟨fun {B F H ρ σ s s1 w Q} R h q => by
  rw [ev] at h
  split at h
  · rename_i xs s2 e1
    cases h
    refine he.val R e1 fun H1 F1 ρ1 x1 p1 R1 vx rx => ?_
    cases (show Dp K F1 vx (.list _) from rx) with
    | @lst b us _ hx dx =>
    refine ⟨b, us, rfl, ex_l R1.fr hx, fun p hp => ?_⟩
    obtain ⟨R2, hF, hρ, ho, hB⟩ := R1.lay (o := .lst us.reverse) hp
    exact q _ F1 ρ1 p us.reverse xs.reverse rfl x1 p1 R2 upd_same hF hρ ho hB (dps_rev dx)
  · cases h⟩
/-- a new list in a slot of one's own -/
theorem Rel.setOwn (R : Rel K B F ρ σ H s) (i : Nat) (hp : H a = some (.lst vs)) (hF : F a = none) (hρ : a ∉ ρ) (ho : ¬ Owns σ s.env a) (hB : B a = none) (d : DpAll K F vs xs) :
    Rel K B F ρ (σ.set i (some (.ref a))) H ⟨s.env.set i (.own xs), s.sto⟩ := by
  have sg : ∀ {j : Nat} {sl : Slot}, (s.env.set i (.own xs))[j]? = some sl → (i = j ∧ sl = .own xs ∧ i < σ.length) ∨ (i ≠ j ∧ s.env[j]? = some sl ∧ (σ.set i (some (.ref a)))[j]? = σ[j]?) := fun {j sl} h => by
    by_cases e : i = j
    · subst e
      have hi : i < s.env.length := by
        have := (List.getElem?_eq_some_iff.mp h).1
        simpa using this
      rw [List.getElem?_set_self hi] at h
      exact .inl ⟨rfl, (Option.some.inj h).symm, by rw [← R.len]; exact hi⟩
    · rw [List.getElem?_set_ne e] at h
      exact .inr ⟨e, h, List.getElem?_set_ne e⟩
  refine ⟨R.fr, by simpa using R.len, fun j sl h => ?_, fun j k ys zs b h1 h2 h3 h4 => ?_, R.slen, R.nd, R.sto, fun b o h => ?_⟩
  · rcases sg h with ⟨rfl, rfl, hi⟩ | ⟨_, h1, h2⟩
    · exact ⟨_, List.getElem?_set_self hi, a, vs, rfl, hF, hρ, hp, d⟩
    · rw [h2]; exact R.env j sl h1
  · rcases sg h1 with ⟨rfl, _, hi⟩ | ⟨n1, g1, g2⟩
    · rcases sg h2 with ⟨rfl, _, _⟩ | ⟨n2, g3, g4⟩
      · rfl
      · rw [List.getElem?_set_self hi] at h3
        cases h3
        rw [g4] at h4
        exact absurd ⟨k, zs, g3, h4⟩ ho
    · rcases sg h2 with ⟨rfl, _, hi⟩ | ⟨n2, g3, g4⟩
      · rw [List.getElem?_set_self hi] at h4
        cases h4
        rw [g2] at h3
        exact absurd ⟨j, ys, g1, h3⟩ ho
      · rw [g2] at h3
        rw [g4] at h4
        exact R.inj j k ys zs b g1 g3 h3 h4
  · obtain ⟨h1, h2, h3, h4⟩ := R.bg b o h
    refine ⟨h1, h2, h3, fun j ys q1 q2 => ?_⟩
    rcases sg q1 with ⟨rfl, _, hi⟩ | ⟨n1, g1, g2⟩
    · rw [List.getElem?_set_self hi] at q2
      cases q2
      rw [hB] at h
      cases h
    · rw [g2] at q2
      exact h4 j ys g1 q2
/-- a list of the store is changed -/
theorem Rel.stoSet (R : Rel K B F ρ σ H s) {n : Nat} (hn : ρ[n]? = some a) (hs : n < s.sto.length) (d : DpAll K F vs xs) : Rel K B F ρ σ (upd H a (.lst vs)) ⟨s.env, s.sto.set n xs⟩ := by
  have hm : a ∈ ρ := List.mem_of_getElem? hn
  obtain ⟨hF, _⟩ := R.sto n a s.sto[n] hn (List.getElem?_eq_getElem hs)
  have ho : ∀ {i : Nat} {ys : List PyData} {b : Addr}, s.env[i]? = some (.own ys) → σ[i]? = some (some (.ref b)) → b ≠ a := fun {i ys b} h1 h2 e => by
    subst e
    exact (R.owned ⟨i, ys, h1, h2⟩).2.1 hm
  refine ⟨fun b u q => ?_, R.len, fun i sl h => ?_, R.inj, by simpa using R.slen, R.nd, fun m b ys h1 h2 => ?_, fun b o h => ?_⟩
  · rw [upd_ne (ne_of_none q hF)]; exact R.fr b u q
  · obtain ⟨ov, g1, g2⟩ := R.env i sl h
    refine ⟨ov, g1, ?_⟩
    cases sl with
    | no => cases ov <;> trivial
    | v w =>
      cases ov with
      | none => exact g2
      | some v => exact g2
    | own ys =>
      cases ov with
      | none => exact g2
      | some v =>
        obtain ⟨b, us, e, k1, k2, k3, k4⟩ := g2
        subst e
        exact ⟨b, us, rfl, k1, k2, by rw [upd_ne (ho h g1)]; exact k3, k4⟩
  · by_cases e : b = a
    · subst e
      have hmn : m = n := by
        have l1 := (List.getElem?_eq_some_iff.mp h1)
        have l2 := (List.getElem?_eq_some_iff.mp hn)
        obtain ⟨p1, p2⟩ := l1
        obtain ⟨p3, p4⟩ := l2
        exact (List.getElem_inj R.nd).mp (p2.trans p4.symm)
      subst hmn
      rw [List.getElem?_set_self hs] at h2
      cases h2
      exact ⟨hF, vs, upd_same, d⟩
    · have hmn : n ≠ m := fun e2 => by subst e2; rw [hn] at h1; exact e (Option.some.inj h1).symm
      rw [List.getElem?_set_ne hmn] at h2
      obtain ⟨k1, us, k2, k3⟩ := R.sto m b ys h1 h2
      exact ⟨k1, us, by rw [upd_ne e]; exact k2, k3⟩
  · obtain ⟨h1, h2, h3, h4⟩ := R.bg b o h
    exact ⟨by rw [upd_ne (fun e => h3 (by rw [e]; exact hm))]; exact h1, h2, h3, h4⟩
theorem Rel.bare (R : Rel K B F ρ σ H s) : Rel K B F ρ [] H ⟨[], s.sto⟩ :=
  ⟨R.fr, rfl, fun i sl h => by simp at h, fun i j xs ys b h => by simp at h, R.slen, R.nd, R.sto, fun b o h => ⟨(R.bg b o h).1, (R.bg b o h).2.1, (R.bg b o h).2.2.1, fun i xs q => by simp at q⟩⟩
end
/-- what is asked behind a statement -/
def Po (K : PySem.W.Frag) (B F : Hp) (ρ : List Addr) (o : Fl) (D : Ends) : Prop := match o with
  | .next s => ∀ (σ : L2.St) (H' F' : Hp) (ρ' : List Addr), Ex F F' → ρ <+: ρ' → Rel K B F' ρ' σ H' s → D.nx σ H'
  | .cont s => ∀ (σ : L2.St) (H' F' : Hp) (ρ' : List Addr), Ex F F' → ρ <+: ρ' → Rel K B F' ρ' σ H' s → D.ct σ H'
  | .brk s => ∀ (σ : L2.St) (H' F' : Hp) (ρ' : List Addr), Ex F F' → ρ <+: ρ' → Rel K B F' ρ' σ H' s → D.bk σ H'
  | .ret w st => ∀ (v : V) (H' F' : Hp) (ρ' : List Addr), Ex F F' → ρ <+: ρ' → Rel K B F' ρ' [] H' ⟨[], st⟩ → RVal K F' ρ' v w → D.rt v H'
section
variable {K : PySem.W.Frag}
theorem Po.on {B F F1 : Hp} {ρ ρ1 : List Addr} {o : Fl} {D : Ends} (h : Po K B F ρ o D) (e : Ex F F1) (p : ρ <+: ρ1) : Po K B F1 ρ1 o D := by
  cases o with
  | next s => exact fun σ H' F' ρ' e' p' R => h σ H' F' ρ' (e.trans e') (p.trans p') R
  | cont s => exact fun σ H' F' ρ' e' p' R => h σ H' F' ρ' (e.trans e') (p.trans p') R
  | brk s => exact fun σ H' F' ρ' e' p' R => h σ H' F' ρ' (e.trans e') (p.trans p') R
  | ret w st => exact fun v H' F' ρ' e' p' R r => h v H' F' ρ' (e.trans e') (p.trans p') R r
variable (K) (C : Calls)
structure GS (st : St) : Prop where
  run : ∀ {B F H : Hp} {ρ : List Addr} {σ : L2.St} {s : S} {o : Fl} {D : Ends}, Rel K B F ρ σ H s → ex C st s = some o → Po K B F ρ o D → rds K (spOf K C) st D σ H
structure GSS (ss : Sts) : Prop where
  run : ∀ {B F H : Hp} {ρ : List Addr} {σ : L2.St} {s : S} {o : Fl} {D : Ends}, Rel K B F ρ σ H s → exs C ss s = some o → Po K B F ρ o D → rdss K (spOf K C) ss D σ H
end
section
variable {K : PySem.W.Frag} {C : Calls}
theorem gs_set {tg : Tg} {a : E} (ha : G K C a) : GS K C (.set tg a) := ⟨fun {B F H ρ σ s o D} R h q => by
  rw [ex] at h
  split at h
  · rename_i w s1 e1
    obtain ⟨env, e2, e3⟩ := Option.map_eq_some_iff.mp h
    cases e3
    refine ha.val R e1 fun H1 F1 ρ1 x1 p1 R1 v r => ?_
    exact assign_ok (env := s1.env) (sto := s1.sto) e2 r R1 fun σ' _ _ R2 => q σ' H1 F1 ρ1 x1 p1 R2
  · cases h⟩
theorem gs_par {i j : Nat} {a b : E} (ha : G K C a) (hb : G K C b) : GS K C (.par i j a b) := ⟨fun {B F H ρ σ s o D} R h q => by
  rw [ex] at h
  split at h
  · rename_i w s1 e1
    split at h
    · rename_i u s2 e2
      cases h
      refine ha.val R e1 fun H1 F1 ρ1 x1 p1 R1 v r => ?_
      refine hb.val R1 e2 fun H2 F2 ρ2 x2 p2 R2 v2 r2 => ?_
      exact ⟨v, v2, rfl, q _ H2 F2 ρ2 (x1.trans x2) (p1.trans p2) ((R2.setv i (rval_ex x2 p2 r)).setv j r2)⟩
    · cases h
  · cases h⟩
theorem gs_own {i : Nat} {a : E} (ha : GFr K C a) : GS K C (.own i a) := ⟨fun {B F H ρ σ s o D} R h q => by
  rw [ex] at h
  split at h
  · rename_i xs s1 e1
    cases h
    refine ha.val R e1 fun H1 F1 ρ1 p vs ys hw x1 p1 R1 hp hF hρ ho hB d => ?_
    cases hw
    exact q _ H1 F1 ρ1 x1 p1 (R1.setOwn i hp hF hρ ho hB d)
  · cases h⟩
theorem gs_expr {a : E} (ha : G K C a) : GS K C (.expr a) := ⟨fun {B F H ρ σ s o D} R h q => by
  rw [ex] at h
  split at h
  · rename_i w s1 e1
    cases h
    exact ha.val R e1 fun H1 F1 ρ1 x1 p1 R1 v r => q σ H1 F1 ρ1 x1 p1 R1
  · cases h⟩
theorem gs_ret {a : E} (ha : G K C a) : GS K C (.ret a) := ⟨fun {B F H ρ σ s o D} R h q => by
  rw [ex] at h
  split at h
  · rename_i w s1 e1
    cases h
    exact ha.val R e1 fun H1 F1 ρ1 x1 p1 R1 v r => q v H1 F1 ρ1 x1 p1 R1.bare r
  · cases h⟩
theorem gs_never : GS K C .never := ⟨fun {B F H ρ σ s o D} R h q => by rw [ex] at h; cases h⟩
theorem gs_cont : GS K C .cont := ⟨fun {B F H ρ σ s o D} R h q => by
  rw [ex] at h
  cases h
  exact q σ H F ρ (Ex.refl F) (List.prefix_refl _) R⟩
theorem gs_brk : GS K C .brk := ⟨fun {B F H ρ σ s o D} R h q => by
  rw [ex] at h
  cases h
  exact q σ H F ρ (Ex.refl F) (List.prefix_refl _) R⟩
theorem gs_ite {c : E} {t e : Sts} (hc : G K C c) (ht : GSS K C t) (he : GSS K C e) : GS K C (.ite c t e) := ⟨fun {B F H ρ σ s o D} R h q => by
  rw [ex] at h
  split at h
  · rename_i s1 e1
    exact hc.tst R e1 fun H1 F1 ρ1 x1 p1 R1 => ht.run R1 h (q.on x1 p1)
  · rename_i s1 e1
    exact hc.tst R e1 fun H1 F1 ρ1 x1 p1 R1 => he.run R1 h (q.on x1 p1)
  · cases h⟩
theorem gss_nil : GSS K C .nil := ⟨fun {B F H ρ σ s o D} R h q => by
  rw [exs] at h
  cases h
  exact q σ H F ρ (Ex.refl F) (List.prefix_refl _) R⟩
theorem gss_cons {a : St} {r : Sts} (ha : GS K C a) (hr : GSS K C r) : GSS K C (.cons a r) := ⟨fun {B F H ρ σ s o D} R h q => by
  rw [exs] at h
  split at h
  · rename_i s1 e1
    exact ha.run R e1 fun σ1 H1 F1 ρ1 x1 p1 R1 => hr.run R1 h (q.on x1 p1)
  · rename_i x e1 hx
    cases h
    refine ha.run R hx ?_
    cases o with
    | next s1 => exact absurd rfl (e1 s1)
    | cont s1 => exact q
    | brk s1 => exact q
    | ret w st => exact q
  · cases h⟩
/-! ### changes of lists -/
theorem tyL {H : Hp} {a : Addr} {vs : List V} (h : H a = some (.lst vs)) : tyV K "list" (.ref a) H := .inl ⟨rfl, vs, SqL.of h⟩
theorem gs_ownApp {i : Nat} {a : E} (ha : G K C a) : GS K C (.ownApp i a) := ⟨fun {B F H ρ σ s o D} R h q => by
  rw [ex] at h
  split at h
  · rename_i zs e0
    split at h
    · rename_i x s1 e1
      split at h
      · rename_i xs e2
        split at h
        · rename_i hz
          cases h
          obtain ⟨a0, us, h1, _, _, h2, _⟩ := R.slot_own e0
          refine ⟨.ref a0, h1, tyL h2, ?_⟩
          refine ha.val R e1 fun H1 F1 ρ1 x1 p1 R1 v r => ?_
          obtain ⟨b, vs, g1, g2, g3, g4, g5, g6⟩ := R1.slot_own e2
          rw [h1] at g1
          cases g1
          refine ⟨a0, vs, v, rfl, rfl, g4, by rw [dps_len g5]; exact line_lt hz.1, ?_⟩
          exact q σ _ F1 ρ1 x1 p1 (R1.own_chg e2 h1 (dps_app g5 (.cons (d_rval hz.2 r) .nil)))
        · cases h
      · cases h
    · cases h
  · cases h⟩
theorem gs_ownExt {i : Nat} {a : E} (ha : GFr K C a) : GS K C (.ownExt i a) := ⟨fun {B F H ρ σ s o D} R h q => by
  rw [ex] at h
  split at h
  · rename_i zs e0
    split at h
    · rename_i ys s1 e1
      split at h
      · rename_i xs e2
        split at h
        · rename_i hz
          cases h
          obtain ⟨a0, us, h1, _, _, h2, _⟩ := R.slot_own e0
          refine ⟨.ref a0, h1, tyL h2, ?_⟩
          refine ha.val R e1 fun H1 F1 ρ1 p ws zs hw x1 p1 R1 hp hF hρ ho hB d => ?_
          cases hw
          obtain ⟨b, vs, g1, g2, g3, g4, g5, g6⟩ := R1.slot_own e2
          rw [h1] at g1
          cases g1
          refine ⟨a0, p, vs, ws, rfl, rfl, g4, hp, by rw [dps_len g5, dps_len d]; exact Nat.le_of_lt (line_lt hz), ?_⟩
          exact q σ _ F1 ρ1 x1 p1 (R1.own_chg e2 h1 (dps_app g5 d))
        · cases h
      · cases h
    · cases h
  · cases h⟩
theorem ixN_of {n : Nat} {k : Int} (h : 0 ≤ k ∧ k < n) : ixN n k = some k.toNat := by unfold ixN; rw [if_pos h.1, if_pos h.2]
theorem gs_ownSet {i : Nat} {a b : E} (ha : G K C a) (hb : G K C b) : GS K C (.ownSet i a b) := ⟨fun {B F H ρ σ s o D} R h q => by
  rw [ex] at h
  split at h
  · rename_i x s1 e1
    split at h
    · rename_i zs e0
      split at h
      · rename_i k s2 e3
        split at h
        · rename_i xs e2
          split at h
          · rename_i hz
            cases h
            refine hb.val R e1 fun H1 F1 ρ1 x1 p1 R1 v r => ?_
            obtain ⟨a0, us, h1, _, _, h2, _⟩ := R1.slot_own e0
            refine ⟨.ref a0, h1, ?_⟩
            refine ha.val R1 e3 fun H2 F2 ρ2 x2 p2 R2 v2 r2 => ?_
            cases (show Dp K F2 v2 (.int _) from r2)
            obtain ⟨b, vs, g1, g2, g3, g4, g5, g6⟩ := R2.slot_own e2
            rw [h1] at g1
            cases g1
            refine ⟨a0, vs, k, k.toNat, rfl, rfl, g4, ixN_of (by rw [dps_len g5]; exact hz.1), ?_⟩
            exact q σ _ F2 ρ2 (x1.trans x2) (p1.trans p2) (R2.own_chg e2 h1 (dps_set _ g5 (dp_ex x2 (d_rval hz.2 r))))
          · cases h
        · cases h
      · cases h
    · cases h
  · cases h⟩
theorem gs_refSet {a b c : E} (ha : G K C a) (hb : G K C b) (hc : G K C c) : GS K C (.refSet a b c) := ⟨fun {B F H ρ σ s o D} R h q => by
  rw [ex] at h
  split at h
  · rename_i x s1 e1
    split at h
    · rename_i n s2 e2
      split at h
      · rename_i k s3 e3
        split at h
        · rename_i xs e4
          split at h
          · rename_i hz
            cases h
            refine hc.val R e1 fun H1 F1 ρ1 x1 p1 R1 v r => ?_
            refine ha.val R1 e2 fun H2 F2 ρ2 x2 p2 R2 v2 r2 => ?_
            refine hb.val R2 e3 fun H3 F3 ρ3 x3 p3 R3 v3 r3 => ?_
            cases (show Dp K F3 v3 (.int _) from r3)
            obtain ⟨a0, rfl, h1⟩ := r2
            have h2 := pre_get p3 h1
            obtain ⟨g1, vs, g2, g3⟩ := R3.sto n a0 xs h2 e4
            refine ⟨a0, vs, k, k.toNat, rfl, rfl, g2, ixN_of (by rw [dps_len g3]; exact hz.1), ?_⟩
            exact q σ _ F3 ρ3 ((x1.trans x2).trans x3) ((p1.trans p2).trans p3) (R3.stoSet h2 (List.getElem?_eq_some_iff.mp e4).1 (dps_set _ g3 (dp_ex (x2.trans x3) (d_rval hz.2 r))))
          · cases h
        · cases h
      · cases h
    · cases h
  · cases h⟩
theorem gs_parOwn {i j : Nat} {a b : Es} (ha : GA K C a) (hb : GA K C b) : GS K C (.parOwn i j a b) := ⟨fun {B F H ρ σ s o D} R h q => by
  rw [ex] at h
  split at h
  · rename_i ws s1 e1
    split at h
    · rename_i us s2 e2
      split at h
      · rename_i xs ys e3 e4
        split at h
        · rename_i hz
          cases h
          refine ha.val R e1 fun H1 F1 ρ1 x1 p1 R1 vs rs => ?_
          have d1 := rvals_dps rs e3 hz.2.1
          refine ⟨Nat.le_of_lt (small1000 (by rw [dps_len d1]; exact hz.1.1)), fun p hp => ?_⟩
          obtain ⟨R2, hF, hρ, ho, hB⟩ := R1.lay (o := .lst vs) hp
          have R3 := R2.addB (a := p) (o := .lst vs) upd_same hF hρ ho
          refine hb.val R3 e2 fun H2 F2 ρ2 x2 p2 R4 vs2 rs2 => ?_
          have d2 := rvals_dps rs2 e4 hz.2.2
          refine ⟨Nat.le_of_lt (small1000 (by rw [dps_len d2]; exact hz.1.2)), fun p' hp' => ?_⟩
          obtain ⟨g1, g2, g3, g4⟩ := R4.bg p (.lst vs) upd_same
          have R5 : Rel K B F2 ρ2 σ H2 s2 := R4.monoB fun b o e => by rw [upd_ne (ne_of_none e hB)]; exact e
          obtain ⟨R6, hF', hρ', ho', hB'⟩ := R5.lay (o := .lst vs2) hp'
          have ne : p ≠ p' := fun e => by rw [e, hp'] at g1; cases g1
          have R7 := R6.setOwn (a := p) i (by rw [upd_ne ne]; exact g1) g2 g3 (fun ⟨m, zs, k1, k2⟩ => g4 m zs k1 k2) hB (dps_ex x2 d1)
          have ho2 : ¬ Owns (σ.set i (some (.ref p))) (s2.env.set i (.own xs)) p' := fun ⟨m, zs, k1, k2⟩ => by
            by_cases e : i = m
            · subst e
              have hi : i < σ.length := by
                have := (List.getElem?_eq_some_iff.mp k2).1
                simpa using this
              rw [List.getElem?_set_self hi] at k2
              cases k2
              exact ne rfl
            · rw [List.getElem?_set_ne e] at k1 k2
              exact ho' ⟨m, zs, k1, k2⟩
          have R8 := R7.setOwn (a := p') j upd_same hF' hρ' ho2 hB' d2
          exact ⟨_, _, rfl, q _ _ F2 ρ2 (x1.trans x2) (p1.trans p2) R8⟩
        · cases h
      · cases h
    · cases h
  · cases h⟩
end
end Ev
set_option maxHeartbeats 2000000
/-! Walks; the statements together. -/
namespace Ev
open PySem L2
section
variable {K : PySem.W.Frag} {C : Calls}
theorem gs_for {tg : Tg} {it : It} {b : Sts} (hi : GI K C it) (hb : GSS K C b) : GS K C (.for tg it b) := ⟨fun {B F H ρ σ s o D} R h q => by
  rw [ex] at h
  split at h
  · rename_i xs s1 e1
    refine hi.val R e1 fun H1 F1 ρ1 x1 p1 R1 J hJ => ?_
    refine ⟨fun i m σ' H' => m = xs.length - i ∧ i ≤ xs.length ∧ ∃ (F' : Hp) (ρ' : List Addr) (s' : S), Ex F1 F' ∧ ρ1 <+: ρ' ∧ Rel K B F' ρ' σ' H' s' ∧
        forGo (fun x s => match assign tg (.d x) s.env with
          | some env => exs C b ⟨env, s.sto⟩
          | none => none) (xs.drop i) s' = some o,
      ⟨xs.length, by omega, Nat.zero_le _, F1, ρ1, s1, Ex.refl F1, List.prefix_refl _, R1, h⟩, ?_⟩
    rintro i m σ' H' ⟨rfl, hle, F', ρ', s', x2, p2, R', hgo⟩
    obtain ⟨stop, turn⟩ := hJ F' H' x2 R'.fr
    by_cases hlt : i < xs.length
    · obtain ⟨go, yld⟩ := turn i xs[i] (List.getElem?_eq_getElem hlt)
      refine .inr ⟨go, _, fun σ'' H'' hn => ⟨xs.length - (i + 1), by omega, rfl, hlt, hn⟩, fun x H2 y => ?_⟩
      rw [List.drop_eq_getElem_cons hlt] at hgo
      rw [forGo.eq_def] at hgo
      simp only at hgo
      obtain ⟨F3, x3, R3, hx⟩ : ∃ F3, Ex F' F3 ∧ Rel K B F3 ρ' σ' H2 s' ∧ Dp K F3 x xs[i] := by
        rcases yld x H2 y with ⟨rfl, hx⟩ | ⟨T, u, hT, rfl, hx⟩
        · exact ⟨F', Ex.refl F', R', hx⟩
        · exact ⟨upd F' T u, Ex.new (R'.fr.free hT), R'.new hT, hx⟩
      cases ha : assign tg (.d xs[i]) s'.env with
      | none => rw [ha] at hgo; cases hgo
      | some env =>
        rw [ha] at hgo
        simp only at hgo
        refine assign_ok (env := s'.env) (sto := s'.sto) ha (rval_d hx) R3 fun σ2 hl2 ho2 R4 => ?_
        cases hx2 : exs C b ⟨env, s'.sto⟩ with
        | none => rw [hx2] at hgo; cases hgo
        | some o1 =>
          rw [hx2] at hgo
          refine hb.run R4 hx2 ?_
          cases o1 with
          | next s2 => exact fun σ5 H5 F5 ρ5 x5 p5 R5 => ⟨F5, ρ5, s2, (x2.trans x3).trans x5, p2.trans p5, R5, hgo⟩
          | cont s2 => exact fun σ5 H5 F5 ρ5 x5 p5 R5 => ⟨F5, ρ5, s2, (x2.trans x3).trans x5, p2.trans p5, R5, hgo⟩
          | brk s2 =>
            simp only at hgo
            cases hgo
            exact fun σ5 H5 F5 ρ5 x5 p5 R5 => q σ5 H5 F5 ρ5 (x1.trans ((x2.trans x3).trans x5)) (p1.trans (p2.trans p5)) R5
          | ret w st =>
            simp only at hgo
            cases hgo
            exact fun v H5 F5 ρ5 x5 p5 R5 r => q v H5 F5 ρ5 (x1.trans ((x2.trans x3).trans x5)) (p1.trans (p2.trans p5)) R5 r
    · have ei : i = xs.length := by omega
      subst ei
      refine .inl ⟨stop, ?_⟩
      rw [List.drop_eq_nil_of_le (Nat.le_refl _), forGo] at hgo
      cases hgo
      exact q σ' H' F' ρ' (x1.trans x2) (p1.trans p2) R'
  · cases h⟩
theorem gs_while {c : E} {b : Sts} (hc : G K C c) (hb : GSS K C b) : GS K C (.while c b) := ⟨fun {B F H ρ σ s o D} R h q => by
  rw [ex] at h
  refine ⟨fun m σ' H' => ∃ (F' : Hp) (ρ' : List Addr) (s' : S), Ex F F' ∧ ρ <+: ρ' ∧ Rel K B F' ρ' σ' H' s' ∧
      whileGo (fun s => match ev C c s with
        | some (.d (.bool k), s1) => some (k, s1)
        | _ => none) (exs C b) m s' = some o, ⟨100000, F, ρ, s, Ex.refl F, List.prefix_refl _, R, h⟩, ?_⟩
  rintro m σ' H' ⟨F', ρ', s', x2, p2, R', hgo⟩
  cases m with
  | zero => cases hgo
  | succ n =>
    rw [whileGo] at hgo
    have key : ∀ {k : Bool} {s1 : S}, (match ev C c s' with
        | some (.d (.bool k), s1) => some (k, s1)
        | _ => none) = some (k, s1) → ev C c s' = some (.d (.bool k), s1) := by
      intro k s1 hk
      split at hk
      · rename_i e
        cases hk
        exact e
      · cases hk
    split at hgo
    · cases hgo
    · rename_i s1 hk
      cases hgo
      exact hc.tst R' (key hk) fun H3 F3 ρ3 x3 p3 R3 => q σ' H3 F3 ρ3 (x2.trans x3) (p2.trans p3) R3
    · rename_i s1 hk
      refine hc.tst R' (key hk) fun H3 F3 ρ3 x3 p3 R3 => ?_
      refine ⟨_, fun σ5 H5 hn => ⟨n, Nat.lt_succ_self n, hn⟩, ?_⟩
      cases hx2 : exs C b s1 with
      | none => rw [hx2] at hgo; cases hgo
      | some o1 =>
        rw [hx2] at hgo
        refine hb.run R3 hx2 ?_
        cases o1 with
        | next s2 => exact fun σ5 H5 F5 ρ5 x5 p5 R5 => ⟨F5, ρ5, s2, (x2.trans x3).trans x5, (p2.trans p3).trans p5, R5, hgo⟩
        | cont s2 => exact fun σ5 H5 F5 ρ5 x5 p5 R5 => ⟨F5, ρ5, s2, (x2.trans x3).trans x5, (p2.trans p3).trans p5, R5, hgo⟩
        | brk s2 =>
          simp only at hgo
          cases hgo
          exact fun σ5 H5 F5 ρ5 x5 p5 R5 => q σ5 H5 F5 ρ5 ((x2.trans x3).trans x5) ((p2.trans p3).trans p5) R5
        | ret w st =>
          simp only at hgo
          cases hgo
          exact fun v H5 F5 ρ5 x5 p5 R5 r => q v H5 F5 ρ5 ((x2.trans x3).trans x5) ((p2.trans p3).trans p5) R5 r⟩
end
/-- a new list by its form -/
def frE : E → Bool
  | .lst _ => true
  | .blt .list _ => true
  | .rev _ => true
  | .lc _ _ _ _ _ => true
  | .orL a b => frE a && frE b
  | _ => false
mutual
def wfS : St → Bool
  | .set _ a => wf a
  | .par _ _ a b => wf a && wf b
  | .own _ a => frE a && wf a
  | .parOwn _ _ a b => wfs a && wfs b
  | .ownApp _ a => wf a
  | .ownExt _ a => frE a && wf a
  | .ownSet _ a b => wf a && wf b
  | .refSet a b c => wf a && (wf b && wf c)
  | .expr a => wf a
  | .ite c t e => wf c && (wfSs t && wfSs e)
  | .for _ it b => wfi it && wfSs b
  | .while c b => wf c && wfSs b
  | .ret a => wf a
  | .never => true
  | .cont => true
  | .brk => true
def wfSs : Sts → Bool
  | .nil => true
  | .cons a r => wfS a && wfSs r
end
section
variable {K : PySem.W.Frag} {C : Calls}
theorem sndF : ∀ {e : E}, frE e = true → wf e = true → GFr K C e
  | .lst es, _, w => gf_lst (sndA es w)
  | .rev a, _, w => gf_rev (snd a w)
  | .lc tg it c elt own, _, w => gf_lc (sndI it (and2 (and2 w).2).1) (snd c (and2 (and2 (and2 w).2).2).1) (snd elt (and2 (and2 (and2 w).2).2).2) (subB_mem (and2 w).1)
  | .blt .list a, _, w => gf_list (snd a (and2 w).2)
  | .orL a b, h, w => gf_orL (sndF (e := a) (and2 h).1 (and2 w).1) (sndF (e := b) (and2 h).2 (and2 w).2)
mutual
theorem sndS : ∀ st : St, wfS st = true → GS K C st
  | .set _ a, h => gs_set (snd a h)
  | .par _ _ a b, h => gs_par (snd a (and2 h).1) (snd b (and2 h).2)
  | .own _ a, h => gs_own (sndF (and2 h).1 (and2 h).2)
  | .parOwn _ _ a b, h => gs_parOwn (sndA a (and2 h).1) (sndA b (and2 h).2)
  | .ownApp _ a, h => gs_ownApp (snd a h)
  | .ownExt _ a, h => gs_ownExt (sndF (and2 h).1 (and2 h).2)
  | .ownSet _ a b, h => gs_ownSet (snd a (and2 h).1) (snd b (and2 h).2)
  | .refSet a b c, h => gs_refSet (snd a (and2 h).1) (snd b (and2 (and2 h).2).1) (snd c (and2 (and2 h).2).2)
  | .expr a, h => gs_expr (snd a h)
  | .ite c t e, h => gs_ite (snd c (and2 h).1) (sndSs t (and2 (and2 h).2).1) (sndSs e (and2 (and2 h).2).2)
  | .for _ it b, h => gs_for (sndI it (and2 h).1) (sndSs b (and2 h).2)
  | .while c b, h => gs_while (snd c (and2 h).1) (sndSs b (and2 h).2)
  | .ret a, h => gs_ret (snd a h)
  | .never, _ => gs_never
  | .cont, _ => gs_cont
  | .brk, _ => gs_brk
theorem sndSs : ∀ ss : Sts, wfSs ss = true → GSS K C ss
  | .nil, _ => gss_nil
  | .cons a r, h => gss_cons (sndS a (and2 h).1) (sndSs r (and2 h).2)
end
end
end Ev
set_option maxHeartbeats 4000000
/-! The readings' operators, each by a rule of the hand layer. -/
namespace Ev
open PySem PySem.Spec PyProof.Rows L2
/-! ### data are plain -/
mutual
theorem dp_pl {K : PySem.W.Frag} {H : Hp} : ∀ {v : V} {d : PyData}, Dp K H v d → d.plain = true
  | _, _, .non => rfl
  | _, _, .bl b => rfl
  | _, _, .int i => rfl
  | _, _, .str x => rfl
  | _, _, .lst h r => by rw [PyData.plain]; exact dps_pl r
  | _, _, .tup h r => by rw [PyData.plain]; exact dps_pl r
theorem dps_pl {K : PySem.W.Frag} {H : Hp} : ∀ {vs : List V} {ds : List PyData}, DpAll K H vs ds → PyData.plainAll ds = true
  | _, _, .nil => rfl
  | _, _, .cons h r => by rw [PyData.plainAll, dp_pl h, dps_pl r]; rfl
end
theorem low_units {u : Nat} {d e : PyData} (hu : u + 70 < cLine) (h : low d e = true) : u + min d.depth e.depth < cLine := by
  have h1 : d.depth ≤ 64 ∨ e.depth ≤ 64 := by
    unfold low at h
    rcases (Bool.or_eq_true _ _).mp h with h | h
    · exact .inl (of_decide_eq_true h)
    · exact .inr (of_decide_eq_true h)
  have : min d.depth e.depth ≤ 64 := by
    rcases h1 with h1 | h1
    · exact Nat.le_trans (Nat.min_le_left _ _) h1
    · exact Nat.le_trans (Nat.min_le_right _ _) h1
  omega
theorem low_units1 {u a : Nat} {d e : PyData} (hu : u + 70 < cLine) (h : low d e = true) (he : e.depth = a + 1) : u + 1 + min a d.depth < cLine := by
  have h1 : d.depth ≤ 64 ∨ e.depth ≤ 64 := by
    unfold low at h
    rcases (Bool.or_eq_true _ _).mp h with h | h
    · exact .inl (of_decide_eq_true h)
    · exact .inr (of_decide_eq_true h)
  have : min a d.depth ≤ 64 := by
    rcases h1 with h1 | h1
    · exact Nat.le_trans (Nat.min_le_right _ _) h1
    · exact Nat.le_trans (Nat.min_le_left _ _) (by omega)
  omega
section
variable {X : Cx}
theorem or_eq (hu : X.A.units + 70 < cLine) : OpR X (compareOp .Eq) (rEq X.K false) := by
  intro pins s σ H x y v u Q I rx ry h
  obtain ⟨d, e, hd, he, hl, q⟩ := h
  obtain ⟨as, r1⟩ := Dp.reads I d x v hd rx
  obtain ⟨bs, r2⟩ := Dp.reads I e y u he ry
  exact PySem.SeqAt.eq_plain r1 r2 (dp_pl hd) (dp_pl he) (low_units hu hl) ⟨.bl _, H, I, rfl, q⟩
theorem or_ne (hu : X.A.units + 70 < cLine) : OpR X (compareOp .NotEq) (rEq X.K true) := by
  intro pins s σ H x y v u Q I rx ry h
  obtain ⟨d, e, hd, he, hl, q⟩ := h
  obtain ⟨as, r1⟩ := Dp.reads I d x v hd rx
  obtain ⟨bs, r2⟩ := Dp.reads I e y u he ry
  exact PySem.SeqAt.ne_plain r1 r2 (dp_pl hd) (dp_pl he) (low_units hu hl) ⟨.bl _, H, I, rfl, q⟩
theorem or_lt : OpR X (compareOp .Lt) (rCmp X.K .lt) := op_lt.or op_lt_str
theorem or_in (hu : X.A.units + 70 < cLine) : OpR X (compareOp .In) (rInD X.K false) := by
  intro pins s σ H x y v u Q I rx ry h
  rcases h with ⟨d, ys, hd, hy, q⟩ | h
  · obtain ⟨as, r1⟩ := Dp.reads I d x v hd rx
    rcases hy with ⟨he, hl⟩ | ⟨he, hl⟩
    · obtain ⟨bs, r2⟩ := Dp.reads I _ y u he ry
      have p := dp_pl he
      rw [PyData.plain] at p
      exact PySem.SeqAt.in_list_data r2 r1 p (dp_pl hd) (low_units1 hu hl (by rw [PyData.depth])) ⟨.bl _, H, I, rfl, q⟩
    · obtain ⟨bs, r2⟩ := Dp.reads I _ y u he ry
      have p := dp_pl he
      rw [PyData.plain] at p
      exact PySem.SeqAt.in_tuple_data r2 r1 p (dp_pl hd) (low_units1 hu hl (by rw [PyData.depth])) ⟨.bl _, H, I, rfl, q⟩
  · exact op_in_str pins s σ H x y v u Q I rx ry h
theorem or_notIn (hu : X.A.units + 70 < cLine) : OpR X (compareOp .NotIn) (rInD X.K true) := by
  intro pins s σ H x y v u Q I rx ry h
  rcases h with ⟨d, ys, hd, hy, q⟩ | h
  · obtain ⟨as, r1⟩ := Dp.reads I d x v hd rx
    rcases hy with ⟨he, hl⟩ | ⟨he, hl⟩
    · obtain ⟨bs, r2⟩ := Dp.reads I _ y u he ry
      have p := dp_pl he
      rw [PyData.plain] at p
      exact PySem.SeqAt.notIn_list_data r2 r1 p (dp_pl hd) (low_units1 hu hl (by rw [PyData.depth])) ⟨.bl _, H, I, rfl, q⟩
    · obtain ⟨bs, r2⟩ := Dp.reads I _ y u he ry
      have p := dp_pl he
      rw [PyData.plain] at p
      exact PySem.SeqAt.notIn_tuple_data r2 r1 p (dp_pl hd) (low_units1 hu hl (by rw [PyData.depth])) ⟨.bl _, H, I, rfl, q⟩
  · exact op_notin_str pins s σ H x y v u Q I rx ry h
def cmpOf : COp → CmpOp
  | .eq => .Eq
  | .ne => .NotEq
  | .lt => .Lt
  | .le => .LtE
  | .gt => .Gt
  | .ge => .GtE
  | .isIn => .In
  | .notIn => .NotIn
  | .is => .Is
  | .isNot => .IsNot
theorem or_cmp (hu : X.A.units + 70 < cLine) : ∀ o : COp, OpR X (compareOp (cmpOf o)) (rCmp X.K o)
  | .eq => or_eq hu
  | .ne => or_ne hu
  | .lt => or_lt
  | .le => op_le
  | .gt => op_gt
  | .ge => op_ge
  | .isIn => or_in hu
  | .notIn => or_notIn hu
  | .is => op_isN
  | .isNot => op_notN
/-! ### + and * -/
theorem or_catL : OpR X (binaryOp .Add) (fun x y H Q => ∃ l b xs zs, x = V.ref l ∧ y = .ref b ∧ SqL X.K H l xs ∧ SqL X.K H b zs ∧ xs.length + zs.length ≤ sizeLine ∧ ∀ p, H p = none → Q (.ref p) (upd H p (.lst (xs ++ zs)))) := by
  intro pins s σ H x y v u Q I rx ry h
  obtain ⟨l, b, xs, zs, rfl, rfl, hl, hb, hz, q⟩ := h
  cases rx
  cases ry
  obtain ⟨its, r, pl, _⟩ := I.list hl
  obtain ⟨its2, r2, pb, _⟩ := I.list hb
  obtain ⟨⟨cls, dd, data, sl⟩, n, ho, hc, hd0, hd⟩ := pl
  obtain ⟨⟨cls2, dd2, data2, sl2⟩, n2, ho2, hc2, hd02, hd2⟩ := pb
  simp only at hc hd hc2 hd2
  subst hc hd hc2 hd2
  have e : its.toArray ++ its2.toArray = (its ++ its2).toArray := by simp
  have hl1 := r.length
  have hl2 := r2.length
  refine concat_meets ⟨_, ho, rfl⟩ ⟨_, ho2, rfl⟩ noFill_list_add seq_list_add PySem.F.slot_list_add PySem.F.entry_list_add (PySem.F.args_list_add_2 _ _) (list_addW l b its.toArray its2.toArray n n2 dd dd2 sl sl2 (by
    rw [List.size_toArray, List.size_toArray]; omega)) ⟨ho, ho2, ?_⟩
  rw [e]
  exact ⟨.ref _, _, I.lnew (t' := s.toks) (r.append r2) (by rw [List.length_append]; exact hz), rfl, q _ I.fresh⟩
theorem or_add : OpR X (binaryOp .Add) (rAdd X.K) := by
  have h1 : OpR X (binaryOp .Add) (fun x y H Q => ∃ i j, x = V.int i ∧ y = .int j ∧ Q (.int (i + j)) H) := op_add
  exact h1.or (op_add_str.or (or_catL.or op_catA))
/-- t * 1, () * k: t itself -/
theorem tuple_mul_same (l : Addr) (items : Array Value) (n : Nat) (sl : Array (Option Value)) (dd : Option Addr) (x : Int) (u : Tok) (c0 : (decide (x < -(2 ^ 63)) || decide (x ≥ 2 ^ 63)) = false) (c1 : (items.isEmpty || x == 1) = true) :
    Meets (Builtin.«tuple.__mul__» ⟨[.ref l, .int x u], []⟩) (fun _ R s => s.heap.get? l = some { cls := .type "tuple", dict := dd, data := .seq items n, slots := sl } ∧ R (.ok (.ret (.ref l))) s) :=
  .of_wp fun prog w A R s h => by
    obtain ⟨hp, g, d, tk, os⟩ := s
    obtain ⟨hl, h⟩ := h
    have f1 := AutoSeq1.idx_int
    wp_walk using wpAny_loadPart' hl
    repeat (first
      | (refine wpAny_ite_false (decide_eq_false (by rw [c0]; exact Bool.false_ne_true)) ?_; wp_walk using wpAny_loadPart' hl)
      | (refine wpAny_ite_true (decide_eq_true (by rw [c1])) ?_; wp_walk using wpAny_loadPart' hl))
    exact ⟨_, rfl, h⟩
/-- t * 0 -/
theorem tuple_mul_none (l : Addr) (items : Array Value) (n : Nat) (sl : Array (Option Value)) (dd : Option Addr) (u : Tok) (c1 : items.isEmpty = false) :
    Meets (Builtin.«tuple.__mul__» ⟨[.ref l, .int 0 u], []⟩) (fun _ R s => s.heap.get? l = some { cls := .type "tuple", dict := dd, data := .seq items n, slots := sl } ∧
      R (.ok (.ret (Value.ref s.heap.objs.size))) { s with heap := s.heap.push { cls := Value.type "tuple", data := Data.seq #[] }, toks := s.toks }) :=
  .of_wp fun prog w A R s h => by
    obtain ⟨hp, g, d, tk, os⟩ := s
    obtain ⟨hl, h⟩ := h
    have f1 := AutoSeq1.idx_int
    have c0 : (decide ((0 : Int) < -(2 ^ 63)) || decide ((0 : Int) ≥ 2 ^ 63)) = false := by decide
    have c2 : (items.isEmpty || (0 : Int) == 1) = false := by rw [c1]; rfl
    have c3 : (decide ((0 : Int) ≤ 0) || items.isEmpty) = true := by rw [c1]; rfl
    wp_walk using wpAny_loadPart' hl
    repeat (first
      | (refine wpAny_ite_false (decide_eq_false (by rw [c0]; exact Bool.false_ne_true)) ?_; wp_walk using wpAny_loadPart' hl)
      | (refine wpAny_ite_false (decide_eq_false (by rw [c2]; exact Bool.false_ne_true)) ?_; wp_walk using wpAny_loadPart' hl)
      | (refine wpAny_ite_true (decide_eq_true (by rw [c3])) ?_; wp_walk using wpAny_loadPart' hl))
    exact ⟨_, rfl, h⟩
def rMulT (K : PySem.W.Frag) : R2 := fun x y H Q =>
  ∃ l k xs, x = V.ref l ∧ y = .int k ∧ SqT K H l xs ∧ 0 ≤ k ∧ k ≤ 1000 ∧ xs.length ≤ 100 ∧ (k = 1 → Q (.ref l) H) ∧ (xs = [] → Q (.ref l) H) ∧ (xs ≠ [] → k ≠ 1 → ∀ p, H p = none → Q (.ref p) (upd H p (.tup (List.replicate k.toNat xs).flatten)))
theorem or_mulT : OpR X (binaryOp .Mult) (rMulT X.K) := by
  intro pins s σ H x y v u Q I rx ry h
  obtain ⟨l, k, xs, rfl, rfl, hT, h0, h1, hz, q1, q2, q3⟩ := h
  by_cases hc : xs ≠ [] ∧ k ≠ 1 ∧ k ≠ 0
  · exact op_repT pins s σ H _ _ v u Q I rx ry ⟨l, k, xs, rfl, rfl, hT, hc.1, by omega, h1, by omega, q3 hc.1 hc.2.1⟩
  cases rx
  obtain ⟨t, rfl⟩ := ry
  obtain ⟨its, r, ⟨⟨cls, dd, data, sl⟩, ho, hcl, n, hd⟩, hs⟩ := I.tuple hT
  simp only at hcl hd
  subst hcl hd
  have hle : its.length = xs.length := r.length.symm
  have c0 : (decide (k < -(2 ^ 63)) || decide (k ≥ 2 ^ 63)) = false := by
    rw [decide_eq_false (by omega), decide_eq_false (by omega)] <;> rfl
  by_cases hsame : xs = [] ∨ k = 1
  · have c1 : (its.toArray.isEmpty || k == 1) = true := by
      rcases hsame with e | e
      · subst e
        have : its = [] := List.eq_nil_of_length_eq_zero hle
        rw [this]; rfl
      · rw [e]; simp
    refine wpAny_binaryOp_repeat_ref (T := "tuple") (U := "int") (by decide) ⟨_, ho, rfl⟩ (fun s' => typeIs_int s' k t) noFill_tuple_mul F.fills_int_mul F.slot_int_rmul repeat_tuple F.slot_int_index.lookup
      (call_meets F.slot_int_rmul (typeIs_int s k t) F.entry_int_rmul (F.args_int_rmul_2 _ _) (int_rmul_tuple k t l its.toArray n dd sl)
        ⟨ho, rfl, ⟨_, ho, rfl⟩, call_meets F.slot_tuple_mul ⟨_, ho, rfl⟩ F.entry_tuple_mul (F.args_tuple_mul_2 _ _) (tuple_mul_same l its.toArray n sl dd k t c0 c1) ⟨ho, ?_⟩⟩)
    refine ⟨.ref l, H, I, rfl, ?_⟩
    rcases hsame with e | e
    · exact q2 e
    · exact q1 e
  · have hne : xs ≠ [] := fun e => hsame (.inl e)
    have hk1 : k ≠ 1 := fun e => hsame (.inr e)
    have hk0 : k = 0 := by
      rcases Classical.em (k = 0) with e | e
      · exact e
      · exact absurd ⟨hne, hk1, e⟩ hc
    subst hk0
    have hi : its.toArray.isEmpty = false := by
      cases its with
      | nil => exact absurd (List.eq_nil_of_length_eq_zero hle.symm) hne
      | cons a b => rfl
    refine wpAny_binaryOp_repeat_ref (T := "tuple") (U := "int") (by decide) ⟨_, ho, rfl⟩ (fun s' => typeIs_int s' 0 t) noFill_tuple_mul F.fills_int_mul F.slot_int_rmul repeat_tuple F.slot_int_index.lookup
      (call_meets F.slot_int_rmul (typeIs_int s 0 t) F.entry_int_rmul (F.args_int_rmul_2 _ _) (int_rmul_tuple 0 t l its.toArray n dd sl)
        ⟨ho, rfl, ⟨_, ho, rfl⟩, call_meets F.slot_tuple_mul ⟨_, ho, rfl⟩ F.entry_tuple_mul (F.args_tuple_mul_2 _ _) (tuple_mul_none l its.toArray n sl dd t hi) ⟨ho, ?_⟩⟩)
    have q4 := q3 hne hk1 s.heap.objs.size (I.hok.fresh (Nat.le_refl _))
    refine ⟨.ref s.heap.objs.size, _, I.laid (t' := s.toks) (o := .tup (List.replicate (0 : Int).toNat xs).flatten) (fun b ob q => Heap.get?_push_of_some _ q) (Nat.le_refl _) ?_, rfl, q4⟩
    exact ⟨Nat.zero_le _, [], .nil, IsTup.new _ _⟩
def rMulL (K : PySem.W.Frag) : R2 := fun x y H Q =>
  ∃ l k xs, x = V.ref l ∧ y = .int k ∧ SqL K H l xs ∧ 0 ≤ k ∧ k ≤ 1000 ∧ xs.length ≤ 100 ∧ ∀ p, H p = none → Q (.ref p) (upd H p (.lst (List.replicate k.toNat xs).flatten))
/-- [..] * k, the list's own or not -/
theorem or_mulL : OpR X (binaryOp .Mult) (rMulL X.K) := by
  intro pins s σ H x y v u Q I rx ry h
  obtain ⟨l, k, xs, rfl, rfl, hL, h0, h1, hz, q⟩ := h
  cases rx
  obtain ⟨t, rfl⟩ := ry
  obtain ⟨its, r, pl, _⟩ := I.list hL
  obtain ⟨⟨cls, dd, data, sl⟩, n, ho, hc, hd0, hd⟩ := pl
  simp only at hc hd
  subst hc hd
  have hl := r.length
  have hs : its.toArray.size = xs.length := by rw [List.size_toArray, hl]
  have hm : its.toArray.size * k.toNat ≤ 100 * 1000 := by rw [hs]; exact Nat.mul_le_mul hz (by omega)
  have hline : its.toArray.size * k.toNat ≤ sizeLine := by rw [sizeLine_eq]; omega
  refine wpAny_binaryOp_repeat_ref (T := "list") (U := "int") (by decide) ⟨_, ho, rfl⟩ (fun s' => typeIs_int s' k t) noFill_list_mul F.fills_int_mul F.slot_int_rmul repeat_list F.slot_int_index.lookup
    (call_meets F.slot_int_rmul (typeIs_int s k t) F.entry_int_rmul (F.args_int_rmul_2 _ _) (lm_int_rmul_list_any k t l its.toArray n dd sl)
      ⟨ho, rfl, ⟨_, ho, rfl⟩, call_meets F.slot_list_mul ⟨_, ho, rfl⟩ F.entry_list_mul (F.args_list_mul_2 _ _)
        (lm_list_mul_any l its.toArray n dd sl k t (by rw [fitsIndex_both (by omega) (by omega)]; exact Bool.false_ne_true) (by omega) (by rw [notLongL hline]; exact Bool.false_ne_true)) ⟨ho, ?_⟩⟩)
  rw [PyProof.Rows.listMul_foldl_if]
  refine ⟨.ref _, _, I.lnew (t' := s.toks) (r.rep k.toNat) (by rw [PyProof.Rows.lm_len_rep_flat, Nat.mul_comm, ← hs]; exact hline), rfl, q _ I.fresh⟩
def binOf : BOp → Operator
  | .add => .Add
  | .sub => .Sub
  | .mul => .Mult
  | .fdiv => .FloorDiv
  | .mod => .Mod
  | .pow => .Pow
theorem or_bin : ∀ o : BOp, OpR X (binaryOp (binOf o)) (rBin X.K o)
  | .add => or_add
  | .sub => op_sub
  | .mul => OpR.or op_mul (OpR.or or_mulL or_mulT)
  | .fdiv => op_fdiv
  | .mod => op_mod
  | .pow => op_pow
/-! ### built-in functions -/
theorem cr_len : CallR X (.builtin "len") (rBlt X.K .len) := by
  have h1 := call_len_seq (X := X)
  exact h1.or call_len_str
end
end Ev
set_option maxHeartbeats 4000000
/-! enumerate over a tuple. -/
namespace Ev
open PySem PySem.Spec PyProof.Rows L2
theorem meets_enum_tup (l : Addr) (items : Array Value) (n : Nat) (dct : Option Addr) (sl : Array (Option Value)) :
    Meets (Builtin.«enumerate.__new__» ⟨[.type "enumerate", .ref l], []⟩) (fun _ R s => s.heap.get? l = some { cls := .type "tuple", dict := dct, data := .seq items n, slots := sl } ∧
      R (.ok (.ret (.ref (s.heap.push { cls := .type "tuple_iterator", data := .fields #[.ref l, .int 0 0] }).objs.size)))
        { s with heap := (s.heap.push { cls := .type "tuple_iterator", data := .fields #[.ref l, .int 0 0] }).push { cls := .type "enumerate", data := .fields #[.none, .bool false, .ref s.heap.objs.size, rawInt 0, .none, .none] } }) :=
  .of_wp fun prog w A R s h => by
    obtain ⟨hp, g, d, tk, os⟩ := s
    obtain ⟨hl, h⟩ := h
    have hsub := sub_enumerate
    have hL : Heap.IsTuple (Shared.heap ⟨hp, g, d, tk, os⟩) l items := ⟨_, hl, rfl, n, rfl⟩
    wp_walk using AutoSeq1.wpAny_loadPart' hl
    refine wpAny_stack_any fun st => wpAny_pure ?_
    split
    · rename_i c _ _ _ _ _
      cases (c == Value.type "enumerate")
      · wp_walk using AutoSeq1.wpAny_loadPart' hl, wpAny_pyIter_tuple hL
        exact ⟨_, rfl, h⟩
      · wp_walk using AutoSeq1.wpAny_loadPart' hl, wpAny_pyIter_tuple hL
        exact ⟨_, rfl, h⟩
    · wp_walk using AutoSeq1.wpAny_loadPart' hl, wpAny_pyIter_tuple hL
      exact ⟨_, rfl, h⟩
section
variable {prog : Program} {w : World} {A : Around} {E : Value → Shared → Prop} {s : Shared}
theorem call_enum_tup {l : Addr} {items : Array Value} {Q : Value → Shared → Prop} (hL : s.heap.IsTuple l items)
    (h : ∀ h', IsEnum h' (s.heap.objs.size + 1) s.heap.objs.size 0 .none → h'.IsTupleIter s.heap.objs.size l 0 → h'.objs.size = s.heap.objs.size + 2 →
      (∀ b o, s.heap.get? b = some o → h'.get? b = some o) → Q (.ref (s.heap.objs.size + 1)) { s with heap := h' }) :
    wpAny (model prog w) A (call (.type "enumerate") [.ref l]) Q E s := by
  obtain ⟨⟨c, dct, dt, sl⟩, hl, hc, n, hd⟩ := hL
  replace hc : c = .type "tuple" := hc
  replace hd : dt = .seq items n := hd
  subst hc hd
  refine callType_new F.called_enumerate (by decide) (F.typeCall_enumerate_1 _) (F.newCall_enumerate_1 _) (fun obj => F.args_object_init_2 obj _) F.entry_enumerate_new
    (meets_enum_tup l items n dct sl) ⟨hl, ?_⟩
  have hz : (s.heap.push { cls := .type "tuple_iterator", data := .fields #[.ref l, .int 0 0] }).objs.size = s.heap.objs.size + 1 := Heap.size_push ..
  show _ ∧ _
  rw [hz]
  have he : IsEnum ((s.heap.push { cls := .type "tuple_iterator", data := .fields #[.ref l, .int 0 0] }).push
      { cls := .type "enumerate", data := .fields #[.none, .bool false, .ref s.heap.objs.size, rawInt 0, .none, .none] }) (s.heap.objs.size + 1) s.heap.objs.size 0 .none := by
    have := Heap.get?_push_size (s.heap.push { cls := .type "tuple_iterator", data := .fields #[.ref l, .int 0 0] })
      (o := { cls := .type "enumerate", data := .fields #[.none, .bool false, .ref s.heap.objs.size, rawInt 0, .none, .none] }) rfl
    rw [hz] at this; exact this
  refine ⟨⟨_, he, rfl⟩, h _ he ⟨_, Heap.get?_push_of_some _ (Heap.get?_push_size _ rfl), rfl, rfl⟩ (by rw [Heap.size_push, hz]) fun b o x => Heap.get?_push_of_some _ (Heap.get?_push_of_some _ x)⟩
end
theorem turn_enumT {P : Program} {w : World} {K : PySem.W.Frag} {elts : List Expr} {kk : Nat} {tpos : Pos} (a e it : Addr) (hae : a ≠ e) (hai : a ≠ it) :
    Turn P w K (.Tuple elts kk tpos) (IteT K a) [e, it] e (fun i h => (∃ old, IsEnum h e it ((i : Nat) : Int) old) ∧ h.IsTupleIter it a i ∧ e ≠ it) where
  mem := by simp
  obj := fun i h st b hb => by
    obtain ⟨⟨old, he⟩, ⟨o, ho, hc, hd⟩, _⟩ := st
    have e' : b = e ∨ b = it := by simpa using hb
    rcases e' with z | z
    · rw [z]; exact ⟨_, he, fun v q => nomatch q⟩
    · rw [z]; exact ⟨o, ho, fun v q => by rw [hd] at q; cases q⟩
  keep := fun i h h' st k => let ⟨⟨old, he⟩, hi, hne⟩ := st; ⟨⟨old, k e (by simp) _ he⟩, hi.at fun o q => k it (by simp) o q, hne⟩
  item := by
    intro X hP hw hK hc i pins s σ H E I hf st hg
    subst hP hw hK
    obtain ⟨⟨old, he⟩, hit, hne⟩ := st
    obtain ⟨xs, x, hq, hx⟩ := hg
    obtain ⟨its, rv, p, hz⟩ := I.tuple hq
    obtain ⟨u, hu, ru⟩ := rv.get hx
    have hel : e < s.heap.objs.size := Heap.lt_size he
    have hil : it < s.heap.objs.size := by obtain ⟨_, q, _⟩ := hit; exact Heap.lt_size q
    have hlt : i < its.toArray.size := by
      have := (List.getElem?_eq_some_iff.mp hu).1
      simpa using this
    refine wpAny_pyNext_enum_itemD (Draws.tuple (show X.A.in1.handled = none from I.ok.hd hc) it a hai its.toArray) he ⟨hit, p⟩ hlt hne (by simp [hne, Ne.symm hae]) fun y h' tk hy ho hit' hT hsz hk => ?_
    have ey : y = u := by
      have : its[i]? = some y := by simpa using hy
      rw [hu] at this
      exact (Option.some.inj this).symm
    subst ey
    refine ⟨_, rfl, wpAny_letOwnedTupleGo_enum (s := { s with heap := h', toks := tk + 1 }) ho fun h'' he' sb => ?_⟩
    have hT2 : h''.get? s.heap.objs.size = some { cls := .type "tuple", data := .seq #[.int i tk, y] } := (sb.2 _ (Nat.ne_of_gt hel)).trans hT
    have new : ObjOk X.prog X.w (upd H s.heap.objs.size (.tup [.int (i : Nat), x])) h'' s.heap.objs.size (.tup [.int (i : Nat), x]) :=
      ⟨by show 2 ≤ sizeLine; decide, [.int i tk, y], .cons ⟨_, rfl⟩ (.cons ru .nil), ⟨_, hT2, rfl, _, rfl⟩⟩
    have I1 : Inv X pins σ (upd H s.heap.objs.size (.tup [.int (i : Nat), x])) { s with heap := h'', toks := tk + 1 } :=
      I.turnedNew (ch := [e, it]) (fun b ob hb q => (sb.2 b (fun z => hb (by simp [z]))).trans (hk b ob (fun z => hb (by simp [z])) (fun z => hb (by simp [z])) q)) hf (Nat.le_refl _) new
    refine ⟨.ref s.heap.objs.size, _, I1, rfl, ⟨_, x, rfl, I.hok.fresh (Nat.le_refl _), rfl, fun ys hy => by rw [I.tuple_inj hy hq]; exact hx⟩, ⟨⟨y, ?_⟩, hit'.1.at fun o q => (sb.2 it (Ne.symm hne)).trans q, hne⟩, fun b hb => ?_⟩
    · have e1 : ((i + 1 : Nat) : Int) = (i : Int) + 1 := by omega
      rw [e1]; exact he'
    · have hb' : b < s.heap.objs.size := by
        have e' : b = e ∨ b = it := by simpa using hb
        rcases e' with z | z
        · rw [z]; exact hel
        · rw [z]; exact hil
      rw [upd_ne (Nat.ne_of_lt hb')]
      exact (hf b hb).1
  done := by
    intro X hP hw hK hc i pins s σ H E I hf st hg
    subst hP hw hK
    obtain ⟨⟨old, he⟩, hit, hne⟩ := st
    obtain ⟨xs, hq, hx⟩ := hg
    obtain ⟨its, rv, p, hz⟩ := I.tuple hq
    obtain ⟨f0, f1, f2, f3, f4, f5⟩ := hf it (by simp)
    have hl := rv.length
    have hx' : its.toArray[i]? = none := by simp; omega
    have hT : s.TypeIs (.ref e) "enumerate" := ⟨_, he, rfl⟩
    unfold pyNext
    refine wpAny_bind (wpAny_attempt (wpAny_callSpecial?_slot (name := Str.ofString "__next__") hT F.slot_enumerate_next
      (wpAny_call_entry F.slot_enumerate_next hT F.entry_enumerate_next ?_ (F.args_enumerate_next_1 _))))
    show wpAny _ _ (field (.ref e) 2 >>= _) _ _ _
    refine wpAny_bind (wpAny_field he rfl (x := .ref it) rfl ?_)
    refine wpAny_bind (wpAny_nextOf_tuple_end (show X.A.in1.handled = none from I.ok.hd hc) hit (show s.heap.IsTuple a its.toArray from p) hx' fun h' x he' hy => ?_)
    obtain ⟨o, ho, hc2⟩ := hy
    refine wpAny_bind (wpAny_isInstance (T := "StopIteration") (b := true) ⟨o, ho, hc2⟩ isSubtype_stop ?_)
    exact wpAny_pure ⟨rfl, I.turned (t' := s.toks) (fun b o hb q => he' b o hb q) f0 f1 f3 f4 f5⟩
  self := fun A i s Q E st h => let ⟨⟨_, he⟩, _⟩ := st; wpAny_pyIter_enum he h
theorem pi_enumA {X : Cx} {e : Expr} {ta : TA} {p pos tpos : Pos} {elts : List Expr} {kk : Nat} (hg : Gl X "enumerate") (hm : X.mg "enumerate" = none) (ha : PA X [e] ta) (hs : starEach [e] X.env = [(false, eval e X.env)] := by rfl) :
    PI X (.Tuple elts kk tpos) (.Call (.Name "enumerate" p) [e] [] pos) (iEnumA X.K ta) := by
  refine ⟨fun pins s σ H R I h => ?_⟩
  refine Call_ (ld_blt I hg hm boot_enumerate (PyProof.Rows.callWith_type1 (thn (ha.run pos pins s σ H _ I h) fun us s1 ⟨vs, H1, I1, r1, q1⟩ => ?_) hs rfl))
  obtain ⟨a, xs, ex, hq⟩ := q1
  subst ex
  cases r1 with
  | cons r rr =>
    cases rr
    cases r
    rcases hq with ⟨hq, q⟩ | ⟨hq, q⟩
    · obtain ⟨its, rv, p', hz⟩ := I1.list hq
      refine call_enumerate_list p'.isList fun h' he hit hsz hk => wpAny_pyIter_enum he ?_
      have I2 : Inv X pins σ H1 { s1 with heap := h' } := I1.kept (t' := s1.toks) hk
      refine ⟨s1.heap.objs.size + 1, [s1.heap.objs.size + 1, s1.heap.objs.size], _, _, H1, rfl, I2, turn_enum a (s1.heap.objs.size + 1) s1.heap.objs.size, ⟨⟨.none, he⟩, hit, Nat.succ_ne_self _⟩, fun b hb => ?_, q⟩
      have e' : b = s1.heap.objs.size + 1 ∨ b = s1.heap.objs.size := by simpa using hb
      have hle : s1.heap.objs.size ≤ b := by
        rcases e' with z | z
        · rw [z]; exact Nat.le_add_right _ _
        · rw [z]; exact Nat.le_refl _
      exact I1.fpOk hle (I1.hok.fresh hle)
    · obtain ⟨its, rv, p', hz⟩ := I1.tuple hq
      have hla : a < s1.heap.objs.size := by obtain ⟨_, q, _⟩ := p'; exact Heap.lt_size q
      refine call_enum_tup (show s1.heap.IsTuple a its.toArray from p') fun h' he hit hsz hk => wpAny_pyIter_enum he ?_
      have I2 : Inv X pins σ H1 { s1 with heap := h' } := I1.kept (t' := s1.toks) hk
      refine ⟨s1.heap.objs.size + 1, [s1.heap.objs.size + 1, s1.heap.objs.size], _, _, H1, rfl, I2, turn_enumT a (s1.heap.objs.size + 1) s1.heap.objs.size (Nat.ne_of_lt (Nat.lt_succ_of_lt hla)) (Nat.ne_of_lt hla), ⟨⟨.none, he⟩, hit, Nat.succ_ne_self _⟩, fun b hb => ?_, q⟩
      have e' : b = s1.heap.objs.size + 1 ∨ b = s1.heap.objs.size := by simpa using hb
      have hle : s1.heap.objs.size ≤ b := by
        rcases e' with z | z
        · rw [z]; exact Nat.le_add_right _ _
        · rw [z]; exact Nat.le_refl _
      exact I1.fpOk hle (I1.hok.fresh hle)
end Ev
set_option maxHeartbeats 4000000
/-! The readings' built-in functions, subscripts, walks. -/
namespace Ev
open PySem PySem.Spec PyProof.Rows L2
section
variable {X : Cx}
def bltOf : BF → Value
  | .len => .builtin "len"
  | .tuple => .type "tuple"
  | .list => .type "list"
  | .int => .type "int"
  | .abs => .builtin "abs"
  | .sum => .builtin "sum"
  | .max => .builtin "max"
  | .min => .builtin "min"
  | .all => .builtin "all"
  | .any => .builtin "any"
  | .sorted => .builtin "sorted"
  | .set => .type "set"
def nameOf : BF → Str
  | .len => "len"
  | .tuple => "tuple"
  | .list => "list"
  | .int => "int"
  | .abs => "abs"
  | .sum => "sum"
  | .max => "max"
  | .min => "min"
  | .all => "all"
  | .any => "any"
  | .sorted => "sorted"
  | .set => "set"
theorem cr_blt (hc : X.calm = true) : ∀ f : BF, CallR X (bltOf f) (rBlt X.K f)
  | .len => cr_len
  | .tuple => call_tuple_of
  | .list => call_list_of
  | .int => call_int1
  | .abs => call_abs
  | .sum => cr_sum hc
  | .max => cr_max hc
  | .min => cr_min hc
  | .all => cr_all hc
  | .any => cr_any hc
  | .sorted => CallR.or cr_sortedI cr_sortedS
  | .set => fun _ _ _ _ _ _ _ _ _ h => h.elim
theorem xr_ix : IxR X (rIx X.K) := IxR.or ix_list ix_tup
theorem sr_sl : SlR X (rSl X.K) := SlR.or sl_list sl_tupA
theorem pi_seq {tg l : Expr} {tl : TE} (hl : PE X l tl) : PI X tg l (iSeq X.K tl) := by
  refine ⟨fun pins s σ H R I h => ?_⟩
  refine thn (hl.run pins s σ H _ I h) fun v s1 ⟨x, H1, I1, r1, q1⟩ => ?_
  obtain ⟨a, e, q1⟩ := q1
  subst e
  cases r1
  rcases q1 with ⟨⟨xs, hq⟩, q⟩ | ⟨⟨xs, hq⟩, q⟩
  · obtain ⟨its, rv, p, hz⟩ := I1.list hq
    refine wpAny_pyIter_list p.isList ?_
    refine ⟨s1.heap.objs.size, [s1.heap.objs.size], _, _, H1, rfl, I1.kept (t' := s1.toks) fun b o e => Heap.get?_push_of_some _ e, turn_list a _, ⟨_, Heap.get?_push_size _ rfl, rfl, rfl⟩, fun b hb => ?_, q⟩
    have e : b = s1.heap.objs.size := by simpa using hb
    subst e
    exact I1.fpOk (Nat.le_refl _) (I1.hok.fresh (Nat.le_refl _))
  · obtain ⟨its, rv, p, hz⟩ := I1.tuple hq
    refine wpAny_pyIter_tuple (show s1.heap.IsTuple a its.toArray from p) ?_
    refine ⟨s1.heap.objs.size, [s1.heap.objs.size], _, _, H1, rfl, I1.kept (t' := s1.toks) fun b o e => Heap.get?_push_of_some _ e, turn_tuple a _, ⟨_, Heap.get?_push_size _ rfl, rfl, rfl⟩, fun b hb => ?_, q⟩
    have e : b = s1.heap.objs.size := by simpa using hb
    subst e
    exact I1.fpOk (Nat.le_refl _) (I1.hok.fresh (Nat.le_refl _))
end
end Ev
set_option maxHeartbeats 4000000
/-! The text's expressions and statements as the evaluator's, node by node. -/
namespace Ev
open PySem PySem.Spec PyProof.Rows L2
/-- what a law's defs name: built-in names left free, constants, defs -/
structure Tab where
  free : List Str
  cons : List (Str × V)
  fns : List Str
structure CallOk (X : Cx) (C : Calls) (k f : Nat) (x : Str) : Prop where
  ex : ∃ (a : Addr) (fd : FuncData) (ps : List Str), FnOk X.prog X.w X.K X.mg X.base CX0 k a fd ps (spOf X.K C f) ∧ X.mg x = some (.ref a) ∧ PySem.W.keepIn X.K (.ref a) = true ∧ Binds X.K fd ps []
structure Amb (T : Tab) (C : Calls) (k : Nat) (X : Cx) : Prop where
  calm : X.calm = true
  nd : X.N.Nodup
  room : Room k X.A
  free : ∀ (i : Nat) (x : Str), T.free[i]? = some x → X.mg x = none
  con : ∀ (i : Nat) (x : Str) (v : V), T.cons[i]? = some (x, v) → ∃ u, X.mg x = some u ∧ RelV v u
  call : ∀ (i : Nat) (x : Str), T.fns[i]? = some x → CallOk X C k i x
theorem Amb.blk {T : Tab} {C : Calls} {k : Nat} {X : Cx} (a : Amb T C k X) (s : Shared) (H : Hp) (scope : Scope) (cenv : Env) (fp : List Addr) : Amb T C k (X.blk s H scope cenv fp) :=
  ⟨a.calm, a.nd, a.room, a.free, a.con, fun i x h => ⟨(a.call i x h).ex⟩⟩
theorem Amb.hu {T : Tab} {C : Calls} {k : Nat} {X : Cx} (a : Amb T C k X) : X.A.units + 70 < cLine := by have := a.room.un; omega
section
variable {T : Tab} {C : Calls} {k : Nat} {X : Cx}
abbrev DE (C : Calls) (X : Cx) (e : Expr) (i : E) : Prop := PE X e (read X.K (spOf X.K C) i)
abbrev DT (C : Calls) (X : Cx) (e : Expr) (i : E) : Prop := PT X e (readT X.K (spOf X.K C) i)
abbrev DW (C : Calls) (X : Cx) (e : Expr) (i : E) : Prop := PW X e (readT X.K (spOf X.K C) i)
abbrev DA (C : Calls) (X : Cx) (es : List Expr) (i : Es) : Prop := PA X es (readA X.K (spOf X.K C) i)
abbrev DI (C : Calls) (X : Cx) (tg e : Expr) (i : It) : Prop := PI X tg e (readI X.K (spOf X.K C) i)
abbrev DS (C : Calls) (X : Cx) (st : Stmt) (i : St) : Prop := PS X st (rds X.K (spOf X.K C) i)
abbrev DSS (C : Calls) (X : Cx) (sts : List Stmt) (i : Sts) : Prop := PSs X sts (rdss X.K (spOf X.K C) i)
abbrev DG (X : Cx) (tg : Expr) (i : Tg) : Prop := PG X tg (gTg X.K i)
variable {a b c e : Expr} {i j l : E} {pos p p1 p2 p3 : Pos} {x : Str}
/-! ### expressions -/
theorem d_var (n : Nat) (hN : X.N[n]? = some x := by rfl) (hv : Vis X.env.scope x := by first | exact Or.inl rfl | exact Or.inr (Or.inl rfl) | exact Or.inr (Or.inr rfl)) (hd : (x == ("__debug__" : Str)) = false := by decide)
    (hcd : (x == ("__classdict__" : Str)) = false := by decide) : DE C X (.Name x pos) (.var n) := pe_var hN hv hd hcd
theorem d_int {n : Int} {m : Nat} : DE C X (.Constant (.int n) m pos) (.con (.int n)) := pe_int
theorem d_bl {n : Bool} {m : Nat} : DE C X (.Constant (.bool n) m pos) (.con (.bool n)) := pe_bl
theorem d_non {m : Nat} : DE C X (.Constant .none m pos) (.con .none) := pe_non
theorem d_str {z : Str} {m : Nat} : DE C X (.Constant (.str z) m pos) (.con (.str z)) := pe_str
theorem d_con (am : Amb T C k X) (n : Nat) {d : PyData} (h : T.cons[n]? = some (x, vOf d) := by rfl) (hg : Gl X x := by rfl) (hd : (x == ("__debug__" : Str)) = false := by decide) : DE C X (.Name x pos) (.con d) := by
  obtain ⟨u, h1, h2⟩ := am.con n x _ h
  exact pe_glob hg h1 h2 hd
theorem d_nil : DA C X [] .nil := pa_nil
theorem d_cons {es : List Expr} {is : Es} (ha : DE C X e i) (hs : DA C X es is) (h : starEach (e :: es) X.env = (false, eval e X.env) :: starEach es X.env := by rfl) : DA C X (e :: es) (.cons i is) := pa_cons ha hs h
theorem d_tup {es : List Expr} {is : Es} {x1} (h : DA C X es is) : DE C X (.Tuple es x1 pos) (.tup is) := pe_tup h
theorem d_lst {es : List Expr} {is : Es} (h : DA C X es is) : DE C X (.List es pos) (.lst is) := pe_lst h
theorem d_box {es : List Expr} {is : Es} (h : DA C X es is) : DE C X (.List es pos) (.box is) := pe_lst h
theorem d_bin (o : BOp) {op : Operator} (ha : DE C X a i) (hb : DE C X b j) (ho : op = binOf o := by rfl) : DE C X (.BinOp a op b pos) (.bin o i j) := by
  subst ho
  exact pe_op (or_bin o) ha hb
theorem d_neg (ha : DE C X a i) : DE C X (.UnaryOp .USub a pos) (.neg i) := by
  show PE X _ (tUn (rU fun n => .int (-n)) (read X.K (spOf X.K C) i))
  exact pe_un un_neg ha
theorem d_cmp (am : Amb T C k X) (o : COp) {op : CmpOp} (ha : DE C X a i) (hb : DE C X b j) (ho : op = cmpOf o := by rfl) (hm : behindInMarks op b = false := by rfl) : DE C X (.Compare a [op] [b] pos) (.cmp o i j) := by
  subst ho
  exact pe_cmpR (or_cmp am.hu o) ha hb hm
theorem d_cmpT (am : Amb T C k X) (o : COp) {op : CmpOp} (ha : DE C X a i) (hb : DE C X b j) (ho : op = cmpOf o := by rfl) (hm : behindInMarks op b = false := by rfl) : DT C X (.Compare a [op] [b] pos) (.cmp o i j) := by
  subst ho
  exact pt_cmpR (or_cmp am.hu o) ha hb hm
theorem d_chain (am : Amb T C k X) (o q : COp) {op oq : CmpOp} (ha : DE C X a i) (hb : DE C X b j) (hc : DE C X c l) (ho : op = cmpOf o := by rfl) (hq : oq = cmpOf q := by rfl) (hm : lastMarks [op, oq] [b, c] = false := by with_unfolding_all rfl) :
    DE C X (.Compare a [op, oq] [b, c] pos) (.chain o q i j l) := by
  subst ho hq
  exact pe_chain (or_cmp am.hu o) (or_cmp am.hu q) ha hb hc hm
theorem d_chainT (am : Amb T C k X) (o q : COp) {op oq : CmpOp} (ha : DE C X a i) (hb : DE C X b j) (hc : DE C X c l) (ho : op = cmpOf o := by rfl) (hq : oq = cmpOf q := by rfl) (hm : lastMarks [op, oq] [b, c] = false := by with_unfolding_all rfl) :
    DT C X (.Compare a [op, oq] [b, c] pos) (.chain o q i j l) := by
  subst ho hq
  exact pt_chain (or_cmp am.hu o) (or_cmp am.hu q) ha hb hc hm
theorem d_one {op} (ha : DE C X a i) : DE C X (.BoolOp op [a] pos) i := pe_one ha
theorem d_and {rest : List Expr} (ha : DE C X a i) (hb : DE C X (.BoolOp .And (b :: rest) pos) j) : DE C X (.BoolOp .And (a :: b :: rest) pos) (.and i j) := pe_and ha hb
theorem d_or {rest : List Expr} (ha : DE C X a i) (hb : DE C X (.BoolOp .Or (b :: rest) pos) j) : DE C X (.BoolOp .Or (a :: b :: rest) pos) (.or i j) := pe_or ha hb
theorem d_orL (ha : DE C X a i) (hb : DE C X b j) : DE C X (.BoolOp .Or [a, b] pos) (.orL i j) := pe_orT ha (pe_one hb)
theorem d_and1W (ha : DT C X a i) : DW C X (.BoolOp .And [a] pos) i := pw_and1 ha
theorem d_or1W (ha : DT C X a i) : DW C X (.BoolOp .Or [a] pos) i := pw_or1 ha
theorem d_andW {rest : List Expr} (ha : DT C X a i) (hb : DW C X (.BoolOp .And (b :: rest) pos) j) : DW C X (.BoolOp .And (a :: b :: rest) pos) (.and i j) := pw_and ha hb
theorem d_orW {rest : List Expr} (ha : DT C X a i) (hb : DW C X (.BoolOp .Or (b :: rest) pos) j) : DW C X (.BoolOp .Or (a :: b :: rest) pos) (.or i j) := pw_or ha hb
theorem d_W (h : DW C X a i) : DT C X a i := h.pt
theorem d_not (ha : DE C X a i) : DE C X (.UnaryOp .Not a pos) (.not i) := pe_not ha
theorem d_notT (ha : DT C X a i) : DT C X (.UnaryOp .Not a pos) (.not i) := pt_not ha
theorem d_ite (hc : DT C X c l) (ha : DE C X a i) (hb : DE C X b j) : DE C X (.IfExp c a b pos) (.ite l i j) := pe_ifExp hc ha hb
/-- a test by its value -/
theorem d_val (ha : DE C X a i) (hb : readT X.K (spOf X.K C) i = tB (read X.K (spOf X.K C) i) := by rfl) (he : ∀ whole, isTrue a X.env whole = (do let v ← whole; standAt a.pos; holding [v] (truthy v)) := by intro _; rfl) : DT C X a i := by
  show PT X a _
  rw [hb]
  exact pt_val ha he
theorem d_ix (ha : DE C X a i) (hb : DE C X b j) (hs : PlainIx b := by exact fun _ _ => rfl) : DE C X (.Subscript a b pos) (.ix i j) := pe_ix xr_ix ha hb hs
theorem d_ownIx (n : Nat) (hb : DE C X b j) (hN : X.N[n]? = some x := by rfl) (hv : Vis X.env.scope x := by first | exact Or.inl rfl | exact Or.inr (Or.inl rfl) | exact Or.inr (Or.inr rfl)) (hd : (x == ("__debug__" : Str)) = false := by decide)
    (hcd : (x == ("__classdict__" : Str)) = false := by decide) (hs : PlainIx b := by exact fun _ _ => rfl) :
    DE C X (.Subscript (.Name x p) b pos) (.ownIx n j) := pe_ix xr_ix (pe_var hN hv hd hcd) hb hs
theorem d_dget (am : Amb T C k X) (ha : DE C X a i) (hb : DE C X b j) (hs : NoSl b := by exact fun _ _ => rfl) : DE C X (.Subscript a b pos) (.dget i j) := pe_dget (by have := am.hu; omega) ha hb hs
theorem d_dIn (am : Amb T C k X) (ha : DE C X a i) (hb : DE C X b j) (hm : behindInMarks .In b = false := by rfl) : DE C X (.Compare a [.In] [b] pos) (.dIn false i j) := pe_cmp (pc_din (by have := am.hu; omega) ha hb) hm
theorem d_notIn (am : Amb T C k X) (ha : DE C X a i) (hb : DE C X b j) (hm : behindInMarks .NotIn b = false := by rfl) : DE C X (.Compare a [.NotIn] [b] pos) (.dIn true i j) := pe_cmp (pc_dnotin (by have := am.hu; omega) ha hb) hm
theorem d_dInT (am : Amb T C k X) (ha : DE C X a i) (hb : DE C X b j) (hm : behindInMarks .In b = false := by rfl) : DT C X (.Compare a [.In] [b] pos) (.dIn false i j) := pt_cmp (pc_din (by have := am.hu; omega) ha hb) hm
theorem d_notInT (am : Amb T C k X) (ha : DE C X a i) (hb : DE C X b j) (hm : behindInMarks .NotIn b = false := by rfl) : DT C X (.Compare a [.NotIn] [b] pos) (.dIn true i j) := pt_cmp (pc_dnotin (by have := am.hu; omega) ha hb) hm
abbrev DO (C : Calls) (X : Cx) (e : Option Expr) (i : E) : Prop := PO X e (mkO i (read X.K (spOf X.K C) i))
theorem d_part0 : DO C X none (.con .none) := po_none
theorem d_part (h : DE C X e i) (hn : isNoneC i = false := by rfl) : DO C X (some e) i := by
  show PO X (some e) (mkO i (read X.K (spOf X.K C) i))
  unfold mkO
  rw [if_neg (by rw [hn]; exact Bool.false_ne_true)]
  exact po_some h
theorem d_sl {lo hi : Option Expr} (ha : DE C X a i) (hl : DO C X lo j) (hh : DO C X hi l) : DE C X (.Subscript a (.Slice lo hi none p) pos) (.sl i j l) := pe_slice sr_sl ha hl hh
theorem d_rev {m : Nat} (ha : DE C X a i) : DE C X (.Subscript a (.Slice none none (some (.UnaryOp .USub (.Constant (.int 1) m p1) p2)) p3) pos) (.rev i) := pe_revL ha
theorem d_call (am : Amb T C k X) (n : Nat) {es : List Expr} {is : Es} (ha : DA C X (e :: es) is) (h : T.fns[n]? = some x := by rfl) (hg : Gl X x := by rfl) (hdb : (x == ("__debug__" : Str)) = false := by decide)
    (he : starEach (e :: es) X.env = (false, eval e X.env) :: starEach es X.env := by rfl) (hpl : (backTo pos (starEach es X.env)).any (·.1) = false := by rfl) : DE C X (.Call (.Name x p) (e :: es) [] pos) (.call n is) := by
  obtain ⟨f, fd, ps, F, hm, hk, hb⟩ := (am.call n x h).ex
  exact pe_call F am.room hg hm hk hb .nil pass0 ha hdb he hpl
theorem d_ty (am : Amb T C k X) (n : Nat) {t : String} (h : T.free[n]? = some x := by rfl) (hg : Gl X x := by rfl) (hb : bootBuiltins x = some (.type t) := by decide +kernel) (hn : x ≠ "__name__" := by decide) (hd : (x == ("__debug__" : Str)) = false := by decide) :
    PE X (.Name x pos) (tC (.ty t)) := pe_bltn hg (am.free n x h) hb rfl hn hd
/-- built-in functions and types of one place -/
theorem d_blt (am : Amb T C k X) (f : BF) (n : Nat) (ha : DE C X e i) (hx : x = nameOf f := by rfl) (h : T.free[n]? = some x := by rfl) (hg : Gl X x := by rfl) (he : starEach (e :: []) X.env = (false, eval e X.env) :: starEach [] X.env := by rfl) (hpl : (backTo pos (starEach [] X.env)).any (·.1) = false := by rfl) : DE C X (.Call (.Name x p) [e] [] pos) (.blt f i) := by
  subst hx
  have hm := am.free n _ h
  have pa := pa_cons ha pa_nil he
  cases f with
  | len => exact pe_callB (cr_blt am.calm .len) hg hm (by decide +kernel) pa (by decide) (by decide) he hpl
  | tuple => exact pe_callTy (cr_blt am.calm .tuple) hg hm (by decide +kernel) pa (by decide) (by decide) he hpl
  | list => exact pe_callTy (cr_blt am.calm .list) hg hm (by decide +kernel) pa (by decide) (by decide) he hpl
  | int => exact pe_callTy (cr_blt am.calm .int) hg hm (by decide +kernel) pa (by decide) (by decide) he hpl
  | abs => exact pe_callB (cr_blt am.calm .abs) hg hm (by decide +kernel) pa (by decide) (by decide) he hpl
  | sum => exact pe_callB (cr_blt am.calm .sum) hg hm (by decide +kernel) pa (by decide) (by decide) he hpl
  | max => exact pe_callB (cr_blt am.calm .max) hg hm (by decide +kernel) pa (by decide) (by decide) he hpl
  | min => exact pe_callB (cr_blt am.calm .min) hg hm (by decide +kernel) pa (by decide) (by decide) he hpl
  | all => exact pe_callB (cr_blt am.calm .all) hg hm (by decide +kernel) pa (by decide) (by decide) he hpl
  | any => exact pe_callB (cr_blt am.calm .any) hg hm (by decide +kernel) pa (by decide) (by decide) he hpl
  | sorted => exact pe_callB (cr_blt am.calm .sorted) hg hm (by decide +kernel) pa (by decide) (by decide) he hpl
  | set => exact pe_callTy (cr_blt am.calm .set) hg hm (by decide +kernel) pa (by decide) (by decide) he hpl
theorem d_isi (am : Amb T C k X) (m n : Nat) {t : Ty} {tx : Str} (ha : DE C X e i) (hx : x = "isinstance" := by rfl) (h : T.free[n]? = some x := by rfl) (hg : Gl X x := by rfl)
    (h2 : T.free[m]? = some tx := by rfl) (hg2 : Gl X tx := by rfl) (hb : bootBuiltins tx = some (.type (tyName t)) := by decide +kernel) (hn : tx ≠ "__name__" := by decide) (hd : (tx == ("__debug__" : Str)) = false := by decide)
    (he : starEach (e :: [.Name tx p2]) X.env = (false, eval e X.env) :: starEach [.Name tx p2] X.env := by rfl) (he2 : starEach (.Name tx p2 :: []) X.env = (false, eval (.Name tx p2) X.env) :: starEach [] X.env := by rfl) (hpl : (backTo pos (starEach [.Name tx p2] X.env)).any (·.1) = false := by rfl) :
    DE C X (.Call (.Name x p) [e, .Name tx p2] [] pos) (.isi i t) := by
  subst hx
  exact pe_callB call_isi hg (am.free n _ h) (by decide +kernel) (pa_cons ha (pa_cons (pe_bltn (v := .ty (tyName t)) hg2 (am.free m _ h2) hb rfl hn hd) pa_nil he2) he) (by decide) (by decide) he hpl
theorem d_isi2 (am : Amb T C k X) (m m2 n : Nat) {t u : Ty} {tx ux : Str} {kx} {pt p4 : Pos} (ha : DE C X e i) (hx : x = "isinstance" := by rfl) (h : T.free[n]? = some x := by rfl) (hg : Gl X x := by rfl)
    (h2 : T.free[m]? = some tx := by rfl) (hg2 : Gl X tx := by rfl) (hb : bootBuiltins tx = some (.type (tyName t)) := by decide +kernel) (hn : tx ≠ "__name__" := by decide) (hd : (tx == ("__debug__" : Str)) = false := by decide)
    (h3 : T.free[m2]? = some ux := by rfl) (hg3 : Gl X ux := by rfl) (hb3 : bootBuiltins ux = some (.type (tyName u)) := by decide +kernel) (hn3 : ux ≠ "__name__" := by decide) (hd3 : (ux == ("__debug__" : Str)) = false := by decide)
    (he : starEach (e :: [.Tuple [.Name tx p2, .Name ux p4] kx pt]) X.env = (false, eval e X.env) :: starEach [.Tuple [.Name tx p2, .Name ux p4] kx pt] X.env := by rfl)
    (he2 : starEach (.Tuple [.Name tx p2, .Name ux p4] kx pt :: []) X.env = (false, eval (.Tuple [.Name tx p2, .Name ux p4] kx pt) X.env) :: starEach [] X.env := by rfl)
    (he3 : starEach (.Name tx p2 :: [.Name ux p4]) X.env = (false, eval (.Name tx p2) X.env) :: starEach [.Name ux p4] X.env := by rfl) (he4 : starEach (.Name ux p4 :: []) X.env = (false, eval (.Name ux p4) X.env) :: starEach [] X.env := by rfl)
    (hpl : (backTo pos (starEach [.Tuple [.Name tx p2, .Name ux p4] kx pt] X.env)).any (·.1) = false := by rfl) :
    DE C X (.Call (.Name x p) [e, .Tuple [.Name tx p2, .Name ux p4] kx pt] [] pos) (.isi2 i t u) := by
  subst hx
  exact pe_callB call_isiT hg (am.free n _ h) (by decide +kernel) (pa_cons ha (pa_cons (pe_tup (pa_cons (pe_bltn (v := .ty (tyName t)) hg2 (am.free m _ h2) hb rfl hn hd) (pa_cons (pe_bltn (v := .ty (tyName u)) hg3 (am.free m2 _ h3) hb3 rfl hn3 hd3) pa_nil he4) he3)) pa_nil he2) he) (by decide) (by decide) he hpl
theorem d_star {x1} (ha : DE C X a i) (hb : DE C X b j) (h1 : starEach (.Starred a p :: [b]) X.env = (true, eval a X.env) :: starEach [b] X.env := by rfl) (h2 : starEach (b :: []) X.env = (false, eval b X.env) :: starEach [] X.env := by rfl) :
    DE C X (.Tuple [.Starred a p, b] x1 pos) (.star i j) := pe_tup (StX.pa_star ha (pa_cons hb pa_nil h2) h1)
theorem d_count {apos : Pos} (ha : DE C X a i) (hb : DE C X b j)
    (hbase : attributeBase a "count" X.env (eval a X.env) = eval a X.env := by rfl)
    (hfew : ((backTo pos (starEach (b :: []) X.env)).all (fun x => !x.1) && (backToKw pos (keywordEach [] X.env)).all (fun x => x.1.isSome)
      && decide ((b :: []).length + ([] : List Keyword).length + (if ([] : List Keyword).isEmpty then 0 else 1) < 30)) = true := by rfl)
    (hline : (apos.endLine == pos.line) = true := by rfl) (hs : starEach (b :: []) X.env = (false, eval b X.env) :: starEach [] X.env := by rfl) (hplain : (backTo pos (starEach [] X.env)).any (·.1) = false := by rfl) :
    DE C X (.Call (.Attribute a "count" apos) [b] [] pos) (.count i j) := pe_bm PySem.F.plainAttrs_list PySem.F.slot_list_count PySem.F.type_list_count mt_lcount ha (pa_cons hb pa_nil hs) hbase hfew hline hs hplain
/-! ### one's own lists -/
theorem d_frz (n : Nat) (hN : X.N[n]? = some x := by rfl) (hv : Vis X.env.scope x := by first | exact Or.inl rfl | exact Or.inr (Or.inl rfl) | exact Or.inr (Or.inr rfl)) (hd : (x == ("__debug__" : Str)) = false := by decide)
    (hcd : (x == ("__classdict__" : Str)) = false := by decide) : DE C X (.Name x pos) (.frz n) := pe_var hN hv hd hcd
theorem d_ownNe (am : Amb T C k X) (n : Nat) (hN : X.N[n]? = some x := by rfl) (hv : Vis X.env.scope x := by first | exact Or.inl rfl | exact Or.inr (Or.inl rfl) | exact Or.inr (Or.inr rfl)) (hd : (x == ("__debug__" : Str)) = false := by decide)
    (hcd : (x == ("__classdict__" : Str)) = false := by decide) (hm : behindInMarks .NotEq (.List [] p2) = false := by rfl) : DE C X (.Compare (.Name x p) [.NotEq] [.List [] p2] pos) (.ownNe n) :=
  pe_cmpR (or_ne am.hu) (pe_var hN hv hd hcd) (pe_lst pa_nil) hm
theorem d_ownNeT (am : Amb T C k X) (n : Nat) (hN : X.N[n]? = some x := by rfl) (hv : Vis X.env.scope x := by first | exact Or.inl rfl | exact Or.inr (Or.inl rfl) | exact Or.inr (Or.inr rfl)) (hd : (x == ("__debug__" : Str)) = false := by decide)
    (hcd : (x == ("__classdict__" : Str)) = false := by decide) (hm : behindInMarks .NotEq (.List [] p2) = false := by rfl) : DT C X (.Compare (.Name x p) [.NotEq] [.List [] p2] pos) (.ownNe n) :=
  pt_cmpR (or_ne am.hu) (pe_var hN hv hd hcd) (pe_lst pa_nil) hm
theorem d_ownTup (am : Amb T C k X) (m n : Nat) {f : Str} (hN : X.N[n]? = some x := by rfl) (hv : Vis X.env.scope x := by first | exact Or.inl rfl | exact Or.inr (Or.inl rfl) | exact Or.inr (Or.inr rfl)) (hd : (x == ("__debug__" : Str)) = false := by decide)
    (hcd : (x == ("__classdict__" : Str)) = false := by decide) (hf : f = "tuple" := by rfl) (h : T.free[m]? = some f := by rfl) (hg : Gl X f := by rfl)
    (he : starEach (.Name x p2 :: []) X.env = (false, eval (.Name x p2) X.env) :: starEach [] X.env := by rfl) (hpl : (backTo pos (starEach [] X.env)).any (·.1) = false := by rfl) : DE C X (.Call (.Name f p) [.Name x p2] [] pos) (.ownTup n) := by
  subst hf
  exact pe_callTy (cr_blt am.calm .tuple) hg (am.free m _ h) (by decide +kernel) (pa_cons (pe_var hN hv hd hcd) pa_nil he) (by decide) (by decide) he hpl
theorem d_ownPop (n : Nat) {apos : Pos} (hN : X.N[n]? = some x := by rfl) (hv : Vis X.env.scope x := by first | exact Or.inl rfl | exact Or.inr (Or.inl rfl) | exact Or.inr (Or.inr rfl)) (hd : (x == ("__debug__" : Str)) = false := by decide)
    (hcd : (x == ("__classdict__" : Str)) = false := by decide) (hbase : attributeBase (.Name x p) "pop" X.env (eval (.Name x p) X.env) = eval (.Name x p) X.env := by rfl) (hline : (apos.endLine == pos.line) = true := by rfl) :
    DE C X (.Call (.Attribute (.Name x p) "pop" apos) [] [] pos) (.ownPop n) := pe_bm0 PySem.F.plainAttrs_list PySem.F.slot_list_pop PySem.F.type_list_pop mt_pop (pe_var hN hv hd hcd) hbase hline
end
end Ev
set_option maxHeartbeats 4000000
/-! Comprehensions, walks, statements. -/
namespace Ev
open PySem PySem.Spec PyProof.Rows L2
section
variable {T : Tab} {C : Calls} {k : Nat} {X : Cx} {a b c e : Expr} {i j l : E} {pos p p1 p2 p3 : Pos} {x : Str}
/-! ### targets -/
theorem d_tgn (am : Amb T C k X) (n : Nat) (hi : X.N[n]? = some x := by rfl) (hx : Loc X.env.scope x := by first | exact Or.inl rfl | exact Or.inr rfl) (hf : X.fn x = true ∨ X.env.scope.names.lookup x = some .local := by first | exact .inl rfl | exact .inr rfl) : DG X (.Name x pos) (.n n) :=
  pg_name am.nd hi hx hf
abbrev DGs (X : Cx) (es : List Expr) (is : List Nat) : Prop := PGs X es (gTgs is)
theorem d_tg0 : DGs X [] [] := pgs_nil
theorem d_tgc (am : Amb T C k X) {es : List Expr} {is : List Nat} (n : Nat) (hs : DGs X es is) (hi : X.N[n]? = some x := by rfl) (hx : Loc X.env.scope x := by first | exact Or.inl rfl | exact Or.inr rfl) (hf : X.fn x = true ∨ X.env.scope.names.lookup x = some .local := by first | exact .inl rfl | exact .inr rfl)
    (h : (assignEach (Expr.Name x p :: es) X.env).map (·.2) = PySem.assign (Expr.Name x p) X.env :: (assignEach es X.env).map (·.2) := by rfl) : DGs X (.Name x p :: es) (n :: is) := pgs_cons (pg_name am.nd hi hx hf) hs h
theorem d_tgt (am : Amb T C k X) {es : List Expr} {m : Nat} {is : List Nat} (h : DGs X es is) (hn : (assignEach es X.env).length = is.length := by rfl) (hst : (assignEach es X.env).findIdx? (·.1) = none := by rfl) : DG X (.Tuple es m pos) (.t is) := pg_tup am.calm h hn hst
/-! ### walks -/
variable {tg : Expr} {it : It} {tgI : Tg}
theorem d_seq (ha : DE C X a i) : DI C X tg a (.seq i) := pi_seq ha
theorem d_chars (ha : DE C X a i) : DI C X tg a (.chars i) := pi_str ha
theorem d_rng (am : Amb T C k X) (n : Nat) (ha : DE C X a i) (hx : x = "range" := by rfl) (h : T.free[n]? = some x := by rfl) (hg : Gl X x := by rfl) (he : starEach (a :: []) X.env = (false, eval a X.env) :: starEach [] X.env := by rfl)
    (hs : starEach [a] X.env = [(false, eval a X.env)] := by rfl) : DI C X tg (.Call (.Name x p) [a] [] pos) (.rng i) := by
  subst hx
  exact pi_range1 hg (am.free n _ h) (pa_cons ha pa_nil he) hs
theorem d_enum (am : Amb T C k X) (n : Nat) {elts : List Expr} {kk : Nat} {tpos : Pos} (ha : DE C X a i) (hx : x = "enumerate" := by rfl) (h : T.free[n]? = some x := by rfl) (hg : Gl X x := by rfl) (he : starEach (a :: []) X.env = (false, eval a X.env) :: starEach [] X.env := by rfl)
    (hs : starEach [a] X.env = [(false, eval a X.env)] := by rfl) : DI C X (.Tuple elts kk tpos) (.Call (.Name x p) [a] [] pos) (.enum i) := by
  subst hx
  exact pi_enumA hg (am.free n _ h) (pa_cons ha pa_nil he) hs
theorem d_zip (am : Amb T C k X) (n : Nat) {elts : List Expr} {kk : Nat} {tpos : Pos} (ha : DE C X a i) (hb : DE C X b j) (hx : x = "zip" := by rfl) (h : T.free[n]? = some x := by rfl) (hg : Gl X x := by rfl)
    (he2 : starEach (b :: []) X.env = (false, eval b X.env) :: starEach [] X.env := by rfl)
    (hs : starEach [a, b] X.env = (false, eval a X.env) :: starEach [b] X.env := by rfl) (hpl : (backTo pos (starEach [b] X.env)).any (·.1) = false := by rfl) : DI C X (.Tuple elts kk tpos) (.Call (.Name x p) [a, b] [] pos) (.zip i j) := by
  subst hx
  exact RZ.pi_zipA hg (am.free n _ h) (pa_cons ha (pa_cons hb pa_nil he2) hs) hs hpl
/-! ### comprehensions -/
abbrev DTs (C : Calls) (X : Cx) (ifs : List Expr) (i : E) : Prop := PTs X ifs (if isTrueC i then tYes else readT X.K (spOf X.K C) i)
theorem d_yes : DTs C X [] (.con (.bool true)) := pts_nil
theorem d_test (h : DT C X c i) (hn : isTrueC i = false := by rfl) : DTs C X [c] i := by
  show PTs X [c] (if isTrueC i then tYes else readT X.K (spOf X.K C) i)
  rw [if_neg (by rw [hn]; exact Bool.false_ne_true)]
  exact pts_one h
def isLC (k : NameKind) : Bool := decide (k = .local) || decide (k = .cell)
def blkB (N : List Str) (sc scope : Scope) (own : List (Str × Nat)) : Bool :=
  decide (scope.kind = .function) && (scope.names.all (fun y => decide (scope.names.lookup y.1 = some y.2)) && (own.all (fun p => decide (N[p.2]? = some p.1)) &&
    (scope.names.all (fun y => !decide (y.2 = .free) || (decide (sc.names.lookup y.1 = some .cell) || decide (sc.names.lookup y.1 = some .free))) &&
      scope.names.all (fun y => !isLC y.2 || (decide (y.1 ∈ own.map (·.1)) || decide (y.1 ∉ N))))))
theorem blk_ok {N : List Str} {sc scope : Scope} {own : List (Str × Nat)} (h : blkB N sc scope own = true) : BlkOk N sc scope own := by
  unfold blkB at h
  obtain ⟨h1, h⟩ := and2 h
  obtain ⟨h2, h⟩ := and2 h
  obtain ⟨h3, h⟩ := and2 h
  obtain ⟨h4, h5⟩ := and2 h
  refine ⟨of_decide_eq_true h1, fun y hy => of_decide_eq_true (List.all_eq_true.mp h2 y hy), fun q hq => of_decide_eq_true (List.all_eq_true.mp h3 q hq), fun y hy e => ?_, fun y hy e => ?_⟩
  · have z := List.all_eq_true.mp h4 y hy
    rw [decide_eq_true e, Bool.not_true, Bool.false_or] at z
    rcases (Bool.or_eq_true _ _).mp z with z | z
    · exact .inl (of_decide_eq_true z)
    · exact .inr (of_decide_eq_true z)
  · have z := List.all_eq_true.mp h5 y hy
    have w : isLC y.2 = true := by
      rcases e with q | q
      · rw [q]; rfl
      · rw [q]; rfl
    rw [w, Bool.not_true, Bool.false_or] at z
    rcases (Bool.or_eq_true _ _).mp z with z | z
    · exact .inl (of_decide_eq_true z)
    · exact .inr (of_decide_eq_true z)
theorem d_lc (am : Amb T C k X) {elt iter : Expr} {ifs : List Expr} {scope : Scope} (own : List (Str × Nat)) {tI : Tg} {cI eI : E} {vs : List Nat} (hi : DI C X tg iter it)
    (hg : ∀ (s : Shared) (H : Hp) (D : Addr) (cl : List (Str × Addr)) (fp : List Addr), DG (X.blk s H scope (compEnvC scope cl D X.env) fp) tg tI)
    (ht : ∀ (s : Shared) (H : Hp) (D : Addr) (cl : List (Str × Addr)) (fp : List Addr), DTs C (X.blk s H scope (compEnvC scope cl D X.env) fp) ifs cI)
    (he : ∀ (s : Shared) (H : Hp) (D : Addr) (cl : List (Str × Addr)) (fp : List Addr), DE C (X.blk s H scope (compEnvC scope cl D X.env) fp) elt eI)
    (ho : own.map (·.2) = vs := by rfl) (hb : blkB X.N X.env.scope scope own = true := by first | rfl | kernel_rfl) (hs : ∀ x, foldedSetIterable iter X.env x = pure x := by intro _; rfl) :
    DE C X (.ListComp elt [⟨tg, iter, ifs, 0⟩] scope pos) (.lc tI it cI eI vs) := by
  subst ho
  exact pe_lc am.calm am.nd hi (blk_ok hb) hg ht he hs
theorem d_dc (am : Amb T C k X) {kx vx iter : Expr} {scope : Scope} (own : List (Str × Nat)) {tI : Tg} {kI vI : E} {vs : List Nat} (hi : DI C X tg iter it)
    (hg : ∀ (s : Shared) (H : Hp) (D : Addr) (cl : List (Str × Addr)) (fp : List Addr), DG (X.blk s H scope (compEnvC scope cl D X.env) fp) tg tI)
    (hk : ∀ (s : Shared) (H : Hp) (D : Addr) (cl : List (Str × Addr)) (fp : List Addr), DE C (X.blk s H scope (compEnvC scope cl D X.env) fp) kx kI)
    (hv : ∀ (s : Shared) (H : Hp) (D : Addr) (cl : List (Str × Addr)) (fp : List Addr), DE C (X.blk s H scope (compEnvC scope cl D X.env) fp) vx vI)
    (ho : own.map (·.2) = vs := by rfl) (hb : blkB X.N X.env.scope scope own = true := by first | rfl | kernel_rfl) (hs : ∀ x, foldedSetIterable iter X.env x = pure x := by intro _; rfl) :
    DE C X (.DictComp kx vx [⟨tg, iter, [], 0⟩] scope pos) (.dc tI it kI vI vs) := by
  subst ho
  exact pe_dc am.calm am.nd hi (blk_ok hb) hg (fun _ _ _ _ _ => pts_nil) hk hv hs
/-! ### statements -/
variable {st : Stmt} {sts : List Stmt} {sI : St} {ssI tsI : Sts}
theorem s_nil : DSS C X [] .nil := pss_nil
theorem s_cons (h1 : DS C X st sI) (h2 : DSS C X sts ssI) : DSS C X (st :: sts) (.cons sI ssI) := pss_cons h1 h2
theorem s_set {tgI : Tg} (ha : DE C X e i) (hg : DG X tg tgI) (hs : swapsWithSole [tg] e pos.line X.env = pure false := by rfl) (hw : swappedStores [tg] e X.env = pure none := by rfl)
    (h1 : (assignEach [tg] X.env).map (·.2) = [PySem.assign tg X.env] := by rfl) : DS C X (.Assign [tg] e pos) (.set tgI i) := ps_asg ha hg hs hw h1
theorem s_own (am : Amb T C k X) (n : Nat) (ha : DE C X e i) (hi : X.N[n]? = some x := by rfl) (hx : Loc X.env.scope x := by first | exact Or.inl rfl | exact Or.inr rfl) (hs : swapsWithSole [Expr.Name x p] e pos.line X.env = pure false := by rfl) (hw : swappedStores [Expr.Name x p] e X.env = pure none := by rfl)
    (h1 : (assignEach [Expr.Name x p] X.env).map (·.2) = [PySem.assign (Expr.Name x p) X.env] := by rfl) (hf : X.fn x = true ∨ X.env.scope.names.lookup x = some .local := by first | exact .inl rfl | exact .inr rfl) : DS C X (.Assign [.Name x p] e pos) (.own n i) :=
  ps_asg ha (pg_name am.nd hi hx hf) hs hw h1
/-- name = [..], on one line -/
theorem s_setLc (am : Amb T C k X) (n : Nat) {elt iter : Expr} {ifs : List Expr} {scope : Scope} {spos : Pos} (own : List (Str × Nat)) {tI : Tg} {cI eI : E} {vs : List Nat} (hi : DI C X tg iter it)
    (hg : ∀ (s : Shared) (H : Hp) (D : Addr) (cl : List (Str × Addr)) (fp : List Addr), DG (X.blk s H scope (compEnvC scope cl D X.env) fp) tg tI)
    (ht : ∀ (s : Shared) (H : Hp) (D : Addr) (cl : List (Str × Addr)) (fp : List Addr), DTs C (X.blk s H scope (compEnvC scope cl D X.env) fp) ifs cI)
    (he : ∀ (s : Shared) (H : Hp) (D : Addr) (cl : List (Str × Addr)) (fp : List Addr), DE C (X.blk s H scope (compEnvC scope cl D X.env) fp) elt eI)
    (hy : X.N[n]? = some x := by rfl) (hyl : X.env.scope.names.lookup x = some .local := by rfl)
    (hsw : swapsWith (.ListComp elt [⟨tg, iter, ifs, 0⟩] scope pos) (some (.Name x p)) spos.line X.env = pure true := by rfl)
    (ho : own.map (·.2) = vs := by rfl) (hb : blkB X.N X.env.scope scope own = true := by first | rfl | kernel_rfl) (hs : ∀ x, foldedSetIterable iter X.env x = pure x := by intro _; rfl) :
    DS C X (.Assign [.Name x p] (.ListComp elt [⟨tg, iter, ifs, 0⟩] scope pos) spos) (.set (.n n) (.lc tI it cI eI vs)) := by
  subst ho
  exact ps_setLc am.calm am.nd hy hyl hsw hi (blk_ok hb) hg ht he hs
theorem s_par (am : Amb T C k X) (m n : Nat) {y : Str} {kt k2} {px py pt pt2 : Pos} (ha : DE C X a i) (hb : DE C X b j) (hi : X.N[m]? = some x := by rfl) (hj : X.N[n]? = some y := by rfl) (hij : m ≠ n := by decide)
    (hx : X.env.scope.names.lookup x = some .local := by rfl) (hy : X.env.scope.names.lookup y = some .local := by rfl)
    (h1 : starEach (a :: [b]) X.env = (false, eval a X.env) :: starEach [b] X.env := by rfl) (h2 : starEach (b :: []) X.env = (false, eval b X.env) :: starEach [] X.env := by rfl)
    (hw : swappedStores [.Tuple [.Name x px, .Name y py] kt pt] (.Tuple [a, b] k2 pt2) X.env = pure (some [x, y]) := by rfl)
    (hs : swapsWithSole [.Tuple [.Name x px, .Name y py] kt pt] (.Tuple [a, b] k2 pt2) pos.line X.env = pure false := by rfl) :
    DS C X (.Assign [.Tuple [.Name x px, .Name y py] kt pt] (.Tuple [a, b] k2 pt2) pos) (.par m n i j) := ps_par am.calm am.nd hi hj hij hx hy (pa_cons ha (pa_cons hb pa_nil h2) h1) hw hs
theorem s_parOwn (am : Amb T C k X) (m n : Nat) {y : Str} {kt k2} {px py pt pt2 q1 q2 : Pos} {as bs : List Expr} {is js : Es} (ha : DA C X as is) (hb : DA C X bs js) (hi : X.N[m]? = some x := by rfl) (hj : X.N[n]? = some y := by rfl) (hij : m ≠ n := by decide)
    (hx : X.env.scope.names.lookup x = some .local := by rfl) (hy : X.env.scope.names.lookup y = some .local := by rfl)
    (h1 : starEach (.List as q1 :: [.List bs q2]) X.env = (false, eval (.List as q1) X.env) :: starEach [.List bs q2] X.env := by rfl) (h2 : starEach (.List bs q2 :: []) X.env = (false, eval (.List bs q2) X.env) :: starEach [] X.env := by rfl)
    (hw : swappedStores [.Tuple [.Name x px, .Name y py] kt pt] (.Tuple [.List as q1, .List bs q2] k2 pt2) X.env = pure (some [x, y]) := by rfl)
    (hs : swapsWithSole [.Tuple [.Name x px, .Name y py] kt pt] (.Tuple [.List as q1, .List bs q2] k2 pt2) pos.line X.env = pure false := by rfl) :
    DS C X (.Assign [.Tuple [.Name x px, .Name y py] kt pt] (.Tuple [.List as q1, .List bs q2] k2 pt2) pos) (.parOwn m n is js) := ps_par am.calm am.nd hi hj hij hx hy (pa_cons (pe_lst ha) (pa_cons (pe_lst hb) pa_nil h2) h1) hw hs
theorem s_app (n : Nat) {apos pos' : Pos} (hb : DE C X b j) (hN : X.N[n]? = some x := by rfl) (hv : Vis X.env.scope x := by first | exact Or.inl rfl | exact Or.inr (Or.inl rfl) | exact Or.inr (Or.inr rfl)) (hd : (x == ("__debug__" : Str)) = false := by decide)
    (hcd : (x == ("__classdict__" : Str)) = false := by decide)
    (hbase : attributeBase (.Name x p) "append" X.env (eval (.Name x p) X.env) = eval (.Name x p) X.env := by rfl)
    (hfew : ((backTo pos' (starEach (b :: []) X.env)).all (fun x => !x.1) && (backToKw pos' (keywordEach [] X.env)).all (fun x => x.1.isSome)
      && decide ((b :: []).length + ([] : List Keyword).length + (if ([] : List Keyword).isEmpty then 0 else 1) < 30)) = true := by rfl)
    (hline : (apos.endLine == pos'.line) = true := by rfl) (hs : starEach (b :: []) X.env = (false, eval b X.env) :: starEach [] X.env := by rfl) (hplain : (backTo pos' (starEach [] X.env)).any (·.1) = false := by rfl)
    (hsw : swapsWith (.Call (.Attribute (.Name x p) "append" apos) [b] [] pos') none pos.line X.env = pure false := by rfl) :
    DS C X (.Expr (.Call (.Attribute (.Name x p) "append" apos) [b] [] pos') pos) (.ownApp n j) := ps_expr (pe_bm PySem.F.plainAttrs_list PySem.F.slot_list_append PySem.F.type_list_append mt_append (pe_var hN hv hd hcd) (pa_cons hb pa_nil hs) hbase hfew hline hs hplain) hsw
theorem s_ext (n : Nat) {apos pos' : Pos} (hb : DE C X b j) (hN : X.N[n]? = some x := by rfl) (hv : Vis X.env.scope x := by first | exact Or.inl rfl | exact Or.inr (Or.inl rfl) | exact Or.inr (Or.inr rfl)) (hd : (x == ("__debug__" : Str)) = false := by decide)
    (hcd : (x == ("__classdict__" : Str)) = false := by decide)
    (hbase : attributeBase (.Name x p) "extend" X.env (eval (.Name x p) X.env) = eval (.Name x p) X.env := by rfl)
    (hfew : ((backTo pos' (starEach (b :: []) X.env)).all (fun x => !x.1) && (backToKw pos' (keywordEach [] X.env)).all (fun x => x.1.isSome)
      && decide ((b :: []).length + ([] : List Keyword).length + (if ([] : List Keyword).isEmpty then 0 else 1) < 30)) = true := by rfl)
    (hline : (apos.endLine == pos'.line) = true := by rfl) (hs : starEach (b :: []) X.env = (false, eval b X.env) :: starEach [] X.env := by rfl) (hplain : (backTo pos' (starEach [] X.env)).any (·.1) = false := by rfl)
    (hsw : swapsWith (.Call (.Attribute (.Name x p) "extend" apos) [b] [] pos') none pos.line X.env = pure false := by rfl) :
    DS C X (.Expr (.Call (.Attribute (.Name x p) "extend" apos) [b] [] pos') pos) (.ownExt n j) := ps_expr (pe_bm PySem.F.plainAttrs_list PySem.F.slot_list_extend PySem.F.type_list_extend mt_extend (pe_var hN hv hd hcd) (pa_cons hb pa_nil hs) hbase hfew hline hs hplain) hsw
theorem s_ownSet (n : Nat) {q1 : Pos} (ha : DE C X a i) (hb : DE C X b j) (hN : X.N[n]? = some x := by rfl) (hv : Vis X.env.scope x := by first | exact Or.inl rfl | exact Or.inr (Or.inl rfl) | exact Or.inr (Or.inr rfl)) (hd : (x == ("__debug__" : Str)) = false := by decide)
    (hcd : (x == ("__classdict__" : Str)) = false := by decide)
    (hset : ∀ v, PySem.assign (.Subscript (.Name x p) a q1) X.env v = (do
      let ov ← holding [v] (eval (.Name x p) X.env)
      let iv ← holding [v, ov] (eval a X.env)
      standAt q1
      holding [v, ov, iv] (setItem ov iv v)
      release [v, ov, iv] []) := by intro _; rfl)
    (hs : swapsWithSole [Expr.Subscript (.Name x p) a q1] b pos.line X.env = pure false := by rfl) (hw : swappedStores [Expr.Subscript (.Name x p) a q1] b X.env = pure none := by rfl)
    (h1 : (assignEach [Expr.Subscript (.Name x p) a q1] X.env).map (·.2) = [PySem.assign (Expr.Subscript (.Name x p) a q1) X.env] := by rfl) :
    DS C X (.Assign [.Subscript (.Name x p) a q1] b pos) (.ownSet n i j) := ps_asg hb (pg_sub (pe_var hN hv hd hcd) ha set_list hset) hs hw h1
theorem s_refSet {q1 : Pos} (ho : DE C X a i) (ha : DE C X b j) (hb : DE C X c l)
    (hset : ∀ v, PySem.assign (.Subscript a b q1) X.env v = (do
      let ov ← holding [v] (eval a X.env)
      let iv ← holding [v, ov] (eval b X.env)
      standAt q1
      holding [v, ov, iv] (setItem ov iv v)
      release [v, ov, iv] []) := by intro _; rfl)
    (hs : swapsWithSole [Expr.Subscript a b q1] c pos.line X.env = pure false := by rfl) (hw : swappedStores [Expr.Subscript a b q1] c X.env = pure none := by rfl)
    (h1 : (assignEach [Expr.Subscript a b q1] X.env).map (·.2) = [PySem.assign (Expr.Subscript a b q1) X.env] := by rfl) :
    DS C X (.Assign [.Subscript a b q1] c pos) (.refSet i j l) := ps_asg hb (pg_sub ho ha set_list hset) hs hw h1
theorem s_expr (ha : DE C X e i) (hs : swapsWith e none pos.line X.env = pure false := by rfl) : DS C X (.Expr e pos) (.expr i) := ps_expr ha hs
theorem s_if (hc : DT C X c l) (ha : DSS C X sts ssI) {us : List Stmt} (hb : DSS C X us tsI) : DS C X (.If c sts us pos) (.ite l ssI tsI) := ps_if hc ha hb
theorem s_for (am : Amb T C k X) (hp : PassesOwn (model X.prog X.w) X.A X.env X.xe) {iter : Expr} {tgI : Tg} (hi : DI C X tg iter it) (hg : DG X tg tgI) (hb : DSS C X sts ssI) (hs : ∀ x, foldedSetIterable iter X.env x = pure x := by intro _; rfl) :
    DS C X (.For tg iter sts [] pos) (.for tgI it ssI) := ps_for hp am.calm hi hg hb hs
theorem s_while (hp : PassesOwn (model X.prog X.w) X.A X.env X.xe) (hc : DT C X c l) (hb : DSS C X sts ssI) : DS C X (.While c sts [] pos) (.while l ssI) := ps_while hp hc hb
theorem s_ret (ha : DE C X e i) : DS C X (.Return (some e) pos) (.ret i) := ps_ret ha
theorem s_never : DS C X st .never := ps_never
theorem s_cont : DS C X (.Continue pos) .cont := ps_continue
theorem s_brk : DS C X (.Break pos) .brk := ps_break
end
end Ev
set_option maxHeartbeats 4000000
/-! Each def keeps the evaluator's promise. -/
namespace Ev
open PySem PySem.Spec PyProof.Rows L2
structure Def where
  name : Str
  st : Stmt
  N : List Str
  ps : List Str
  body : Sts
/-- the defs that the evaluator runs; G: what the others answer -/
def callG (ds : Nat → Option Def) (G : Nat → Calls) : Nat → Calls
  | 0, _, _, _ => none
  | k + 1, f, ws, st => match ds f with
    | some d => runFn (callG ds G k) ⟨d.ps.length, d.N.length, d.body⟩ ws st
    | none => G k f ws st
theorem env0_get {K : PySem.W.Frag} {F H : Hp} {ρ : List Addr} : ∀ {vs : List V} {ws : List Val} {n : Nat}, RVals K F ρ vs ws → ∀ (i : Nat) (sl : Slot), (ws.map Slot.v ++ List.replicate n Slot.no)[i]? = some sl →
    ∃ ov, (vs.map some ++ List.replicate n none : List (Option V))[i]? = some ov ∧ RSlot K F ρ H ov sl
  | [], [], n, _, i, sl, h => by
    simp only [List.map_nil, List.nil_append] at h ⊢
    rw [List.getElem?_replicate] at h ⊢
    split at h
    · rename_i hi
      cases h
      rw [if_pos hi]
      exact ⟨none, rfl, trivial⟩
    · cases h
  | v :: vs, w :: ws, n, r, 0, sl, h => by
    simp at h
    subst h
    exact ⟨some v, by simp, r.1⟩
  | v :: vs, w :: ws, n, r, i + 1, sl, h => by
    have h' : (ws.map Slot.v ++ List.replicate n Slot.no)[i]? = some sl := by simpa using h
    obtain ⟨ov, h1, h2⟩ := env0_get (H := H) r.2 i sl h'
    exact ⟨ov, by simpa using h1, h2⟩
  | [], _ :: _, _, r, _, _, _ => r.elim
  | _ :: _, [], _, r, _, _, _ => r.elim
theorem not_own0 {ws : List Val} {n i : Nat} {xs : List PyData} : (ws.map Slot.v ++ List.replicate n Slot.no)[i]? ≠ some (.own xs) := fun h => by
  rcases Nat.lt_or_ge i ws.length with hi | hi
  · rw [List.getElem?_append_left (by simpa using hi)] at h
    rw [List.getElem?_map] at h
    cases e : ws[i]? with
    | none => rw [e] at h; cases h
    | some w => rw [e] at h; cases h
  · rw [List.getElem?_append_right (by simpa using hi)] at h
    rw [List.getElem?_replicate] at h
    split at h <;> cases h
theorem Rel.start {K : PySem.W.Frag} {B F H : Hp} {ρ : List Addr} {sto : Sto} {vs : List V} {ws : List Val} {N : List Str} (R : Rel K B F ρ [] H ⟨[], sto⟩) (r : RVals K F ρ vs ws) :
    Rel K B F ρ (L2.start N vs) H ⟨ws.map Slot.v ++ List.replicate (N.length - ws.length) .no, sto⟩ := by
  have hl := rvals_len r
  refine ⟨R.fr, by simp [L2.start, hl], fun i sl h => ?_, fun i j xs ys a h => absurd h not_own0, R.slen, R.nd, R.sto, fun a o h => ⟨(R.bg a o h).1, (R.bg a o h).2.1, (R.bg a o h).2.2.1, fun i xs q => absurd q not_own0⟩⟩
  unfold L2.start
  rw [hl]
  exact env0_get r i sl h
/-- what is known of a def by its text alone -/
structure Good (T : Tab) (d : Def) : Prop where
  sc : FnScope d.N d.ps (defScope d.st)
  wf : wfSs d.body = true
  der : ∀ (C : Calls) (k : Nat) (P : Program) (w : World) (K : PySem.W.Frag) (mg : Str → Option Value) (base : Heap) (f : Addr) (cdv : Value) (A : Around) (outer : List Env) (s : Shared) (H : Hp) (E : XK),
    Amb T C k (cxOf CX0 P w K mg base d.N d.name (defScope d.st) f cdv A outer s H E).nox → DSS C (cxOf CX0 P w K mg base d.N d.name (defScope d.st) f cdv A outer s H E).nox (defBody d.st) d.body
/-- what the top has written -/
structure Wrote (T : Tab) (ds : Nat → Option Def) (K : PySem.W.Frag) (mg : Str → Option Value) : Prop where
  free : ∀ (i : Nat) (x : Str), T.free[i]? = some x → mg x = none
  con : ∀ (i : Nat) (x : Str) (v : V), T.cons[i]? = some (x, v) → ∃ u, mg x = some u ∧ RelV v u
  fns : ∀ (i : Nat) (x : Str), T.fns[i]? = some x → ∃ (a : Addr) (fd : FuncData) (ps : List Str), mg x = some (.ref a) ∧ PySem.W.keepIn K (.ref a) = true ∧ Binds K fd ps [] ∧
    ((∃ d, ds i = some d ∧ d.name = x ∧ d.ps = ps ∧ FunD K x x (defArgs d.st) (defBody d.st) (defScope d.st) [] [] a fd) ∨ ds i = none)
section
variable {T : Tab} {ds : Nat → Option Def} {G : Nat → Calls} {P : Program} {w : World} {K : PySem.W.Frag} {mg : Str → Option Value} {base : Heap}
/-- all defs that T names, at depth k -/
def AllOk (T : Tab) (P : Program) (w : World) (K : PySem.W.Frag) (mg : Str → Option Value) (base : Heap) (C : Calls) (k : Nat) : Prop :=
  ∀ (i : Nat) (x : Str), T.fns[i]? = some x → ∃ (a : Addr) (fd : FuncData) (ps : List Str), FnOk P w K mg base CX0 k a fd ps (spOf K C i) ∧ mg x = some (.ref a) ∧ PySem.W.keepIn K (.ref a) = true ∧ Binds K fd ps []
theorem amb_of {C : Calls} {k : Nat} {X : Cx} (W : Wrote T ds X.K X.mg) (hc : X.calm = true) (hn : X.N.Nodup) (hr : Room k X.A) (A : AllOk T X.prog X.w X.K X.mg X.base C k) : Amb T C k X :=
  ⟨hc, hn, hr, W.free, W.con, fun i x h => ⟨A i x h⟩⟩
theorem sp0 {i : Nat} {vs : List V} {H : Hp} {Q : VK} {E : XK} (h : spOf K (callG ds G 0) i vs H Q E) : False := by
  obtain ⟨B, F, ρ, sto, ws, v, sto', _, _, e, _⟩ := h
  cases e
theorem def_ok {d : Def} {i k : Nat} {a : Addr} {fd : FuncData} (W : Wrote T ds K mg) (hd : ds i = some d) (g : Good T d) (A : AllOk T P w K mg base (callG ds G k) k)
    (F : FunD K d.name d.name (defArgs d.st) (defBody d.st) (defScope d.st) [] [] a fd) : FnOk P w K mg base CX0 (k + 1) a fd d.ps (spOf K (callG ds G (k + 1)) i) := by
  have run : ∀ {ws : List Val} {sto : Sto} {r : Val × Sto}, callG ds G (k + 1) i ws sto = some r → runFn (callG ds G k) ⟨d.ps.length, d.N.length, d.body⟩ ws sto = some r := fun {ws sto r} h => by
    rw [callG, hd] at h
    exact h
  refine F.ok g.sc (fun vs H Q E h => ?_) (fun cdv A' outer s H vs Q E hr h => ?_)
  · obtain ⟨B, Fz, ρ, sto, ws, v, sto', _, r, e, _⟩ := h
    have e1 := run e
    unfold runFn at e1
    split at e1
    · rename_i hl
      rw [rvals_len r]
      exact hl
    · cases e1
  · obtain ⟨B, Fz, ρ, sto, ws, v, sto', R, r, e, q⟩ := h
    have e1 := run e
    unfold runFn at e1
    split at e1
    · rename_i hl
      refine ⟨rdss K (spOf K (callG ds G k)) d.body, PSs.nox (g.der _ k P w K mg base a cdv A' outer s H E (amb_of W rfl g.sc.nd hr A)), ?_⟩
      have R0 := R.start (N := d.N) r
      split at e1
      · rename_i w1 st1 e2
        cases e1
        exact (sndSs d.body g.wf).run R0 e2 fun v' H' F' ρ' x p R' r' => q v' H' F' ρ' x p R' r'
      · rename_i s1 e2
        cases e1
        exact (sndSs d.body g.wf).run R0 e2 fun σ' H' F' ρ' x p R' => q .non H' F' ρ' x p R'.bare Dp.non
      · cases e1
    · cases e1
theorem all_ok (W : Wrote T ds K mg) (g : ∀ (i : Nat) (d : Def), ds i = some d → Good T d)
    (o : ∀ (k i : Nat) (x : Str), T.fns[i]? = some x → ds i = none →
      ∃ (a : Addr) (fd : FuncData) (ps : List Str), FnOk P w K mg base CX0 (k + 1) a fd ps (spOf K (callG ds G (k + 1)) i) ∧ mg x = some (.ref a) ∧ PySem.W.keepIn K (.ref a) = true ∧ Binds K fd ps []) :
    ∀ k : Nat, AllOk T P w K mg base (callG ds G k) k
  | 0 => fun i x h => by
    obtain ⟨a, fd, ps, h1, h2, h3, _⟩ := W.fns i x h
    exact ⟨a, fd, ps, ⟨fun _ _ _ _ h => (sp0 h).elim, fun _ _ _ _ _ _ _ _ _ _ _ _ _ h => (sp0 h).elim⟩, h1, h2, h3⟩
  | k + 1 => fun i x h => by
    have ih := all_ok W g o k
    obtain ⟨a, fd, ps, h1, h2, h3, h4⟩ := W.fns i x h
    rcases h4 with ⟨d, hd, hx, hp, F⟩ | hd
    · subst hx hp
      exact ⟨a, fd, d.ps, def_ok W hd (g i d hd) ih F, h1, h2, h3⟩
    · exact o k i x h hd
end
end Ev
set_option maxHeartbeats 4000000
/-! A set of texts whose table can be walked: made of a list, sorted. -/
namespace Ev
open PySem PySem.Spec PyProof.Rows L2
/-- a member's text -/
def txt (e : Int × Value) : Str := strOf e.2
def TxE (w : World) (e : Int × Value) : Prop := ∃ (k : Str) (u : Tok), e = (hashStr w k, .str k u)
/-- the set of texts at a: M its members, n their number -/
def TxS (w : World) (h : Heap) (a : Addr) (M : Str → Prop) (n : Nat) : Prop :=
  ∃ (o : Obj) (es : Array (Int × Value)) (ep : Nat) (t : SetTable), (h.get? a = some o ∧ o.ExactSet ∧ o.data = .set es ep t) ∧ ((∀ e ∈ es.toList, TxE w e) ∧ (es.toList.map txt).Nodup ∧ ∀ k, M k ↔ k ∈ es.toList.map txt) ∧
    (es.size < scanBound ∧ t.fits es.size = true ∧ es.size = n) ∧ Ris t.place.toList ∧ (w.params.followText "set-order" = true ∨ t.led = true)
theorem TxS.to {w : World} {h h' : Heap} {a : Addr} {M : Str → Prop} {n : Nat} (R : TxS w h a M n) (k : ∀ o, h.get? a = some o → h'.get? a = some o) : TxS w h' a M n := by
  obtain ⟨o, es, ep, t, ⟨x1, x2⟩, y⟩ := R
  exact ⟨o, es, ep, t, ⟨k o x1, x2⟩, y⟩
theorem TxS.iff {w : World} {h : Heap} {a : Addr} {M N : Str → Prop} {n : Nat} (R : TxS w h a M n) (e : ∀ k, N k ↔ M k) : TxS w h a N n := by
  obtain ⟨o, es, ep, t, x, ⟨y1, y2, y3⟩, z⟩ := R
  exact ⟨o, es, ep, t, x, ⟨y1, y2, fun k => (e k).trans (y3 k)⟩, z⟩
section
variable {P : Program} {w : World} {A : Around} {E : Value → Shared → Prop} {s : Shared} {a : Addr} {M : Str → Prop} {n : Nat}
theorem is_sk (k : Str) (u : Tok) : (PySem.strKind P w).is k (.str k u) = true := by
  show Value.isStrOf k (.str k u) = true
  simp [Value.isStrOf]
theorem txe_elems {l : List (Int × Value)} (g : ∀ e ∈ l, TxE w e) : ElemsOf (PySem.strKind P w) l := fun e he => by
  obtain ⟨k, u, rfl⟩ := g e he
  exact ⟨⟨k, is_sk k u, rfl⟩, rfl⟩
theorem txe_is {e : Int × Value} (g : TxE w e) (k : Str) : (PySem.strKind P w).is k e.2 = true ↔ txt e = k := by
  obtain ⟨k0, u, rfl⟩ := g
  constructor
  · intro h
    exact ((PySem.strKind P w).inj (.str k0 u) k k0 h (is_sk k0 u)).symm
  · intro h
    have h' : k0 = k := h
    subst h'
    exact is_sk k0 u
/-- the payload is stored, and laid anew where it grew too full -/
theorem tx_tail {g : Bool → Sem Unit} (hg : ∀ (b : Bool) (s₁ : Shared) (Q' : Unit → Shared → Prop), Q' () s₁ → wpAny (model P w) A (g b) Q' E s₁) {o : Obj} {es es1 : Array (Int × Value)} {ep : Nat} {t t2 : SetTable}
    (ho : s.heap.get? a = some o ∧ o.ExactSet ∧ o.data = .set es ep t) (g1 : (∀ e ∈ es1.toList, TxE w e) ∧ (es1.toList.map txt).Nodup ∧ ∀ k, M k ↔ k ∈ es1.toList.map txt) (hb : es1.size < scanBound ∧ t2.fits es1.size = true) (hr : Ris t2.place.toList)
    (hl : w.params.followText "set-order" = true ∨ t2.led = true) {was : Bool} {R : Option Bool → Shared → Prop} (hR : ∀ h', Heap.SameBut a s.heap h' → TxS w h' a M es1.size → R (some true) { s with heap := h' }) :
    wpAny (model P w) A (do
        storeSet a es1 t2
        if (!was && t2.tooFull) = true then do
            g (relayAll t2 es1 (SetTable.grown es1.size)).2.2
            storeSet a (relayAll t2 es1 (SetTable.grown es1.size)).1 (relayAll t2 es1 (SetTable.grown es1.size)).2.1
            pure (some true)
          else pure (some true)) R E s := by
  obtain ⟨ho, hx, hd⟩ := ho
  obtain ⟨k1, k2, k3⟩ := g1
  obtain ⟨b1, b2⟩ := hb
  refine wpAny_bind (wpAny_storeSet_of ho hd ?_ (fits_of_scanBound b1))
  have o1 := L2.store_at (es' := es1) (t' := t2) ho hd
  have sb := Heap.SameBut.update s.heap a (Obj.putSet es1 t2)
  split
  · have p1 := relayAll_perm t2 es1 (SetTable.grown es1.size)
    have p2 := relayAll_fits t2 es1 (SetTable.grown es1.size)
    have p3 := relayAll_ris t2 es1 (SetTable.grown es1.size)
    have p4 := relayAll_led t2 es1 (SetTable.grown es1.size)
    generalize relayAll t2 es1 (SetTable.grown es1.size) = Z at p1 p2 p3 p4 ⊢
    obtain ⟨es2, t3, gv⟩ := Z
    dsimp only at p1 p2 p3 p4 ⊢
    have sz : es2.size = es1.size := by rw [← Array.length_toList, p1.length_eq, Array.length_toList]
    refine wpAny_bind (hg _ _ _ (wpAny_bind (wpAny_storeSet_of o1 rfl ?_ (fits_of_scanBound (by rw [sz]; exact b1)))))
    refine wpAny_pure (hR _ (sb.trans (Heap.SameBut.update _ a _)) ⟨_, es2, _, t3, ⟨L2.store_at (es' := es2) (t' := t3) o1 rfl, hx, rfl⟩, ⟨fun e he => k1 e (p1.mem_iff.mp he), (p1.map txt).nodup_iff.mpr k2, fun k => (k3 k).trans (p1.map txt).mem_iff.symm⟩, ⟨by rw [sz]; exact b1, p2, sz⟩, p3, hl.imp id fun z => by rw [p4]; exact z⟩)
  · exact wpAny_pure (hR _ sb ⟨_, es1, _, t2, ⟨o1, hx, rfl⟩, ⟨k1, k2, k3⟩, ⟨b1, b2, rfl⟩, hr, hl⟩)
/-- one text more -/
theorem tx_add {k : Str} {u : Tok} {Q : Bool → Shared → Prop} (R : TxS w s.heap a M n) (room : n + 1 < scanBound)
    (hQ : ∀ (h' : Heap) (c : Nat) (b : Bool), Heap.SameBut a s.heap h' → c ≤ n + 1 → TxS w h' a (fun j => M j ∨ j = k) c → Q b { s with heap := h' }) : wpAny (model P w) A (setAddHashed a (.str k u) (hashStr w k)) Q E s := by
  obtain ⟨o, es, ep, t, ⟨ho, hx, hd⟩, ⟨k1, k2, k3⟩, ⟨b1, b2, b3⟩, hr, hl⟩ := R
  have hkey : (PySem.strKind P w).is k (.str k u) = true := is_sk k u
  have hel : ElemsOf (PySem.strKind P w) es.toList := txe_elems k1
  unfold setAddHashed setAddHashedIn
  refine wpAny_holding (wpAny_bind (wpAny_setState_of ho hd b2 ?_))
  dsimp only
  rw [byScan_of (show (Value.str k u).scannable = true from rfl) b1 hel]
  simp only [↓reduceIte]
  unfold setAddByScan
  refine wpAny_bind (wpAny_bind (wpAny_rule (wpAny_bind (wpAny_setScan_of hkey ho hd b2 hel ?_))))
  cases hf : List.findIdx? (fun e => (PySem.strKind P w).is k e.2) es.toList with
  | some j =>
    dsimp only
    obtain ⟨hj, pj, _⟩ := List.findIdx?_eq_some_iff_getElem.mp hf
    have hm : M k := (k3 k).mpr (List.mem_map.mpr ⟨_, List.getElem_mem hj, (txe_is (P := P) (k1 _ (List.getElem_mem hj)) k).mp pj⟩)
    refine wpAny_pure (wpAny_pure (hQ s.heap n false (Heap.SameBut.refl a s.heap) (Nat.le_succ n) ⟨o, es, ep, t, ⟨ho, hx, hd⟩, ⟨k1, k2, fun i => ⟨fun z => (k3 i).mp (z.elim id fun e => e ▸ hm), fun z => .inl ((k3 i).mpr z)⟩⟩, ⟨b1, b2, b3⟩, hr, hl⟩))
  | none =>
    dsimp only
    have hn : k ∉ es.toList.map txt := fun z => by
      obtain ⟨e, he, q⟩ := List.mem_map.mp z
      have c := List.findIdx?_eq_none_iff.mp hf e he
      rw [(txe_is (P := P) (k1 e he) k).mpr q] at c
      cases c
    have p1 := layNew_perm t es (hashStr w k) (.str k u)
    have p2 := layNew_fits t es (hashStr w k) (.str k u)
    have p3 := layNew_ris t es (hashStr w k) (.str k u) hr
    have p4 := layNew_led t es (hashStr w k) (.str k u)
    have eh : (PySem.strKind P w).hash k = hashStr w k := rfl
    generalize layNew t es (hashStr w k) (.str k u) = Z at p1 p2 p3 p4 ⊢
    obtain ⟨es1, t1, was, gv⟩ := Z
    dsimp only at p1 p2 p3 p4 ⊢
    rw [Array.toList_push] at p1
    have pc := p1.trans (List.perm_append_singleton _ _)
    have pk : (es1.toList.map txt).Perm (k :: es.toList.map txt) := pc.map txt
    have hsz : es1.size = n + 1 := by rw [← Array.length_toList, pc.length_eq, List.length_cons, Array.length_toList, b3]
    have g1 : (∀ e ∈ es1.toList, TxE w e) ∧ (es1.toList.map txt).Nodup ∧ ∀ j, (M j ∨ j = k) ↔ j ∈ es1.toList.map txt := by
      refine ⟨fun e he => (List.mem_cons.mp (pc.mem_iff.mp he)).elim (fun z => ⟨k, u, z⟩) (k1 e), pk.nodup_iff.mpr (List.nodup_cons.mpr ⟨hn, k2⟩), fun j => ?_⟩
      rw [pk.mem_iff, List.mem_cons, k3 j]
      exact Or.comm
    have led : w.params.followText "set-order" = true ∨ t1.led = true := hl.imp id fun z => by rw [p4]; exact z
    have rl : ∀ (b : Bool) {s₁ : Shared} {Q' : Unit → Shared → Prop}, Q' () s₁ → wpAny (model P w) A (match b with | true => rule "set.scan.the-table-gave-way" | false => pure ()) Q' E s₁ :=
      fun b _ _ q => match b with
        | true => wpAny_rule q
        | false => wpAny_pure q
    refine wpAny_bind (rl _ ?_)
    have fin : ∀ h', Heap.SameBut a s.heap h' → TxS w h' a (fun j => M j ∨ j = k) es1.size → Q true { s with heap := h' } := fun h' sb r => hQ h' es1.size true sb (by rw [hsz]; exact Nat.le_refl _) r
    split
    · refine wpAny_bind ?_
      rw [hashByValue_scannable 8 (x := Value.str k u) rfl]
      refine wpAny_pure (tx_tail (fun b s₁ Q' q => rl b q) ⟨ho, hx, hd⟩ g1 ⟨by rw [hsz]; exact room, ?_⟩ ?_ ?_ fun h' sb r => by dsimp only; exact wpAny_pure (fin h' sb r))
      · first | (split <;> first | exact p2 | exact SetTable.fits_plain_off p2) | exact p2
      · first | (split <;> exact p3) | exact p3
      · first | (split <;> exact led) | exact led
    · refine wpAny_bind (wpAny_pure ?_)
      simp only [↓reduceIte]
      exact tx_tail (fun b s₁ Q' q => rl b q) ⟨ho, hx, hd⟩ g1 ⟨by rw [hsz]; exact room, p2⟩ p3 led fun h' sb r => by dsimp only; exact wpAny_pure (fin h' sb r)
end
end Ev
set_option maxHeartbeats 8000000
/-! set(l) of a list, whatever the walk over it adds. -/
namespace Ev
open PySem PySem.Spec PyProof.Rows L2
def freshSet (w : World) : Obj := { cls := .type "set", dict := none, data := .set #[] 0 (.fresh 0 0 (!w.params.followText "set-order")) }
section
variable {P : Program} {w : World} {A : Around} {E : Value → Shared → Prop} {s : Shared}
theorem set_of_list {l : Addr} {items : Array Value} {Fin : Heap → Addr → Prop} {Q : Value → Shared → Prop} (hh : A.handled = none) (hl : s.heap.IsList l items)
    (upd : ∀ (A' : Around) (S I : Addr) (fp wr : List Addr) (G : Array GenState → Array GenState → Prop) (St : Nat → Shared → Prop) (s1 : Shared) (R' : Result → Shared → Prop), WalksS P w A'.in1 I fp wr G items.size (fun i v => items[i]? = some v) St → S ∉ fp → St 0 s1 →
      s1.heap.get? S = some (freshSet w) → (∀ s', Moved (S :: wr) G s1 s' → Fin s'.heap S → R' (.ok (.ret .none)) s') → codeAny (model P w) A' (.builtin "set.update.loop" ⟨[.ref S, .ref I], []⟩) R' s1)
    (h : ∀ (h' : Heap) (tk : Nat), Fin h' s.heap.objs.size → (∀ b o, s.heap.get? b = some o → h'.get? b = some o) → Q (.ref s.heap.objs.size) { s with heap := h', toks := tk }) : wpAny (model P w) A (call (.type "set") [.ref l]) Q E s := by
  obtain ⟨c, tl, hmro⟩ := F.called_set.mro
  have m1 := F.called_set.made
  have m2 := F.called_set.sub
  refine wpAny_call (codeAny_of_tree ?_)
  show wpAny _ _ (callAny (.type "set") _) _ _ _
  refine wpAny_pure ⟨Code.quiet_builtin _ (by decide +kernel), codeAny_builtin F.entry_type_call ?_⟩
  rw [Around.under_plain (weight_type_call_type "set" [.ref l] []) rfl]
  have m3 := F.called_set.notType
  have m4 := F.called_set.canCreate
  have m5 := F.typeCall_set_1 (.ref l)
  repeat (any_goals (first | assumption | wp_step))
  have hS : (s.heap.push (freshSet w)).get? s.heap.objs.size = some (freshSet w) := Heap.get?_push_size _ rfl
  have hT : Shared.TypeIs { s with heap := s.heap.push (freshSet w) } (.ref s.heap.objs.size) "set" := ⟨_, hS, rfl⟩
  refine codeAny_mono (code_set_led1 (.ref l) (E := E) (Q₁ := fun obj s₁ => obj = .ref s.heap.objs.size ∧ s₁ = { s with heap := s.heap.push (freshSet w) }) ⟨rfl, rfl⟩) fun r s₁ hr => ?_
  cases r with
  | error e => exact hr
  | ok fl =>
    cases fl with
    | ret obj =>
      obtain ⟨rfl, rfl⟩ := hr
      have i1 := F.called_set.init.lookup
      have i2 := F.called_set.init.bind (.ref s.heap.objs.size)
      repeat (any_goals (first | assumption | wp_step))
      refine codeAny_mono (codeAny_call_builtin (R := wants (fun r s₂ => r = .none ∧ ∃ h' tk, s₂ = { s with heap := h', toks := tk } ∧ Fin h' s.heap.objs.size ∧ ∀ b o, s.heap.get? b = some o → h'.get? b = some o) E) F.called_set.init.plain F.entry_set_init (check_set_init_1 hT ?_)) fun r₂ s₂ hr₂ => ?_
      · obtain ⟨⟨ocls, odict, odata, oslots⟩, hol, hcl, nl, hdl⟩ := hl
        simp only at hcl hdl
        subst hcl hdl
        have hol' : (s.heap.push (freshSet w)).get? l = some { cls := .type "list", dict := odict, data := .seq items nl, slots := oslots } := Heap.get?_push_of_some _ hol
        have n1 := F.sub_list_set
        have n2 := F.sub_list_frozenset
        have n3 : (Value.type "list" == Value.type "dict") = false := by decide
        have hl1 : (s.heap.push (freshSet w)).IsList l items := ⟨_, hol', rfl, nl, rfl⟩
        unfold Builtin.«set.__init__» noKeywords Builtin.Frozenset.updateFrom
        generalize hPI : pyIter = PI
        wp_walk
        subst hPI
        refine wpAny_pyIter_list hl1 (wpAny_bind (wpAny_runValue ?_))
        have hlS : l < s.heap.objs.size := Heap.lt_size hol
        have z1 : (s.heap.push (freshSet w)).objs.size = s.heap.objs.size + 1 := Heap.size_push ..
        have ne : l ≠ (s.heap.push (freshSet w)).objs.size := by rw [z1]; exact Nat.ne_of_lt (Nat.lt_succ_of_lt hlS)
        have hSf : s.heap.objs.size ∉ [(s.heap.push (freshSet w)).objs.size, l] := by
          rw [z1]
          intro m
          rcases List.mem_cons.mp m with m | m
          · exact Nat.ne_of_lt (Nat.lt_succ_self _) m
          · exact Nat.ne_of_gt hlS (List.mem_singleton.mp m)
        refine upd _ s.heap.objs.size _ _ _ _ _ _ _ (Walks.list (show A.in1.in1.in1.handled = none by simp [hh]) _ l ne items).toS hSf ⟨⟨_, Heap.get?_push_size _ rfl, rfl, rfl⟩, hl1.push _⟩ (Heap.get?_push_of_some _ hS) fun s' hm hF => ?_
        obtain ⟨h', g2, d', tk', os'⟩ := s'
        have e1 : g2 = s.gens := hm.gens
        have e2 : d' = s.drawn := hm.drawn
        have e3 : os' = s.os := hm.os
        subst e1 e2 e3
        show wpAny _ _ _ _ _ _
        refine wpAny_pure ?_
        show wpAny _ _ (ret Value.none) _ _ _
        refine wpAny_pure ⟨rfl, h', tk', rfl, hF, fun b o e => ?_⟩
        have lt : b < s.heap.objs.size := Heap.lt_size e
        refine hm.heap b o (fun m => ?_) (Heap.get?_push_of_some _ (Heap.get?_push_of_some _ e))
        rcases List.mem_cons.mp m with m | m
        · exact Nat.ne_of_lt lt m
        · exact Nat.ne_of_lt (Nat.lt_succ_of_lt lt) ((List.mem_singleton.mp m).trans z1)
      · cases r₂ with
        | error e => exact hr₂
        | ok fl₂ =>
          cases fl₂ with
          | ret r =>
            obtain ⟨rfl, h', tk, rfl, hF, hk⟩ := hr₂
            repeat (any_goals (first | assumption | wp_step))
            exact h _ _ hF hk
          | _ => exact hr₂.elim
    | _ => exact hr.elim
/-! ### ints -/
theorem set_ints {l : Addr} {items : Array Value} (ns : List Int) {Q : Value → Shared → Prop} (hh : A.handled = none) (hl : s.heap.IsList l items) (hit : IntsAre items.toList ns) (hb : ns.length + 1 < scanBound)
    (h : ∀ (h' : Heap) (tk c : Nat), SetR w h' s.heap.objs.size (fun j => decide (j ∈ ns)) c → c ≤ ns.length → (∀ b o, s.heap.get? b = some o → h'.get? b = some o) → Q (.ref s.heap.objs.size) { s with heap := h', toks := tk }) :
    wpAny (model P w) A (call (.type "set") [.ref l]) Q E s := by
  have sz : items.size = ns.length := by
    have q := IntsAre.length hit
    rw [Array.length_toList] at q
    exact q
  refine set_of_list (Fin := fun h' S => ∃ c, c ≤ ns.length ∧ SetR w h' S (fun j => decide (j ∈ ns)) c) hh hl (fun A' S I fp wr G St s1 R' W hS h0 hf fin => ?_) fun h' tk ⟨c, hc, r⟩ k => h h' tk c r hc k
  refine set_update_ints W S hS ns sz hb (fun i v hv => ?_) (items.size - 0) 0 s1 rfl (Nat.zero_le _) h0 ⟨0, Nat.le_refl 0, setR_new_at hf⟩ fun s' c hm hc r => fin s' hm ⟨c, by rw [← sz]; exact hc, r⟩
  obtain ⟨t, e⟩ := PyProof.Rows.IntsAre.int_at hit i v (by rw [Array.getElem?_toList]; exact hv)
  have hi : i < ns.length := by rw [← sz]; exact (Array.getElem?_eq_some_iff.mp hv).1
  refine ⟨ns[i], t, List.getElem?_eq_getElem hi, ?_⟩
  rw [e, List.getD_eq_getElem?_getD, List.getElem?_eq_getElem hi] <;> rfl
/-! ### texts -/
theorem tx_fresh {h : Heap} {a : Addr} {ns : List Str} (ho : h.get? a = some (freshSet w)) : TxS w h a (fun j => j ∈ ns.take 0) 0 :=
  ⟨_, #[], 0, _, ⟨ho, ⟨rfl, rfl, rfl⟩, rfl⟩, ⟨fun e he => by simp at he, by simp, fun k => by simp⟩, ⟨by decide, by rfl, rfl⟩, List.Pairwise.nil, by
    show _ ∨ (!w.params.followText "set-order") = true
    cases w.params.followText "set-order"
    · exact .inr rfl
    · exact .inl rfl⟩
theorem tx_update {I : Addr} {fp wr : List Addr} {G : Array GenState → Array GenState → Prop} {n : Nat} {Pv : Nat → Value → Prop} {St : Nat → Shared → Prop} {R : Result → Shared → Prop}
    (W : WalksS P w A.in1 I fp wr G n Pv St) (S : Addr) (hSf : S ∉ fp) (ns : List Str) (hn : n = ns.length) (hb : ns.length + 1 < scanBound) (hval : ∀ i v, Pv i v → ∃ k t, ns[i]? = some k ∧ v = .str k t) :
    ∀ (k i : Nat) (s : Shared), n - i = k → i ≤ n → St i s → (∃ c, c ≤ i ∧ TxS w s.heap S (fun j => j ∈ ns.take i) c) → (∀ s' c, Moved (S :: wr) G s s' → c ≤ n → TxS w s'.heap S (fun j => j ∈ ns) c → R (.ok (.ret .none)) s') →
      codeAny (model P w) A (.builtin "set.update.loop" ⟨[.ref S, .ref I], []⟩) R s := by
  have out : S ∉ wr := fun m => hSf (W.sub _ m)
  have more : ∀ b ∈ wr, b ∈ S :: wr := fun b m => List.mem_cons_of_mem _ m
  intro k
  induction k with
  | zero =>
    intro i s hk hi hst ⟨c, hc, r⟩ fin
    obtain rfl : i = n := by omega
    refine codeAny_builtin F.entry_set_update_loop ?_
    rw [Around.under_plainId F.plain_set_update_loop _]
    show wpAny _ A.in1 (pyNext (.ref I) >>= _) _ _ s
    refine wpAny_bind (W.done s _ _ hst fun s' hm => ?_)
    show wpAny _ A.in1 (ret Value.none) _ _ s'
    rw [List.take_of_length_le (by omega)] at r
    exact wpAny_pure (fin s' c (hm.mono more) hc (r.to fun o e => hm.heap S o out e))
  | succ k ih =>
    intro i s hk hi hst ⟨c, hc, r⟩ fin
    have lt : i < n := by omega
    refine codeAny_builtin F.entry_set_update_loop ?_
    rw [Around.under_plainId F.plain_set_update_loop _]
    show wpAny _ A.in1 (pyNext (.ref I) >>= _) _ _ s
    refine wpAny_bind (W.item i s _ _ lt hst fun v s' hP hst' hm => ?_)
    obtain ⟨z, t, hz, rfl⟩ := hval i v hP
    have r1 : TxS w s'.heap S (fun j => j ∈ ns.take i) c := r.to fun o e => hm.heap S o out e
    show wpAny _ A.in1 (holding [Value.str z t] (setAdd S (.str z t)) >>= _) _ _ s'
    refine wpAny_bind (wpAny_holding ?_)
    unfold setAdd
    refine wpAny_holding (wpAny_bind ((PySem.strKind P w).pyHash (k := z) (is_sk z t) ?_))
    refine tx_add (s := { s' with toks := s'.toks + 1 }) r1 (by omega) fun h' c2 b sb hc2 r2 => ?_
    have r3 : TxS w h' S (fun j => j ∈ ns.take (i + 1)) c2 := r2.iff fun j => by
      rw [List.take_add_one, hz]
      simp [List.mem_append]
    refine wpAny_pure ⟨plainId_quiet F.plain_set_update_loop _, ih (i + 1) _ (by omega) lt (W.frame _ s' _ _ hst' (Nat.le_succ _) fun b hb o e => (sb.2 b fun e2 => hSf (e2 ▸ hb)).trans e) ⟨c2, by omega, r3⟩ fun s'' c3 hm2 hc3 r4 => ?_⟩
    refine fin s'' c3 (Moved.trans W.gtrans ((hm.mono more).then_heap (Nat.le_succ _) fun b o hb e => (sb.2 b fun e2 => hb (by rw [e2]; exact List.mem_cons_self)).trans e) hm2) hc3 r4
theorem strs_at2 {vs : List Value} {ss : List Str} : StrsAre vs ss → ∀ (i : Nat) (v : Value), vs[i]? = some v → ∃ k t, ss[i]? = some k ∧ v = .str k t := by
  intro h
  induction h with
  | nil => intro i v e; simp at e
  | cons x t r ih =>
    intro i v e
    cases i with
    | zero => simp at e; exact ⟨x, t, by simp, e.symm⟩
    | succ i =>
      obtain ⟨k, u, h1, h2⟩ := ih i v (by simpa using e)
      exact ⟨k, u, by simpa using h1, h2⟩
theorem strs_len {vs : List Value} {ss : List Str} : StrsAre vs ss → vs.length = ss.length := by
  intro h
  induction h with
  | nil => rfl
  | cons x t r ih => rw [List.length_cons, List.length_cons, ih]
theorem set_txts {l : Addr} {items : Array Value} (ns : List Str) {Q : Value → Shared → Prop} (hh : A.handled = none) (hl : s.heap.IsList l items) (hit : StrsAre items.toList ns) (hb : ns.length + 1 < scanBound)
    (h : ∀ (h' : Heap) (tk c : Nat), TxS w h' s.heap.objs.size (fun j => j ∈ ns) c → c ≤ ns.length → (∀ b o, s.heap.get? b = some o → h'.get? b = some o) → Q (.ref s.heap.objs.size) { s with heap := h', toks := tk }) :
    wpAny (model P w) A (call (.type "set") [.ref l]) Q E s := by
  have sz : items.size = ns.length := by
    have q := strs_len hit
    rw [Array.length_toList] at q
    exact q
  refine set_of_list (Fin := fun h' S => ∃ c, c ≤ ns.length ∧ TxS w h' S (fun j => j ∈ ns) c) hh hl (fun A' S I fp wr G St s1 R' W hS h0 hf fin => ?_) fun h' tk ⟨c, hc, r⟩ k => h h' tk c r hc k
  exact tx_update W S hS ns sz hb (fun i v hv => strs_at2 hit i v (by rw [Array.getElem?_toList]; exact hv)) (items.size - 0) 0 s1 rfl (Nat.zero_le _) h0 ⟨0, Nat.le_refl 0, tx_fresh hf⟩ fun s' c hm hc r => fin s' hm ⟨c, by rw [← sz]; exact hc, r⟩
end
end Ev
set_option maxHeartbeats 4000000
/-! sorted(set(..)). -/
namespace Ev
open PySem PySem.Spec PyProof.Rows L2
theorem rising_lt : ∀ (l : List Str) (p : Str), risingS p l = true → (p :: l).Nodup → (p :: l).Pairwise (fun x y => x.cps.toList < y.cps.toList)
  | [], p, _, _ => List.pairwise_singleton _ _
  | x :: r, p, h, n => by
    rw [risingS, Bool.and_eq_true] at h
    obtain ⟨h1, h2⟩ := h
    obtain ⟨n1, n2⟩ := List.nodup_cons.mp n
    have ih := rising_lt r x h2 n2
    have c : ¬ x.cps.toList < p.cps.toList := fun z => by
      rw [ltCps_eq, decide_eq_true z] at h1
      cases h1
    have px : p.cps.toList < x.cps.toList := lt_tri c fun e => n1 (by rw [e]; exact List.mem_cons_self)
    refine List.pairwise_cons.mpr ⟨fun y hy => ?_, ih⟩
    rcases List.mem_cons.mp hy with e | m
    · rw [e]; exact px
    · exact lt_tr _ _ _ px ((List.pairwise_cons.mp ih).1 y m)
theorem sorted_lt : ∀ (l : List Str), sortedS l = true → l.Nodup → l.Pairwise (fun x y => x.cps.toList < y.cps.toList)
  | [], _, _ => .nil
  | x :: r, h, n => rising_lt r x h n
section
variable {P : Program} {w : World} {A : Around} {E : Value → Shared → Prop} {s : Shared} {a : Addr}
theorem sorted_txts {M : Str → Prop} {n : Nat} {Q : Value → Shared → Prop} (R : TxS w s.heap a M n) (hh : A.handled = none) (h64 : n < 64)
    (hQ : ∀ (s' : Shared) (p : Addr) (out : Array Value) (c : Nat) (ns : List Str), (∀ b o, s.heap.get? b = some o → s'.heap.get? b = some o) → s'.gens = s.gens → s'.os = s.os → s.heap.objs.size ≤ p →
      s'.heap.get? p = some (seqObj "list" out c) → StrsAre out.toList ns → ns.Pairwise (fun x y => x.cps.toList < y.cps.toList) → (∀ k, k ∈ ns ↔ M k) → ns.length = n → Q (.ref p) s') : wpAny (model P w) A (call (.builtin "sorted") [.ref a]) Q E s := by
  obtain ⟨o, es, ep, t, ⟨ho, hx, hd⟩, ⟨k1, k2, k3⟩, ⟨b1, b2, b3⟩, hr, hl⟩ := R
  refine Calls.call_function_entry kind_sorted plain_sorted entry_sorted (args_sorted1 _) ?_
  unfold Builtin.«sorted»
  refine wpAny_bind (m := checkCount "sorted" 1 1 _) (wpAny_pure (wpAny_bind (collect_set (A := A.in1) hh ⟨o, ho, hx.1, hd⟩ b2 b1 hr hl fun s1 vs kk hz g1 o1 pm => ?_)))
  have hvl : vs.length = n := by rw [pm.length_eq, List.length_map, Array.length_toList]; exact b3
  have hS : StrsAre vs (vs.map strOf) := strsAre_map vs fun v hv => by
    obtain ⟨e, he, q⟩ := List.mem_map.mp (pm.mem_iff.mp hv)
    obtain ⟨k, u, rfl⟩ := k1 e he
    exact ⟨k, u, q.symm⟩
  have pk : (vs.map strOf).Perm (es.toList.map txt) := by
    have q := pm.map strOf
    rw [List.map_map] at q
    exact q
  refine wpAny_bind (wpAny_newList ?_ (by rw [hvl, sizeLine_eq]; omega))
  have hoL : (s1.heap.push (seqObj "list" vs.toArray 0)).get? s1.heap.objs.size = some (seqObj "list" vs.toArray 0) := Heap.get?_push_size _ rfl
  refine wpAny_bind (wpAny_holding (wpAny_call_entry slot_list_sort ⟨_, hoL, rfl⟩ entry_list_sort (list_sort_treeK strKind_oneLt hoL hS.keysOf (fun v₁ v₂ rest e => keyKind_strs (by rw [← e]; exact hS)) (by rw [hvl]; exact h64) fun st' hp hs => ⟨_, rfl, ?_⟩) (args_list_sort _)))
  obtain ⟨ns', a1, a2, a3⟩ := sorted_out_str hS hp hs
  obtain ⟨c, hc⟩ := sortedHeap_at (vs := vs) (out := (arrOf st').map (·.2)) hoL
  have pn : ns'.Perm (es.toList.map txt) := a2.trans pk
  refine wpAny_pure ⟨_, rfl, hQ _ s1.heap.objs.size _ c ns' (fun b u e => ?_) g1 o1 hz hc a1 (sorted_lt ns' a3 (pn.nodup_iff.mpr k2)) (fun k => by rw [pn.mem_iff, ← k3 k]) ?_⟩
  · have q := kk b u e
    have hlt := Heap.lt_size q
    have step := sortedHeap_old (h := s1.heap.push (seqObj "list" vs.toArray 0)) (vs := vs) (out := (arrOf st').map (·.2)) (Nat.ne_of_lt hlt) (by rw [size_push']; exact Nat.lt_succ_of_lt hlt)
    exact step.trans (Heap.get?_push_of_some _ q)
  · rw [pn.length_eq, List.length_map, Array.length_toList]; exact b3
end
section
variable {T : Tab} {C : Calls} {k : Nat} {X : Cx} {e : Expr} {i : E} {pos p p2 q : Pos} {x y : Str}
theorem new_list {pins : List (Addr × Obj)} {σ : L2.St} {H : Hp} {s s' : Shared} {pa : Addr} {out : Array Value} {c : Nat} {vs : List V} {Q : VK} (I : Inv X pins σ H s) (hk : ∀ b o, s.heap.get? b = some o → s'.heap.get? b = some o) (hg : s'.gens = s.gens) (ho : s'.os = s.os) (hp : s.heap.objs.size ≤ pa)
    (hl : s'.heap.get? pa = some (seqObj "list" out c)) (hz : vs.length ≤ sizeLine) (hv : Vals vs out.toList) (hq : ∀ z, H z = none → Q (.ref z) (upd H z (.lst vs))) : EP X pins σ Q (.ref pa) s' := by
  have hn : H pa = none := I.hok.fresh hp
  have J : Inv X pins σ (upd H pa (.lst vs)) { s with heap := s'.heap, gens := s'.gens, drawn := s'.drawn, toks := s'.toks } :=
    I.call (ch := []) (Un.laid hk hp hn) (I.hok.laid hk hp ⟨hz, out.toList, c, hv, hl⟩) (by rw [hg]; exact I.bare) (fun _ z => nomatch z)
  have e : s' = { s with heap := s'.heap, gens := s'.gens, drawn := s'.drawn, toks := s'.toks } := by
    cases s'
    cases s
    cases ho
    rfl
  rw [e]
  exact ⟨.ref pa, _, J, rfl, hq pa hn⟩
theorem d_srt (am : Amb T C k X) (m n : Nat) (ha : DE C X e i) (hx : x = "sorted" := by rfl) (hy : y = "set" := by rfl) (h : T.free[m]? = some x := by rfl) (hg : Gl X x := by rfl) (h2 : T.free[n]? = some y := by rfl) (hg2 : Gl X y := by rfl)
    (na : starEach [e] X.env = (false, eval e X.env) :: starEach [] X.env := by rfl) : DE C X (.Call (.Name x p) [.Call (.Name y p2) [e] [] q] [] pos) (.srt i) := by
  subst hx hy
  show PE X _ (tSrt X.K (read X.K (spOf X.K C) i))
  refine ⟨fun pins s σ H Q I h => ?_⟩
  refine Call_ (ld_blt I hg (am.free m _ ‹_›) (show bootBuiltins "sorted" = some (.builtin "sorted") by decide +kernel) ?_)
  refine PyProof.Rows.callWith_builtin1 (PyProof.Rows.args_cons ?_ rfl) rfl rfl
  refine Call_ (ld_blt I hg2 (am.free n _ h2) (show bootBuiltins "set" = some (.type "set") by decide +kernel) ?_)
  refine PyProof.Rows.callWith_type1 (PyProof.Rows.args_cons (thn (ha.run pins s σ H _ I h) fun v s1 ⟨x, H1, I1, r1, q1⟩ => PyProof.Rows.args_nil ?_) na) na rfl
  obtain ⟨l, rfl, q1⟩ := q1
  cases r1
  rcases q1 with ⟨ns, hs, h64, q1⟩ | ⟨ns, hs, h64, q1⟩
  · obtain ⟨its, rv, pl, _⟩ := I1.list hs
    refine set_ints ns (I1.ok.hd am.calm) pl.isList (by simpa using rv.ints) (by unfold scanBound; omega) fun h' tk c hS hc hk => ?_
    refine PyProof.Rows.args_nil ?_
    have I2 : Inv X pins σ H1 { s1 with heap := h', toks := tk } := I1.kept hk
    refine sorted_set hS (I2.ok.hd am.calm) (by omega) fun s' pa out c2 ms k2 g o hp hl hi hso hm hlen => ?_
    exact new_list I2 k2 g o hp hl (by rw [List.length_map, hlen, sizeLine_eq]; omega) (vals_of_ints hi) fun z hz => q1 ms hso (fun j => (hm j).trans decide_eq_true_iff) z hz
  · obtain ⟨its, rv, pl, _⟩ := I1.list hs
    refine set_txts ns (I1.ok.hd am.calm) pl.isList (by simpa using rv.strs) (by unfold scanBound; omega) fun h' tk c hS hc hk => ?_
    refine PyProof.Rows.args_nil ?_
    have I2 : Inv X pins σ H1 { s1 with heap := h', toks := tk } := I1.kept hk
    refine sorted_txts hS (I2.ok.hd am.calm) (by omega) fun s' pa out c2 ms k2 g o hp hl hi hso hm hlen => ?_
    exact new_list I2 k2 g o hp hl (by rw [List.length_map, hlen, sizeLine_eq]; omega) (vals_of_strs hi) fun z hz => q1 ms hso hm z hz
end
end Ev
set_option maxHeartbeats 4000000
/-! An own exception over LookupError: __init__ says super().__init__(place) and keeps place. -/
namespace Ev
open PySem PySem.W PySem.Calls PyProof.Rows PySem.HandSPX
def leBase : List Value := [.type "LookupError", .type "Exception", .type "BaseException", .type "object"]
def npA : Arguments := { posonlyargs := [], args := [{ arg := "self", annotation := none, pos := ⟨4, 17, 4, 21⟩ }, { arg := "place", annotation := none, pos := ⟨4, 23, 4, 28⟩ }], vararg := none, kwonlyargs := [], kw_defaults := [], kwarg := none, defaults := [] }
def npB : List Stmt :=
  [.Expr (.Call (.Attribute (.Call (.Name "super" ⟨5, 8, 5, 13⟩) [] [] ⟨5, 8, 5, 15⟩) "__init__" ⟨5, 8, 5, 24⟩) [.Name "place" ⟨5, 25, 5, 30⟩] [] ⟨5, 8, 5, 31⟩) ⟨5, 8, 5, 31⟩, .Assign [.Attribute (.Name "self" ⟨6, 8, 6, 12⟩) "place" ⟨6, 8, 6, 18⟩] (.Name "place" ⟨6, 21, 6, 26⟩) ⟨6, 8, 6, 26⟩]
def npS : Scope := { kind := .function, names := [("self", .local), ("place", .local), ("__class__", .free), ("super", .globalImplicit)], isGenerator := false, isCoroutine := false, more := [] }
/-- what the written part says of NoPlace, at C, and of its __init__, at fI -/
structure NpTxt (P : Program) (K : Frag) (C fI : Addr) : Prop where
  init : excInitIn K C leBase "LookupError.__new__" = true
  over : excOver K C leBase = true
  sa : findIn K (.ref C) "__setattr__" = some (some (.builtin "object.__setattr__"))
  taker : takerIn K C "place" = some none
  noN : findIn K (.ref C) "place" = some none
  iC : findIn K (.ref C) "__init__" = some (some (.ref fI))
  tI : typeIn K (.ref fI) = some (.type "function")
  sup : nsIn K mainGlobals "super" = some none
  along : ks_superIn K C C "__init__" = some (some (.builtin "LookupError.__init__"))
  subB : subIn K (.ref C) (.type "LookupError") = some true
  opq : nsIn K cStatics "thirdparty.any" = some none
  mro : mroIn K C (.ref C) = some true
  cls : ∃ cd, clsIn K C = some cd ∧ cd.hasDict = true
  exC : subIn K (.ref C) (.type "BaseException") = some true
  tyC : typeIn K (.ref C) = some (.type "type")
  kC : keepIn K (.ref C) = true
  te : exmOne K (.ref C) (.ref C) = some true
  xf : L2.XfC K C
  fn : ∃ (oc : Value) (od : Option Addr) (doc pm : Value) (an : Option Addr) (cda cc : Addr) (ct : Value) (osl : Array (Option Value)),
    K.lookup fI = some ⟨oc, od, .func (ksFn "__init__" "NoPlace.__init__" npA npB npS .none .none doc pm an (.ref cda) ct cc), osl⟩ ∧ codeIn K (.ref cda) "NoPlace.__init__" = true ∧
    (∃ (ccl : Value) (cdd : Option Addr) (vs : Array Value) (ccs : Array (Option Value)) (file : Str) (tf : Tok), K.lookup cda = some ⟨ccl, cdd, .fields vs, ccs⟩ ∧ vs[2]? = some (.str file tf) ∧ ((P.main.file : Str) == file) = true) ∧
    ∃ (cl : Value) (cld : Option Addr) (csl : Array (Option Value)), K.lookup cc = some ⟨cl, cld, .cell (some (.ref C)), csl⟩
  top : (P.main.scope.names.lookup ("super" : Str)).isSome = false
/-- what __init__ leaves of a fresh exception at x -/
structure NpEnd (h h' : Heap) (x C dx t1 : Addr) (v : Value) : Prop where
  keep : ∀ b o, b ≠ x → h.get? b = some o → h'.get? b = some o
  obj : h'.get? x = some { cls := .ref C, dict := some dx, data := .fields #[.ref t1, .none, .none, .none, .bool false, .none] }
  dbig : h.objs.size ≤ dx
  dne : dx ≠ x
  ns : h'.Ns1 dx (fun y => if y = "place" then some v else none)
section
variable {prog : Program} {w : World} {A : Around} {E : Value → Shared → Prop} {R : Result → Shared → Prop} {s : Shared} {K : Frag} {mg mb : Str → Option Value} {C fI : Addr}
theorem np_init (T : NpTxt prog K C fI) {x t0 : Addr} {v : Value} (X : K.In s.heap) (hlim : s.heap.NoLimit) (G : s.heap.Ns mainGlobals mg) (Gb : s.heap.Ns builtinsNs mb) (hb : mb "super" = some (.type "super")) (hx : s.heap.get? x = some (excO C t0)) (nx : K.lookup x = none) (hroom : A.depth < recursionLimit)
    (hq : ∀ h' tk dx t1, NpEnd s.heap h' x C dx t1 v → R (.ok (.ret .none)) { s with heap := h', toks := tk }) :
    codeAny (model prog w) A (.call (.ref fI) ⟨[.ref x, v], []⟩) R s := by
  obtain ⟨oc, od, doc, pm, an, cda, cc, ct, osl, hf, hcd, ⟨ccl, cdd, vs, ccs, file, tf, hcode, hvs, hfile⟩, cl, cld, csl, hcell⟩ := T.fn
  obtain ⟨cdD, hD, hdict⟩ := T.cls
  have hgs : mg "super" = none := mg_none_of X G T.sup
  refine ks_codeAny_call_defAt (fd := ksFn "__init__" "NoPlace.__init__" npA npB npS .none .none doc pm an (.ref cda) ct cc) (body := npB) (binds := [("self", .ref x), ("place", v)]) hroom (X _ _ hf) rfl hlim (codeRec_of X hcd) rfl
    (BindsTo.of_eq (by first | rfl | with_unfolding_all rfl)) (show ∀ x ∈ npS.names, x.2 ≠ .cell by decide) (fun y hy => by
      rcases List.mem_cons.mp hy with e | m
      · rw [e]; rfl
      · rw [List.mem_singleton.mp m]; rfl) (fun h₀ hns hk => ?_)
  have X₀ : K.In h₀ := X.keeps hk
  have hxL : s.heap.objs.size ≠ x := Nat.ne_of_gt (Heap.lt_size hx)
  have ox : h₀.get? x = some (excO C t0) := hk _ _ hx
  have hKF := kxs_LookupError
  obtain ⟨oD, oD1, oD2⟩ : ∃ oD, h₀.get? C = some oD ∧ oD.data = .cls cdD := by
    unfold clsIn at hD
    split at hD
    · rename_i c d cd' sl ho
      cases hD
      exact ⟨_, X₀ _ _ ho, rfl⟩
    · cases hD
  obtain ⟨hp, g, d, t, os⟩ := s
  -- super()
  refine ks_wpAt_execs_cons (ks_wpAt_Expr_any (ks_wpAt_MethodCall ?_))
  refine ks_wpAt_super_base (env := ksEnv "NoPlace.__init__" npS hp.objs.size fI (.ref cda) cc) rfl rfl (by decide) rfl (X₀ _ _ hf) rfl rfl rfl (X₀ _ _ hcode) rfl hvs hfile T.top ?_
  refine ks_loadName_global rfl rfl (loadGlobal_builtin (G.keeps hk) hgs (Gb.keeps hk) hb ⟨rfl, ?_⟩)
  refine wpAny_loadName_free rfl rfl rfl ⟨_, X₀ _ _ hcell, rfl⟩ ?_
  refine wpAny_loadName_local rfl rfl hns rfl ?_
  refine ks_wpAny_isType_cls oD1 oD2 ⟨rfl, ?_⟩
  refine ks_wpAny_call_super oD1 oD2 ox rfl (fun c e => by cases e) (looks_mroIn X₀ T.mro) (fun h1 so k1 => ?_)
  -- .__init__
  have X1 : K.In h1 := X₀.keeps k1
  have ox1 := k1 _ _ ox
  have I1 : InstAt h1 x (excO C t0) C none := ⟨ox1, rfl, rfl, trivial⟩
  have hal : alongIn K "__init__" ((cdD.mro.dropWhile (· != .ref C)).drop 1) = some (some (.builtin "LookupError.__init__")) := by
    have z := T.along
    unfold ks_superIn at z
    rw [hD] at z
    exact z
  refine kxs_getMethod hKF so (looks_opaque X1 T.opq) (l₀ := cdD.mro) (fun A Q E s k q => wpAny_bind ((looks_clsIn X1 hD) A _ E s k (wpAny_pure q))) rfl X1 hal (I1.type.andThen (looks_subIn X1 T.subB)) (ks_ne X1 I1 hD) (by decide) ?_
  -- (place)
  have k2 : ∀ b o, h1.get? b = some o → (h1.push (kxs_mw "LookupError.__init__" x)).get? b = some o := fun b o e => Heap.get?_push_of_some _ e
  refine kxs_callWith (i := "LookupError.__init__") (x := x) rfl ?_
  refine evalArgs_plain (spliced_cons ?_)
  show wpAny _ _ (eval (.Name "place" _) _) _ _ _
  refine wpAny_Name (wpAny_loadName_local rfl rfl ((hns.keeps k1).keeps k2) rfl ?_) (by decide)
  refine spliced_nil ⟨Heap.get?_push_at rfl rfl, ?_⟩
  have FB := F.excBase_LookupError
  have k3 : ∀ b o, hp.get? b = some o → (h1.push (kxs_mw "LookupError.__init__" x)).get? b = some o := fun b o e => k2 b o (k1 b o (hk b o e))
  obtain ⟨nm, N', qn, bs, bm, hdct, sn, sub, ab, col, dd, e0, e1, e2, e3, e5, hC, hT⟩ := excInit_of (X.keeps k3) T.init
  have ox2 := k3 _ _ hx
  have hu : (h1.push (kxs_mw "LookupError.__init__" x)).get? h1.objs.size = some (kxs_mw "LookupError.__init__" x) := Heap.get?_push_at rfl rfl
  show wpAny _ _ (call (.ref h1.objs.size) [v]) _ _ _
  refine wpAny_call (codeAny_of_tree ?_)
  show wpAny _ _ (callAny (.ref h1.objs.size) ⟨[v], []⟩) _ _ _
  simp only [callAny]
  refine wpAny_bind (wpAny_load hu ?_)
  simp only [kxs_mw, show (Value.type "method-wrapper" == Value.type "method" || Value.type "method-wrapper" == Value.type "builtin_function_or_method" || Value.type "method-wrapper" == Value.type "method-wrapper") = true by decide, if_true]
  refine KFB.if_so (by decide) (wpAny_bind (check_bound_init FB.toExcCallFacts hC ox2 rfl (wpAny_bind (wpAny_pure (wpAny_pure ?_)))))
  refine ⟨plainId_quiet FB.init.plain _, codeAny_builtin FB.initEntry ?_⟩
  refine exc_init_tree (cls := .ref C) (t0 := t0) (dv := none) (c2 := .none) (c3 := .none) (b4 := .bool false) ox2 (by rw [sizeLine_eq]; exact (by decide : 1 ≤ 16777216)) fun h3 k4 ox3 tup => ?_
  -- self.place = place
  have k5 : ∀ b o, b ≠ x → hp.get? b = some o → h3.get? b = some o := fun b o hb e => k4 b o hb (k3 b o e)
  have X3 : K.In h3 := fun b o e => k5 b o (fun z => by rw [z, nx] at e; cases e) (X b o e)
  have hns3 : h3.Ns hp.objs.size (fun y => List.lookup y [(Str.ofString "self", Value.ref x), (Str.ofString "place", v)].reverse) := by
    obtain ⟨oL, es, ep, oL1, r⟩ := (hns.keeps k1).keeps k2
    exact ⟨oL, es, ep, k4 _ _ hxL oL1, r⟩
  show PySem.wpAt _ _ _ _ _ _ _
  refine PySem.wpAt_of_wpAny (wpAny_execs_cons (plainObj_wpAny_Assign_Attribute ?_))
  refine wpAny_Name (wpAny_loadName_local rfl rfl hns3 rfl (wpAny_Name (wpAny_loadName_local rfl rfl hns3 rfl ?_) (by decide))) (by decide)
  have I3 : InstAt h3 x (excRec (.ref C) (h1.push (kxs_mw "LookupError.__init__" x)).objs.size none .none .none (.bool false)) C none := ⟨ox3, rfl, rfl, trivial⟩
  refine set_plain X3 I3 T.sa ?_
  refine osa_openX F.store_LookupError X3 I3 T.over T.taker fun b => ?_
  have hcls : Looks (model prog w) h3 (classData C) cdD := looks_clsIn X3 hD
  have hxs : x ≠ h3.objs.size := Nat.ne_of_lt (Heap.lt_size ox3)
  have big : hp.objs.size ≤ h3.objs.size := Nat.le_of_lt (hns3.lt)
  clear hal hT hC
  obtain ⟨nm2, bs2, mro2, ns2, qn2, hd2, sn2, sb2, ab2, col2, del2⟩ := cdD
  dsimp only at hdict
  subst hdict
  show wpAny _ _ (Builtin.ObjectAttr.storeInOwnDict (Value.ref x) (Value.ref C) _ _ v b) _ _ _
  unfold Builtin.ObjectAttr.storeInOwnDict Builtin.ObjectAttr.ownDictForStores
  repeat (first | with_reducible refine HandSPX.store_in_new ?_ ?_ | with_reducible refine wpAny_loadPart_at ox3 ?_ | with_reducible refine hcls.at ?_ | wp_step)
  · exact ⟨_, #[], _, (Heap.get?_update_ne _ _ _ _ hxs.symm).trans (Heap.get?_push_at rfl rfl), rfl, fun e he => absurd he (by simp), fun _ => rfl⟩
  · intro h' tk' hn' hs
    have up : (h3.push { cls := .type "dict", data := .dict #[] }).get? x = some (excRec (.ref C) (h1.push (kxs_mw "LookupError.__init__" x)).objs.size none .none .none (.bool false)) := Heap.get?_push_of_some _ ox3
    refine wpAny_execs_nil (hq h' tk' h3.objs.size (h1.push (kxs_mw "LookupError.__init__" x)).objs.size ⟨fun b o hb e => ?_, ?_, big, hxs.symm, hn'⟩)
    · have e3 := k5 b o hb e
      exact (hs.2 b (Nat.ne_of_lt (Heap.lt_size e3))).trans ((Heap.get?_update_ne _ _ _ _ hb).trans (Heap.get?_push_of_some _ e3))
    · exact (hs.2 x hxs).trans (Heap.get?_update_self _ up rfl)
end
end Ev
set_option maxHeartbeats 4000000
/-! NoPlace(path) made, raised. -/
namespace Ev
section
open PySem PySem.W PySem.Calls PyProof.Rows PySem.HandSPX
/-- a made NoPlace -/
structure NpMade (h h' : Heap) (e C d : Addr) (v : Value) : Prop where
  keep : ∀ b o, h.get? b = some o → h'.get? b = some o
  new : h.objs.size ≤ e
  obj : ∃ oe vs, h'.get? e = some oe ∧ oe.cls = .ref C ∧ oe.dict = some d ∧ oe.data = .fields vs ∧ vs[1]? = some .none
  dbig : h.objs.size ≤ d
  dne : d ≠ e
  ns : h'.Ns1 d (fun y => if y = "place" then some v else none)
variable {prog : Program} {w : World} {A : Around} {E : Value → Shared → Prop} {R : Result → Shared → Prop} {s : Shared} {K : Frag} {mg mb : Str → Option Value} {C fI : Addr}
theorem np_made (T : NpTxt prog K C fI) {v : Value} (X : K.In s.heap) (hlim : s.heap.NoLimit) (G : s.heap.Ns mainGlobals mg) (Gb : s.heap.Ns builtinsNs mb) (hb : mb "super" = some (.type "super")) (hroom : A.depth + 1 < recursionLimit)
    (hq : ∀ h' tk e d, NpMade s.heap h' e C d v → R (.ok (.ret (.ref e))) { s with heap := h', toks := tk }) : codeAny (model prog w) A (.call (.ref C) ⟨[v], []⟩) R s := by
  obtain ⟨nm, N', qn, bs, bm, hdct, sn, sub, ab, col, dd, e0, e1, e2, e3, e5, hC, hT⟩ := excInit_of X T.init
  obtain ⟨hp, g, dr, tk, os⟩ := s
  have k : ∀ b o, hp.get? b = some o → ((hp.push (kdv_tup [v])).push (excO C hp.objs.size)).get? b = some o := fun b o e => Heap.get?_push_of_some _ (Heap.get?_push_of_some _ e)
  have hget : ((hp.push (kdv_tup [v])).push (excO C hp.objs.size)).get? (hp.objs.size + 1) = some (excO C hp.objs.size) := by heap_get
  have hnx : K.lookup (hp.objs.size + 1) = none := by
    cases e : K.lookup (hp.objs.size + 1) with
    | none => rfl
    | some o =>
      have z : hp.get? (hp.objs.size + 1) = some o := X _ _ e
      exact absurd (Nat.lt_of_succ_lt (Heap.lt_size z)) (Nat.lt_irrefl _)
  have z1 : [v].length ≤ sizeLine := by rw [sizeLine_eq]; exact (by decide : 1 ≤ 16777216)
  refine call_own F.excBase_LookupError hT hC (looks_findIn X T.iC) (fun self => bind_fn X self T.tI) z1 ?_
  refine np_init (s := ⟨(hp.push (kdv_tup [v])).push (excO C hp.objs.size), g, dr, tk, os⟩) T (X.keeps k) (hlim.keeps k) (G.keeps k) (Gb.keeps k) hb hget hnx (show A.depth + 1 < recursionLimit from hroom) fun h' tk' dx t1 ⟨k', hx, dn, dne, hns⟩ => ?_
  have old : ∀ b o, hp.get? b = some o → h'.get? b = some o := fun b o e => k' b o (Nat.ne_of_lt (Nat.lt_succ_of_lt (Heap.lt_size e))) (k b o e)
  have z : hp.objs.size + 1 + 1 ≤ dx := by
    have q := dn
    rw [Heap.size_push, Heap.size_push] at q
    exact q
  exact ⟨rfl, hq h' tk' (hp.objs.size + 1) dx ⟨old, Nat.le_succ _, ⟨_, _, hx, rfl, rfl, rfl, rfl⟩, Nat.le_trans (Nat.le_trans (Nat.le_succ _) (Nat.le_succ _)) z, dne, hns⟩⟩
end
open PySem PySem.Spec PyProof.Rows L2
theorem rel_np {v : V} {v' : Value} (r : RelV v v') (f : Str) : RelO (List.lookup f [(("place" : Str), v)]) (if f = "place" then some v' else none) := by
  by_cases hw : f = "place"
  · subst hw
    rw [if_pos rfl]
    have q : List.lookup ("place" : Str) [(("place" : Str), v)] = some v := by simp [List.lookup]
    rw [q]
    exact r
  · rw [if_neg hw]
    have qw : (f == ("place" : Str)) = false := by simpa using hw
    have q2 : List.lookup f [(("place" : Str), v)] = none := by simp [List.lookup, qw]
    rw [q2]
    trivial
section
variable {X : Cx} {C fI : Addr}
/-- NoPlace(e) -/
def tMkNp (C : Addr) (ta : TA) : L2.St → Hp → XK → Prop := fun σ H Q => ta σ H fun vs H1 => ∃ v, vs = [v] ∧ ∀ d, H1 d = none → Q (.ref C) (some d) (upd H1 d (.xd [(("place" : Str), v)]))
theorem pmk_np {a : Expr} {ta : TA} {x : Str} {p pos : Pos} {k : Nat} (T : NpTxt X.prog X.K C fI) (hm : X.mg x = some (.ref C)) (hr : Room k X.A) (ha : PA X [a] ta) (hg : Gl X x) (hd : (x == ("__debug__" : Str)) = false)
    (he : starEach (a :: []) X.env = (false, eval a X.env) :: starEach [] X.env) (hpl : (backTo pos (starEach [] X.env)).any (·.1) = false) : PMk X (.Call (.Name x p) [a] [] pos) (tMkNp C ta) := by
  intro pins s σ H Q I h
  refine wpAny_Call_Name_kw (ld_glob I hg hm ?_ hd)
  refine PySem.W.callWith_K (h₀ := X.base) I.ok.mod.kin T.kC (thn (ha.run pos pins s σ H _ I h) fun us s1 hh => ?_) he hpl
  obtain ⟨vs, H1, I1, r1, v, ev, q1⟩ := hh
  subst ev
  refine ⟨I1.kIn, ?_⟩
  cases r1 with
  | cons rv rn =>
    rename_i v' us'
    cases rn
    show wpAny _ _ (call (.ref C) [v']) _ _ _
    have lim := I1.nolimit
    obtain ⟨mb, b1, b2⟩ := I1.mod.blt
    have sup : mb "super" = some (.type "super") := (b2 _ (by decide)).trans (by decide +kernel)
    have G := I1.mod.glob.keeps I1.bk
    have Gb := b1.keeps I1.bk
    obtain ⟨hp, g, dr, tk, os⟩ := s1
    refine wpAny_call (np_made T I1.kIn lim G Gb sup (by have := hr.dp; omega) fun h' tk' e d M => ?_)
    show MkP X pins σ Q (.ref e) ⟨h', g, dr, tk', os⟩
    obtain ⟨oe, fv, hoe, hc, hdd, hdat, h1⟩ := M.obj
    obtain ⟨G', g1, g2⟩ := restrict h' fun b => decide (b ≠ e)
    have gk : ∀ b, b ≠ e → G'.get? b = h'.get? b := fun b hb => g1 b (decide_eq_true hb)
    have ge : G'.get? e = none := g2 e (by simp)
    have old : ∀ b o, hp.get? b = some o → G'.get? b = some o := fun b o q => (gk b (Nat.ne_of_lt (Nat.lt_of_lt_of_le (Heap.lt_size q) M.new))).trans (M.keep b o q)
    have ob : ObjOk X.prog X.w (upd H1 d (.xd [(("place" : Str), v)])) G' d (.xd [(("place" : Str), v)]) := ⟨_, M.ns.at (fun o q => (gk d M.dne).trans q), fun f => rel_np rv f⟩
    have J : Inv X pins σ (upd H1 d (.xd [(("place" : Str), v)])) ⟨G', g, dr, tk', os⟩ := I1.laid (t' := tk') old M.dbig ob
    refine ⟨e, oe, fv, ⟨G', g, dr, tk', os⟩, _, .ref C, some d, rfl, J, fun b o q => ?_, ge, hoe, ⟨hc, hdd⟩, hdat, h1, ?_, rfl, I1.bare, raises_own T.exC T.tyC, q1 d (I1.hok.fresh M.dbig)⟩
    · by_cases hb : b = e
      · have q' : G'.get? b = some o := q
        rw [hb, ge] at q'
        cases q'
      · exact (gk b hb).symm.trans q
    · rw [upd_ne (Ne.symm M.dne)]
      exact I1.hok.fresh M.new
/-- raise NoPlace(e) -/
def tRaiseNp (C : Addr) (W : WX) (ta : TA) : TS := fun _ σ H => tMkNp C ta σ H fun cls d H' => W cls d σ H'
theorem ps_raiseNp {a : Expr} {ta : TA} {W : WX} {x : Str} {p pos pos2 : Pos} {k : Nat} (hc : X.calm = true) (T : NpTxt X.prog X.K C fI) (hm : X.mg x = some (.ref C)) (hr : Room k X.A) (tk : Takes X W) (ha : PA X [a] ta) (hg : Gl X x) (hd : (x == ("__debug__" : Str)) = false)
    (he : starEach (a :: []) X.env = (false, eval a X.env) :: starEach [] X.env) (hpl : (backTo pos (starEach [] X.env)).any (·.1) = false) :
    PS X (.Raise (some (.Call (.Name x p) [a] [] pos)) none pos2) (tRaiseNp C W ta) := ps_raise hc tk (pmk_np T hm hr ha hg hd he hpl)
end
end Ev
set_option maxHeartbeats 4000000
namespace Ev.K00
open PySem PySem.Spec PyProof.Rows L2 Ev
def top (i : Nat) : Stmt := PySem.Challenge.pw_weighedterms_k00_terms_counted_by_own_wa.main.body.getD i (.Pass ⟨0, 0, 0, 0⟩)
def names : List Str := [(Str.ofString "is_number"), (Str.ofString "is_below"), (Str.ofString "is_tuple_of"), (Str.ofString "tuple_of"), (Str.ofString "sure"), (Str.ofString "is_sign_name"), (Str.ofString "is_sign"), (Str.ofString "is_book"), (Str.ofString "sure_book"), (Str.ofString "signs_of"), (Str.ofString "parts_fit"), (Str.ofString "is_term_by"), (Str.ofString "is_term"), (Str.ofString "sure_term"), (Str.ofString "is_path"), (Str.ofString "sure_path"), (Str.ofString "parts_in"), (Str.ofString "sign_of"), (Str.ofString "words_in"), (Str.ofString "words_of"), (Str.ofString "walked"), (Str.ofString "unknowns_in"), (Str.ofString "unknowns_of"), (Str.ofString "is_closed"), (Str.ofString "names_in"), (Str.ofString "how_often"), (Str.ofString "depth_of"), (Str.ofString "paths_of"), (Str.ofString "part_told"), (Str.ofString "part_at"), (Str.ofString "put_told_at"), (Str.ofString "put_at"), (Str.ofString "_law_box"), (Str.ofString "_law_take"), (Str.ofString "_law_cells"), (Str.ofString "_law_of"), (Str.ofString "_law_same"), (Str.ofString "_law_all"), (Str.ofString "_law_any"), (Str.ofString "_law_pieces_of"), (Str.ofString "_law_bare"), (Str.ofString "_law_soft"), (Str.ofString "_law_swapped_at"), (Str.ofString "_law_words_all"), (Str.ofString "_law_part"), (Str.ofString "_law_lap"), (Str.ofString "law")]
def T : Tab := ⟨[(Str.ofString "int"), (Str.ofString "isinstance"), (Str.ofString "bool"), (Str.ofString "tuple"), (Str.ofString "len"), (Str.ofString "list"), (Str.ofString "str"), (Str.ofString "all"), (Str.ofString "zip"), (Str.ofString "sum"), (Str.ofString "enumerate"), (Str.ofString "sorted"), (Str.ofString "set"), (Str.ofString "max"), (Str.ofString "abs"), (Str.ofString "range")], [((Str.ofString "MOST_NAME"), vOf (.int 8)), ((Str.ofString "SMALL"), vOf (.str (Str.ofString "abcdefghijklmnopqrstuvwxyz"))), ((Str.ofString "PLAIN"), vOf (.str (Str.ofString "plain"))), ((Str.ofString "MOST_PLAIN"), vOf (.int 3)), ((Str.ofString "SWAP"), vOf (.str (Str.ofString "swap"))), ((Str.ofString "BAG"), vOf (.str (Str.ofString "bag"))), ((Str.ofString "MOST_SIGNS"), vOf (.int 8)), ((Str.ofString "MOST_UNKNOWN"), vOf (.int 100))], names⟩
def b0 : Sts := (.cons (.ret (.and (.isi (.var 0) .int) (.not (.isi (.var 0) .bool))))
  .nil)
def d0 : Def := ⟨(Str.ofString "is_number"), top 4, [(Str.ofString "thing")], [(Str.ofString "thing")], b0⟩
theorem g0 : Good T d0 where
  sc := ⟨rfl, rfl, rfl, by decide +kernel, rfl, by decide +kernel, by decide +kernel⟩
  wf := by decide +kernel
  der := fun C k P w K mg base f cdv A outer s H E am => (s_cons (s_ret (d_and (d_isi am 0 1 (d_var 0)) (d_one (d_not (d_isi am 2 1 (d_var 0))))))
  s_nil)
def b1 : Sts := (.cons (.ret (.and (.call 0 (.cons (.var 0) .nil)) (.chain .le .lt (.con (.int 0)) (.var 0) (.var 1))))
  .nil)
def d1 : Def := ⟨(Str.ofString "is_below"), top 5, [(Str.ofString "thing"), (Str.ofString "many")], [(Str.ofString "thing"), (Str.ofString "many")], b1⟩
theorem g1 : Good T d1 where
  sc := ⟨rfl, rfl, rfl, by decide +kernel, rfl, by decide +kernel, by decide +kernel⟩
  wf := by decide +kernel
  der := fun C k P w K mg base f cdv A outer s H E am => (s_cons (s_ret (d_and (d_call am 0 (d_cons (d_var 0) d_nil)) (d_one (d_chain am .le .lt d_int (d_var 0) (d_var 1)))))
  s_nil)
def b2 : Sts := (.cons (.ret (.and (.isi (.var 0) .tuple) (.cmp .eq (.blt .len (.var 0)) (.var 1))))
  .nil)
def d2 : Def := ⟨(Str.ofString "is_tuple_of"), top 6, [(Str.ofString "thing"), (Str.ofString "many")], [(Str.ofString "thing"), (Str.ofString "many")], b2⟩
theorem g2 : Good T d2 where
  sc := ⟨rfl, rfl, rfl, by decide +kernel, rfl, by decide +kernel, by decide +kernel⟩
  wf := by decide +kernel
  der := fun C k P w K mg base f cdv A outer s H E am => (s_cons (s_ret (d_and (d_isi am 3 1 (d_var 0)) (d_one (d_cmp am .eq (d_blt am .len 4 (d_var 0)) (d_var 1)))))
  s_nil)
def b3 : Sts := (.cons (.ite (.isi2 (.var 0) .list .tuple) (.cons (.ret (.blt .tuple (.lc (.n 1) (.seq (.var 0)) (.con (.bool true)) (.call 3 (.cons (.var 1) .nil)) [1])))
  .nil) .nil)
  (.cons (.ret (.var 0))
  .nil))
def d3 : Def := ⟨(Str.ofString "tuple_of"), top 7, [(Str.ofString "thing"), (Str.ofString "part")], [(Str.ofString "thing")], b3⟩
theorem g3 : Good T d3 where
  sc := ⟨rfl, rfl, rfl, by decide +kernel, rfl, by decide +kernel, by decide +kernel⟩
  wf := by decide +kernel
  der := fun C k P w K mg base f cdv A outer s H E am => (s_cons (s_if (d_val (d_isi2 am 5 3 1 (d_var 0))) (s_cons (s_ret (d_blt am .tuple 3 (d_lc am [((Str.ofString "part"), 1)] (d_seq (d_var 0)) (fun s1 H1 D1 cl1 fp1 => (d_tgn (am.blk s1 H1 _ _ fp1) 1)) (fun s1 H1 D1 cl1 fp1 => d_yes) (fun s1 H1 D1 cl1 fp1 => (d_call (am.blk s1 H1 _ _ fp1) 3 (d_cons (d_var 1) d_nil))))))
  s_nil) s_nil)
  (s_cons (s_ret (d_var 0))
  s_nil))
def b4 : Sts := (.cons (.ite (.not (.var 0)) (.cons .never
  .nil) .nil)
  .nil)
def d4 : Def := ⟨(Str.ofString "sure"), top 8, [(Str.ofString "good")], [(Str.ofString "good")], b4⟩
theorem g4 : Good T d4 where
  sc := ⟨rfl, rfl, rfl, by decide +kernel, rfl, by decide +kernel, by decide +kernel⟩
  wf := by decide +kernel
  der := fun C k P w K mg base f cdv A outer s H E am => (s_cons (s_if (d_notT (d_val (d_var 0))) (s_cons s_never
  s_nil) s_nil)
  s_nil)
def b5 : Sts := (.cons (.ret (.and (.isi (.var 0) .str) (.and (.chain .lt .le (.con (.int 0)) (.blt .len (.var 0)) (.con (.int 8))) (.blt .all (.lc (.n 1) (.chars (.var 0)) (.con (.bool true)) (.cmp .isIn (.var 1) (.con (.str (Str.ofString "abcdefghijklmnopqrstuvwxyz")))) [1])))))
  .nil)
def d5 : Def := ⟨(Str.ofString "is_sign_name"), top 18, [(Str.ofString "thing"), (Str.ofString "own")], [(Str.ofString "thing")], b5⟩
theorem g5 : Good T d5 where
  sc := ⟨rfl, rfl, rfl, by decide +kernel, rfl, by decide +kernel, by decide +kernel⟩
  wf := by decide +kernel
  der := fun C k P w K mg base f cdv A outer s H E am => (s_cons (s_ret (d_and (d_isi am 6 1 (d_var 0)) (d_and (d_chain am .lt .le d_int (d_blt am .len 4 (d_var 0)) (d_con am 0)) (d_one (d_blt am .all 7 (d_lc am [((Str.ofString "own"), 1)] (d_chars (d_var 0)) (fun s1 H1 D1 cl1 fp1 => (d_tgn (am.blk s1 H1 _ _ fp1) 1)) (fun s1 H1 D1 cl1 fp1 => d_yes) (fun s1 H1 D1 cl1 fp1 => (d_cmp (am.blk s1 H1 _ _ fp1) .isIn (d_var 1) (d_con (am.blk s1 H1 _ _ fp1) 1)))))))))
  s_nil)
def b6 : Sts := (.cons (.ite (.or (.not (.call 2 (.cons (.var 0) (.cons (.con (.int 3)) .nil)))) (.or (.not (.call 5 (.cons (.ix (.var 0) (.con (.int 0))) .nil))) (.not (.isi (.ix (.var 0) (.con (.int 1))) .str)))) (.cons (.ret (.con (.bool false)))
  .nil) .nil)
  (.cons (.ite (.cmp .eq (.ix (.var 0) (.con (.int 1))) (.con (.str (Str.ofString "plain")))) (.cons (.ret (.call 1 (.cons (.ix (.var 0) (.con (.int 2))) (.cons (.bin .add (.con (.int 3)) (.con (.int 1))) .nil))))
  .nil) .nil)
  (.cons (.ret (.and (.cmp .isIn (.ix (.var 0) (.con (.int 1))) (.tup (.cons (.con (.str (Str.ofString "swap"))) (.cons (.con (.str (Str.ofString "bag"))) .nil)))) (.and (.call 0 (.cons (.ix (.var 0) (.con (.int 2))) .nil)) (.cmp .eq (.ix (.var 0) (.con (.int 2))) (.con (.int 2))))))
  .nil)))
def d6 : Def := ⟨(Str.ofString "is_sign"), top 19, [(Str.ofString "thing")], [(Str.ofString "thing")], b6⟩
theorem g6 : Good T d6 where
  sc := ⟨rfl, rfl, rfl, by decide +kernel, rfl, by decide +kernel, by decide +kernel⟩
  wf := by decide +kernel
  der := fun C k P w K mg base f cdv A outer s H E am => (s_cons (s_if (d_W (d_orW (d_notT (d_val (d_call am 2 (d_cons (d_var 0) (d_cons d_int d_nil))))) (d_orW (d_notT (d_val (d_call am 5 (d_cons (d_ix (d_var 0) d_int) d_nil)))) (d_or1W (d_notT (d_val (d_isi am 6 1 (d_ix (d_var 0) d_int)))))))) (s_cons (s_ret d_bl)
  s_nil) s_nil)
  (s_cons (s_if (d_cmpT am .eq (d_ix (d_var 0) d_int) (d_con am 2)) (s_cons (s_ret (d_call am 1 (d_cons (d_ix (d_var 0) d_int) (d_cons (d_bin .add (d_con am 3) d_int) d_nil))))
  s_nil) s_nil)
  (s_cons (s_ret (d_and (d_cmp am .isIn (d_ix (d_var 0) d_int) (d_tup (d_cons (d_con am 4) (d_cons (d_con am 5) d_nil)))) (d_and (d_call am 0 (d_cons (d_ix (d_var 0) d_int) d_nil)) (d_one (d_cmp am .eq (d_ix (d_var 0) d_int) d_int)))))
  s_nil)))
def b7 : Sts := (.cons (.ite (.or (.not (.isi (.var 0) .tuple)) (.or (.not (.chain .lt .le (.con (.int 0)) (.blt .len (.var 0)) (.con (.int 8)))) (.not (.blt .all (.lc (.n 1) (.seq (.var 0)) (.con (.bool true)) (.call 6 (.cons (.var 1) .nil)) [1]))))) (.cons (.ret (.con (.bool false)))
  .nil) .nil)
  (.cons (.ret (.blt .all (.lc (.t [2, 3]) (.zip (.var 0) (.sl (.var 0) (.con (.int 1)) (.con .none))) (.con (.bool true)) (.cmp .lt (.ix (.var 2) (.con (.int 0))) (.ix (.var 3) (.con (.int 0)))) [2, 3])))
  .nil))
def d7 : Def := ⟨(Str.ofString "is_book"), top 20, [(Str.ofString "thing"), (Str.ofString "own"), (Str.ofString "near"), (Str.ofString "far")], [(Str.ofString "thing")], b7⟩
theorem g7 : Good T d7 where
  sc := ⟨rfl, rfl, rfl, by decide +kernel, rfl, by decide +kernel, by decide +kernel⟩
  wf := by decide +kernel
  der := fun C k P w K mg base f cdv A outer s H E am => (s_cons (s_if (d_W (d_orW (d_notT (d_val (d_isi am 3 1 (d_var 0)))) (d_orW (d_notT (d_chainT am .lt .le d_int (d_blt am .len 4 (d_var 0)) (d_con am 6))) (d_or1W (d_notT (d_val (d_blt am .all 7 (d_lc am [((Str.ofString "own"), 1)] (d_seq (d_var 0)) (fun s1 H1 D1 cl1 fp1 => (d_tgn (am.blk s1 H1 _ _ fp1) 1)) (fun s1 H1 D1 cl1 fp1 => d_yes) (fun s1 H1 D1 cl1 fp1 => (d_call (am.blk s1 H1 _ _ fp1) 6 (d_cons (d_var 1) d_nil))))))))))) (s_cons (s_ret d_bl)
  s_nil) s_nil)
  (s_cons (s_ret (d_blt am .all 7 (d_lc am [((Str.ofString "near"), 2), ((Str.ofString "far"), 3)] (d_zip am 8 (d_var 0) (d_sl (d_var 0) (d_part d_int) d_part0)) (fun s1 H1 D1 cl1 fp1 => (d_tgt (am.blk s1 H1 _ _ fp1) (d_tgc (am.blk s1 H1 _ _ fp1) 2 (d_tgc (am.blk s1 H1 _ _ fp1) 3 d_tg0)))) (fun s1 H1 D1 cl1 fp1 => d_yes) (fun s1 H1 D1 cl1 fp1 => (d_cmp (am.blk s1 H1 _ _ fp1) .lt (d_ix (d_var 2) d_int) (d_ix (d_var 3) d_int))))))
  s_nil))
def b8 : Sts := (.cons (.set (.n 1) (.call 3 (.cons (.var 0) .nil)))
  (.cons (.expr (.call 4 (.cons (.call 7 (.cons (.var 1) .nil)) .nil)))
  (.cons (.ret (.var 1))
  .nil)))
def d8 : Def := ⟨(Str.ofString "sure_book"), top 21, [(Str.ofString "book"), (Str.ofString "own")], [(Str.ofString "book")], b8⟩
theorem g8 : Good T d8 where
  sc := ⟨rfl, rfl, rfl, by decide +kernel, rfl, by decide +kernel, by decide +kernel⟩
  wf := by decide +kernel
  der := fun C k P w K mg base f cdv A outer s H E am => (s_cons (s_set (d_call am 3 (d_cons (d_var 0) d_nil)) (d_tgn am 1))
  (s_cons (s_expr (d_call am 4 (d_cons (d_call am 7 (d_cons (d_var 1) d_nil)) d_nil)))
  (s_cons (s_ret (d_var 1))
  s_nil)))
def b9 : Sts := (.cons (.ret (.dc (.t [1, 2, 3]) (.seq (.var 0)) (.var 1) (.tup (.cons (.var 2) (.cons (.var 3) .nil))) [1, 2, 3]))
  .nil)
def d9 : Def := ⟨(Str.ofString "signs_of"), top 22, [(Str.ofString "book"), (Str.ofString "name"), (Str.ofString "kind"), (Str.ofString "many")], [(Str.ofString "book")], b9⟩
theorem g9 : Good T d9 where
  sc := ⟨rfl, rfl, rfl, by decide +kernel, rfl, by decide +kernel, by decide +kernel⟩
  wf := by decide +kernel
  der := fun C k P w K mg base f cdv A outer s H E am => (s_cons (s_ret (d_dc am [((Str.ofString "name"), 1), ((Str.ofString "kind"), 2), ((Str.ofString "many"), 3)] (d_seq (d_var 0)) (fun s1 H1 D1 cl1 fp1 => (d_tgt (am.blk s1 H1 _ _ fp1) (d_tgc (am.blk s1 H1 _ _ fp1) 1 (d_tgc (am.blk s1 H1 _ _ fp1) 2 (d_tgc (am.blk s1 H1 _ _ fp1) 3 d_tg0))))) (fun s1 H1 D1 cl1 fp1 => (d_var 1)) (fun s1 H1 D1 cl1 fp1 => (d_tup (d_cons (d_var 2) (d_cons (d_var 3) d_nil))))))
  s_nil)
def b10 : Sts := (.cons (.ite (.call 0 (.cons (.var 1) .nil)) (.cons (.ret (.ite (.call 1 (.cons (.var 1) (.cons (.con (.int 100)) .nil))) (.tup .nil) (.con .none)))
  .nil) .nil)
  (.cons (.ite (.or (.not (.call 2 (.cons (.var 1) (.cons (.con (.int 2)) .nil)))) (.or (.not (.isi (.ix (.var 1) (.con (.int 0))) .str)) (.not (.isi (.ix (.var 1) (.con (.int 1))) .tuple)))) (.cons (.ret (.con .none))
  .nil) .nil)
  (.cons (.ite (.dIn true (.ix (.var 1) (.con (.int 0))) (.var 0)) (.cons (.ret (.con .none))
  .nil) .nil)
  (.cons (.set (.t [2, 3]) (.dget (.var 0) (.ix (.var 1) (.con (.int 0)))))
  (.cons (.set (.n 4) (.ite (.cmp .eq (.var 2) (.con (.str (Str.ofString "bag")))) (.cmp .ge (.blt .len (.ix (.var 1) (.con (.int 1)))) (.var 3)) (.cmp .eq (.blt .len (.ix (.var 1) (.con (.int 1)))) (.var 3))))
  (.cons (.ret (.ite (.var 4) (.ix (.var 1) (.con (.int 1))) (.con .none)))
  .nil))))))
def d10 : Def := ⟨(Str.ofString "parts_fit"), top 23, [(Str.ofString "signs"), (Str.ofString "thing"), (Str.ofString "kind"), (Str.ofString "many"), (Str.ofString "good")], [(Str.ofString "signs"), (Str.ofString "thing")], b10⟩
theorem g10 : Good T d10 where
  sc := ⟨rfl, rfl, rfl, by decide +kernel, rfl, by decide +kernel, by decide +kernel⟩
  wf := by decide +kernel
  der := fun C k P w K mg base f cdv A outer s H E am => (s_cons (s_if (d_val (d_call am 0 (d_cons (d_var 1) d_nil))) (s_cons (s_ret (d_ite (d_val (d_call am 1 (d_cons (d_var 1) (d_cons (d_con am 7) d_nil)))) (d_tup d_nil) d_non))
  s_nil) s_nil)
  (s_cons (s_if (d_W (d_orW (d_notT (d_val (d_call am 2 (d_cons (d_var 1) (d_cons d_int d_nil))))) (d_orW (d_notT (d_val (d_isi am 6 1 (d_ix (d_var 1) d_int)))) (d_or1W (d_notT (d_val (d_isi am 3 1 (d_ix (d_var 1) d_int)))))))) (s_cons (s_ret d_non)
  s_nil) s_nil)
  (s_cons (s_if (d_notInT am (d_ix (d_var 1) d_int) (d_var 0)) (s_cons (s_ret d_non)
  s_nil) s_nil)
  (s_cons (s_set (d_dget am (d_var 0) (d_ix (d_var 1) d_int)) (d_tgt am (d_tgc am 2 (d_tgc am 3 d_tg0))))
  (s_cons (s_set (d_ite (d_cmpT am .eq (d_var 2) (d_con am 5)) (d_cmp am .ge (d_blt am .len 4 (d_ix (d_var 1) d_int)) (d_var 3)) (d_cmp am .eq (d_blt am .len 4 (d_ix (d_var 1) d_int)) (d_var 3))) (d_tgn am 4))
  (s_cons (s_ret (d_ite (d_val (d_var 4)) (d_ix (d_var 1) d_int) d_non))
  s_nil))))))
def b11 : Sts := (.cons (.own 2 (.lst (.cons (.var 1) .nil)))
  (.cons (.while (.ownNe 2) (.cons (.set (.n 3) (.call 10 (.cons (.var 0) (.cons (.ownPop 2) .nil))))
  (.cons (.ite (.cmp .is (.var 3) (.con .none)) (.cons (.ret (.con (.bool false)))
  .nil) .nil)
  (.cons (.ownExt 2 (.blt .list (.var 3)))
  .nil))))
  (.cons (.ret (.con (.bool true)))
  .nil)))
def d11 : Def := ⟨(Str.ofString "is_term_by"), top 24, [(Str.ofString "signs"), (Str.ofString "thing"), (Str.ofString "line"), (Str.ofString "parts")], [(Str.ofString "signs"), (Str.ofString "thing")], b11⟩
theorem g11 : Good T d11 where
  sc := ⟨rfl, rfl, rfl, by decide +kernel, rfl, by decide +kernel, by decide +kernel⟩
  wf := by decide +kernel
  der := fun C k P w K mg base f cdv A outer s H E am => (s_cons (s_own am 2 (d_lst (d_cons (d_var 1) d_nil)))
  (s_cons (s_while PassesOwn.never (d_ownNeT am 2) (s_cons (s_set (d_call am 10 (d_cons (d_var 0) (d_cons (d_ownPop 2) d_nil))) (d_tgn am 3))
  (s_cons (s_if (d_cmpT am .is (d_var 3) d_non) (s_cons (s_ret d_bl)
  s_nil) s_nil)
  (s_cons (s_ext 2 (d_blt am .list 5 (d_var 3)))
  s_nil))))
  (s_cons (s_ret d_bl)
  s_nil)))
def b12 : Sts := (.cons (.ret (.call 11 (.cons (.call 9 (.cons (.call 8 (.cons (.var 0) .nil)) .nil)) (.cons (.var 1) .nil))))
  .nil)
def d12 : Def := ⟨(Str.ofString "is_term"), top 25, [(Str.ofString "book"), (Str.ofString "thing")], [(Str.ofString "book"), (Str.ofString "thing")], b12⟩
theorem g12 : Good T d12 where
  sc := ⟨rfl, rfl, rfl, by decide +kernel, rfl, by decide +kernel, by decide +kernel⟩
  wf := by decide +kernel
  der := fun C k P w K mg base f cdv A outer s H E am => (s_cons (s_ret (d_call am 11 (d_cons (d_call am 9 (d_cons (d_call am 8 (d_cons (d_var 0) d_nil)) d_nil)) (d_cons (d_var 1) d_nil))))
  s_nil)
def b13 : Sts := (.cons (.set (.n 2) (.call 3 (.cons (.var 1) .nil)))
  (.cons (.expr (.call 4 (.cons (.call 11 (.cons (.call 9 (.cons (.var 0) .nil)) (.cons (.var 2) .nil))) .nil)))
  (.cons (.ret (.var 2))
  .nil)))
def d13 : Def := ⟨(Str.ofString "sure_term"), top 26, [(Str.ofString "book"), (Str.ofString "term"), (Str.ofString "own")], [(Str.ofString "book"), (Str.ofString "term")], b13⟩
theorem g13 : Good T d13 where
  sc := ⟨rfl, rfl, rfl, by decide +kernel, rfl, by decide +kernel, by decide +kernel⟩
  wf := by decide +kernel
  der := fun C k P w K mg base f cdv A outer s H E am => (s_cons (s_set (d_call am 3 (d_cons (d_var 1) d_nil)) (d_tgn am 2))
  (s_cons (s_expr (d_call am 4 (d_cons (d_call am 11 (d_cons (d_call am 9 (d_cons (d_var 0) d_nil)) (d_cons (d_var 2) d_nil))) d_nil)))
  (s_cons (s_ret (d_var 2))
  s_nil)))
def b14 : Sts := (.cons (.ret (.and (.isi (.var 0) .tuple) (.blt .all (.lc (.n 1) (.seq (.var 0)) (.con (.bool true)) (.and (.call 0 (.cons (.var 1) .nil)) (.cmp .ge (.var 1) (.con (.int 0)))) [1]))))
  .nil)
def d14 : Def := ⟨(Str.ofString "is_path"), top 27, [(Str.ofString "thing"), (Str.ofString "own")], [(Str.ofString "thing")], b14⟩
theorem g14 : Good T d14 where
  sc := ⟨rfl, rfl, rfl, by decide +kernel, rfl, by decide +kernel, by decide +kernel⟩
  wf := by decide +kernel
  der := fun C k P w K mg base f cdv A outer s H E am => (s_cons (s_ret (d_and (d_isi am 3 1 (d_var 0)) (d_one (d_blt am .all 7 (d_lc am [((Str.ofString "own"), 1)] (d_seq (d_var 0)) (fun s1 H1 D1 cl1 fp1 => (d_tgn (am.blk s1 H1 _ _ fp1) 1)) (fun s1 H1 D1 cl1 fp1 => d_yes) (fun s1 H1 D1 cl1 fp1 => (d_and (d_call (am.blk s1 H1 _ _ fp1) 0 (d_cons (d_var 1) d_nil)) (d_one (d_cmp (am.blk s1 H1 _ _ fp1) .ge (d_var 1) d_int)))))))))
  s_nil)
def b15 : Sts := (.cons (.set (.n 1) (.call 3 (.cons (.var 0) .nil)))
  (.cons (.expr (.call 4 (.cons (.call 14 (.cons (.var 1) .nil)) .nil)))
  (.cons (.ret (.var 1))
  .nil)))
def d15 : Def := ⟨(Str.ofString "sure_path"), top 28, [(Str.ofString "path"), (Str.ofString "own")], [(Str.ofString "path")], b15⟩
theorem g15 : Good T d15 where
  sc := ⟨rfl, rfl, rfl, by decide +kernel, rfl, by decide +kernel, by decide +kernel⟩
  wf := by decide +kernel
  der := fun C k P w K mg base f cdv A outer s H E am => (s_cons (s_set (d_call am 3 (d_cons (d_var 0) d_nil)) (d_tgn am 1))
  (s_cons (s_expr (d_call am 4 (d_cons (d_call am 14 (d_cons (d_var 1) d_nil)) d_nil)))
  (s_cons (s_ret (d_var 1))
  s_nil)))
def b16 : Sts := (.cons (.ret (.ite (.call 0 (.cons (.var 0) .nil)) (.tup .nil) (.ix (.var 0) (.con (.int 1)))))
  .nil)
def d16 : Def := ⟨(Str.ofString "parts_in"), top 29, [(Str.ofString "own")], [(Str.ofString "own")], b16⟩
theorem g16 : Good T d16 where
  sc := ⟨rfl, rfl, rfl, by decide +kernel, rfl, by decide +kernel, by decide +kernel⟩
  wf := by decide +kernel
  der := fun C k P w K mg base f cdv A outer s H E am => (s_cons (s_ret (d_ite (d_val (d_call am 0 (d_cons (d_var 0) d_nil))) (d_tup d_nil) (d_ix (d_var 0) d_int)))
  s_nil)
def b17 : Sts := (.cons (.set (.n 2) (.call 8 (.cons (.var 0) .nil)))
  (.cons (.expr (.call 4 (.cons (.isi (.var 1) .str) .nil)))
  (.cons (.for (.n 3) (.seq (.var 2)) (.cons (.ite (.cmp .eq (.ix (.var 3) (.con (.int 0))) (.var 1)) (.cons (.ret (.var 3))
  .nil) .nil)
  .nil))
  (.cons .never
  .nil))))
def d17 : Def := ⟨(Str.ofString "sign_of"), top 30, [(Str.ofString "book"), (Str.ofString "name"), (Str.ofString "own"), (Str.ofString "sign")], [(Str.ofString "book"), (Str.ofString "name")], b17⟩
theorem g17 : Good T d17 where
  sc := ⟨rfl, rfl, rfl, by decide +kernel, rfl, by decide +kernel, by decide +kernel⟩
  wf := by decide +kernel
  der := fun C k P w K mg base f cdv A outer s H E am => (s_cons (s_set (d_call am 8 (d_cons (d_var 0) d_nil)) (d_tgn am 2))
  (s_cons (s_expr (d_call am 4 (d_cons (d_isi am 6 1 (d_var 1)) d_nil)))
  (s_cons (s_for am PassesOwn.never (d_seq (d_var 2)) (d_tgn am 3) (s_cons (s_if (d_cmpT am .eq (d_ix (d_var 3) d_int) (d_var 1)) (s_cons (s_ret (d_var 3))
  s_nil) s_nil)
  s_nil))
  (s_cons s_never
  s_nil))))
def b18 : Sts := (.cons (.ite (.call 0 (.cons (.var 1) .nil)) (.cons (.ret (.con (.int 1)))
  .nil) .nil)
  (.cons (.set (.n 2) (.blt .sum (.lc (.n 3) (.seq (.ix (.var 1) (.con (.int 1)))) (.con (.bool true)) (.call 18 (.cons (.var 0) (.cons (.var 3) .nil))) [3])))
  (.cons (.ret (.bin .add (.var 2) (.ite (.cmp .eq (.ix (.dget (.var 0) (.ix (.var 1) (.con (.int 0)))) (.con (.int 0))) (.con (.str (Str.ofString "bag")))) (.bin .sub (.blt .len (.ix (.var 1) (.con (.int 1)))) (.con (.int 1))) (.con (.int 1)))))
  .nil)))
def d18 : Def := ⟨(Str.ofString "words_in"), top 31, [(Str.ofString "signs"), (Str.ofString "own"), (Str.ofString "below"), (Str.ofString "part")], [(Str.ofString "signs"), (Str.ofString "own")], b18⟩
theorem g18 : Good T d18 where
  sc := ⟨rfl, rfl, rfl, by decide +kernel, rfl, by decide +kernel, by decide +kernel⟩
  wf := by decide +kernel
  der := fun C k P w K mg base f cdv A outer s H E am => (s_cons (s_if (d_val (d_call am 0 (d_cons (d_var 1) d_nil))) (s_cons (s_ret d_int)
  s_nil) s_nil)
  (s_cons (s_set (d_blt am .sum 9 (d_lc am [((Str.ofString "part"), 3)] (d_seq (d_ix (d_var 1) d_int)) (fun s1 H1 D1 cl1 fp1 => (d_tgn (am.blk s1 H1 _ _ fp1) 3)) (fun s1 H1 D1 cl1 fp1 => d_yes) (fun s1 H1 D1 cl1 fp1 => (d_call (am.blk s1 H1 _ _ fp1) 18 (d_cons (d_var 0) (d_cons (d_var 3) d_nil)))))) (d_tgn am 2))
  (s_cons (s_ret (d_bin .add (d_var 2) (d_ite (d_cmpT am .eq (d_ix (d_dget am (d_var 0) (d_ix (d_var 1) d_int)) d_int) (d_con am 5)) (d_bin .sub (d_blt am .len 4 (d_ix (d_var 1) d_int)) d_int) d_int)))
  s_nil)))
def b19 : Sts := (.cons (.set (.n 2) (.call 8 (.cons (.var 0) .nil)))
  (.cons (.ret (.call 18 (.cons (.call 9 (.cons (.var 2) .nil)) (.cons (.call 13 (.cons (.var 2) (.cons (.var 1) .nil))) .nil))))
  .nil))
def d19 : Def := ⟨(Str.ofString "words_of"), top 32, [(Str.ofString "book"), (Str.ofString "term"), (Str.ofString "own")], [(Str.ofString "book"), (Str.ofString "term")], b19⟩
theorem g19 : Good T d19 where
  sc := ⟨rfl, rfl, rfl, by decide +kernel, rfl, by decide +kernel, by decide +kernel⟩
  wf := by decide +kernel
  der := fun C k P w K mg base f cdv A outer s H E am => (s_cons (s_set (d_call am 8 (d_cons (d_var 0) d_nil)) (d_tgn am 2))
  (s_cons (s_ret (d_call am 18 (d_cons (d_call am 9 (d_cons (d_var 2) d_nil)) (d_cons (d_call am 13 (d_cons (d_var 2) (d_cons (d_var 1) d_nil))) d_nil))))
  s_nil))
def b20 : Sts := (.cons (.parOwn 1 2 .nil (.cons (.tup (.cons (.tup .nil) (.cons (.var 0) .nil))) .nil))
  (.cons (.while (.ownNe 2) (.cons (.set (.t [3, 4]) (.ownPop 2))
  (.cons (.ownApp 1 (.tup (.cons (.var 3) (.cons (.var 4) .nil))))
  (.cons (.ownExt 2 (.rev (.lc (.t [5, 6]) (.enum (.call 16 (.cons (.var 4) .nil))) (.con (.bool true)) (.tup (.cons (.star (.var 3) (.var 5)) (.cons (.var 6) .nil))) [5, 6])))
  .nil))))
  (.cons (.ret (.frz 1))
  .nil)))
def d20 : Def := ⟨(Str.ofString "walked"), top 33, [(Str.ofString "own"), (Str.ofString "found"), (Str.ofString "line"), (Str.ofString "path"), (Str.ofString "here"), (Str.ofString "place"), (Str.ofString "part")], [(Str.ofString "own")], b20⟩
theorem g20 : Good T d20 where
  sc := ⟨rfl, rfl, rfl, by decide +kernel, rfl, by decide +kernel, by decide +kernel⟩
  wf := by decide +kernel
  der := fun C k P w K mg base f cdv A outer s H E am => (s_cons (s_parOwn am 1 2 d_nil (d_cons (d_tup (d_cons (d_tup d_nil) (d_cons (d_var 0) d_nil))) d_nil))
  (s_cons (s_while PassesOwn.never (d_ownNeT am 2) (s_cons (s_set (d_ownPop 2) (d_tgt am (d_tgc am 3 (d_tgc am 4 d_tg0))))
  (s_cons (s_app 1 (d_tup (d_cons (d_var 3) (d_cons (d_var 4) d_nil))))
  (s_cons (s_ext 2 (d_rev (d_lc am [((Str.ofString "place"), 5), ((Str.ofString "part"), 6)] (d_enum am 10 (d_call am 16 (d_cons (d_var 4) d_nil))) (fun s1 H1 D1 cl1 fp1 => (d_tgt (am.blk s1 H1 _ _ fp1) (d_tgc (am.blk s1 H1 _ _ fp1) 5 (d_tgc (am.blk s1 H1 _ _ fp1) 6 d_tg0)))) (fun s1 H1 D1 cl1 fp1 => d_yes) (fun s1 H1 D1 cl1 fp1 => (d_tup (d_cons (d_star (d_var 3) (d_var 5)) (d_cons (d_var 6) d_nil)))))))
  s_nil))))
  (s_cons (s_ret (d_frz 1))
  s_nil)))
def b21 : Sts := (.cons (.ret (.blt .tuple (.srt (.lc (.t [1, 2]) (.seq (.call 20 (.cons (.var 0) .nil))) (.call 0 (.cons (.var 2) .nil)) (.var 2) [1, 2]))))
  .nil)
def d21 : Def := ⟨(Str.ofString "unknowns_in"), top 34, [(Str.ofString "own"), (Str.ofString "_"), (Str.ofString "here")], [(Str.ofString "own")], b21⟩
theorem g21 : Good T d21 where
  sc := ⟨rfl, rfl, rfl, by decide +kernel, rfl, by decide +kernel, by decide +kernel⟩
  wf := by decide +kernel
  der := fun C k P w K mg base f cdv A outer s H E am => (s_cons (s_ret (d_blt am .tuple 3 (d_srt am 11 12 (d_lc am [((Str.ofString "_"), 1), ((Str.ofString "here"), 2)] (d_seq (d_call am 20 (d_cons (d_var 0) d_nil))) (fun s1 H1 D1 cl1 fp1 => (d_tgt (am.blk s1 H1 _ _ fp1) (d_tgc (am.blk s1 H1 _ _ fp1) 1 (d_tgc (am.blk s1 H1 _ _ fp1) 2 d_tg0)))) (fun s1 H1 D1 cl1 fp1 => (d_test (d_val (d_call (am.blk s1 H1 _ _ fp1) 0 (d_cons (d_var 2) d_nil))))) (fun s1 H1 D1 cl1 fp1 => (d_var 2))))))
  s_nil)
def b22 : Sts := (.cons (.ret (.call 21 (.cons (.call 13 (.cons (.call 8 (.cons (.var 0) .nil)) (.cons (.var 1) .nil))) .nil)))
  .nil)
def d22 : Def := ⟨(Str.ofString "unknowns_of"), top 35, [(Str.ofString "book"), (Str.ofString "term")], [(Str.ofString "book"), (Str.ofString "term")], b22⟩
theorem g22 : Good T d22 where
  sc := ⟨rfl, rfl, rfl, by decide +kernel, rfl, by decide +kernel, by decide +kernel⟩
  wf := by decide +kernel
  der := fun C k P w K mg base f cdv A outer s H E am => (s_cons (s_ret (d_call am 21 (d_cons (d_call am 13 (d_cons (d_call am 8 (d_cons (d_var 0) d_nil)) (d_cons (d_var 1) d_nil))) d_nil)))
  s_nil)
def b23 : Sts := (.cons (.ret (.cmp .eq (.call 22 (.cons (.var 0) (.cons (.var 1) .nil))) (.tup .nil)))
  .nil)
def d23 : Def := ⟨(Str.ofString "is_closed"), top 36, [(Str.ofString "book"), (Str.ofString "term")], [(Str.ofString "book"), (Str.ofString "term")], b23⟩
theorem g23 : Good T d23 where
  sc := ⟨rfl, rfl, rfl, by decide +kernel, rfl, by decide +kernel, by decide +kernel⟩
  wf := by decide +kernel
  der := fun C k P w K mg base f cdv A outer s H E am => (s_cons (s_ret (d_cmp am .eq (d_call am 22 (d_cons (d_var 0) (d_cons (d_var 1) d_nil))) (d_tup d_nil)))
  s_nil)
def b24 : Sts := (.cons (.set (.n 2) (.call 13 (.cons (.call 8 (.cons (.var 0) .nil)) (.cons (.var 1) .nil))))
  (.cons (.ret (.blt .tuple (.srt (.lc (.t [3, 4]) (.seq (.call 20 (.cons (.var 2) .nil))) (.not (.call 0 (.cons (.var 4) .nil))) (.ix (.var 4) (.con (.int 0))) [3, 4]))))
  .nil))
def d24 : Def := ⟨(Str.ofString "names_in"), top 37, [(Str.ofString "book"), (Str.ofString "term"), (Str.ofString "own"), (Str.ofString "_"), (Str.ofString "here")], [(Str.ofString "book"), (Str.ofString "term")], b24⟩
theorem g24 : Good T d24 where
  sc := ⟨rfl, rfl, rfl, by decide +kernel, rfl, by decide +kernel, by decide +kernel⟩
  wf := by decide +kernel
  der := fun C k P w K mg base f cdv A outer s H E am => (s_cons (s_set (d_call am 13 (d_cons (d_call am 8 (d_cons (d_var 0) d_nil)) (d_cons (d_var 1) d_nil))) (d_tgn am 2))
  (s_cons (s_ret (d_blt am .tuple 3 (d_srt am 11 12 (d_lc am [((Str.ofString "_"), 3), ((Str.ofString "here"), 4)] (d_seq (d_call am 20 (d_cons (d_var 2) d_nil))) (fun s1 H1 D1 cl1 fp1 => (d_tgt (am.blk s1 H1 _ _ fp1) (d_tgc (am.blk s1 H1 _ _ fp1) 3 (d_tgc (am.blk s1 H1 _ _ fp1) 4 d_tg0)))) (fun s1 H1 D1 cl1 fp1 => (d_test (d_notT (d_val (d_call (am.blk s1 H1 _ _ fp1) 0 (d_cons (d_var 4) d_nil)))))) (fun s1 H1 D1 cl1 fp1 => (d_ix (d_var 4) d_int))))))
  s_nil))
def b25 : Sts := (.cons (.set (.n 3) (.call 13 (.cons (.call 8 (.cons (.var 0) .nil)) (.cons (.var 1) .nil))))
  (.cons (.expr (.call 4 (.cons (.call 1 (.cons (.var 2) (.cons (.con (.int 100)) .nil))) .nil)))
  (.cons (.ret (.blt .len (.lc (.t [4, 5]) (.seq (.call 20 (.cons (.var 3) .nil))) (.and (.call 0 (.cons (.var 5) .nil)) (.cmp .eq (.var 5) (.var 2))) (.var 5) [4, 5])))
  .nil)))
def d25 : Def := ⟨(Str.ofString "how_often"), top 38, [(Str.ofString "book"), (Str.ofString "term"), (Str.ofString "unknown"), (Str.ofString "own"), (Str.ofString "_"), (Str.ofString "here")], [(Str.ofString "book"), (Str.ofString "term"), (Str.ofString "unknown")], b25⟩
theorem g25 : Good T d25 where
  sc := ⟨rfl, rfl, rfl, by decide +kernel, rfl, by decide +kernel, by decide +kernel⟩
  wf := by decide +kernel
  der := fun C k P w K mg base f cdv A outer s H E am => (s_cons (s_set (d_call am 13 (d_cons (d_call am 8 (d_cons (d_var 0) d_nil)) (d_cons (d_var 1) d_nil))) (d_tgn am 3))
  (s_cons (s_expr (d_call am 4 (d_cons (d_call am 1 (d_cons (d_var 2) (d_cons (d_con am 7) d_nil))) d_nil)))
  (s_cons (s_ret (d_blt am .len 4 (d_lc am [((Str.ofString "_"), 4), ((Str.ofString "here"), 5)] (d_seq (d_call am 20 (d_cons (d_var 3) d_nil))) (fun s1 H1 D1 cl1 fp1 => (d_tgt (am.blk s1 H1 _ _ fp1) (d_tgc (am.blk s1 H1 _ _ fp1) 4 (d_tgc (am.blk s1 H1 _ _ fp1) 5 d_tg0)))) (fun s1 H1 D1 cl1 fp1 => (d_test (d_W (d_andW (d_val (d_call (am.blk s1 H1 _ _ fp1) 0 (d_cons (d_var 5) d_nil))) (d_and1W (d_cmpT (am.blk s1 H1 _ _ fp1) .eq (d_var 5) (d_var 2))))))) (fun s1 H1 D1 cl1 fp1 => (d_var 5)))))
  s_nil)))
def b26 : Sts := (.cons (.set (.n 2) (.call 13 (.cons (.call 8 (.cons (.var 0) .nil)) (.cons (.var 1) .nil))))
  (.cons (.ret (.bin .add (.con (.int 1)) (.blt .max (.lc (.t [3, 4]) (.seq (.call 20 (.cons (.var 2) .nil))) (.con (.bool true)) (.blt .len (.var 3)) [3, 4]))))
  .nil))
def d26 : Def := ⟨(Str.ofString "depth_of"), top 39, [(Str.ofString "book"), (Str.ofString "term"), (Str.ofString "own"), (Str.ofString "path"), (Str.ofString "_")], [(Str.ofString "book"), (Str.ofString "term")], b26⟩
theorem g26 : Good T d26 where
  sc := ⟨rfl, rfl, rfl, by decide +kernel, rfl, by decide +kernel, by decide +kernel⟩
  wf := by decide +kernel
  der := fun C k P w K mg base f cdv A outer s H E am => (s_cons (s_set (d_call am 13 (d_cons (d_call am 8 (d_cons (d_var 0) d_nil)) (d_cons (d_var 1) d_nil))) (d_tgn am 2))
  (s_cons (s_ret (d_bin .add d_int (d_blt am .max 13 (d_lc am [((Str.ofString "path"), 3), ((Str.ofString "_"), 4)] (d_seq (d_call am 20 (d_cons (d_var 2) d_nil))) (fun s1 H1 D1 cl1 fp1 => (d_tgt (am.blk s1 H1 _ _ fp1) (d_tgc (am.blk s1 H1 _ _ fp1) 3 (d_tgc (am.blk s1 H1 _ _ fp1) 4 d_tg0)))) (fun s1 H1 D1 cl1 fp1 => d_yes) (fun s1 H1 D1 cl1 fp1 => (d_blt (am.blk s1 H1 _ _ fp1) .len 4 (d_var 3)))))))
  s_nil))
def b27 : Sts := (.cons (.ret (.lc (.t [2, 3]) (.seq (.call 20 (.cons (.call 13 (.cons (.call 8 (.cons (.var 0) .nil)) (.cons (.var 1) .nil))) .nil))) (.con (.bool true)) (.var 2) [2, 3]))
  .nil)
def d27 : Def := ⟨(Str.ofString "paths_of"), top 40, [(Str.ofString "book"), (Str.ofString "term"), (Str.ofString "path"), (Str.ofString "_")], [(Str.ofString "book"), (Str.ofString "term")], b27⟩
theorem g27 : Good T d27 where
  sc := ⟨rfl, rfl, rfl, by decide +kernel, rfl, by decide +kernel, by decide +kernel⟩
  wf := by decide +kernel
  der := fun C k P w K mg base f cdv A outer s H E am => (s_cons (s_ret (d_lc am [((Str.ofString "path"), 2), ((Str.ofString "_"), 3)] (d_seq (d_call am 20 (d_cons (d_call am 13 (d_cons (d_call am 8 (d_cons (d_var 0) d_nil)) (d_cons (d_var 1) d_nil))) d_nil))) (fun s1 H1 D1 cl1 fp1 => (d_tgt (am.blk s1 H1 _ _ fp1) (d_tgc (am.blk s1 H1 _ _ fp1) 2 (d_tgc (am.blk s1 H1 _ _ fp1) 3 d_tg0)))) (fun s1 H1 D1 cl1 fp1 => d_yes) (fun s1 H1 D1 cl1 fp1 => (d_var 2))))
  s_nil)
def b28 : Sts := (.cons (.set (.n 2) (.var 0))
  (.cons (.for (.n 3) (.seq (.var 1)) (.cons (.set (.n 4) (.call 16 (.cons (.var 2) .nil)))
  (.cons (.ite (.cmp .ge (.var 3) (.blt .len (.var 4))) (.cons .never
  .nil) .nil)
  (.cons (.set (.n 2) (.ix (.var 4) (.var 3)))
  .nil))))
  (.cons (.ret (.var 2))
  .nil)))
def d28 : Def := ⟨(Str.ofString "part_told"), top 41, [(Str.ofString "own"), (Str.ofString "path"), (Str.ofString "here"), (Str.ofString "place"), (Str.ofString "parts")], [(Str.ofString "own"), (Str.ofString "path")], b28⟩
theorem g28 : Good T d28 where
  sc := ⟨rfl, rfl, rfl, by decide +kernel, rfl, by decide +kernel, by decide +kernel⟩
  wf := by decide +kernel
  der := fun C k P w K mg base f cdv A outer s H E am => (s_cons (s_set (d_var 0) (d_tgn am 2))
  (s_cons (s_for am PassesOwn.never (d_seq (d_var 1)) (d_tgn am 3) (s_cons (s_set (d_call am 16 (d_cons (d_var 2) d_nil)) (d_tgn am 4))
  (s_cons (s_if (d_cmpT am .ge (d_var 3) (d_blt am .len 4 (d_var 4))) (s_cons s_never
  s_nil) s_nil)
  (s_cons (s_set (d_ix (d_var 4) (d_var 3)) (d_tgn am 2))
  s_nil))))
  (s_cons (s_ret (d_var 2))
  s_nil)))
def b29 : Sts := (.cons (.set (.n 3) (.call 13 (.cons (.call 8 (.cons (.var 0) .nil)) (.cons (.var 1) .nil))))
  (.cons (.ret (.call 28 (.cons (.var 3) (.cons (.call 15 (.cons (.var 2) .nil)) .nil))))
  .nil))
def d29 : Def := ⟨(Str.ofString "part_at"), top 42, [(Str.ofString "book"), (Str.ofString "term"), (Str.ofString "path"), (Str.ofString "own")], [(Str.ofString "book"), (Str.ofString "term"), (Str.ofString "path")], b29⟩
theorem g29 : Good T d29 where
  sc := ⟨rfl, rfl, rfl, by decide +kernel, rfl, by decide +kernel, by decide +kernel⟩
  wf := by decide +kernel
  der := fun C k P w K mg base f cdv A outer s H E am => (s_cons (s_set (d_call am 13 (d_cons (d_call am 8 (d_cons (d_var 0) d_nil)) (d_cons (d_var 1) d_nil))) (d_tgn am 3))
  (s_cons (s_ret (d_call am 28 (d_cons (d_var 3) (d_cons (d_call am 15 (d_cons (d_var 2) d_nil)) d_nil))))
  s_nil))
def b30 : Sts := (.cons (.ite (.cmp .eq (.var 1) (.tup .nil)) (.cons (.ret (.var 2))
  .nil) .nil)
  (.cons (.own 3 (.blt .list (.ix (.var 0) (.con (.int 1)))))
  (.cons (.ownSet 3 (.ix (.var 1) (.con (.int 0))) (.call 30 (.cons (.ownIx 3 (.ix (.var 1) (.con (.int 0)))) (.cons (.sl (.var 1) (.con (.int 1)) (.con .none)) (.cons (.var 2) .nil)))))
  (.cons (.ret (.tup (.cons (.ix (.var 0) (.con (.int 0))) (.cons (.ownTup 3) .nil))))
  .nil))))
def d30 : Def := ⟨(Str.ofString "put_told_at"), top 43, [(Str.ofString "own"), (Str.ofString "path"), (Str.ofString "other"), (Str.ofString "parts")], [(Str.ofString "own"), (Str.ofString "path"), (Str.ofString "other")], b30⟩
theorem g30 : Good T d30 where
  sc := ⟨rfl, rfl, rfl, by decide +kernel, rfl, by decide +kernel, by decide +kernel⟩
  wf := by decide +kernel
  der := fun C k P w K mg base f cdv A outer s H E am => (s_cons (s_if (d_cmpT am .eq (d_var 1) (d_tup d_nil)) (s_cons (s_ret (d_var 2))
  s_nil) s_nil)
  (s_cons (s_own am 3 (d_blt am .list 5 (d_ix (d_var 0) d_int)))
  (s_cons (s_ownSet 3 (d_ix (d_var 1) d_int) (d_call am 30 (d_cons (d_ownIx 3 (d_ix (d_var 1) d_int)) (d_cons (d_sl (d_var 1) (d_part d_int) d_part0) (d_cons (d_var 2) d_nil)))))
  (s_cons (s_ret (d_tup (d_cons (d_ix (d_var 0) d_int) (d_cons (d_ownTup am 3 3) d_nil))))
  s_nil))))
def b31 : Sts := (.cons (.set (.n 4) (.call 8 (.cons (.var 0) .nil)))
  (.cons (.par 5 6 (.call 13 (.cons (.var 4) (.cons (.var 1) .nil))) (.call 15 (.cons (.var 2) .nil)))
  (.cons (.set (.n 7) (.call 13 (.cons (.var 4) (.cons (.var 3) .nil))))
  (.cons (.expr (.call 28 (.cons (.var 5) (.cons (.var 6) .nil))))
  (.cons (.ret (.call 30 (.cons (.var 5) (.cons (.var 6) (.cons (.var 7) .nil)))))
  .nil)))))
def d31 : Def := ⟨(Str.ofString "put_at"), top 44, [(Str.ofString "book"), (Str.ofString "term"), (Str.ofString "path"), (Str.ofString "other"), (Str.ofString "sure_one"), (Str.ofString "own"), (Str.ofString "place"), (Str.ofString "far")], [(Str.ofString "book"), (Str.ofString "term"), (Str.ofString "path"), (Str.ofString "other")], b31⟩
theorem g31 : Good T d31 where
  sc := ⟨rfl, rfl, rfl, by decide +kernel, rfl, by decide +kernel, by decide +kernel⟩
  wf := by decide +kernel
  der := fun C k P w K mg base f cdv A outer s H E am => (s_cons (s_set (d_call am 8 (d_cons (d_var 0) d_nil)) (d_tgn am 4))
  (s_cons (s_par am 5 6 (d_call am 13 (d_cons (d_var 4) (d_cons (d_var 1) d_nil))) (d_call am 15 (d_cons (d_var 2) d_nil)))
  (s_cons (s_set (d_call am 13 (d_cons (d_var 4) (d_cons (d_var 3) d_nil))) (d_tgn am 7))
  (s_cons (s_expr (d_call am 28 (d_cons (d_var 5) (d_cons (d_var 6) d_nil))))
  (s_cons (s_ret (d_call am 30 (d_cons (d_var 5) (d_cons (d_var 6) (d_cons (d_var 7) d_nil)))))
  s_nil)))))
def b32 : Sts := (.cons (.set (.n 2) (.ite (.cmp .lt (.var 1) (.blt .len (.var 0))) (.ix (.var 0) (.var 1)) (.con (.int 0))))
  (.cons (.ret (.box (.cons (.bin .mul (.blt .abs (.var 2)) (.blt .int (.cmp .ge (.blt .abs (.var 2)) (.bin .pow (.con (.int 10)) (.con (.int 18)))))) (.cons (.bin .add (.bin .add (.bin .mod (.blt .int (.var 2)) (.con (.int 2305843009213693951))) (.bin .mul (.con (.int 39373)) (.var 1))) (.con (.int 2322200))) (.cons (.con (.int 0)) .nil)))))
  .nil))
def d32 : Def := ⟨(Str.ofString "_law_box"), top 46, [(Str.ofString "script"), (Str.ofString "k"), (Str.ofString "cell")], [(Str.ofString "script"), (Str.ofString "k")], b32⟩
theorem g32 : Good T d32 where
  sc := ⟨rfl, rfl, rfl, by decide +kernel, rfl, by decide +kernel, by decide +kernel⟩
  wf := by decide +kernel
  der := fun C k P w K mg base f cdv A outer s H E am => (s_cons (s_set (d_ite (d_cmpT am .lt (d_var 1) (d_blt am .len 4 (d_var 0))) (d_ix (d_var 0) (d_var 1)) d_int) (d_tgn am 2))
  (s_cons (s_ret (d_box (d_cons (d_bin .mul (d_blt am .abs 14 (d_var 2)) (d_blt am .int 0 (d_cmp am .ge (d_blt am .abs 14 (d_var 2)) (d_bin .pow d_int d_int)))) (d_cons (d_bin .add (d_bin .add (d_bin .mod (d_blt am .int 0 (d_var 2)) d_int) (d_bin .mul d_int (d_var 1))) d_int) (d_cons d_int d_nil)))))
  s_nil))
def b33 : Sts := (.cons (.ite (.cmp .gt (.ix (.var 0) (.con (.int 0))) (.con (.int 0))) (.cons (.set (.n 2) (.bin .mod (.blt .int (.ix (.var 0) (.con (.int 0)))) (.var 1)))
  (.cons (.refSet (.var 0) (.con (.int 0)) (.bin .fdiv (.ix (.var 0) (.con (.int 0))) (.var 1)))
  (.cons (.ret (.var 2))
  .nil))) .nil)
  (.cons (.refSet (.var 0) (.con (.int 2)) (.bin .add (.ix (.var 0) (.con (.int 2))) (.con (.int 1))))
  (.cons (.set (.n 3) (.bin .mod (.blt .int (.bin .mul (.bin .add (.ix (.var 0) (.con (.int 1))) (.bin .mul (.con (.int 48271)) (.ix (.var 0) (.con (.int 2))))) (.bin .add (.con (.int 39373)) (.ix (.var 0) (.con (.int 2)))))) (.con (.int 2147483647))))
  (.cons (.set (.n 4) (.bin .add (.bin .mod (.blt .int (.var 3)) (.con (.int 40009))) (.con (.int 7))))
  (.cons (.set (.n 5) (.bin .mod (.blt .int (.bin .mul (.bin .add (.bin .add (.var 3) (.ix (.var 0) (.con (.int 2)))) (.bin .fdiv (.ix (.var 0) (.con (.int 1))) (.con (.int 1000003)))) (.var 4))) (.con (.int 2147483629))))
  (.cons (.ret (.bin .mod (.blt .int (.bin .fdiv (.bin .mod (.blt .int (.bin .add (.bin .mul (.var 5) (.con (.int 48271))) (.var 3))) (.con (.int 2147483587))) (.con (.int 64)))) (.var 1)))
  .nil))))))
def d33 : Def := ⟨(Str.ofString "_law_take"), top 47, [(Str.ofString "urn"), (Str.ofString "below"), (Str.ofString "drawn"), (Str.ofString "once"), (Str.ofString "far"), (Str.ofString "twice")], [(Str.ofString "urn"), (Str.ofString "below")], b33⟩
theorem g33 : Good T d33 where
  sc := ⟨rfl, rfl, rfl, by decide +kernel, rfl, by decide +kernel, by decide +kernel⟩
  wf := by decide +kernel
  der := fun C k P w K mg base f cdv A outer s H E am => (s_cons (s_if (d_cmpT am .gt (d_ix (d_var 0) d_int) d_int) (s_cons (s_set (d_bin .mod (d_blt am .int 0 (d_ix (d_var 0) d_int)) (d_var 1)) (d_tgn am 2))
  (s_cons (s_refSet (d_var 0) d_int (d_bin .fdiv (d_ix (d_var 0) d_int) (d_var 1)))
  (s_cons (s_ret (d_var 2))
  s_nil))) s_nil)
  (s_cons (s_refSet (d_var 0) d_int (d_bin .add (d_ix (d_var 0) d_int) d_int))
  (s_cons (s_set (d_bin .mod (d_blt am .int 0 (d_bin .mul (d_bin .add (d_ix (d_var 0) d_int) (d_bin .mul d_int (d_ix (d_var 0) d_int))) (d_bin .add d_int (d_ix (d_var 0) d_int)))) d_int) (d_tgn am 3))
  (s_cons (s_set (d_bin .add (d_bin .mod (d_blt am .int 0 (d_var 3)) d_int) d_int) (d_tgn am 4))
  (s_cons (s_set (d_bin .mod (d_blt am .int 0 (d_bin .mul (d_bin .add (d_bin .add (d_var 3) (d_ix (d_var 0) d_int)) (d_bin .fdiv (d_ix (d_var 0) d_int) d_int)) (d_var 4))) d_int) (d_tgn am 5))
  (s_cons (s_ret (d_bin .mod (d_blt am .int 0 (d_bin .fdiv (d_bin .mod (d_blt am .int 0 (d_bin .add (d_bin .mul (d_var 5) d_int) (d_var 3))) d_int) d_int)) (d_var 1)))
  s_nil))))))
def b34 : Sts := (.cons (.own 2 (.orL (.blt .list (.sl (.var 0) (.con .none) (.var 1))) (.lst (.cons (.con (.int 0)) .nil))))
  (.cons (.for (.t [3, 4]) (.enum (.sl (.var 0) (.var 1) (.con (.int 63)))) (.cons (.set (.n 5) (.bin .mod (.blt .int (.var 3)) (.var 1)))
  (.cons (.ownSet 2 (.var 5) (.bin .add (.ownIx 2 (.var 5)) (.bin .mul (.var 4) (.bin .add (.var 3) (.con (.int 2))))))
  .nil)))
  (.cons (.ret (.frz 2))
  .nil)))
def d34 : Def := ⟨(Str.ofString "_law_cells"), top 48, [(Str.ofString "script"), (Str.ofString "many"), (Str.ofString "cells"), (Str.ofString "k"), (Str.ofString "cell"), (Str.ofString "at")], [(Str.ofString "script"), (Str.ofString "many")], b34⟩
theorem g34 : Good T d34 where
  sc := ⟨rfl, rfl, rfl, by decide +kernel, rfl, by decide +kernel, by decide +kernel⟩
  wf := by decide +kernel
  der := fun C k P w K mg base f cdv A outer s H E am => (s_cons (s_own am 2 (d_orL (d_blt am .list 5 (d_sl (d_var 0) d_part0 (d_part (d_var 1)))) (d_lst (d_cons d_int d_nil))))
  (s_cons (s_for am PassesOwn.never (d_enum am 10 (d_sl (d_var 0) (d_part (d_var 1)) (d_part d_int))) (d_tgt am (d_tgc am 3 (d_tgc am 4 d_tg0))) (s_cons (s_set (d_bin .mod (d_blt am .int 0 (d_var 3)) (d_var 1)) (d_tgn am 5))
  (s_cons (s_ownSet 2 (d_var 5) (d_bin .add (d_ownIx 2 (d_var 5)) (d_bin .mul (d_var 4) (d_bin .add (d_var 3) d_int))))
  s_nil)))
  (s_cons (s_ret (d_frz 2))
  s_nil)))
def b35 : Sts := (.cons (.ret (.ix (.var 1) (.call 33 (.cons (.var 0) (.cons (.blt .len (.var 1)) .nil)))))
  .nil)
def d35 : Def := ⟨(Str.ofString "_law_of"), top 49, [(Str.ofString "urn"), (Str.ofString "some")], [(Str.ofString "urn"), (Str.ofString "some")], b35⟩
theorem g35 : Good T d35 where
  sc := ⟨rfl, rfl, rfl, by decide +kernel, rfl, by decide +kernel, by decide +kernel⟩
  wf := by decide +kernel
  der := fun C k P w K mg base f cdv A outer s H E am => (s_cons (s_ret (d_ix (d_var 1) (d_call am 33 (d_cons (d_var 0) (d_cons (d_blt am .len 4 (d_var 1)) d_nil)))))
  s_nil)
def b36 : Sts := (.cons (.ite (.isi2 (.var 1) .list .tuple) (.cons (.ite (.or (.cmp .ne (.isi (.var 0) .list) (.isi (.var 1) .list)) (.cmp .ne (.isi (.var 0) .tuple) (.isi (.var 1) .tuple))) (.cons (.ret (.con (.bool false)))
  .nil) .nil)
  (.cons (.ret (.and (.cmp .eq (.blt .len (.var 0)) (.blt .len (.var 1))) (.blt .all (.lc (.t [2, 3]) (.zip (.var 0) (.var 1)) (.con (.bool true)) (.call 36 (.cons (.var 2) (.cons (.var 3) .nil))) [2, 3]))))
  .nil)) .nil)
  (.cons (.ite (.or (.cmp .is (.var 1) (.con .none)) (.isi2 (.var 1) .bool .str)) (.cons (.ret (.and (.cmp .eq (.isi (.var 0) .str) (.isi (.var 1) .str)) (.and (.cmp .eq (.isi (.var 0) .bool) (.isi (.var 1) .bool)) (.and (.cmp .eq (.cmp .is (.var 0) (.con .none)) (.cmp .is (.var 1) (.con .none))) (.cmp .eq (.var 0) (.var 1))))))
  .nil) .nil)
  (.cons (.ret (.and (.isi (.var 0) .int) (.and (.not (.isi (.var 0) .bool)) (.cmp .eq (.var 0) (.var 1)))))
  .nil)))
def d36 : Def := ⟨(Str.ofString "_law_same"), top 50, [(Str.ofString "got"), (Str.ofString "due"), (Str.ofString "mine"), (Str.ofString "own")], [(Str.ofString "got"), (Str.ofString "due")], b36⟩
theorem g36 : Good T d36 where
  sc := ⟨rfl, rfl, rfl, by decide +kernel, rfl, by decide +kernel, by decide +kernel⟩
  wf := by decide +kernel
  der := fun C k P w K mg base f cdv A outer s H E am => (s_cons (s_if (d_val (d_isi2 am 5 3 1 (d_var 1))) (s_cons (s_if (d_W (d_orW (d_cmpT am .ne (d_isi am 5 1 (d_var 0)) (d_isi am 5 1 (d_var 1))) (d_or1W (d_cmpT am .ne (d_isi am 3 1 (d_var 0)) (d_isi am 3 1 (d_var 1)))))) (s_cons (s_ret d_bl)
  s_nil) s_nil)
  (s_cons (s_ret (d_and (d_cmp am .eq (d_blt am .len 4 (d_var 0)) (d_blt am .len 4 (d_var 1))) (d_one (d_blt am .all 7 (d_lc am [((Str.ofString "mine"), 2), ((Str.ofString "own"), 3)] (d_zip am 8 (d_var 0) (d_var 1)) (fun s1 H1 D1 cl1 fp1 => (d_tgt (am.blk s1 H1 _ _ fp1) (d_tgc (am.blk s1 H1 _ _ fp1) 2 (d_tgc (am.blk s1 H1 _ _ fp1) 3 d_tg0)))) (fun s1 H1 D1 cl1 fp1 => d_yes) (fun s1 H1 D1 cl1 fp1 => (d_call (am.blk s1 H1 _ _ fp1) 36 (d_cons (d_var 2) (d_cons (d_var 3) d_nil)))))))))
  s_nil)) s_nil)
  (s_cons (s_if (d_W (d_orW (d_cmpT am .is (d_var 1) d_non) (d_or1W (d_val (d_isi2 am 2 6 1 (d_var 1)))))) (s_cons (s_ret (d_and (d_cmp am .eq (d_isi am 6 1 (d_var 0)) (d_isi am 6 1 (d_var 1))) (d_and (d_cmp am .eq (d_isi am 2 1 (d_var 0)) (d_isi am 2 1 (d_var 1))) (d_and (d_cmp am .eq (d_cmp am .is (d_var 0) d_non) (d_cmp am .is (d_var 1) d_non)) (d_one (d_cmp am .eq (d_var 0) (d_var 1)))))))
  s_nil) s_nil)
  (s_cons (s_ret (d_and (d_isi am 0 1 (d_var 0)) (d_and (d_not (d_isi am 2 1 (d_var 0))) (d_one (d_cmp am .eq (d_var 0) (d_var 1))))))
  s_nil)))
def b37 : Sts := (.cons (.set (.n 1) (.lst (.cons (.tup (.cons (.tup (.cons (.con (.str (Str.ofString "a"))) (.cons (.con (.str (Str.ofString "plain"))) (.cons (.con (.int 0)) .nil)))) (.cons (.tup (.cons (.con (.str (Str.ofString "b"))) (.cons (.con (.str (Str.ofString "plain"))) (.cons (.con (.int 0)) .nil)))) (.cons (.tup (.cons (.con (.str (Str.ofString "f"))) (.cons (.con (.str (Str.ofString "plain"))) (.cons (.con (.int 1)) .nil)))) (.cons (.tup (.cons (.con (.str (Str.ofString "pair"))) (.cons (.con (.str (Str.ofString "swap"))) (.cons (.con (.int 2)) .nil)))) (.cons (.tup (.cons (.con (.str (Str.ofString "sum"))) (.cons (.con (.str (Str.ofString "bag"))) (.cons (.con (.int 2)) .nil)))) .nil)))))) (.cons (.tup (.cons (.tup (.cons (.con (.str (Str.ofString "a"))) (.cons (.con (.str (Str.ofString "plain"))) (.cons (.con (.int 0)) .nil)))) (.cons (.tup (.cons (.con (.str (Str.ofString "g"))) (.cons (.con (.str (Str.ofString "plain"))) (.cons (.con (.int 2)) .nil)))) (.cons (.tup (.cons (.con (.str (Str.ofString "sum"))) (.cons (.con (.str (Str.ofString "bag"))) (.cons (.con (.int 2)) .nil)))) .nil)))) .nil))))
  (.cons (.ret (.call 35 (.cons (.var 0) (.cons (.bin .add (.var 1) (.lst (.cons (.tup (.cons (.tup (.cons (.con (.str (Str.ofString "a"))) (.cons (.con (.str (Str.ofString "plain"))) (.cons (.con (.int 0)) .nil)))) (.cons (.tup (.cons (.con (.str (Str.ofString "b"))) (.cons (.con (.str (Str.ofString "plain"))) (.cons (.con (.int 0)) .nil)))) (.cons (.tup (.cons (.con (.str (Str.ofString "pair"))) (.cons (.con (.str (Str.ofString "swap"))) (.cons (.con (.int 2)) .nil)))) .nil)))) (.cons (.tup (.cons (.tup (.cons (.con (.str (Str.ofString "a"))) (.cons (.con (.str (Str.ofString "plain"))) (.cons (.con (.int 0)) .nil)))) (.cons (.tup (.cons (.con (.str (Str.ofString "b"))) (.cons (.con (.str (Str.ofString "plain"))) (.cons (.con (.int 0)) .nil)))) (.cons (.tup (.cons (.con (.str (Str.ofString "sum"))) (.cons (.con (.str (Str.ofString "bag"))) (.cons (.con (.int 2)) .nil)))) (.cons (.tup (.cons (.con (.str (Str.ofString "tot"))) (.cons (.con (.str (Str.ofString "bag"))) (.cons (.con (.int 2)) .nil)))) .nil))))) .nil)))) .nil))))
  .nil))
def d37 : Def := ⟨(Str.ofString "_law_all"), top 51, [(Str.ofString "urn"), (Str.ofString "some")], [(Str.ofString "urn")], b37⟩
theorem g37 : Good T d37 where
  sc := ⟨rfl, rfl, rfl, by decide +kernel, rfl, by decide +kernel, by decide +kernel⟩
  wf := by decide +kernel
  der := fun C k P w K mg base f cdv A outer s H E am => (s_cons (s_set (d_lst (d_cons (d_tup (d_cons (d_tup (d_cons d_str (d_cons d_str (d_cons d_int d_nil)))) (d_cons (d_tup (d_cons d_str (d_cons d_str (d_cons d_int d_nil)))) (d_cons (d_tup (d_cons d_str (d_cons d_str (d_cons d_int d_nil)))) (d_cons (d_tup (d_cons d_str (d_cons d_str (d_cons d_int d_nil)))) (d_cons (d_tup (d_cons d_str (d_cons d_str (d_cons d_int d_nil)))) d_nil)))))) (d_cons (d_tup (d_cons (d_tup (d_cons d_str (d_cons d_str (d_cons d_int d_nil)))) (d_cons (d_tup (d_cons d_str (d_cons d_str (d_cons d_int d_nil)))) (d_cons (d_tup (d_cons d_str (d_cons d_str (d_cons d_int d_nil)))) d_nil)))) d_nil))) (d_tgn am 1))
  (s_cons (s_ret (d_call am 35 (d_cons (d_var 0) (d_cons (d_bin .add (d_var 1) (d_lst (d_cons (d_tup (d_cons (d_tup (d_cons d_str (d_cons d_str (d_cons d_int d_nil)))) (d_cons (d_tup (d_cons d_str (d_cons d_str (d_cons d_int d_nil)))) (d_cons (d_tup (d_cons d_str (d_cons d_str (d_cons d_int d_nil)))) d_nil)))) (d_cons (d_tup (d_cons (d_tup (d_cons d_str (d_cons d_str (d_cons d_int d_nil)))) (d_cons (d_tup (d_cons d_str (d_cons d_str (d_cons d_int d_nil)))) (d_cons (d_tup (d_cons d_str (d_cons d_str (d_cons d_int d_nil)))) (d_cons (d_tup (d_cons d_str (d_cons d_str (d_cons d_int d_nil)))) d_nil))))) d_nil)))) d_nil))))
  s_nil))
def b38 : Sts := (.cons (.ite (.and (.cmp .ne (.var 2) (.tup .nil)) (.cmp .eq (.call 33 (.cons (.var 0) (.cons (.con (.int 3)) .nil))) (.con (.int 0)))) (.cons (.ret (.call 35 (.cons (.var 0) (.cons (.var 2) .nil))))
  .nil) .nil)
  (.cons (.set (.t [4, 5, 6]) (.call 35 (.cons (.var 0) (.cons (.lc (.n 8) (.seq (.var 1)) (.or (.cmp .eq (.ix (.var 8) (.con (.int 2))) (.con (.int 0))) (.cmp .gt (.var 3) (.con (.int 0)))) (.var 8) [8]) .nil))))
  (.cons (.set (.n 7) (.blt .tuple (.lc (.n 9) (.rng (.var 6)) (.con (.bool true)) (.call 38 (.cons (.var 0) (.cons (.var 1) (.cons (.var 2) (.cons (.bin .sub (.var 3) (.con (.int 1))) .nil))))) [9])))
  (.cons (.ite (.and (.cmp .eq (.var 5) (.con (.str (Str.ofString "bag")))) (.cmp .eq (.call 33 (.cons (.var 0) (.cons (.con (.int 3)) .nil))) (.con (.int 0)))) (.cons (.set (.n 7) (.bin .add (.var 7) (.tup (.cons (.call 35 (.cons (.var 0) (.cons (.var 7) .nil))) .nil))))
  .nil) .nil)
  (.cons (.ret (.tup (.cons (.var 4) (.cons (.var 7) .nil))))
  .nil)))))
def d38 : Def := ⟨(Str.ofString "_law_any"), top 52, [(Str.ofString "urn"), (Str.ofString "book"), (Str.ofString "unknowns"), (Str.ofString "deep"), (Str.ofString "name"), (Str.ofString "kind"), (Str.ofString "many"), (Str.ofString "parts"), (Str.ofString "sign"), (Str.ofString "part")], [(Str.ofString "urn"), (Str.ofString "book"), (Str.ofString "unknowns"), (Str.ofString "deep")], b38⟩
theorem g38 : Good T d38 where
  sc := ⟨rfl, rfl, rfl, by decide +kernel, rfl, by decide +kernel, by decide +kernel⟩
  wf := by decide +kernel
  der := fun C k P w K mg base f cdv A outer s H E am => (s_cons (s_if (d_W (d_andW (d_cmpT am .ne (d_var 2) (d_tup d_nil)) (d_and1W (d_cmpT am .eq (d_call am 33 (d_cons (d_var 0) (d_cons d_int d_nil))) d_int)))) (s_cons (s_ret (d_call am 35 (d_cons (d_var 0) (d_cons (d_var 2) d_nil))))
  s_nil) s_nil)
  (s_cons (s_set (d_call am 35 (d_cons (d_var 0) (d_cons (d_lc am [((Str.ofString "sign"), 8)] (d_seq (d_var 1)) (fun s1 H1 D1 cl1 fp1 => (d_tgn (am.blk s1 H1 _ _ fp1) 8)) (fun s1 H1 D1 cl1 fp1 => (d_test (d_W (d_orW (d_cmpT (am.blk s1 H1 _ _ fp1) .eq (d_ix (d_var 8) d_int) d_int) (d_or1W (d_cmpT (am.blk s1 H1 _ _ fp1) .gt (d_var 3) d_int)))))) (fun s1 H1 D1 cl1 fp1 => (d_var 8))) d_nil))) (d_tgt am (d_tgc am 4 (d_tgc am 5 (d_tgc am 6 d_tg0)))))
  (s_cons (s_set (d_blt am .tuple 3 (d_lc am [((Str.ofString "part"), 9)] (d_rng am 15 (d_var 6)) (fun s1 H1 D1 cl1 fp1 => (d_tgn (am.blk s1 H1 _ _ fp1) 9)) (fun s1 H1 D1 cl1 fp1 => d_yes) (fun s1 H1 D1 cl1 fp1 => (d_call (am.blk s1 H1 _ _ fp1) 38 (d_cons (d_var 0) (d_cons (d_var 1) (d_cons (d_var 2) (d_cons (d_bin .sub (d_var 3) d_int) d_nil)))))))) (d_tgn am 7))
  (s_cons (s_if (d_W (d_andW (d_cmpT am .eq (d_var 5) d_str) (d_and1W (d_cmpT am .eq (d_call am 33 (d_cons (d_var 0) (d_cons d_int d_nil))) d_int)))) (s_cons (s_set (d_bin .add (d_var 7) (d_tup (d_cons (d_call am 35 (d_cons (d_var 0) (d_cons (d_var 7) d_nil))) d_nil))) (d_tgn am 7))
  s_nil) s_nil)
  (s_cons (s_ret (d_tup (d_cons (d_var 4) (d_cons (d_var 7) d_nil))))
  s_nil)))))
def b39 : Sts := (.cons (.set (.n 1) (.lst (.cons (.tup (.cons (.tup .nil) (.cons (.var 0) .nil))) .nil)))
  (.cons (.ite (.not (.isi (.var 0) .int)) (.cons (.for (.t [2, 3]) (.enum (.ix (.var 0) (.con (.int 1)))) (.cons (.set (.n 1) (.bin .add (.var 1) (.lc (.t [4, 5]) (.seq (.call 39 (.cons (.var 3) .nil))) (.con (.bool true)) (.tup (.cons (.bin .add (.tup (.cons (.var 2) .nil)) (.var 4)) (.cons (.var 5) .nil))) [4, 5])))
  .nil))
  .nil) .nil)
  (.cons (.ret (.var 1))
  .nil)))
def d39 : Def := ⟨(Str.ofString "_law_pieces_of"), top 53, [(Str.ofString "term"), (Str.ofString "found"), (Str.ofString "place"), (Str.ofString "part"), (Str.ofString "path"), (Str.ofString "own")], [(Str.ofString "term")], b39⟩
theorem g39 : Good T d39 where
  sc := ⟨rfl, rfl, rfl, by decide +kernel, rfl, by decide +kernel, by decide +kernel⟩
  wf := by decide +kernel
  der := fun C k P w K mg base f cdv A outer s H E am => (s_cons (s_set (d_lst (d_cons (d_tup (d_cons (d_tup d_nil) (d_cons (d_var 0) d_nil))) d_nil)) (d_tgn am 1))
  (s_cons (s_if (d_notT (d_val (d_isi am 0 1 (d_var 0)))) (s_cons (s_for am PassesOwn.never (d_enum am 10 (d_ix (d_var 0) d_int)) (d_tgt am (d_tgc am 2 (d_tgc am 3 d_tg0))) (s_cons (s_set (d_bin .add (d_var 1) (d_lc am [((Str.ofString "path"), 4), ((Str.ofString "own"), 5)] (d_seq (d_call am 39 (d_cons (d_var 3) d_nil))) (fun s1 H1 D1 cl1 fp1 => (d_tgt (am.blk s1 H1 _ _ fp1) (d_tgc (am.blk s1 H1 _ _ fp1) 4 (d_tgc (am.blk s1 H1 _ _ fp1) 5 d_tg0)))) (fun s1 H1 D1 cl1 fp1 => d_yes) (fun s1 H1 D1 cl1 fp1 => (d_tup (d_cons (d_bin .add (d_tup (d_cons (d_var 2) d_nil)) (d_var 4)) (d_cons (d_var 5) d_nil)))))) (d_tgn am 1))
  s_nil))
  s_nil) s_nil)
  (s_cons (s_ret (d_var 1))
  s_nil)))
def b40 : Sts := (.cons (.ite (.isi (.var 0) .int) (.cons (.ret (.lst (.cons (.var 0) .nil)))
  .nil) .nil)
  (.cons (.set (.n 1) (.lst .nil))
  (.cons (.for (.n 2) (.seq (.ix (.var 0) (.con (.int 1)))) (.cons (.set (.n 1) (.bin .add (.var 1) (.call 40 (.cons (.var 2) .nil))))
  .nil))
  (.cons (.ret (.var 1))
  .nil))))
def d40 : Def := ⟨(Str.ofString "_law_bare"), top 54, [(Str.ofString "term"), (Str.ofString "found"), (Str.ofString "part")], [(Str.ofString "term")], b40⟩
theorem g40 : Good T d40 where
  sc := ⟨rfl, rfl, rfl, by decide +kernel, rfl, by decide +kernel, by decide +kernel⟩
  wf := by decide +kernel
  der := fun C k P w K mg base f cdv A outer s H E am => (s_cons (s_if (d_val (d_isi am 0 1 (d_var 0))) (s_cons (s_ret (d_lst (d_cons (d_var 0) d_nil)))
  s_nil) s_nil)
  (s_cons (s_set (d_lst d_nil) (d_tgn am 1))
  (s_cons (s_for am PassesOwn.never (d_seq (d_ix (d_var 0) d_int)) (d_tgn am 2) (s_cons (s_set (d_bin .add (d_var 1) (d_call am 40 (d_cons (d_var 2) d_nil))) (d_tgn am 1))
  s_nil))
  (s_cons (s_ret (d_var 1))
  s_nil))))
def b41 : Sts := (.cons (.ret (.ite (.isi2 (.var 0) .list .tuple) (.lc (.n 1) (.seq (.var 0)) (.con (.bool true)) (.call 41 (.cons (.var 1) .nil)) [1]) (.var 0)))
  .nil)
def d41 : Def := ⟨(Str.ofString "_law_soft"), top 55, [(Str.ofString "matter"), (Str.ofString "bit")], [(Str.ofString "matter")], b41⟩
theorem g41 : Good T d41 where
  sc := ⟨rfl, rfl, rfl, by decide +kernel, rfl, by decide +kernel, by decide +kernel⟩
  wf := by decide +kernel
  der := fun C k P w K mg base f cdv A outer s H E am => (s_cons (s_ret (d_ite (d_val (d_isi2 am 5 3 1 (d_var 0))) (d_lc am [((Str.ofString "bit"), 1)] (d_seq (d_var 0)) (fun s1 H1 D1 cl1 fp1 => (d_tgn (am.blk s1 H1 _ _ fp1) 1)) (fun s1 H1 D1 cl1 fp1 => d_yes) (fun s1 H1 D1 cl1 fp1 => (d_call (am.blk s1 H1 _ _ fp1) 41 (d_cons (d_var 1) d_nil)))) (d_var 0)))
  s_nil)
def b42 : Sts := (.cons (.ite (.cmp .eq (.var 1) (.tup .nil)) (.cons (.ret (.var 2))
  .nil) .nil)
  (.cons (.ret (.tup (.cons (.ix (.var 0) (.con (.int 0))) (.cons (.blt .tuple (.lc (.t [3, 4]) (.enum (.ix (.var 0) (.con (.int 1)))) (.con (.bool true)) (.ite (.cmp .eq (.var 3) (.ix (.var 1) (.con (.int 0)))) (.call 42 (.cons (.var 4) (.cons (.sl (.var 1) (.con (.int 1)) (.con .none)) (.cons (.var 2) .nil)))) (.var 4)) [3, 4])) .nil))))
  .nil))
def d42 : Def := ⟨(Str.ofString "_law_swapped_at"), top 56, [(Str.ofString "term"), (Str.ofString "path"), (Str.ofString "other"), (Str.ofString "place"), (Str.ofString "part")], [(Str.ofString "term"), (Str.ofString "path"), (Str.ofString "other")], b42⟩
theorem g42 : Good T d42 where
  sc := ⟨rfl, rfl, rfl, by decide +kernel, rfl, by decide +kernel, by decide +kernel⟩
  wf := by decide +kernel
  der := fun C k P w K mg base f cdv A outer s H E am => (s_cons (s_if (d_cmpT am .eq (d_var 1) (d_tup d_nil)) (s_cons (s_ret (d_var 2))
  s_nil) s_nil)
  (s_cons (s_ret (d_tup (d_cons (d_ix (d_var 0) d_int) (d_cons (d_blt am .tuple 3 (d_lc am [((Str.ofString "place"), 3), ((Str.ofString "part"), 4)] (d_enum am 10 (d_ix (d_var 0) d_int)) (fun s1 H1 D1 cl1 fp1 => (d_tgt (am.blk s1 H1 _ _ fp1) (d_tgc (am.blk s1 H1 _ _ fp1) 3 (d_tgc (am.blk s1 H1 _ _ fp1) 4 d_tg0)))) (fun s1 H1 D1 cl1 fp1 => d_yes) (fun s1 H1 D1 cl1 fp1 => (d_ite (d_cmpT (am.blk s1 H1 _ _ fp1) .eq (d_var 3) (d_ix (d_var 1) d_int)) (d_call (am.blk s1 H1 _ _ fp1) 42 (d_cons (d_var 4) (d_cons (d_sl (d_var 1) (d_part d_int) d_part0) (d_cons (d_var 2) d_nil)))) (d_var 4))))) d_nil))))
  s_nil))
def b43 : Sts := (.cons (.ite (.isi (.var 1) .int) (.cons (.ret (.con (.int 1)))
  .nil) .nil)
  (.cons (.set (.n 2) (.ix (.lc (.n 3) (.seq (.var 0)) (.cmp .eq (.ix (.var 3) (.con (.int 0))) (.ix (.var 1) (.con (.int 0)))) (.ix (.var 3) (.con (.int 1))) [3]) (.con (.int 0))))
  (.cons (.ret (.bin .add (.ite (.cmp .eq (.var 2) (.con (.str (Str.ofString "bag")))) (.bin .sub (.blt .len (.ix (.var 1) (.con (.int 1)))) (.con (.int 1))) (.con (.int 1))) (.blt .sum (.lc (.n 4) (.seq (.ix (.var 1) (.con (.int 1)))) (.con (.bool true)) (.call 43 (.cons (.var 0) (.cons (.var 4) .nil))) [4]))))
  .nil)))
def d43 : Def := ⟨(Str.ofString "_law_words_all"), top 57, [(Str.ofString "book"), (Str.ofString "term"), (Str.ofString "kind"), (Str.ofString "sign"), (Str.ofString "part")], [(Str.ofString "book"), (Str.ofString "term")], b43⟩
theorem g43 : Good T d43 where
  sc := ⟨rfl, rfl, rfl, by decide +kernel, rfl, by decide +kernel, by decide +kernel⟩
  wf := by decide +kernel
  der := fun C k P w K mg base f cdv A outer s H E am => (s_cons (s_if (d_val (d_isi am 0 1 (d_var 1))) (s_cons (s_ret d_int)
  s_nil) s_nil)
  (s_cons (s_set (d_ix (d_lc am [((Str.ofString "sign"), 3)] (d_seq (d_var 0)) (fun s1 H1 D1 cl1 fp1 => (d_tgn (am.blk s1 H1 _ _ fp1) 3)) (fun s1 H1 D1 cl1 fp1 => (d_test (d_cmpT (am.blk s1 H1 _ _ fp1) .eq (d_ix (d_var 3) d_int) (d_ix (d_var 1) d_int)))) (fun s1 H1 D1 cl1 fp1 => (d_ix (d_var 3) d_int))) d_int) (d_tgn am 2))
  (s_cons (s_ret (d_bin .add (d_ite (d_cmpT am .eq (d_var 2) d_str) (d_bin .sub (d_blt am .len 4 (d_ix (d_var 1) d_int)) d_int) d_int) (d_blt am .sum 9 (d_lc am [((Str.ofString "part"), 4)] (d_seq (d_ix (d_var 1) d_int)) (fun s1 H1 D1 cl1 fp1 => (d_tgn (am.blk s1 H1 _ _ fp1) 4)) (fun s1 H1 D1 cl1 fp1 => d_yes) (fun s1 H1 D1 cl1 fp1 => (d_call (am.blk s1 H1 _ _ fp1) 43 (d_cons (d_var 0) (d_cons (d_var 4) d_nil))))))))
  s_nil)))
def b45 : Sts := (.cons (.set (.n 2) (.call 37 (.cons (.var 0) .nil)))
  (.cons (.set (.t [3, 4]) (.tup (.cons (.call 38 (.cons (.var 0) (.cons (.var 2) (.cons (.tup (.cons (.con (.int 0)) (.cons (.con (.int 1)) (.cons (.con (.int 2)) .nil)))) (.cons (.con (.int 3)) .nil))))) (.cons (.call 38 (.cons (.var 0) (.cons (.var 2) (.cons (.tup (.cons (.con (.int 0)) (.cons (.con (.int 1)) .nil))) (.cons (.con (.int 1)) .nil))))) .nil))))
  (.cons (.set (.t [5, 6]) (.tup (.cons (.call 39 (.cons (.var 3) .nil)) (.cons (.call 40 (.cons (.var 3) .nil)) .nil))))
  (.cons (.set (.n 7) (.srt (.lc (.t [10, 11]) (.seq (.var 5)) (.not (.isi (.var 11) .int)) (.ix (.var 11) (.con (.int 0))) [10, 11])))
  (.cons (.set (.n 8) (.lst (.cons (.call 19 (.cons (.var 2) (.cons (.call 41 (.cons (.var 3) .nil)) .nil))) (.cons (.call 26 (.cons (.var 2) (.cons (.var 3) .nil))) (.cons (.call 22 (.cons (.var 2) (.cons (.var 3) .nil))) (.cons (.call 24 (.cons (.var 2) (.cons (.var 3) .nil))) (.cons (.call 23 (.cons (.var 2) (.cons (.var 3) .nil))) (.cons (.call 27 (.cons (.var 2) (.cons (.var 3) .nil))) .nil))))))))
  (.cons (.set (.n 9) (.lst (.cons (.call 43 (.cons (.var 2) (.cons (.var 3) .nil))) (.cons (.bin .add (.con (.int 1)) (.blt .max (.lc (.t [10, 11]) (.seq (.var 5)) (.con (.bool true)) (.blt .len (.var 10)) [10, 11]))) (.cons (.blt .tuple (.srt (.var 6))) (.cons (.blt .tuple (.var 7)) (.cons (.cmp .eq (.var 6) (.lst .nil)) (.cons (.lc (.t [10, 11]) (.seq (.var 5)) (.con (.bool true)) (.var 10) [10, 11]) .nil))))))))
  (.cons (.ite (.not (.call 36 (.cons (.var 8) (.cons (.var 9) .nil)))) (.cons (.ret (.con (.bool false)))
  .nil) .nil)
  (.cons (.ite (.not (.call 36 (.cons (.lc (.n 14) (.rng (.con (.int 4))) (.con (.bool true)) (.call 25 (.cons (.var 2) (.cons (.var 3) (.cons (.var 14) .nil)))) [14]) (.cons (.lc (.n 14) (.rng (.con (.int 4))) (.con (.bool true)) (.count (.var 6) (.var 14)) [14]) .nil)))) (.cons (.ret (.con (.bool false)))
  .nil) .nil)
  (.cons (.for (.t [10, 11]) (.seq (.sl (.var 5) (.con .none) (.con (.int 9)))) (.cons (.set (.n 12) (.call 31 (.cons (.var 2) (.cons (.var 3) (.cons (.blt .list (.var 10)) (.cons (.var 4) .nil))))))
  (.cons (.ite (.not (.call 36 (.cons (.lst (.cons (.call 29 (.cons (.var 2) (.cons (.var 3) (.cons (.var 10) .nil)))) (.cons (.var 12) (.cons (.call 29 (.cons (.var 2) (.cons (.var 12) (.cons (.var 10) .nil)))) .nil)))) (.cons (.lst (.cons (.var 11) (.cons (.call 42 (.cons (.var 3) (.cons (.var 10) (.cons (.var 4) .nil)))) (.cons (.var 4) .nil)))) .nil)))) (.cons (.ret (.con (.bool false)))
  .nil) .nil)
  (.cons (.set (.n 13) (.call 40 (.cons (.var 11) .nil)))
  (.cons (.for (.n 14) (.seq (.tup (.cons (.con (.int 0)) (.cons (.con (.int 1)) (.cons (.con (.int 2)) .nil))))) (.cons (.ite (.cmp .ne (.call 25 (.cons (.var 2) (.cons (.var 12) (.cons (.var 14) .nil)))) (.bin .add (.bin .sub (.count (.var 6) (.var 14)) (.count (.var 13) (.var 14))) (.count (.call 40 (.cons (.var 4) .nil)) (.var 14)))) (.cons (.ret (.con (.bool false)))
  .nil) .nil)
  .nil))
  (.cons (.ite (.not (.call 36 (.cons (.call 19 (.cons (.var 2) (.cons (.var 12) .nil))) (.cons (.bin .add (.bin .sub (.call 43 (.cons (.var 2) (.cons (.var 3) .nil))) (.call 43 (.cons (.var 2) (.cons (.var 11) .nil)))) (.call 43 (.cons (.var 2) (.cons (.var 4) .nil)))) .nil)))) (.cons (.ret (.con (.bool false)))
  .nil) .nil)
  (.cons (.ite (.and (.isi (.var 11) .int) (.not (.call 36 (.cons (.call 44 (.cons (.var 2) (.cons (.var 3) (.cons (.bin .add (.var 10) (.tup (.cons (.con (.int 0)) .nil))) .nil)))) (.cons (.tup (.cons (.con (.str (Str.ofString "no place"))) (.cons (.bin .add (.var 10) (.tup (.cons (.con (.int 0)) .nil))) .nil))) .nil))))) (.cons (.ret (.con (.bool false)))
  .nil) .nil)
  (.cons (.ite (.and (.not (.isi (.var 11) .int)) (.not (.call 36 (.cons (.call 44 (.cons (.var 2) (.cons (.var 3) (.cons (.bin .add (.var 10) (.tup (.cons (.blt .len (.ix (.var 11) (.con (.int 1)))) .nil))) .nil)))) (.cons (.tup (.cons (.con (.str (Str.ofString "no place"))) (.cons (.bin .add (.var 10) (.tup (.cons (.blt .len (.ix (.var 11) (.con (.int 1)))) .nil))) .nil))) .nil))))) (.cons (.ret (.con (.bool false)))
  .nil) .nil)
  .nil))))))))
  (.cons (.set (.t [15, 16, 17]) (.call 35 (.cons (.var 0) (.cons (.var 2) .nil))))
  (.cons (.set (.n 18) (.lst (.cons (.ite (.not (.isi (.var 3) .int)) (.call 41 (.cons (.var 3) .nil)) (.neg (.con (.int 1)))) (.cons (.tup (.cons (.var 15) (.cons (.bin .mul (.tup (.cons (.con (.int 0)) .nil)) (.ite (.cmp .ne (.var 16) (.con (.str (Str.ofString "bag")))) (.bin .add (.var 17) (.con (.int 1))) (.con (.int 1)))) .nil))) (.cons (.tup (.cons (.var 15) .nil)) (.cons (.tup (.cons (.var 15) (.cons (.con (.int 0)) .nil))) (.cons (.tup (.cons (.con (.str (Str.ofString "no"))) (.cons (.tup .nil) .nil))) (.cons (.con (.int 100)) (.cons (.con (.bool true)) (.cons (.con .none) (.cons (.tup (.cons (.var 15) (.cons (.bin .mul (.tup (.cons (.con (.int 0)) .nil)) (.var 17)) (.cons (.con (.int 0)) .nil)))) (.cons (.var 15) .nil))))))))))))
  (.cons (.ite (.not (.call 36 (.cons (.bin .add (.lc (.n 11) (.seq (.var 18)) (.con (.bool true)) (.call 12 (.cons (.var 2) (.cons (.var 11) .nil))) [11]) (.lst (.cons (.call 12 (.cons (.var 2) (.cons (.var 3) .nil))) (.cons (.call 12 (.cons (.var 2) (.cons (.tup (.cons (.var 15) (.cons (.bin .mul (.tup (.cons (.var 4) .nil)) (.var 17)) .nil))) .nil))) .nil)))) (.cons (.bin .add (.bin .mul (.lst (.cons (.con (.bool false)) .nil)) (.con (.int 10))) (.lst (.cons (.con (.bool true)) (.cons (.con (.bool true)) .nil)))) .nil)))) (.cons (.ret (.con (.bool false)))
  .nil) .nil)
  (.cons (.set (.n 19) (.tup (.cons (.var 15) (.cons (.bin .mul (.tup (.cons (.var 4) .nil)) (.bin .add (.var 17) (.con (.int 2)))) .nil))))
  (.cons (.ret (.call 36 (.cons (.lst (.cons (.call 12 (.cons (.var 2) (.cons (.var 19) .nil))) (.cons (.call 17 (.cons (.var 2) (.cons (.var 15) .nil))) .nil))) (.cons (.lst (.cons (.cmp .eq (.var 16) (.con (.str (Str.ofString "bag")))) (.cons (.tup (.cons (.var 15) (.cons (.var 16) (.cons (.var 17) .nil)))) .nil))) .nil))))
  .nil))))))))))))))
def d45 : Def := ⟨(Str.ofString "_law_lap"), top 59, [(Str.ofString "urn"), (Str.ofString "lap"), (Str.ofString "book"), (Str.ofString "term"), (Str.ofString "other"), (Str.ofString "walked_v"), (Str.ofString "bare"), (Str.ofString "names"), (Str.ofString "got"), (Str.ofString "due"), (Str.ofString "path"), (Str.ofString "own"), (Str.ofString "whole"), (Str.ofString "mine"), (Str.ofString "unknown"), (Str.ofString "name"), (Str.ofString "kind"), (Str.ofString "many"), (Str.ofString "odd"), (Str.ofString "wide")], [(Str.ofString "urn"), (Str.ofString "lap")], b45⟩
theorem g45 : Good T d45 where
  sc := ⟨rfl, rfl, rfl, by decide +kernel, rfl, by decide +kernel, by decide +kernel⟩
  wf := by decide +kernel
  der := fun C k P w K mg base f cdv A outer s H E am => (s_cons (s_set (d_call am 37 (d_cons (d_var 0) d_nil)) (d_tgn am 2))
  (s_cons (s_set (d_tup (d_cons (d_call am 38 (d_cons (d_var 0) (d_cons (d_var 2) (d_cons (d_tup (d_cons d_int (d_cons d_int (d_cons d_int d_nil)))) (d_cons d_int d_nil))))) (d_cons (d_call am 38 (d_cons (d_var 0) (d_cons (d_var 2) (d_cons (d_tup (d_cons d_int (d_cons d_int d_nil))) (d_cons d_int d_nil))))) d_nil))) (d_tgt am (d_tgc am 3 (d_tgc am 4 d_tg0))))
  (s_cons (s_set (d_tup (d_cons (d_call am 39 (d_cons (d_var 3) d_nil)) (d_cons (d_call am 40 (d_cons (d_var 3) d_nil)) d_nil))) (d_tgt am (d_tgc am 5 (d_tgc am 6 d_tg0))))
  (s_cons (s_set (d_srt am 11 12 (d_lc am [((Str.ofString "path"), 10), ((Str.ofString "own"), 11)] (d_seq (d_var 5)) (fun s1 H1 D1 cl1 fp1 => (d_tgt (am.blk s1 H1 _ _ fp1) (d_tgc (am.blk s1 H1 _ _ fp1) 10 (d_tgc (am.blk s1 H1 _ _ fp1) 11 d_tg0)))) (fun s1 H1 D1 cl1 fp1 => (d_test (d_notT (d_val (d_isi (am.blk s1 H1 _ _ fp1) 0 1 (d_var 11)))))) (fun s1 H1 D1 cl1 fp1 => (d_ix (d_var 11) d_int)))) (d_tgn am 7))
  (s_cons (s_set (d_lst (d_cons (d_call am 19 (d_cons (d_var 2) (d_cons (d_call am 41 (d_cons (d_var 3) d_nil)) d_nil))) (d_cons (d_call am 26 (d_cons (d_var 2) (d_cons (d_var 3) d_nil))) (d_cons (d_call am 22 (d_cons (d_var 2) (d_cons (d_var 3) d_nil))) (d_cons (d_call am 24 (d_cons (d_var 2) (d_cons (d_var 3) d_nil))) (d_cons (d_call am 23 (d_cons (d_var 2) (d_cons (d_var 3) d_nil))) (d_cons (d_call am 27 (d_cons (d_var 2) (d_cons (d_var 3) d_nil))) d_nil))))))) (d_tgn am 8))
  (s_cons (s_set (d_lst (d_cons (d_call am 43 (d_cons (d_var 2) (d_cons (d_var 3) d_nil))) (d_cons (d_bin .add d_int (d_blt am .max 13 (d_lc am [((Str.ofString "path"), 10), ((Str.ofString "own"), 11)] (d_seq (d_var 5)) (fun s1 H1 D1 cl1 fp1 => (d_tgt (am.blk s1 H1 _ _ fp1) (d_tgc (am.blk s1 H1 _ _ fp1) 10 (d_tgc (am.blk s1 H1 _ _ fp1) 11 d_tg0)))) (fun s1 H1 D1 cl1 fp1 => d_yes) (fun s1 H1 D1 cl1 fp1 => (d_blt (am.blk s1 H1 _ _ fp1) .len 4 (d_var 10)))))) (d_cons (d_blt am .tuple 3 (d_srt am 11 12 (d_var 6))) (d_cons (d_blt am .tuple 3 (d_var 7)) (d_cons (d_cmp am .eq (d_var 6) (d_lst d_nil)) (d_cons (d_lc am [((Str.ofString "path"), 10), ((Str.ofString "own"), 11)] (d_seq (d_var 5)) (fun s1 H1 D1 cl1 fp1 => (d_tgt (am.blk s1 H1 _ _ fp1) (d_tgc (am.blk s1 H1 _ _ fp1) 10 (d_tgc (am.blk s1 H1 _ _ fp1) 11 d_tg0)))) (fun s1 H1 D1 cl1 fp1 => d_yes) (fun s1 H1 D1 cl1 fp1 => (d_var 10))) d_nil))))))) (d_tgn am 9))
  (s_cons (s_if (d_notT (d_val (d_call am 36 (d_cons (d_var 8) (d_cons (d_var 9) d_nil))))) (s_cons (s_ret d_bl)
  s_nil) s_nil)
  (s_cons (s_if (d_notT (d_val (d_call am 36 (d_cons (d_lc am [((Str.ofString "unknown"), 14)] (d_rng am 15 d_int) (fun s1 H1 D1 cl1 fp1 => (d_tgn (am.blk s1 H1 _ _ fp1) 14)) (fun s1 H1 D1 cl1 fp1 => d_yes) (fun s1 H1 D1 cl1 fp1 => (d_call (am.blk s1 H1 _ _ fp1) 25 (d_cons (d_var 2) (d_cons (d_var 3) (d_cons (d_var 14) d_nil)))))) (d_cons (d_lc am [((Str.ofString "unknown"), 14)] (d_rng am 15 d_int) (fun s1 H1 D1 cl1 fp1 => (d_tgn (am.blk s1 H1 _ _ fp1) 14)) (fun s1 H1 D1 cl1 fp1 => d_yes) (fun s1 H1 D1 cl1 fp1 => (d_count (d_var 6) (d_var 14)))) d_nil))))) (s_cons (s_ret d_bl)
  s_nil) s_nil)
  (s_cons (s_for am PassesOwn.never (d_seq (d_sl (d_var 5) d_part0 (d_part d_int))) (d_tgt am (d_tgc am 10 (d_tgc am 11 d_tg0))) (s_cons (s_set (d_call am 31 (d_cons (d_var 2) (d_cons (d_var 3) (d_cons (d_blt am .list 5 (d_var 10)) (d_cons (d_var 4) d_nil))))) (d_tgn am 12))
  (s_cons (s_if (d_notT (d_val (d_call am 36 (d_cons (d_lst (d_cons (d_call am 29 (d_cons (d_var 2) (d_cons (d_var 3) (d_cons (d_var 10) d_nil)))) (d_cons (d_var 12) (d_cons (d_call am 29 (d_cons (d_var 2) (d_cons (d_var 12) (d_cons (d_var 10) d_nil)))) d_nil)))) (d_cons (d_lst (d_cons (d_var 11) (d_cons (d_call am 42 (d_cons (d_var 3) (d_cons (d_var 10) (d_cons (d_var 4) d_nil)))) (d_cons (d_var 4) d_nil)))) d_nil))))) (s_cons (s_ret d_bl)
  s_nil) s_nil)
  (s_cons (s_set (d_call am 40 (d_cons (d_var 11) d_nil)) (d_tgn am 13))
  (s_cons (s_for am PassesOwn.never (d_seq (d_tup (d_cons d_int (d_cons d_int (d_cons d_int d_nil))))) (d_tgn am 14) (s_cons (s_if (d_cmpT am .ne (d_call am 25 (d_cons (d_var 2) (d_cons (d_var 12) (d_cons (d_var 14) d_nil)))) (d_bin .add (d_bin .sub (d_count (d_var 6) (d_var 14)) (d_count (d_var 13) (d_var 14))) (d_count (d_call am 40 (d_cons (d_var 4) d_nil)) (d_var 14)))) (s_cons (s_ret d_bl)
  s_nil) s_nil)
  s_nil))
  (s_cons (s_if (d_notT (d_val (d_call am 36 (d_cons (d_call am 19 (d_cons (d_var 2) (d_cons (d_var 12) d_nil))) (d_cons (d_bin .add (d_bin .sub (d_call am 43 (d_cons (d_var 2) (d_cons (d_var 3) d_nil))) (d_call am 43 (d_cons (d_var 2) (d_cons (d_var 11) d_nil)))) (d_call am 43 (d_cons (d_var 2) (d_cons (d_var 4) d_nil)))) d_nil))))) (s_cons (s_ret d_bl)
  s_nil) s_nil)
  (s_cons (s_if (d_W (d_andW (d_val (d_isi am 0 1 (d_var 11))) (d_and1W (d_notT (d_val (d_call am 36 (d_cons (d_call am 44 (d_cons (d_var 2) (d_cons (d_var 3) (d_cons (d_bin .add (d_var 10) (d_tup (d_cons d_int d_nil))) d_nil)))) (d_cons (d_tup (d_cons d_str (d_cons (d_bin .add (d_var 10) (d_tup (d_cons d_int d_nil))) d_nil))) d_nil)))))))) (s_cons (s_ret d_bl)
  s_nil) s_nil)
  (s_cons (s_if (d_W (d_andW (d_notT (d_val (d_isi am 0 1 (d_var 11)))) (d_and1W (d_notT (d_val (d_call am 36 (d_cons (d_call am 44 (d_cons (d_var 2) (d_cons (d_var 3) (d_cons (d_bin .add (d_var 10) (d_tup (d_cons (d_blt am .len 4 (d_ix (d_var 11) d_int)) d_nil))) d_nil)))) (d_cons (d_tup (d_cons d_str (d_cons (d_bin .add (d_var 10) (d_tup (d_cons (d_blt am .len 4 (d_ix (d_var 11) d_int)) d_nil))) d_nil))) d_nil)))))))) (s_cons (s_ret d_bl)
  s_nil) s_nil)
  s_nil))))))))
  (s_cons (s_set (d_call am 35 (d_cons (d_var 0) (d_cons (d_var 2) d_nil))) (d_tgt am (d_tgc am 15 (d_tgc am 16 (d_tgc am 17 d_tg0)))))
  (s_cons (s_set (d_lst (d_cons (d_ite (d_notT (d_val (d_isi am 0 1 (d_var 3)))) (d_call am 41 (d_cons (d_var 3) d_nil)) (d_neg d_int)) (d_cons (d_tup (d_cons (d_var 15) (d_cons (d_bin .mul (d_tup (d_cons d_int d_nil)) (d_ite (d_cmpT am .ne (d_var 16) d_str) (d_bin .add (d_var 17) d_int) d_int)) d_nil))) (d_cons (d_tup (d_cons (d_var 15) d_nil)) (d_cons (d_tup (d_cons (d_var 15) (d_cons d_int d_nil))) (d_cons (d_tup (d_cons d_str (d_cons (d_tup d_nil) d_nil))) (d_cons d_int (d_cons d_bl (d_cons d_non (d_cons (d_tup (d_cons (d_var 15) (d_cons (d_bin .mul (d_tup (d_cons d_int d_nil)) (d_var 17)) (d_cons d_int d_nil)))) (d_cons (d_var 15) d_nil))))))))))) (d_tgn am 18))
  (s_cons (s_if (d_notT (d_val (d_call am 36 (d_cons (d_bin .add (d_lc am [((Str.ofString "own"), 11)] (d_seq (d_var 18)) (fun s1 H1 D1 cl1 fp1 => (d_tgn (am.blk s1 H1 _ _ fp1) 11)) (fun s1 H1 D1 cl1 fp1 => d_yes) (fun s1 H1 D1 cl1 fp1 => (d_call (am.blk s1 H1 _ _ fp1) 12 (d_cons (d_var 2) (d_cons (d_var 11) d_nil))))) (d_lst (d_cons (d_call am 12 (d_cons (d_var 2) (d_cons (d_var 3) d_nil))) (d_cons (d_call am 12 (d_cons (d_var 2) (d_cons (d_tup (d_cons (d_var 15) (d_cons (d_bin .mul (d_tup (d_cons (d_var 4) d_nil)) (d_var 17)) d_nil))) d_nil))) d_nil)))) (d_cons (d_bin .add (d_bin .mul (d_lst (d_cons d_bl d_nil)) d_int) (d_lst (d_cons d_bl (d_cons d_bl d_nil)))) d_nil))))) (s_cons (s_ret d_bl)
  s_nil) s_nil)
  (s_cons (s_set (d_tup (d_cons (d_var 15) (d_cons (d_bin .mul (d_tup (d_cons (d_var 4) d_nil)) (d_bin .add (d_var 17) d_int)) d_nil))) (d_tgn am 19))
  (s_cons (s_ret (d_call am 36 (d_cons (d_lst (d_cons (d_call am 12 (d_cons (d_var 2) (d_cons (d_var 19) d_nil))) (d_cons (d_call am 17 (d_cons (d_var 2) (d_cons (d_var 15) d_nil))) d_nil))) (d_cons (d_lst (d_cons (d_cmp am .eq (d_var 16) d_str) (d_cons (d_tup (d_cons (d_var 15) (d_cons (d_var 16) (d_cons (d_var 17) d_nil)))) d_nil))) d_nil))))
  s_nil))))))))))))))
def b46 : Sts := (.cons (.set (.n 1) (.call 32 (.cons (.call 34 (.cons (.var 0) (.cons (.con (.int 1)) .nil))) (.cons (.con (.int 0)) .nil))))
  (.cons (.for (.n 2) (.rng (.con (.int 3))) (.cons (.ite (.not (.call 45 (.cons (.var 1) (.cons (.var 2) .nil)))) (.cons (.ret (.con (.bool false)))
  .nil) .nil)
  .nil))
  (.cons (.ret (.con (.bool true)))
  .nil)))
def d46 : Def := ⟨(Str.ofString "law"), top 60, [(Str.ofString "script"), (Str.ofString "urn"), (Str.ofString "lap")], [(Str.ofString "script")], b46⟩
theorem g46 : Good T d46 where
  sc := ⟨rfl, rfl, rfl, by decide +kernel, rfl, by decide +kernel, by decide +kernel⟩
  wf := by decide +kernel
  der := fun C k P w K mg base f cdv A outer s H E am => (s_cons (s_set (d_call am 32 (d_cons (d_call am 34 (d_cons (d_var 0) (d_cons d_int d_nil))) (d_cons d_int d_nil))) (d_tgn am 1))
  (s_cons (s_for am PassesOwn.never (d_rng am 15 d_int) (d_tgn am 2) (s_cons (s_if (d_notT (d_val (d_call am 45 (d_cons (d_var 1) (d_cons (d_var 2) d_nil))))) (s_cons (s_ret d_bl)
  s_nil) s_nil)
  s_nil))
  (s_cons (s_ret d_bl)
  s_nil)))
end Ev.K00
set_option maxHeartbeats 0
namespace Ev.K00
open PySem PySem.Spec PyProof.Rows L2 Ev
def h0 : He.DefD := ⟨((Str.ofString "is_number"), none), (Str.ofString "is_number"), (Str.ofString "is_number"), defArgs (top 4), defBody (top 4), defScope (top 4), [], []⟩
def h1 : He.DefD := ⟨((Str.ofString "is_below"), none), (Str.ofString "is_below"), (Str.ofString "is_below"), defArgs (top 5), defBody (top 5), defScope (top 5), [], []⟩
def h2 : He.DefD := ⟨((Str.ofString "is_tuple_of"), none), (Str.ofString "is_tuple_of"), (Str.ofString "is_tuple_of"), defArgs (top 6), defBody (top 6), defScope (top 6), [], []⟩
def h3 : He.DefD := ⟨((Str.ofString "tuple_of"), none), (Str.ofString "tuple_of"), (Str.ofString "tuple_of"), defArgs (top 7), defBody (top 7), defScope (top 7), [], []⟩
def h4 : He.DefD := ⟨((Str.ofString "sure"), none), (Str.ofString "sure"), (Str.ofString "sure"), defArgs (top 8), defBody (top 8), defScope (top 8), [], []⟩
def h5 : He.DefD := ⟨((Str.ofString "is_sign_name"), none), (Str.ofString "is_sign_name"), (Str.ofString "is_sign_name"), defArgs (top 18), defBody (top 18), defScope (top 18), [], []⟩
def h6 : He.DefD := ⟨((Str.ofString "is_sign"), none), (Str.ofString "is_sign"), (Str.ofString "is_sign"), defArgs (top 19), defBody (top 19), defScope (top 19), [], []⟩
def h7 : He.DefD := ⟨((Str.ofString "is_book"), none), (Str.ofString "is_book"), (Str.ofString "is_book"), defArgs (top 20), defBody (top 20), defScope (top 20), [], []⟩
def h8 : He.DefD := ⟨((Str.ofString "sure_book"), none), (Str.ofString "sure_book"), (Str.ofString "sure_book"), defArgs (top 21), defBody (top 21), defScope (top 21), [], []⟩
def h9 : He.DefD := ⟨((Str.ofString "signs_of"), none), (Str.ofString "signs_of"), (Str.ofString "signs_of"), defArgs (top 22), defBody (top 22), defScope (top 22), [], []⟩
def h10 : He.DefD := ⟨((Str.ofString "parts_fit"), none), (Str.ofString "parts_fit"), (Str.ofString "parts_fit"), defArgs (top 23), defBody (top 23), defScope (top 23), [], []⟩
def h11 : He.DefD := ⟨((Str.ofString "is_term_by"), none), (Str.ofString "is_term_by"), (Str.ofString "is_term_by"), defArgs (top 24), defBody (top 24), defScope (top 24), [], []⟩
def h12 : He.DefD := ⟨((Str.ofString "is_term"), none), (Str.ofString "is_term"), (Str.ofString "is_term"), defArgs (top 25), defBody (top 25), defScope (top 25), [], []⟩
def h13 : He.DefD := ⟨((Str.ofString "sure_term"), none), (Str.ofString "sure_term"), (Str.ofString "sure_term"), defArgs (top 26), defBody (top 26), defScope (top 26), [], []⟩
def h14 : He.DefD := ⟨((Str.ofString "is_path"), none), (Str.ofString "is_path"), (Str.ofString "is_path"), defArgs (top 27), defBody (top 27), defScope (top 27), [], []⟩
def h15 : He.DefD := ⟨((Str.ofString "sure_path"), none), (Str.ofString "sure_path"), (Str.ofString "sure_path"), defArgs (top 28), defBody (top 28), defScope (top 28), [], []⟩
def h16 : He.DefD := ⟨((Str.ofString "parts_in"), none), (Str.ofString "parts_in"), (Str.ofString "parts_in"), defArgs (top 29), defBody (top 29), defScope (top 29), [], []⟩
def h17 : He.DefD := ⟨((Str.ofString "sign_of"), none), (Str.ofString "sign_of"), (Str.ofString "sign_of"), defArgs (top 30), defBody (top 30), defScope (top 30), [], []⟩
def h18 : He.DefD := ⟨((Str.ofString "words_in"), none), (Str.ofString "words_in"), (Str.ofString "words_in"), defArgs (top 31), defBody (top 31), defScope (top 31), [], []⟩
def h19 : He.DefD := ⟨((Str.ofString "words_of"), none), (Str.ofString "words_of"), (Str.ofString "words_of"), defArgs (top 32), defBody (top 32), defScope (top 32), [], []⟩
def h20 : He.DefD := ⟨((Str.ofString "walked"), none), (Str.ofString "walked"), (Str.ofString "walked"), defArgs (top 33), defBody (top 33), defScope (top 33), [], []⟩
def h21 : He.DefD := ⟨((Str.ofString "unknowns_in"), none), (Str.ofString "unknowns_in"), (Str.ofString "unknowns_in"), defArgs (top 34), defBody (top 34), defScope (top 34), [], []⟩
def h22 : He.DefD := ⟨((Str.ofString "unknowns_of"), none), (Str.ofString "unknowns_of"), (Str.ofString "unknowns_of"), defArgs (top 35), defBody (top 35), defScope (top 35), [], []⟩
def h23 : He.DefD := ⟨((Str.ofString "is_closed"), none), (Str.ofString "is_closed"), (Str.ofString "is_closed"), defArgs (top 36), defBody (top 36), defScope (top 36), [], []⟩
def h24 : He.DefD := ⟨((Str.ofString "names_in"), none), (Str.ofString "names_in"), (Str.ofString "names_in"), defArgs (top 37), defBody (top 37), defScope (top 37), [], []⟩
def h25 : He.DefD := ⟨((Str.ofString "how_often"), none), (Str.ofString "how_often"), (Str.ofString "how_often"), defArgs (top 38), defBody (top 38), defScope (top 38), [], []⟩
def h26 : He.DefD := ⟨((Str.ofString "depth_of"), none), (Str.ofString "depth_of"), (Str.ofString "depth_of"), defArgs (top 39), defBody (top 39), defScope (top 39), [], []⟩
def h27 : He.DefD := ⟨((Str.ofString "paths_of"), none), (Str.ofString "paths_of"), (Str.ofString "paths_of"), defArgs (top 40), defBody (top 40), defScope (top 40), [], []⟩
def h28 : He.DefD := ⟨((Str.ofString "part_told"), none), (Str.ofString "part_told"), (Str.ofString "part_told"), defArgs (top 41), defBody (top 41), defScope (top 41), [], []⟩
def h29 : He.DefD := ⟨((Str.ofString "part_at"), none), (Str.ofString "part_at"), (Str.ofString "part_at"), defArgs (top 42), defBody (top 42), defScope (top 42), [], []⟩
def h30 : He.DefD := ⟨((Str.ofString "put_told_at"), none), (Str.ofString "put_told_at"), (Str.ofString "put_told_at"), defArgs (top 43), defBody (top 43), defScope (top 43), [], []⟩
def h31 : He.DefD := ⟨((Str.ofString "put_at"), none), (Str.ofString "put_at"), (Str.ofString "put_at"), defArgs (top 44), defBody (top 44), defScope (top 44), [], []⟩
def h32 : He.DefD := ⟨((Str.ofString "_law_box"), none), (Str.ofString "_law_box"), (Str.ofString "_law_box"), defArgs (top 46), defBody (top 46), defScope (top 46), [], []⟩
def h33 : He.DefD := ⟨((Str.ofString "_law_take"), none), (Str.ofString "_law_take"), (Str.ofString "_law_take"), defArgs (top 47), defBody (top 47), defScope (top 47), [], []⟩
def h34 : He.DefD := ⟨((Str.ofString "_law_cells"), none), (Str.ofString "_law_cells"), (Str.ofString "_law_cells"), defArgs (top 48), defBody (top 48), defScope (top 48), [], []⟩
def h35 : He.DefD := ⟨((Str.ofString "_law_of"), none), (Str.ofString "_law_of"), (Str.ofString "_law_of"), defArgs (top 49), defBody (top 49), defScope (top 49), [], []⟩
def h36 : He.DefD := ⟨((Str.ofString "_law_same"), none), (Str.ofString "_law_same"), (Str.ofString "_law_same"), defArgs (top 50), defBody (top 50), defScope (top 50), [], []⟩
def h37 : He.DefD := ⟨((Str.ofString "_law_all"), none), (Str.ofString "_law_all"), (Str.ofString "_law_all"), defArgs (top 51), defBody (top 51), defScope (top 51), [], []⟩
def h38 : He.DefD := ⟨((Str.ofString "_law_any"), none), (Str.ofString "_law_any"), (Str.ofString "_law_any"), defArgs (top 52), defBody (top 52), defScope (top 52), [], []⟩
def h39 : He.DefD := ⟨((Str.ofString "_law_pieces_of"), none), (Str.ofString "_law_pieces_of"), (Str.ofString "_law_pieces_of"), defArgs (top 53), defBody (top 53), defScope (top 53), [], []⟩
def h40 : He.DefD := ⟨((Str.ofString "_law_bare"), none), (Str.ofString "_law_bare"), (Str.ofString "_law_bare"), defArgs (top 54), defBody (top 54), defScope (top 54), [], []⟩
def h41 : He.DefD := ⟨((Str.ofString "_law_soft"), none), (Str.ofString "_law_soft"), (Str.ofString "_law_soft"), defArgs (top 55), defBody (top 55), defScope (top 55), [], []⟩
def h42 : He.DefD := ⟨((Str.ofString "_law_swapped_at"), none), (Str.ofString "_law_swapped_at"), (Str.ofString "_law_swapped_at"), defArgs (top 56), defBody (top 56), defScope (top 56), [], []⟩
def h43 : He.DefD := ⟨((Str.ofString "_law_words_all"), none), (Str.ofString "_law_words_all"), (Str.ofString "_law_words_all"), defArgs (top 57), defBody (top 57), defScope (top 57), [], []⟩
def h44 : He.DefD := ⟨((Str.ofString "_law_part"), none), (Str.ofString "_law_part"), (Str.ofString "_law_part"), defArgs (top 58), defBody (top 58), defScope (top 58), [], []⟩
def h45 : He.DefD := ⟨((Str.ofString "_law_lap"), none), (Str.ofString "_law_lap"), (Str.ofString "_law_lap"), defArgs (top 59), defBody (top 59), defScope (top 59), [], []⟩
def h46 : He.DefD := ⟨((Str.ofString "law"), none), (Str.ofString "law"), (Str.ofString "law"), defArgs (top 60), defBody (top 60), defScope (top 60), [], []⟩
def fn : List He.DefD := [h0, h1, h2, h3, h4, h5, h6, h7, h8, h9, h10, h11, h12, h13, h14, h15, h16, h17, h18, h19, h20, h21, h22, h23, h24, h25, h26, h27, h28, h29, h30, h31, h32, h33, h34, h35, h36, h37, h38, h39, h40, h41, h42, h43, h44, h45, h46]
def fa0 : List He.Fa := [.glo (Str.ofString "is_number"), .glo (Str.ofString "is_below"), .glo (Str.ofString "is_tuple_of"), .glo (Str.ofString "tuple_of"), .glo (Str.ofString "sure"), .glo (Str.ofString "is_sign_name"), .glo (Str.ofString "is_sign"), .glo (Str.ofString "is_book"), .glo (Str.ofString "sure_book"), .glo (Str.ofString "signs_of"), .glo (Str.ofString "parts_fit"), .glo (Str.ofString "is_term_by"), .glo (Str.ofString "is_term"), .glo (Str.ofString "sure_term"), .glo (Str.ofString "is_path"), .glo (Str.ofString "sure_path"), .glo (Str.ofString "parts_in"), .glo (Str.ofString "sign_of"), .glo (Str.ofString "words_in"), .glo (Str.ofString "words_of"), .glo (Str.ofString "walked"), .glo (Str.ofString "unknowns_in"), .glo (Str.ofString "unknowns_of"), .glo (Str.ofString "is_closed"), .glo (Str.ofString "names_in"), .glo (Str.ofString "how_often"), .glo (Str.ofString "depth_of"), .glo (Str.ofString "paths_of"), .glo (Str.ofString "part_told"), .glo (Str.ofString "part_at")]
def fa1 : List He.Fa := [.glo (Str.ofString "put_told_at"), .glo (Str.ofString "put_at"), .glo (Str.ofString "_law_box"), .glo (Str.ofString "_law_take"), .glo (Str.ofString "_law_cells"), .glo (Str.ofString "_law_of"), .glo (Str.ofString "_law_same"), .glo (Str.ofString "_law_all"), .glo (Str.ofString "_law_any"), .glo (Str.ofString "_law_pieces_of"), .glo (Str.ofString "_law_bare"), .glo (Str.ofString "_law_soft"), .glo (Str.ofString "_law_swapped_at"), .glo (Str.ofString "_law_words_all"), .glo (Str.ofString "_law_part"), .glo (Str.ofString "_law_lap"), .glo (Str.ofString "law"), .free (Str.ofString "int"), .free (Str.ofString "isinstance"), .free (Str.ofString "bool"), .free (Str.ofString "tuple"), .free (Str.ofString "len"), .free (Str.ofString "list"), .free (Str.ofString "str"), .free (Str.ofString "all"), .free (Str.ofString "zip"), .free (Str.ofString "sum"), .free (Str.ofString "enumerate"), .free (Str.ofString "sorted"), .free (Str.ofString "set")]
def fa2 : List He.Fa := [.free (Str.ofString "max"), .free (Str.ofString "abs"), .free (Str.ofString "range"), .int (Str.ofString "MOST_NAME") 8, .str (Str.ofString "SMALL") (Str.ofString "abcdefghijklmnopqrstuvwxyz"), .str (Str.ofString "PLAIN") (Str.ofString "plain"), .int (Str.ofString "MOST_PLAIN") 3, .str (Str.ofString "SWAP") (Str.ofString "swap"), .str (Str.ofString "BAG") (Str.ofString "bag"), .int (Str.ofString "MOST_SIGNS") 8, .int (Str.ofString "MOST_UNKNOWN") 100, .glo (Str.ofString "NoPlace")]
def fa : List He.Fa := fa0 ++ fa1 ++ fa2
def nm0 : List Str := [(Str.ofString "NoPlace"), (Str.ofString "Unfit"), (Str.ofString "PLAIN"), (Str.ofString "SWAP"), (Str.ofString "BAG"), (Str.ofString "MOST_SIGNS"), (Str.ofString "MOST_NAME"), (Str.ofString "MOST_PLAIN"), (Str.ofString "MOST_UNKNOWN"), (Str.ofString "SMALL"), (Str.ofString "is_number"), (Str.ofString "is_below"), (Str.ofString "is_tuple_of"), (Str.ofString "tuple_of"), (Str.ofString "sure"), (Str.ofString "is_sign_name"), (Str.ofString "is_sign"), (Str.ofString "is_book"), (Str.ofString "sure_book"), (Str.ofString "signs_of"), (Str.ofString "parts_fit"), (Str.ofString "is_term_by"), (Str.ofString "is_term"), (Str.ofString "sure_term"), (Str.ofString "is_path"), (Str.ofString "sure_path"), (Str.ofString "parts_in"), (Str.ofString "sign_of"), (Str.ofString "words_in"), (Str.ofString "words_of")]
def nm1 : List Str := [(Str.ofString "walked"), (Str.ofString "unknowns_in"), (Str.ofString "unknowns_of"), (Str.ofString "is_closed"), (Str.ofString "names_in"), (Str.ofString "how_often"), (Str.ofString "depth_of"), (Str.ofString "paths_of"), (Str.ofString "part_told"), (Str.ofString "part_at"), (Str.ofString "put_told_at"), (Str.ofString "put_at"), (Str.ofString "_law_box"), (Str.ofString "_law_take"), (Str.ofString "_law_cells"), (Str.ofString "_law_of"), (Str.ofString "_law_same"), (Str.ofString "_law_all"), (Str.ofString "_law_any"), (Str.ofString "_law_pieces_of"), (Str.ofString "_law_bare"), (Str.ofString "_law_soft"), (Str.ofString "_law_swapped_at"), (Str.ofString "_law_words_all"), (Str.ofString "_law_part"), (Str.ofString "_law_lap")]
def nms : List Str := nm0 ++ nm1
abbrev R : PySem.W.OpenRow := PySem.W.OpenLaw.row PySem.Challenge.rw_weighedterms_k00_terms_counted_by_own_wa
/-! what the top says of NoPlace -/
abbrev NpAl : Type := Option (Str × Str × Arguments × FuncBody × Scope × Addr × List Str × Addr)
def cN (K : PySem.W.Frag) : Addr := He.ga K "NoPlace"
def fN (K : PySem.W.Frag) : Addr := He.ma K (cN K) "__init__"
def npObs (K : PySem.W.Frag) : NpAl := match K.lookup (fN K) with
  | some ⟨_, _, .func fd, _⟩ => some (fd.name, fd.qualname, fd.params, fd.body, fd.scope, fd.globals, fd.closure.map (·.1), fd.builtins)
  | _ => none
def npVal : NpAl := some ("__init__", "NoPlace.__init__", npA, .stmts npB, npS, mainGlobals, ["__class__"], builtinsNs)
def npFn (P : Program) (K : PySem.W.Frag) : Bool := match K.lookup (fN K) with
  | some ⟨_, _, .func fd, _⟩ => decide (fd.defaults = .none) && (decide (fd.kwdefaults = .none) && (match fd.code with
    | .ref cda => PySem.W.codeIn K (.ref cda) "NoPlace.__init__" && ((match K.lookup cda with
      | some ⟨_, _, .fields vs, _⟩ => (match (vs[2]? : Option Value) with
        | some (Value.str file _) => ((P.main.file : Str) == file)
        | _ => false)
      | _ => false) && (match fd.closure with
      | [(_, cc)] => (match K.lookup cc with
        | some ⟨_, _, .cell (some (.ref D)), _⟩ => decide (D = cN K)
        | _ => false)
      | _ => false))
    | _ => false))
  | _ => false
def npOk (P : Program) (K : PySem.W.Frag) : Bool :=
  PySem.W.excInitIn K (cN K) leBase "LookupError.__new__" && (PySem.W.excOver K (cN K) leBase && (decide (PySem.W.findIn K (.ref (cN K)) "__setattr__" = some (some (.builtin "object.__setattr__"))) &&
  (decide (PySem.W.takerIn K (cN K) "place" = some none) && (decide (PySem.W.findIn K (.ref (cN K)) "place" = some none) && (decide (PySem.W.findIn K (.ref (cN K)) "__init__" = some (some (.ref (fN K)))) &&
  (decide (PySem.W.typeIn K (.ref (fN K)) = some (.type "function")) && (decide (PySem.W.nsIn K mainGlobals "super" = some none) && (decide (PySem.W.ks_superIn K (cN K) (cN K) "__init__" = some (some (.builtin "LookupError.__init__"))) &&
  (decide (PySem.W.subIn K (.ref (cN K)) (.type "LookupError") = some true) && (decide (PySem.W.nsIn K cStatics "thirdparty.any" = some none) && (decide (PySem.W.mroIn K (cN K) (.ref (cN K)) = some true) &&
  ((PySem.W.clsIn K (cN K)).any (fun cd => cd.hasDict) && (decide (PySem.W.subIn K (.ref (cN K)) (.type "BaseException") = some true) && (decide (PySem.W.typeIn K (.ref (cN K)) = some (.type "type")) &&
  (PySem.W.keepIn K (.ref (cN K)) && (decide (PySem.W.exmOne K (.ref (cN K)) (.ref (cN K)) = some true) && (xfB K (cN K) && (npFn P K && !(P.main.scope.names.lookup ("super" : Str)).isSome))))))))))))))))))
theorem fnX_eq {fd : FuncData} {cda cc : Addr} (h1 : some (fd.name, fd.qualname, fd.params, fd.body, fd.scope, fd.globals, fd.closure.map (·.1), fd.builtins) = npVal) (h2 : fd.defaults = .none) (h3 : fd.kwdefaults = .none) (h4 : fd.code = .ref cda) {x : Str} (h5 : fd.closure = [(x, cc)]) :
    fd = PySem.W.ksFn "__init__" "NoPlace.__init__" npA npB npS .none .none fd.doc fd.pyModule fd.annotations (.ref cda) fd.closureTuple cc := by
  obtain ⟨a1, a2, a3, a4, a5, a6, a7, a8, a9, a10, a11, a12, a13, a14, a15⟩ := fd
  simp only at h1 h2 h3 h4 h5
  subst h2 h3 h4 h5
  unfold npVal at h1
  simp only [Option.some.injEq, Prod.mk.injEq, List.map_cons, List.map_nil, List.cons.injEq] at h1
  obtain ⟨rfl, rfl, rfl, rfl, rfl, rfl, ⟨rfl, _⟩, rfl⟩ := h1
  rfl
theorem npTxt_of {P : Program} {K : PySem.W.Frag} (h : npObs K = npVal) (o : npOk P K = true) : NpTxt P K (cN K) (fN K) := by
  unfold npOk at o
  obtain ⟨o1, o⟩ := and2 o
  obtain ⟨o2, o⟩ := and2 o
  obtain ⟨o3, o⟩ := and2 o
  obtain ⟨o4, o⟩ := and2 o
  obtain ⟨o5, o⟩ := and2 o
  obtain ⟨o6, o⟩ := and2 o
  obtain ⟨o7, o⟩ := and2 o
  obtain ⟨o8, o⟩ := and2 o
  obtain ⟨o9, o⟩ := and2 o
  obtain ⟨o10, o⟩ := and2 o
  obtain ⟨o11, o⟩ := and2 o
  obtain ⟨o12, o⟩ := and2 o
  obtain ⟨o13, o⟩ := and2 o
  obtain ⟨o14, o⟩ := and2 o
  obtain ⟨o15, o⟩ := and2 o
  obtain ⟨o16, o⟩ := and2 o
  obtain ⟨o17, o⟩ := and2 o
  obtain ⟨o18, o⟩ := and2 o
  obtain ⟨o19, o20⟩ := and2 o
  refine ⟨o1, o2, of_decide_eq_true o3, of_decide_eq_true o4, of_decide_eq_true o5, of_decide_eq_true o6, of_decide_eq_true o7, of_decide_eq_true o8, of_decide_eq_true o9, of_decide_eq_true o10, of_decide_eq_true o11, of_decide_eq_true o12, ?_, of_decide_eq_true o14, of_decide_eq_true o15, o16, of_decide_eq_true o17, xfB_ok o18, ?_, ?_⟩
  · cases e : PySem.W.clsIn K (cN K) with
    | none => rw [e] at o13; cases o13
    | some cd => rw [e] at o13; exact ⟨cd, rfl, o13⟩
  · unfold npObs at h
    unfold npFn at o19
    cases e : K.lookup (fN K) with
    | none => rw [e] at o19; cases o19
    | some ob =>
      obtain ⟨oc, od, dt, osl⟩ := ob
      rw [e] at o19 h
      cases dt with
      | func fd =>
        simp only at o19 h
        obtain ⟨q1, o19⟩ := and2 o19
        obtain ⟨q2, o19⟩ := and2 o19
        split at o19
        case h_2 => cases o19
        rename_i cda hcd
        obtain ⟨q3, o19⟩ := and2 o19
        obtain ⟨q4, q5⟩ := and2 o19
        split at q5
        case h_2 => cases q5
        rename_i x cc hcl
        split at q5
        case h_2 => cases q5
        rename_i cl cld D csl hcell
        have hD : D = cN K := of_decide_eq_true q5
        subst hD
        split at q4
        case h_2 => cases q4
        rename_i ccl cdd vs ccs hcode
        split at q4
        case h_2 => cases q4
        rename_i file tf hfile
        refine ⟨oc, od, fd.doc, fd.pyModule, fd.annotations, cda, cc, fd.closureTuple, osl, ?_, q3, ⟨ccl, cdd, vs, ccs, file, tf, hcode, hfile, q4⟩, cl, cld, csl, hcell⟩
        rw [← fnX_eq h (of_decide_eq_true q1) (of_decide_eq_true q2) hcd hcl]
      | _ => cases o19
  · cases q : (P.main.scope.names.lookup ("super" : Str)).isSome with
    | false => rfl
    | true => rw [q] at o20; cases o20
/-! the Hook -/
def KN (g : Addr → Option Obj) : PySem.W.Frag := He.frG g (cStatics :: He.asD g 6)
abbrev AlN : Type := He.AlD × NpAl × Bool
def obsN (g : Addr → Option Obj) : AlN := (He.obsD fa fn (KN g), npObs (KN g), npOk R.prog (KN g))
def hk : PySem.W.Hook where
  α := AlN
  obs := fun s => obsN s.heap.get?
  val := fun _ => (He.valD fn, npVal, true)
  says := fun _ h => ∃ K : PySem.W.Frag, K.In h ∧ He.SaysD fa fn K ∧ npObs K = npVal ∧ npOk R.prog K = true
  of := fun _ _ e => ⟨_, He.frG_in, congrArg (fun z : AlN => z.1) e, congrArg (fun z : AlN => z.2.1) e, congrArg (fun z : AlN => z.2.2) e⟩
  keeps := fun _ _ _ ⟨K, hK, c⟩ k => ⟨K, PySem.W.Frag.In.keeps hK k, c⟩
def ob (s : PySem.W.SharedT) : AlN := obsN (HandSHeadRun.getT s)
theorem ob_eq (s : PySem.W.SharedT) : ob s = hk.obs s.abs := by
  have e : HandSHeadRun.getT s = s.abs.heap.get? := funext (HandSHeadRun.getT_eq s)
  show obsN (HandSHeadRun.getT s) = obsN s.abs.heap.get?
  rw [e]
theorem run (w : World) : HandSHeadRun.RunEq R (PySem.W.view R.prog [60]) hk ob 5000 nms w := by
  intro os
  kernel_rfl
end Ev.K00
set_option maxHeartbeats 4000000
namespace Ev.K00
open PySem PySem.Spec PyProof.Rows L2 Ev
def dl : List (Option Def) := [some d0, some d1, some d2, some d3, some d4, some d5, some d6, some d7, some d8, some d9, some d10, some d11, some d12, some d13, some d14, some d15, some d16, some d17, some d18, some d19, some d20, some d21, some d22, some d23, some d24, some d25, some d26, some d27, some d28, some d29, some d30, some d31, some d32, some d33, some d34, some d35, some d36, some d37, some d38, some d39, some d40, some d41, some d42, some d43, none, some d45, some d46]
def ds (i : Nat) : Option Def := match dl[i]? with
  | some o => o
  | none => none
theorem ds_over (i : Nat) : ds (i + 47) = none := rfl
theorem good : ∀ (i : Nat) (d : Def), ds i = some d → Good T d
  | 0, _, h => (Option.some.inj (show some d0 = some _ from h)) ▸ g0
  | 1, _, h => (Option.some.inj (show some d1 = some _ from h)) ▸ g1
  | 2, _, h => (Option.some.inj (show some d2 = some _ from h)) ▸ g2
  | 3, _, h => (Option.some.inj (show some d3 = some _ from h)) ▸ g3
  | 4, _, h => (Option.some.inj (show some d4 = some _ from h)) ▸ g4
  | 5, _, h => (Option.some.inj (show some d5 = some _ from h)) ▸ g5
  | 6, _, h => (Option.some.inj (show some d6 = some _ from h)) ▸ g6
  | 7, _, h => (Option.some.inj (show some d7 = some _ from h)) ▸ g7
  | 8, _, h => (Option.some.inj (show some d8 = some _ from h)) ▸ g8
  | 9, _, h => (Option.some.inj (show some d9 = some _ from h)) ▸ g9
  | 10, _, h => (Option.some.inj (show some d10 = some _ from h)) ▸ g10
  | 11, _, h => (Option.some.inj (show some d11 = some _ from h)) ▸ g11
  | 12, _, h => (Option.some.inj (show some d12 = some _ from h)) ▸ g12
  | 13, _, h => (Option.some.inj (show some d13 = some _ from h)) ▸ g13
  | 14, _, h => (Option.some.inj (show some d14 = some _ from h)) ▸ g14
  | 15, _, h => (Option.some.inj (show some d15 = some _ from h)) ▸ g15
  | 16, _, h => (Option.some.inj (show some d16 = some _ from h)) ▸ g16
  | 17, _, h => (Option.some.inj (show some d17 = some _ from h)) ▸ g17
  | 18, _, h => (Option.some.inj (show some d18 = some _ from h)) ▸ g18
  | 19, _, h => (Option.some.inj (show some d19 = some _ from h)) ▸ g19
  | 20, _, h => (Option.some.inj (show some d20 = some _ from h)) ▸ g20
  | 21, _, h => (Option.some.inj (show some d21 = some _ from h)) ▸ g21
  | 22, _, h => (Option.some.inj (show some d22 = some _ from h)) ▸ g22
  | 23, _, h => (Option.some.inj (show some d23 = some _ from h)) ▸ g23
  | 24, _, h => (Option.some.inj (show some d24 = some _ from h)) ▸ g24
  | 25, _, h => (Option.some.inj (show some d25 = some _ from h)) ▸ g25
  | 26, _, h => (Option.some.inj (show some d26 = some _ from h)) ▸ g26
  | 27, _, h => (Option.some.inj (show some d27 = some _ from h)) ▸ g27
  | 28, _, h => (Option.some.inj (show some d28 = some _ from h)) ▸ g28
  | 29, _, h => (Option.some.inj (show some d29 = some _ from h)) ▸ g29
  | 30, _, h => (Option.some.inj (show some d30 = some _ from h)) ▸ g30
  | 31, _, h => (Option.some.inj (show some d31 = some _ from h)) ▸ g31
  | 32, _, h => (Option.some.inj (show some d32 = some _ from h)) ▸ g32
  | 33, _, h => (Option.some.inj (show some d33 = some _ from h)) ▸ g33
  | 34, _, h => (Option.some.inj (show some d34 = some _ from h)) ▸ g34
  | 35, _, h => (Option.some.inj (show some d35 = some _ from h)) ▸ g35
  | 36, _, h => (Option.some.inj (show some d36 = some _ from h)) ▸ g36
  | 37, _, h => (Option.some.inj (show some d37 = some _ from h)) ▸ g37
  | 38, _, h => (Option.some.inj (show some d38 = some _ from h)) ▸ g38
  | 39, _, h => (Option.some.inj (show some d39 = some _ from h)) ▸ g39
  | 40, _, h => (Option.some.inj (show some d40 = some _ from h)) ▸ g40
  | 41, _, h => (Option.some.inj (show some d41 = some _ from h)) ▸ g41
  | 42, _, h => (Option.some.inj (show some d42 = some _ from h)) ▸ g42
  | 43, _, h => (Option.some.inj (show some d43 = some _ from h)) ▸ g43
  | 44, _, h => nomatch (show (none : Option Def) = some _ from h)
  | 45, _, h => (Option.some.inj (show some d45 = some _ from h)) ▸ g45
  | 46, _, h => (Option.some.inj (show some d46 = some _ from h)) ▸ g46
  | i + 47, _, h => nomatch (show (none : Option Def) = some _ from h)
section
variable {K : PySem.W.Frag} {h : Heap} {mg : Str → Option Value}
theorem w_free (X : K.In h) (G : h.Ns mainGlobals mg) (c : He.SaysD fa fn K) : ∀ (i : Nat) (x : Str), T.free[i]? = some x → mg x = none
  | 0, _, e => (Option.some.inj (show some (Str.ofString "int") = some _ from e)) ▸ He.free_ok X G (c.fact 47 (f := .free (Str.ofString "int")) rfl)
  | 1, _, e => (Option.some.inj (show some (Str.ofString "isinstance") = some _ from e)) ▸ He.free_ok X G (c.fact 48 (f := .free (Str.ofString "isinstance")) rfl)
  | 2, _, e => (Option.some.inj (show some (Str.ofString "bool") = some _ from e)) ▸ He.free_ok X G (c.fact 49 (f := .free (Str.ofString "bool")) rfl)
  | 3, _, e => (Option.some.inj (show some (Str.ofString "tuple") = some _ from e)) ▸ He.free_ok X G (c.fact 50 (f := .free (Str.ofString "tuple")) rfl)
  | 4, _, e => (Option.some.inj (show some (Str.ofString "len") = some _ from e)) ▸ He.free_ok X G (c.fact 51 (f := .free (Str.ofString "len")) rfl)
  | 5, _, e => (Option.some.inj (show some (Str.ofString "list") = some _ from e)) ▸ He.free_ok X G (c.fact 52 (f := .free (Str.ofString "list")) rfl)
  | 6, _, e => (Option.some.inj (show some (Str.ofString "str") = some _ from e)) ▸ He.free_ok X G (c.fact 53 (f := .free (Str.ofString "str")) rfl)
  | 7, _, e => (Option.some.inj (show some (Str.ofString "all") = some _ from e)) ▸ He.free_ok X G (c.fact 54 (f := .free (Str.ofString "all")) rfl)
  | 8, _, e => (Option.some.inj (show some (Str.ofString "zip") = some _ from e)) ▸ He.free_ok X G (c.fact 55 (f := .free (Str.ofString "zip")) rfl)
  | 9, _, e => (Option.some.inj (show some (Str.ofString "sum") = some _ from e)) ▸ He.free_ok X G (c.fact 56 (f := .free (Str.ofString "sum")) rfl)
  | 10, _, e => (Option.some.inj (show some (Str.ofString "enumerate") = some _ from e)) ▸ He.free_ok X G (c.fact 57 (f := .free (Str.ofString "enumerate")) rfl)
  | 11, _, e => (Option.some.inj (show some (Str.ofString "sorted") = some _ from e)) ▸ He.free_ok X G (c.fact 58 (f := .free (Str.ofString "sorted")) rfl)
  | 12, _, e => (Option.some.inj (show some (Str.ofString "set") = some _ from e)) ▸ He.free_ok X G (c.fact 59 (f := .free (Str.ofString "set")) rfl)
  | 13, _, e => (Option.some.inj (show some (Str.ofString "max") = some _ from e)) ▸ He.free_ok X G (c.fact 60 (f := .free (Str.ofString "max")) rfl)
  | 14, _, e => (Option.some.inj (show some (Str.ofString "abs") = some _ from e)) ▸ He.free_ok X G (c.fact 61 (f := .free (Str.ofString "abs")) rfl)
  | 15, _, e => (Option.some.inj (show some (Str.ofString "range") = some _ from e)) ▸ He.free_ok X G (c.fact 62 (f := .free (Str.ofString "range")) rfl)
  | i + 16, _, e => nomatch (show (none : Option Str) = some _ from e)
theorem w_con (X : K.In h) (G : h.Ns mainGlobals mg) (c : He.SaysD fa fn K) : ∀ (i : Nat) (x : Str) (v : V), T.cons[i]? = some (x, v) → ∃ u, mg x = some u ∧ RelV v u
  | 0, _, _, e => by
    cases (show some ((Str.ofString "MOST_NAME"), V.int 8) = some _ from e)
    obtain ⟨t, ht⟩ := He.int_ok X G (c.fact 63 (f := .int (Str.ofString "MOST_NAME") 8) rfl)
    exact ⟨_, ht, t, rfl⟩
  | 1, _, _, e => by
    cases (show some ((Str.ofString "SMALL"), V.str (Str.ofString "abcdefghijklmnopqrstuvwxyz")) = some _ from e)
    obtain ⟨t, ht⟩ := He.str_ok X G (c.fact 64 (f := .str (Str.ofString "SMALL") (Str.ofString "abcdefghijklmnopqrstuvwxyz")) rfl)
    exact ⟨_, ht, t, rfl⟩
  | 2, _, _, e => by
    cases (show some ((Str.ofString "PLAIN"), V.str (Str.ofString "plain")) = some _ from e)
    obtain ⟨t, ht⟩ := He.str_ok X G (c.fact 65 (f := .str (Str.ofString "PLAIN") (Str.ofString "plain")) rfl)
    exact ⟨_, ht, t, rfl⟩
  | 3, _, _, e => by
    cases (show some ((Str.ofString "MOST_PLAIN"), V.int 3) = some _ from e)
    obtain ⟨t, ht⟩ := He.int_ok X G (c.fact 66 (f := .int (Str.ofString "MOST_PLAIN") 3) rfl)
    exact ⟨_, ht, t, rfl⟩
  | 4, _, _, e => by
    cases (show some ((Str.ofString "SWAP"), V.str (Str.ofString "swap")) = some _ from e)
    obtain ⟨t, ht⟩ := He.str_ok X G (c.fact 67 (f := .str (Str.ofString "SWAP") (Str.ofString "swap")) rfl)
    exact ⟨_, ht, t, rfl⟩
  | 5, _, _, e => by
    cases (show some ((Str.ofString "BAG"), V.str (Str.ofString "bag")) = some _ from e)
    obtain ⟨t, ht⟩ := He.str_ok X G (c.fact 68 (f := .str (Str.ofString "BAG") (Str.ofString "bag")) rfl)
    exact ⟨_, ht, t, rfl⟩
  | 6, _, _, e => by
    cases (show some ((Str.ofString "MOST_SIGNS"), V.int 8) = some _ from e)
    obtain ⟨t, ht⟩ := He.int_ok X G (c.fact 69 (f := .int (Str.ofString "MOST_SIGNS") 8) rfl)
    exact ⟨_, ht, t, rfl⟩
  | 7, _, _, e => by
    cases (show some ((Str.ofString "MOST_UNKNOWN"), V.int 100) = some _ from e)
    obtain ⟨t, ht⟩ := He.int_ok X G (c.fact 70 (f := .int (Str.ofString "MOST_UNKNOWN") 100) rfl)
    exact ⟨_, ht, t, rfl⟩
  | i + 8, _, _, e => nomatch (show (none : Option (Str × V)) = some _ from e)
theorem w_fns (X : K.In h) (G : h.Ns mainGlobals mg) (c : He.SaysD fa fn K) : ∀ (i : Nat) (x : Str), T.fns[i]? = some x → ∃ (a : Addr) (fd : FuncData) (ps : List Str), mg x = some (.ref a) ∧ PySem.W.keepIn K (.ref a) = true ∧ Binds K fd ps [] ∧
    ((∃ d, ds i = some d ∧ d.name = x ∧ d.ps = ps ∧ FunD K x x (defArgs d.st) (defBody d.st) (defScope d.st) [] [] a fd) ∨ ds i = none)
  | 0, _, e => by
    cases (show some (Str.ofString "is_number") = some _ from e)
    obtain ⟨fd, F⟩ := c.def_ 0 (d := h0) rfl
    have b : Binds K fd [(Str.ofString "thing")] [] := F.bindsN fun _ _ _ _ _ _ us hl => match us, hl with | [_], _ => rfl
    exact ⟨_, fd, [(Str.ofString "thing")], He.glo_ok X G (c.fact 0 (f := .glo (Str.ofString "is_number")) rfl), F.kp, b, .inl ⟨d0, rfl, rfl, rfl, F⟩⟩
  | 1, _, e => by
    cases (show some (Str.ofString "is_below") = some _ from e)
    obtain ⟨fd, F⟩ := c.def_ 1 (d := h1) rfl
    have b : Binds K fd [(Str.ofString "thing"), (Str.ofString "many")] [] := F.bindsN fun _ _ _ _ _ _ us hl => match us, hl with | [_, _], _ => rfl
    exact ⟨_, fd, [(Str.ofString "thing"), (Str.ofString "many")], He.glo_ok X G (c.fact 1 (f := .glo (Str.ofString "is_below")) rfl), F.kp, b, .inl ⟨d1, rfl, rfl, rfl, F⟩⟩
  | 2, _, e => by
    cases (show some (Str.ofString "is_tuple_of") = some _ from e)
    obtain ⟨fd, F⟩ := c.def_ 2 (d := h2) rfl
    have b : Binds K fd [(Str.ofString "thing"), (Str.ofString "many")] [] := F.bindsN fun _ _ _ _ _ _ us hl => match us, hl with | [_, _], _ => rfl
    exact ⟨_, fd, [(Str.ofString "thing"), (Str.ofString "many")], He.glo_ok X G (c.fact 2 (f := .glo (Str.ofString "is_tuple_of")) rfl), F.kp, b, .inl ⟨d2, rfl, rfl, rfl, F⟩⟩
  | 3, _, e => by
    cases (show some (Str.ofString "tuple_of") = some _ from e)
    obtain ⟨fd, F⟩ := c.def_ 3 (d := h3) rfl
    have b : Binds K fd [(Str.ofString "thing")] [] := F.bindsN fun _ _ _ _ _ _ us hl => match us, hl with | [_], _ => rfl
    exact ⟨_, fd, [(Str.ofString "thing")], He.glo_ok X G (c.fact 3 (f := .glo (Str.ofString "tuple_of")) rfl), F.kp, b, .inl ⟨d3, rfl, rfl, rfl, F⟩⟩
  | 4, _, e => by
    cases (show some (Str.ofString "sure") = some _ from e)
    obtain ⟨fd, F⟩ := c.def_ 4 (d := h4) rfl
    have b : Binds K fd [(Str.ofString "good")] [] := F.bindsN fun _ _ _ _ _ _ us hl => match us, hl with | [_], _ => rfl
    exact ⟨_, fd, [(Str.ofString "good")], He.glo_ok X G (c.fact 4 (f := .glo (Str.ofString "sure")) rfl), F.kp, b, .inl ⟨d4, rfl, rfl, rfl, F⟩⟩
  | 5, _, e => by
    cases (show some (Str.ofString "is_sign_name") = some _ from e)
    obtain ⟨fd, F⟩ := c.def_ 5 (d := h5) rfl
    have b : Binds K fd [(Str.ofString "thing")] [] := F.bindsN fun _ _ _ _ _ _ us hl => match us, hl with | [_], _ => rfl
    exact ⟨_, fd, [(Str.ofString "thing")], He.glo_ok X G (c.fact 5 (f := .glo (Str.ofString "is_sign_name")) rfl), F.kp, b, .inl ⟨d5, rfl, rfl, rfl, F⟩⟩
  | 6, _, e => by
    cases (show some (Str.ofString "is_sign") = some _ from e)
    obtain ⟨fd, F⟩ := c.def_ 6 (d := h6) rfl
    have b : Binds K fd [(Str.ofString "thing")] [] := F.bindsN fun _ _ _ _ _ _ us hl => match us, hl with | [_], _ => rfl
    exact ⟨_, fd, [(Str.ofString "thing")], He.glo_ok X G (c.fact 6 (f := .glo (Str.ofString "is_sign")) rfl), F.kp, b, .inl ⟨d6, rfl, rfl, rfl, F⟩⟩
  | 7, _, e => by
    cases (show some (Str.ofString "is_book") = some _ from e)
    obtain ⟨fd, F⟩ := c.def_ 7 (d := h7) rfl
    have b : Binds K fd [(Str.ofString "thing")] [] := F.bindsN fun _ _ _ _ _ _ us hl => match us, hl with | [_], _ => rfl
    exact ⟨_, fd, [(Str.ofString "thing")], He.glo_ok X G (c.fact 7 (f := .glo (Str.ofString "is_book")) rfl), F.kp, b, .inl ⟨d7, rfl, rfl, rfl, F⟩⟩
  | 8, _, e => by
    cases (show some (Str.ofString "sure_book") = some _ from e)
    obtain ⟨fd, F⟩ := c.def_ 8 (d := h8) rfl
    have b : Binds K fd [(Str.ofString "book")] [] := F.bindsN fun _ _ _ _ _ _ us hl => match us, hl with | [_], _ => rfl
    exact ⟨_, fd, [(Str.ofString "book")], He.glo_ok X G (c.fact 8 (f := .glo (Str.ofString "sure_book")) rfl), F.kp, b, .inl ⟨d8, rfl, rfl, rfl, F⟩⟩
  | 9, _, e => by
    cases (show some (Str.ofString "signs_of") = some _ from e)
    obtain ⟨fd, F⟩ := c.def_ 9 (d := h9) rfl
    have b : Binds K fd [(Str.ofString "book")] [] := F.bindsN fun _ _ _ _ _ _ us hl => match us, hl with | [_], _ => rfl
    exact ⟨_, fd, [(Str.ofString "book")], He.glo_ok X G (c.fact 9 (f := .glo (Str.ofString "signs_of")) rfl), F.kp, b, .inl ⟨d9, rfl, rfl, rfl, F⟩⟩
  | 10, _, e => by
    cases (show some (Str.ofString "parts_fit") = some _ from e)
    obtain ⟨fd, F⟩ := c.def_ 10 (d := h10) rfl
    have b : Binds K fd [(Str.ofString "signs"), (Str.ofString "thing")] [] := F.bindsN fun _ _ _ _ _ _ us hl => match us, hl with | [_, _], _ => rfl
    exact ⟨_, fd, [(Str.ofString "signs"), (Str.ofString "thing")], He.glo_ok X G (c.fact 10 (f := .glo (Str.ofString "parts_fit")) rfl), F.kp, b, .inl ⟨d10, rfl, rfl, rfl, F⟩⟩
  | 11, _, e => by
    cases (show some (Str.ofString "is_term_by") = some _ from e)
    obtain ⟨fd, F⟩ := c.def_ 11 (d := h11) rfl
    have b : Binds K fd [(Str.ofString "signs"), (Str.ofString "thing")] [] := F.bindsN fun _ _ _ _ _ _ us hl => match us, hl with | [_, _], _ => rfl
    exact ⟨_, fd, [(Str.ofString "signs"), (Str.ofString "thing")], He.glo_ok X G (c.fact 11 (f := .glo (Str.ofString "is_term_by")) rfl), F.kp, b, .inl ⟨d11, rfl, rfl, rfl, F⟩⟩
  | 12, _, e => by
    cases (show some (Str.ofString "is_term") = some _ from e)
    obtain ⟨fd, F⟩ := c.def_ 12 (d := h12) rfl
    have b : Binds K fd [(Str.ofString "book"), (Str.ofString "thing")] [] := F.bindsN fun _ _ _ _ _ _ us hl => match us, hl with | [_, _], _ => rfl
    exact ⟨_, fd, [(Str.ofString "book"), (Str.ofString "thing")], He.glo_ok X G (c.fact 12 (f := .glo (Str.ofString "is_term")) rfl), F.kp, b, .inl ⟨d12, rfl, rfl, rfl, F⟩⟩
  | 13, _, e => by
    cases (show some (Str.ofString "sure_term") = some _ from e)
    obtain ⟨fd, F⟩ := c.def_ 13 (d := h13) rfl
    have b : Binds K fd [(Str.ofString "book"), (Str.ofString "term")] [] := F.bindsN fun _ _ _ _ _ _ us hl => match us, hl with | [_, _], _ => rfl
    exact ⟨_, fd, [(Str.ofString "book"), (Str.ofString "term")], He.glo_ok X G (c.fact 13 (f := .glo (Str.ofString "sure_term")) rfl), F.kp, b, .inl ⟨d13, rfl, rfl, rfl, F⟩⟩
  | 14, _, e => by
    cases (show some (Str.ofString "is_path") = some _ from e)
    obtain ⟨fd, F⟩ := c.def_ 14 (d := h14) rfl
    have b : Binds K fd [(Str.ofString "thing")] [] := F.bindsN fun _ _ _ _ _ _ us hl => match us, hl with | [_], _ => rfl
    exact ⟨_, fd, [(Str.ofString "thing")], He.glo_ok X G (c.fact 14 (f := .glo (Str.ofString "is_path")) rfl), F.kp, b, .inl ⟨d14, rfl, rfl, rfl, F⟩⟩
  | 15, _, e => by
    cases (show some (Str.ofString "sure_path") = some _ from e)
    obtain ⟨fd, F⟩ := c.def_ 15 (d := h15) rfl
    have b : Binds K fd [(Str.ofString "path")] [] := F.bindsN fun _ _ _ _ _ _ us hl => match us, hl with | [_], _ => rfl
    exact ⟨_, fd, [(Str.ofString "path")], He.glo_ok X G (c.fact 15 (f := .glo (Str.ofString "sure_path")) rfl), F.kp, b, .inl ⟨d15, rfl, rfl, rfl, F⟩⟩
  | 16, _, e => by
    cases (show some (Str.ofString "parts_in") = some _ from e)
    obtain ⟨fd, F⟩ := c.def_ 16 (d := h16) rfl
    have b : Binds K fd [(Str.ofString "own")] [] := F.bindsN fun _ _ _ _ _ _ us hl => match us, hl with | [_], _ => rfl
    exact ⟨_, fd, [(Str.ofString "own")], He.glo_ok X G (c.fact 16 (f := .glo (Str.ofString "parts_in")) rfl), F.kp, b, .inl ⟨d16, rfl, rfl, rfl, F⟩⟩
  | 17, _, e => by
    cases (show some (Str.ofString "sign_of") = some _ from e)
    obtain ⟨fd, F⟩ := c.def_ 17 (d := h17) rfl
    have b : Binds K fd [(Str.ofString "book"), (Str.ofString "name")] [] := F.bindsN fun _ _ _ _ _ _ us hl => match us, hl with | [_, _], _ => rfl
    exact ⟨_, fd, [(Str.ofString "book"), (Str.ofString "name")], He.glo_ok X G (c.fact 17 (f := .glo (Str.ofString "sign_of")) rfl), F.kp, b, .inl ⟨d17, rfl, rfl, rfl, F⟩⟩
  | 18, _, e => by
    cases (show some (Str.ofString "words_in") = some _ from e)
    obtain ⟨fd, F⟩ := c.def_ 18 (d := h18) rfl
    have b : Binds K fd [(Str.ofString "signs"), (Str.ofString "own")] [] := F.bindsN fun _ _ _ _ _ _ us hl => match us, hl with | [_, _], _ => rfl
    exact ⟨_, fd, [(Str.ofString "signs"), (Str.ofString "own")], He.glo_ok X G (c.fact 18 (f := .glo (Str.ofString "words_in")) rfl), F.kp, b, .inl ⟨d18, rfl, rfl, rfl, F⟩⟩
  | 19, _, e => by
    cases (show some (Str.ofString "words_of") = some _ from e)
    obtain ⟨fd, F⟩ := c.def_ 19 (d := h19) rfl
    have b : Binds K fd [(Str.ofString "book"), (Str.ofString "term")] [] := F.bindsN fun _ _ _ _ _ _ us hl => match us, hl with | [_, _], _ => rfl
    exact ⟨_, fd, [(Str.ofString "book"), (Str.ofString "term")], He.glo_ok X G (c.fact 19 (f := .glo (Str.ofString "words_of")) rfl), F.kp, b, .inl ⟨d19, rfl, rfl, rfl, F⟩⟩
  | 20, _, e => by
    cases (show some (Str.ofString "walked") = some _ from e)
    obtain ⟨fd, F⟩ := c.def_ 20 (d := h20) rfl
    have b : Binds K fd [(Str.ofString "own")] [] := F.bindsN fun _ _ _ _ _ _ us hl => match us, hl with | [_], _ => rfl
    exact ⟨_, fd, [(Str.ofString "own")], He.glo_ok X G (c.fact 20 (f := .glo (Str.ofString "walked")) rfl), F.kp, b, .inl ⟨d20, rfl, rfl, rfl, F⟩⟩
  | 21, _, e => by
    cases (show some (Str.ofString "unknowns_in") = some _ from e)
    obtain ⟨fd, F⟩ := c.def_ 21 (d := h21) rfl
    have b : Binds K fd [(Str.ofString "own")] [] := F.bindsN fun _ _ _ _ _ _ us hl => match us, hl with | [_], _ => rfl
    exact ⟨_, fd, [(Str.ofString "own")], He.glo_ok X G (c.fact 21 (f := .glo (Str.ofString "unknowns_in")) rfl), F.kp, b, .inl ⟨d21, rfl, rfl, rfl, F⟩⟩
  | 22, _, e => by
    cases (show some (Str.ofString "unknowns_of") = some _ from e)
    obtain ⟨fd, F⟩ := c.def_ 22 (d := h22) rfl
    have b : Binds K fd [(Str.ofString "book"), (Str.ofString "term")] [] := F.bindsN fun _ _ _ _ _ _ us hl => match us, hl with | [_, _], _ => rfl
    exact ⟨_, fd, [(Str.ofString "book"), (Str.ofString "term")], He.glo_ok X G (c.fact 22 (f := .glo (Str.ofString "unknowns_of")) rfl), F.kp, b, .inl ⟨d22, rfl, rfl, rfl, F⟩⟩
  | 23, _, e => by
    cases (show some (Str.ofString "is_closed") = some _ from e)
    obtain ⟨fd, F⟩ := c.def_ 23 (d := h23) rfl
    have b : Binds K fd [(Str.ofString "book"), (Str.ofString "term")] [] := F.bindsN fun _ _ _ _ _ _ us hl => match us, hl with | [_, _], _ => rfl
    exact ⟨_, fd, [(Str.ofString "book"), (Str.ofString "term")], He.glo_ok X G (c.fact 23 (f := .glo (Str.ofString "is_closed")) rfl), F.kp, b, .inl ⟨d23, rfl, rfl, rfl, F⟩⟩
  | 24, _, e => by
    cases (show some (Str.ofString "names_in") = some _ from e)
    obtain ⟨fd, F⟩ := c.def_ 24 (d := h24) rfl
    have b : Binds K fd [(Str.ofString "book"), (Str.ofString "term")] [] := F.bindsN fun _ _ _ _ _ _ us hl => match us, hl with | [_, _], _ => rfl
    exact ⟨_, fd, [(Str.ofString "book"), (Str.ofString "term")], He.glo_ok X G (c.fact 24 (f := .glo (Str.ofString "names_in")) rfl), F.kp, b, .inl ⟨d24, rfl, rfl, rfl, F⟩⟩
  | 25, _, e => by
    cases (show some (Str.ofString "how_often") = some _ from e)
    obtain ⟨fd, F⟩ := c.def_ 25 (d := h25) rfl
    have b : Binds K fd [(Str.ofString "book"), (Str.ofString "term"), (Str.ofString "unknown")] [] := F.bindsN fun _ _ _ _ _ _ us hl => match us, hl with | [_, _, _], _ => rfl
    exact ⟨_, fd, [(Str.ofString "book"), (Str.ofString "term"), (Str.ofString "unknown")], He.glo_ok X G (c.fact 25 (f := .glo (Str.ofString "how_often")) rfl), F.kp, b, .inl ⟨d25, rfl, rfl, rfl, F⟩⟩
  | 26, _, e => by
    cases (show some (Str.ofString "depth_of") = some _ from e)
    obtain ⟨fd, F⟩ := c.def_ 26 (d := h26) rfl
    have b : Binds K fd [(Str.ofString "book"), (Str.ofString "term")] [] := F.bindsN fun _ _ _ _ _ _ us hl => match us, hl with | [_, _], _ => rfl
    exact ⟨_, fd, [(Str.ofString "book"), (Str.ofString "term")], He.glo_ok X G (c.fact 26 (f := .glo (Str.ofString "depth_of")) rfl), F.kp, b, .inl ⟨d26, rfl, rfl, rfl, F⟩⟩
  | 27, _, e => by
    cases (show some (Str.ofString "paths_of") = some _ from e)
    obtain ⟨fd, F⟩ := c.def_ 27 (d := h27) rfl
    have b : Binds K fd [(Str.ofString "book"), (Str.ofString "term")] [] := F.bindsN fun _ _ _ _ _ _ us hl => match us, hl with | [_, _], _ => rfl
    exact ⟨_, fd, [(Str.ofString "book"), (Str.ofString "term")], He.glo_ok X G (c.fact 27 (f := .glo (Str.ofString "paths_of")) rfl), F.kp, b, .inl ⟨d27, rfl, rfl, rfl, F⟩⟩
  | 28, _, e => by
    cases (show some (Str.ofString "part_told") = some _ from e)
    obtain ⟨fd, F⟩ := c.def_ 28 (d := h28) rfl
    have b : Binds K fd [(Str.ofString "own"), (Str.ofString "path")] [] := F.bindsN fun _ _ _ _ _ _ us hl => match us, hl with | [_, _], _ => rfl
    exact ⟨_, fd, [(Str.ofString "own"), (Str.ofString "path")], He.glo_ok X G (c.fact 28 (f := .glo (Str.ofString "part_told")) rfl), F.kp, b, .inl ⟨d28, rfl, rfl, rfl, F⟩⟩
  | 29, _, e => by
    cases (show some (Str.ofString "part_at") = some _ from e)
    obtain ⟨fd, F⟩ := c.def_ 29 (d := h29) rfl
    have b : Binds K fd [(Str.ofString "book"), (Str.ofString "term"), (Str.ofString "path")] [] := F.bindsN fun _ _ _ _ _ _ us hl => match us, hl with | [_, _, _], _ => rfl
    exact ⟨_, fd, [(Str.ofString "book"), (Str.ofString "term"), (Str.ofString "path")], He.glo_ok X G (c.fact 29 (f := .glo (Str.ofString "part_at")) rfl), F.kp, b, .inl ⟨d29, rfl, rfl, rfl, F⟩⟩
  | 30, _, e => by
    cases (show some (Str.ofString "put_told_at") = some _ from e)
    obtain ⟨fd, F⟩ := c.def_ 30 (d := h30) rfl
    have b : Binds K fd [(Str.ofString "own"), (Str.ofString "path"), (Str.ofString "other")] [] := F.bindsN fun _ _ _ _ _ _ us hl => match us, hl with | [_, _, _], _ => rfl
    exact ⟨_, fd, [(Str.ofString "own"), (Str.ofString "path"), (Str.ofString "other")], He.glo_ok X G (c.fact 30 (f := .glo (Str.ofString "put_told_at")) rfl), F.kp, b, .inl ⟨d30, rfl, rfl, rfl, F⟩⟩
  | 31, _, e => by
    cases (show some (Str.ofString "put_at") = some _ from e)
    obtain ⟨fd, F⟩ := c.def_ 31 (d := h31) rfl
    have b : Binds K fd [(Str.ofString "book"), (Str.ofString "term"), (Str.ofString "path"), (Str.ofString "other")] [] := F.bindsN fun _ _ _ _ _ _ us hl => match us, hl with | [_, _, _, _], _ => rfl
    exact ⟨_, fd, [(Str.ofString "book"), (Str.ofString "term"), (Str.ofString "path"), (Str.ofString "other")], He.glo_ok X G (c.fact 31 (f := .glo (Str.ofString "put_at")) rfl), F.kp, b, .inl ⟨d31, rfl, rfl, rfl, F⟩⟩
  | 32, _, e => by
    cases (show some (Str.ofString "_law_box") = some _ from e)
    obtain ⟨fd, F⟩ := c.def_ 32 (d := h32) rfl
    have b : Binds K fd [(Str.ofString "script"), (Str.ofString "k")] [] := F.bindsN fun _ _ _ _ _ _ us hl => match us, hl with | [_, _], _ => rfl
    exact ⟨_, fd, [(Str.ofString "script"), (Str.ofString "k")], He.glo_ok X G (c.fact 32 (f := .glo (Str.ofString "_law_box")) rfl), F.kp, b, .inl ⟨d32, rfl, rfl, rfl, F⟩⟩
  | 33, _, e => by
    cases (show some (Str.ofString "_law_take") = some _ from e)
    obtain ⟨fd, F⟩ := c.def_ 33 (d := h33) rfl
    have b : Binds K fd [(Str.ofString "urn"), (Str.ofString "below")] [] := F.bindsN fun _ _ _ _ _ _ us hl => match us, hl with | [_, _], _ => rfl
    exact ⟨_, fd, [(Str.ofString "urn"), (Str.ofString "below")], He.glo_ok X G (c.fact 33 (f := .glo (Str.ofString "_law_take")) rfl), F.kp, b, .inl ⟨d33, rfl, rfl, rfl, F⟩⟩
  | 34, _, e => by
    cases (show some (Str.ofString "_law_cells") = some _ from e)
    obtain ⟨fd, F⟩ := c.def_ 34 (d := h34) rfl
    have b : Binds K fd [(Str.ofString "script"), (Str.ofString "many")] [] := F.bindsN fun _ _ _ _ _ _ us hl => match us, hl with | [_, _], _ => rfl
    exact ⟨_, fd, [(Str.ofString "script"), (Str.ofString "many")], He.glo_ok X G (c.fact 34 (f := .glo (Str.ofString "_law_cells")) rfl), F.kp, b, .inl ⟨d34, rfl, rfl, rfl, F⟩⟩
  | 35, _, e => by
    cases (show some (Str.ofString "_law_of") = some _ from e)
    obtain ⟨fd, F⟩ := c.def_ 35 (d := h35) rfl
    have b : Binds K fd [(Str.ofString "urn"), (Str.ofString "some")] [] := F.bindsN fun _ _ _ _ _ _ us hl => match us, hl with | [_, _], _ => rfl
    exact ⟨_, fd, [(Str.ofString "urn"), (Str.ofString "some")], He.glo_ok X G (c.fact 35 (f := .glo (Str.ofString "_law_of")) rfl), F.kp, b, .inl ⟨d35, rfl, rfl, rfl, F⟩⟩
  | 36, _, e => by
    cases (show some (Str.ofString "_law_same") = some _ from e)
    obtain ⟨fd, F⟩ := c.def_ 36 (d := h36) rfl
    have b : Binds K fd [(Str.ofString "got"), (Str.ofString "due")] [] := F.bindsN fun _ _ _ _ _ _ us hl => match us, hl with | [_, _], _ => rfl
    exact ⟨_, fd, [(Str.ofString "got"), (Str.ofString "due")], He.glo_ok X G (c.fact 36 (f := .glo (Str.ofString "_law_same")) rfl), F.kp, b, .inl ⟨d36, rfl, rfl, rfl, F⟩⟩
  | 37, _, e => by
    cases (show some (Str.ofString "_law_all") = some _ from e)
    obtain ⟨fd, F⟩ := c.def_ 37 (d := h37) rfl
    have b : Binds K fd [(Str.ofString "urn")] [] := F.bindsN fun _ _ _ _ _ _ us hl => match us, hl with | [_], _ => rfl
    exact ⟨_, fd, [(Str.ofString "urn")], He.glo_ok X G (c.fact 37 (f := .glo (Str.ofString "_law_all")) rfl), F.kp, b, .inl ⟨d37, rfl, rfl, rfl, F⟩⟩
  | 38, _, e => by
    cases (show some (Str.ofString "_law_any") = some _ from e)
    obtain ⟨fd, F⟩ := c.def_ 38 (d := h38) rfl
    have b : Binds K fd [(Str.ofString "urn"), (Str.ofString "book"), (Str.ofString "unknowns"), (Str.ofString "deep")] [] := F.bindsN fun _ _ _ _ _ _ us hl => match us, hl with | [_, _, _, _], _ => rfl
    exact ⟨_, fd, [(Str.ofString "urn"), (Str.ofString "book"), (Str.ofString "unknowns"), (Str.ofString "deep")], He.glo_ok X G (c.fact 38 (f := .glo (Str.ofString "_law_any")) rfl), F.kp, b, .inl ⟨d38, rfl, rfl, rfl, F⟩⟩
  | 39, _, e => by
    cases (show some (Str.ofString "_law_pieces_of") = some _ from e)
    obtain ⟨fd, F⟩ := c.def_ 39 (d := h39) rfl
    have b : Binds K fd [(Str.ofString "term")] [] := F.bindsN fun _ _ _ _ _ _ us hl => match us, hl with | [_], _ => rfl
    exact ⟨_, fd, [(Str.ofString "term")], He.glo_ok X G (c.fact 39 (f := .glo (Str.ofString "_law_pieces_of")) rfl), F.kp, b, .inl ⟨d39, rfl, rfl, rfl, F⟩⟩
  | 40, _, e => by
    cases (show some (Str.ofString "_law_bare") = some _ from e)
    obtain ⟨fd, F⟩ := c.def_ 40 (d := h40) rfl
    have b : Binds K fd [(Str.ofString "term")] [] := F.bindsN fun _ _ _ _ _ _ us hl => match us, hl with | [_], _ => rfl
    exact ⟨_, fd, [(Str.ofString "term")], He.glo_ok X G (c.fact 40 (f := .glo (Str.ofString "_law_bare")) rfl), F.kp, b, .inl ⟨d40, rfl, rfl, rfl, F⟩⟩
  | 41, _, e => by
    cases (show some (Str.ofString "_law_soft") = some _ from e)
    obtain ⟨fd, F⟩ := c.def_ 41 (d := h41) rfl
    have b : Binds K fd [(Str.ofString "matter")] [] := F.bindsN fun _ _ _ _ _ _ us hl => match us, hl with | [_], _ => rfl
    exact ⟨_, fd, [(Str.ofString "matter")], He.glo_ok X G (c.fact 41 (f := .glo (Str.ofString "_law_soft")) rfl), F.kp, b, .inl ⟨d41, rfl, rfl, rfl, F⟩⟩
  | 42, _, e => by
    cases (show some (Str.ofString "_law_swapped_at") = some _ from e)
    obtain ⟨fd, F⟩ := c.def_ 42 (d := h42) rfl
    have b : Binds K fd [(Str.ofString "term"), (Str.ofString "path"), (Str.ofString "other")] [] := F.bindsN fun _ _ _ _ _ _ us hl => match us, hl with | [_, _, _], _ => rfl
    exact ⟨_, fd, [(Str.ofString "term"), (Str.ofString "path"), (Str.ofString "other")], He.glo_ok X G (c.fact 42 (f := .glo (Str.ofString "_law_swapped_at")) rfl), F.kp, b, .inl ⟨d42, rfl, rfl, rfl, F⟩⟩
  | 43, _, e => by
    cases (show some (Str.ofString "_law_words_all") = some _ from e)
    obtain ⟨fd, F⟩ := c.def_ 43 (d := h43) rfl
    have b : Binds K fd [(Str.ofString "book"), (Str.ofString "term")] [] := F.bindsN fun _ _ _ _ _ _ us hl => match us, hl with | [_, _], _ => rfl
    exact ⟨_, fd, [(Str.ofString "book"), (Str.ofString "term")], He.glo_ok X G (c.fact 43 (f := .glo (Str.ofString "_law_words_all")) rfl), F.kp, b, .inl ⟨d43, rfl, rfl, rfl, F⟩⟩
  | 44, _, e => by
    cases (show some (Str.ofString "_law_part") = some _ from e)
    obtain ⟨fd, F⟩ := c.def_ 44 (d := h44) rfl
    have b : Binds K fd [(Str.ofString "book"), (Str.ofString "term"), (Str.ofString "path")] [] := F.bindsN fun _ _ _ _ _ _ us hl => match us, hl with | [_, _, _], _ => rfl
    exact ⟨_, fd, [(Str.ofString "book"), (Str.ofString "term"), (Str.ofString "path")], He.glo_ok X G (c.fact 44 (f := .glo (Str.ofString "_law_part")) rfl), F.kp, b, .inr rfl⟩
  | 45, _, e => by
    cases (show some (Str.ofString "_law_lap") = some _ from e)
    obtain ⟨fd, F⟩ := c.def_ 45 (d := h45) rfl
    have b : Binds K fd [(Str.ofString "urn"), (Str.ofString "lap")] [] := F.bindsN fun _ _ _ _ _ _ us hl => match us, hl with | [_, _], _ => rfl
    exact ⟨_, fd, [(Str.ofString "urn"), (Str.ofString "lap")], He.glo_ok X G (c.fact 45 (f := .glo (Str.ofString "_law_lap")) rfl), F.kp, b, .inl ⟨d45, rfl, rfl, rfl, F⟩⟩
  | 46, _, e => by
    cases (show some (Str.ofString "law") = some _ from e)
    obtain ⟨fd, F⟩ := c.def_ 46 (d := h46) rfl
    have b : Binds K fd [(Str.ofString "script")] [] := F.bindsN fun _ _ _ _ _ _ us hl => match us, hl with | [_], _ => rfl
    exact ⟨_, fd, [(Str.ofString "script")], He.glo_ok X G (c.fact 46 (f := .glo (Str.ofString "law")) rfl), F.kp, b, .inl ⟨d46, rfl, rfl, rfl, F⟩⟩
  | i + 47, _, e => nomatch (show (none : Option Str) = some _ from e)
theorem wrote (X : K.In h) (G : h.Ns mainGlobals mg) (c : He.SaysD fa fn K) : Wrote T ds K mg := ⟨w_free X G c, w_con X G c, w_fns X G c⟩
end
end Ev.K00
set_option maxHeartbeats 4000000
/-! part_told, part_at where they raise; _law_part. -/
namespace Ev.K00
open PySem PySem.Spec PyProof.Rows L2 Ev
/-- the defs, none foreign -/
def C0 (j : Nat) : Calls := callG ds (fun _ _ _ _ => none) j
/-- where part_told raises -/
def told (C : Calls) : PyData → List PyData → Sto → Option Sto
  | _, [], _ => none
  | here, x :: r, st => match C 16 [.d here] st with
    | some (.d parts, st1) => match bltD .len (.d parts) with
      | some (.d n) => match cmpD .ge x n with
        | some true => some st1
        | some false => match ixD parts x with
          | some h => told C h r st1
          | none => none
        | none => none
      | _ => none
    | _ => none
/-- what is asked of the exception -/
def Wish (K : PySem.W.Frag) (B F : Hp) (ρ : List Addr) (Cn : Addr) (ps : List PyData) (st : Sto) (E : XK) : Prop :=
  ∀ (v : V) (d : Addr) (H' F' : Hp) (ρ' : List Addr), Ex F F' → ρ <+: ρ' → Rel K B F' ρ' [] H' ⟨[], st⟩ → RVal K F' ρ' v (.d (.tuple ps)) → H' d = none → E (.ref Cn) (some d) (upd H' d (.xd [(("place" : Str), v)]))
theorem Wish.on {K : PySem.W.Frag} {B F F1 : Hp} {ρ ρ1 : List Addr} {Cn : Addr} {ps : List PyData} {st : Sto} {E : XK} (h : Wish K B F ρ Cn ps st E) (e : Ex F F1) (p : ρ <+: ρ1) : Wish K B F1 ρ1 Cn ps st E :=
  fun v d H' F' ρ' e' p' R r hd => h v d H' F' ρ' (e.trans e') (p.trans p') R r hd
def spTold (K : PySem.W.Frag) (Cn : Addr) (C : Calls) : Sp := fun vs H _ E => ∃ (B F : Hp) (ρ : List Addr) (sto : Sto) (own : PyData) (ps : List PyData) (st' : Sto), Rel K B F ρ [] H ⟨[], sto⟩ ∧ RVals K F ρ vs [.d own, .d (.tuple ps)] ∧ told C own ps sto = some st' ∧ Wish K B F ρ Cn ps st' E
def spAt (K : PySem.W.Frag) (Cn : Addr) (C1 C : Calls) : Sp := fun vs H _ E => ∃ (B F : Hp) (ρ : List Addr) (sto : Sto) (b t p b' : Val) (own : PyData) (ps : List PyData) (s1 s2 s3 st' : Sto), Rel K B F ρ [] H ⟨[], sto⟩ ∧ RVals K F ρ vs [b, t, p] ∧
  C1 8 [b] sto = some (b', s1) ∧ C1 13 [b', t] s1 = some (.d own, s2) ∧ C1 15 [p] s2 = some (.d (.tuple ps), s3) ∧ told C own ps s3 = some st' ∧ Wish K B F ρ Cn ps st' E
section
variable (K : PySem.W.Frag) (C : Calls) (Cn : Addr)
def tTold (E : XK) : TS := tSeq (rds K (spOf K C) (.set (.n 2) (.var 0))) (tSeq (tFor (readI K (spOf K C) (.seq (.var 1))) (gTg K (.n 3)) (tSeq (rds K (spOf K C) (.set (.n 4) (.call 16 (.cons (.var 2) .nil))))
  (tSeq (tIfS (readT K (spOf K C) (.cmp .ge (.var 3) (.blt .len (.var 4)))) (tSeq (tRaiseNp Cn (fun cls d _ H => E cls d H) (tCons (tVar 1) tNil)) tNext) tNext) (tSeq (rds K (spOf K C) (.set (.n 2) (.ix (.var 4) (.var 3)))) tNext))))
  (tSeq (rds K (spOf K C) (.ret (.var 2))) tNext))
def tAt (C1 : Calls) (E : XK) : TS := tSeq (rds K (spOf K C1) (.set (.n 3) (.call 13 (.cons (.call 8 (.cons (.var 0) .nil)) (.cons (.var 1) .nil)))))
  (tSeq (tRet (tCallS (spTold K Cn C) (WE fun cls d _ H => E cls d H) (readA K (spOf K C1) (.cons (.var 3) (.cons (.call 15 (.cons (.var 2) .nil)) .nil))))) tNext)
end
theorem seq_for {wi : TI} {g : TG} {tb u : TS} {D : Ends} {σ : L2.St} {H : Hp} (h : wi σ H fun J H1 => ∃ W : Nat → Nat → L2.St → Hp → Prop, (∃ m, W 0 m σ H1) ∧ ∀ i m σ H, W i m σ H →
    (J.stop i H ∧ u D σ H) ∨ (J.go i H ∧ ∃ N : L2.St → Hp → Prop, (∀ σ' H', N σ' H' → ∃ m', m' < m ∧ W (i + 1) m' σ' H') ∧ ∀ x H', J.yld i H x H' → g x σ H' fun σ2 H2 => tb { D with nx := N, ct := N, bk := u D } σ2 H2)) : tSeq (tFor wi g tb) u D σ H := h
section
variable {P : Program} {w : World} {K : PySem.W.Frag} {mg : Str → Option Value} {base : Heap} {Cn fI : Addr}
theorem pure_told {C : Calls} {vs : List V} {H : Hp} {Q : VK} {E : XK} (h : spTold K Cn C vs H Q E) : tTold K C Cn E { nx := fun _ H' => Q .non H', rt := Q } (L2.start d28.N vs) H := by
  obtain ⟨B, F0, ρ, sto, own, ps, st', R, r, hT, q⟩ := h
  have R0 := R.start (N := d28.N) r
  refine (gs_set (tg := .n 2) (g_var (i := 0))).run (o := .next ⟨[.v (.d own), .v (.d (.tuple ps)), .v (.d own), .no, .no], sto⟩) R0 rfl fun σ1 H1 F1 ρ1 x1 p1 R1 => ?_
  dsimp only
  refine seq_for ?_
  refine (gi_seq (g_var (i := 1))).val R1 (xs := ps) rfl fun H2 F2 ρ2 x2 p2 R2 J hJ => ?_
  refine ⟨fun i m σ' H' => m = ps.length - i ∧ i ≤ ps.length ∧ ∃ (F' : Hp) (ρ' : List Addr) (here : PyData) (y3 y4 : Slot) (sti : Sto), Ex F2 F' ∧ ρ2 <+: ρ' ∧ Rel K B F' ρ' σ' H' ⟨[.v (.d own), .v (.d (.tuple ps)), .v (.d here), y3, y4], sti⟩ ∧ told C here (ps.drop i) sti = some st',
    ⟨ps.length, by omega, Nat.zero_le _, F2, ρ2, own, .no, .no, sto, Ex.refl F2, List.prefix_refl _, R2, hT⟩, ?_⟩
  rintro i m σ' H' ⟨rfl, hle, F', ρ', here, y3, y4, sti, x3, p3, R', ht⟩
  obtain ⟨_, turn⟩ := hJ F' H' x3 R'.fr
  by_cases hlt : i < ps.length
  · obtain ⟨go, yld⟩ := turn i ps[i] (List.getElem?_eq_getElem hlt)
    refine .inr ⟨go, _, fun σ'' H'' hn => ⟨ps.length - (i + 1), by omega, rfl, hlt, hn⟩, fun x H3 y => ?_⟩
    rw [List.drop_eq_getElem_cons hlt, told] at ht
    split at ht
    case h_2 => cases ht
    rename_i parts st1 e16
    split at ht
    case h_2 => cases ht
    rename_i n elen
    obtain ⟨F3, x4, R3, hx⟩ : ∃ F3, Ex F' F3 ∧ Rel K B F3 ρ' σ' H3 ⟨[.v (.d own), .v (.d (.tuple ps)), .v (.d here), y3, y4], sti⟩ ∧ Dp K F3 x ps[i] := by
      rcases yld x H3 y with ⟨rfl, hx⟩ | ⟨Z, u, hZ, rfl, hx⟩
      · exact ⟨F', Ex.refl F', R', hx⟩
      · exact ⟨upd F' Z u, Ex.new (R'.fr.free hZ), R'.new hZ, hx⟩
    refine assign_ok (tg := .n 3) (w := .d ps[i]) (env' := [.v (.d own), .v (.d (.tuple ps)), .v (.d here), .v (.d ps[i]), y4]) rfl (rval_d hx) R3 fun σ4 _ _ R4 => ?_
    refine (gs_set (tg := .n 4) (g_call (f := 16) (ga_cons (g_var (i := 2)) ga_nil))).run (o := .next ⟨[.v (.d own), .v (.d (.tuple ps)), .v (.d here), .v (.d ps[i]), .v (.d parts)], st1⟩) R4 ?_ fun σ5 H5 F5 ρ5 x5 p5 R5 => ?_
    · simp [ex, ev, evs, e16, assign]
    have hc : G K C (.cmp .ge (.var 3) (.blt .len (.var 4))) := snd _ (by decide)
    have len4 : ev C (.blt .len (.var 4)) ⟨[.v (.d own), .v (.d (.tuple ps)), .v (.d here), .v (.d ps[i]), .v (.d parts)], st1⟩ = some (.d n, ⟨[.v (.d own), .v (.d (.tuple ps)), .v (.d here), .v (.d ps[i]), .v (.d parts)], st1⟩) := by
      simp [ev, elen]
    split at ht
    · rename_i ec
      cases ht
      refine hc.tst (k := true) (s1 := ⟨[.v (.d own), .v (.d (.tuple ps)), .v (.d here), .v (.d ps[i]), .v (.d parts)], st'⟩) R5 (by rw [ev, show ev C (.var 3) _ = some (.d ps[i], _) from rfl]; simp only [len4, ec]; rfl) fun H6 F6 ρ6 x6 p6 R6 => ?_
      obtain ⟨ov, o1, o2⟩ := R6.env 1 _ rfl
      cases ov with
      | none => exact o2.elim
      | some v => exact ⟨v, o1, v, rfl, fun d hd => q v d H6 F6 ρ6 (((((x1.trans x2).trans x3).trans x4).trans x5).trans x6) ((((p1.trans p2).trans p3).trans p5).trans p6) R6.bare o2 hd⟩
    · rename_i ec
      split at ht
      case h_2 => cases ht
      rename_i hh eix
      refine hc.tst (k := false) (s1 := ⟨[.v (.d own), .v (.d (.tuple ps)), .v (.d here), .v (.d ps[i]), .v (.d parts)], st1⟩) R5 (by rw [ev, show ev C (.var 3) _ = some (.d ps[i], _) from rfl]; simp only [len4, ec]; rfl) fun H6 F6 ρ6 x6 p6 R6 => ?_
      refine (gs_set (tg := .n 2) (g_ix (g_var (i := 4)) (g_var (i := 3)))).run (o := .next ⟨[.v (.d own), .v (.d (.tuple ps)), .v (.d hh), .v (.d ps[i]), .v (.d parts)], st1⟩) R6 (by simp [ex, ev, eix, assign]) fun σ7 H7 F7 ρ7 x7 p7 R7 => ?_
      exact ⟨F7, ρ7, hh, _, _, st1, (((x3.trans x4).trans x5).trans x6).trans x7, ((p3.trans p5).trans p6).trans p7, R7, ht⟩
    · cases ht
  · have ei : i = ps.length := by omega
    subst ei
    rw [List.drop_eq_nil_of_le (Nat.le_refl _), told] at ht
    cases ht
theorem ok_told {j : Nat} {f : Addr} {fd : FuncData} (W : Wrote T ds K mg) (A : AllOk T P w K mg base (C0 j) j) (Tn : NpTxt P K Cn fI) (gN : mg "NoPlace" = some (.ref Cn)) (F : FunD K d28.name d28.name (defArgs d28.st) (defBody d28.st) (defScope d28.st) [] [] f fd) :
    FnOk P w K mg base (L2.CX P w) (j + 1) f fd d28.ps (spTold K Cn (C0 j)) := by
  refine F.ok g28.sc (fun vs H Q E h => ?_) (fun cdv A' outer s H vs Q E hr h => ⟨tTold K (C0 j) Cn E, ?_, pure_told h⟩)
  · obtain ⟨_, _, _, _, _, _, _, _, r, _⟩ := h
    exact rvals_len r
  · have am : Amb T (C0 j) j (cxOf (L2.CX P w) P w K mg base d28.N d28.name (defScope d28.st) f cdv A' outer s H E) := amb_of W rfl g28.sc.nd hr A
    exact pss_cons (s_set (d_var 0) (d_tgn am 2)) (pss_cons (ps_for (passes_of rfl) rfl (d_seq (d_var 1)) (d_tgn am 3) (pss_cons (s_set (d_call am 16 (d_cons (d_var 2) d_nil)) (d_tgn am 4))
      (pss_cons (ps_if (d_cmpT am .ge (d_var 3) (d_blt am .len 4 (d_var 4))) (pss_cons (ps_raiseNp rfl Tn gN hr (takes_of rfl rfl rfl rfl) (pa_cons (pe_var (i := 1) rfl (Or.inl rfl)) pa_nil) rfl (by decide) rfl rfl) pss_nil) pss_nil)
      (pss_cons (s_set (d_ix (d_var 4) (d_var 3)) (d_tgn am 2)) pss_nil)))) (pss_cons (s_ret (d_var 2)) pss_nil))
end
end Ev.K00
set_option maxHeartbeats 4000000
namespace Ev
open PySem L2
theorem Rel.setNo {K : PySem.W.Frag} {B F H : Hp} {ρ : List Addr} {σ : L2.St} {s : S} (R : Rel K B F ρ σ H s) (i : Nat) : Rel K B F ρ (σ.set i none) H ⟨s.env.set i .no, s.sto⟩ := by
  have own : ∀ {j : Nat} {xs : List PyData}, (s.env.set i .no)[j]? = some (.own xs) → i ≠ j ∧ s.env[j]? = some (.own xs) := fun {j xs} h => set_own (sl := .no) (fun ys e => by cases e) h
  refine ⟨R.fr, by simpa using R.len, fun j sl h => ?_, fun j k xs ys a h1 h2 h3 h4 => ?_, R.slen, R.nd, R.sto, fun a o h => ?_⟩
  · by_cases e : i = j
    · subst e
      have hi : i < s.env.length := by
        have := (List.getElem?_eq_some_iff.mp h).1
        simpa using this
      rw [List.getElem?_set_self hi] at h
      cases h
      exact ⟨none, List.getElem?_set_self (by rw [← R.len]; exact hi), trivial⟩
    · rw [List.getElem?_set_ne e] at h ⊢
      exact R.env j sl h
  · obtain ⟨n1, g1⟩ := own h1
    obtain ⟨n2, g2⟩ := own h2
    rw [List.getElem?_set_ne n1] at h3
    rw [List.getElem?_set_ne n2] at h4
    exact R.inj j k xs ys a g1 g2 h3 h4
  · obtain ⟨h1, h2, h3, h4⟩ := R.bg a o h
    refine ⟨h1, h2, h3, fun j xs q1 q2 => ?_⟩
    obtain ⟨n1, g1⟩ := own q1
    rw [List.getElem?_set_ne n1] at q2
    exact h4 j xs g1 q2
end Ev
namespace Ev.K00
open PySem PySem.Spec PyProof.Rows L2 Ev
section
variable {P : Program} {w : World} {K : PySem.W.Frag} {mg : Str → Option Value} {base : Heap} {Cn fI : Addr}
theorem pure_at {C1 C : Calls} {vs : List V} {H : Hp} {Q : VK} {E : XK} (h : spAt K Cn C1 C vs H Q E) : tAt K C Cn C1 E { nx := fun _ H' => Q .non H', rt := Q } (L2.start d29.N vs) H := by
  obtain ⟨B, F0, ρ, sto, b, t, p, b', own, ps, s1, s2, s3, st', R, r, e8, e13, e15, hT, q⟩ := h
  have R0 := R.start (N := d29.N) r
  refine (gs_set (tg := .n 3) (snd (K := K) (C := C1) (.call 13 (.cons (.call 8 (.cons (.var 0) .nil)) (.cons (.var 1) .nil))) (by decide))).run (o := .next ⟨[.v b, .v t, .v p, .v (.d own)], s2⟩) R0 ?_ fun σ1 H1 F1 ρ1 x1 p1 R1 => ?_
  · simp [ex, ev, evs, e8, e13, assign, d29]
  show readA K (spOf K C1) (.cons (.var 3) (.cons (.call 15 (.cons (.var 2) .nil)) .nil)) σ1 H1 fun vs H2 => spTold K Cn C vs H2 Q (WE (fun cls d _ H => E cls d H) σ1)
  refine (sndA (K := K) (C := C1) (.cons (.var 3) (.cons (.call 15 (.cons (.var 2) .nil)) .nil)) (by decide)).val (ws := [.d own, .d (.tuple ps)]) (s1 := ⟨[.v b, .v t, .v p, .v (.d own)], s3⟩) R1 ?_ fun H2 F2 ρ2 x2 p2 R2 vs2 r2 => ?_
  · simp [ev, evs, e15]
  exact ⟨_, F2, ρ2, s3, own, ps, st', R2.bare, r2, hT, q.on (x1.trans x2) (p1.trans p2)⟩
theorem ok_at {j : Nat} {f fT : Addr} {fd fdT : FuncData} (W : Wrote T ds K mg) (A1 : AllOk T P w K mg base (C0 (j + 1)) (j + 1)) (GT : FnOk P w K mg base (L2.CX P w) (j + 1) fT fdT d28.ps (spTold K Cn (C0 j)))
    (gT : mg "part_told" = some (.ref fT)) (kT : PySem.W.keepIn K (.ref fT) = true) (bT : Binds K fdT d28.ps []) (F : FunD K d29.name d29.name (defArgs d29.st) (defBody d29.st) (defScope d29.st) [] [] f fd) :
    FnOk P w K mg base (L2.CX P w) (j + 2) f fd d29.ps (spAt K Cn (C0 (j + 1)) (C0 j)) := by
  refine F.ok g29.sc (fun vs H Q E h => ?_) (fun cdv A' outer s H vs Q E hr h => ⟨tAt K (C0 j) Cn (C0 (j + 1)) E, ?_, pure_at h⟩)
  · obtain ⟨_, _, _, _, _, _, _, _, _, _, _, _, _, _, _, r, _⟩ := h
    exact rvals_len r
  · have am : Amb T (C0 (j + 1)) (j + 1) (cxOf (L2.CX P w) P w K mg base d29.N d29.name (defScope d29.st) f cdv A' outer s H E) := amb_of W rfl g29.sc.nd hr A1
    have tk : Takes (cxOf (L2.CX P w) P w K mg base d29.N d29.name (defScope d29.st) f cdv A' outer s H E) (fun cls d _ H => E cls d H) := takes_of rfl rfl rfl rfl
    exact pss_cons (s_set (d_call am 13 (d_cons (d_call am 8 (d_cons (d_var 0) d_nil)) (d_cons (d_var 1) d_nil))) (d_tgn am 3))
      (pss_cons (ps_ret (pe_callS GT hr rfl gT kT bT (fun σ => passAt tk σ) (d_cons (d_var 3) (d_cons (d_call am 15 (d_cons (d_var 2) d_nil)) d_nil)))) pss_nil)
/-! ### _law_part -/
def GP : Nat → Calls
  | j + 2, _, [b, t, p], st => match C0 (j + 1) 8 [b] st with
    | some (b', s1) => match C0 (j + 1) 13 [b', t] s1 with
      | some (.d own, s2) => match C0 (j + 1) 15 [p] s2 with
        | some (.d (.tuple ps), s3) => (told (C0 j) own ps s3).map fun s4 => (.d (.tuple [.str "no place", .tuple ps]), s4)
        | _ => none
      | _ => none
    | none => none
  | _, _, _, _ => none
abbrev sPart : Stmt := top 58
def pN : List Str := ["book", "term", "path", "found", "caught_so"]
def pP : List Str := ["book", "term", "path"]
def tSuite (K : PySem.W.Frag) (Cn : Addr) : Addr → Value → Option Addr → TS := fun a cls d => tAsg (tTup (tCons (tC (.str "no place")) (tCons (tXf a cls d Cn "place" (tVar 4)) tNil))) (gName 3)
def tTry (K : PySem.W.Frag) (Cn : Addr) (C1 C : Calls) : TS := fun D σ H => tAsg (tCallS (spAt K Cn C1 C) (WE (wAs K (.ref Cn) 4 (tSuite K Cn) (fun _ _ _ _ => False) D)) (readA K (spOf K C1) (.cons (.var 0) (.cons (.var 1) (.cons (.var 2) .nil))))) (gName 3) D σ H
def tPart' (K : PySem.W.Frag) (Cn : Addr) (C1 C : Calls) : TS := tSeq (rds K (spOf K C1) (.set (.n 3) (.con .none))) (tSeq (tTry K Cn C1 C) (tSeq (rds K (spOf K C1) (.ret (.var 3))) tNext))
theorem gp_inv {j : Nat} {ws : List Val} {sto st : Sto} {v : Val} (h : GP (j + 2) 44 ws sto = some (v, st)) : ∃ (b t p b' : Val) (own : PyData) (ps : List PyData) (s1 s2 s3 : Sto), ws = [b, t, p] ∧ C0 (j + 1) 8 [b] sto = some (b', s1) ∧ C0 (j + 1) 13 [b', t] s1 = some (.d own, s2) ∧
    C0 (j + 1) 15 [p] s2 = some (.d (.tuple ps), s3) ∧ told (C0 j) own ps s3 = some st ∧ v = .d (.tuple [.str "no place", .tuple ps]) := by
  match ws, h with
  | [b, t, p], h =>
    simp only [GP] at h
    split at h
    case h_2 => cases h
    rename_i b' s1 e1
    split at h
    case h_2 => cases h
    rename_i own s2 e2
    split at h
    case h_2 => cases h
    rename_i ps s3 e3
    obtain ⟨s4, e4, e5⟩ := Option.map_eq_some_iff.mp h
    cases e5
    exact ⟨b, t, p, b', own, ps, s1, s2, s3, rfl, e1, e2, e3, e4, rfl⟩
  | [], h => cases h
  | [_], h => cases h
  | [_, _], h => cases h
  | _ :: _ :: _ :: _ :: _, h => cases h
theorem pure_part (Tn : NpTxt P K Cn fI) {j : Nat} {vs : List V} {H : Hp} {Q : VK} {E : XK} (h : spOf K (callG ds GP (j + 3)) 44 vs H Q E) : tPart' K Cn (C0 (j + 1)) (C0 j) { nx := fun _ H' => Q .non H', rt := Q } (L2.start pN vs) H := by
  obtain ⟨B, F0, ρ, sto, ws, v, st, R, r, e, q⟩ := h
  obtain ⟨b, t, p, b', own, ps, s1, s2, s3, rfl, e8, e13, e15, hT, rfl⟩ := gp_inv (show GP (j + 2) 44 ws sto = some (v, st) from e)
  have R0 := R.start (N := pN) r
  refine (gs_set (tg := .n 3) (g_con (d := .none) rfl)).run (o := .next ⟨[.v b, .v t, .v p, .v (.d .none), .no], sto⟩) R0 rfl fun σ1 H1 F1 ρ1 x1 p1 R1 => ?_
  show readA K (spOf K (C0 (j + 1))) (.cons (.var 0) (.cons (.var 1) (.cons (.var 2) .nil))) σ1 H1 fun vs H2 => spAt K Cn (C0 (j + 1)) (C0 j) vs H2 _ (WE (wAs K (.ref Cn) 4 (tSuite K Cn) (fun _ _ _ _ => False) _) σ1)
  refine (sndA (K := K) (C := C0 (j + 1)) (.cons (.var 0) (.cons (.var 1) (.cons (.var 2) .nil))) (by decide)).val (ws := [b, t, p]) (s1 := ⟨[.v b, .v t, .v p, .v (.d .none), .no], sto⟩) R1 rfl fun H2 F2 ρ2 x2 p2 R2 vs2 r2 => ?_
  refine ⟨Bown B σ1 _ H2, F2, ρ2, sto, b, t, p, b', own, ps, s1, s2, s3, st, R2.sub (σ' := []) (env' := []) rfl fun i sl h => by simp at h, r2, e8, e13, e15, hT, fun pv d H3 F3 ρ3 x3 p3 R3 rp hd => ?_⟩
  refine ⟨true, Tn.te, fun _ a ha => ?_, fun z => by cases z⟩
  -- the suite
  have R4 := (R2.back R3 x3 p3).lay (o := .xd [(("place" : Str), pv)]) hd
  obtain ⟨R4, _⟩ := R4
  have hl5 : σ1.length = 5 := R2.len.symm
  have g4 : (σ1.set 4 (some (.ref a)))[4]? = some (some (.ref a)) := List.getElem?_set_self (by rw [hl5]; decide)
  refine ⟨_, g4, rfl, rfl, d, _, pv, rfl, upd_same, by simp [List.lookup], (by show 2 ≤ sizeLine; decide), fun z hz => ?_⟩
  have hF := R4.fr.free hz
  have dt : Dp K (upd F3 z (.tup [.str "no place", pv])) (.ref z) (.tuple [.str "no place", .tuple ps]) := .tup (.inl (.inl upd_same)) (.cons (.str _) (.cons (dp_ex (Ex.new hF) (show Dp K F3 pv (.tuple ps) from rp)) .nil))
  have R5 := ((R4.new (o := .tup [.str "no place", pv]) hz).setv 3 (w := .d (.tuple [.str "no place", .tuple ps])) (rval_d dt)).setNo 4
  have es : ((σ1.set 4 (some (.ref a))).set 3 (some (.ref z))).set 4 none = (σ1.set 3 (some (.ref z))).set 4 none := by
    apply List.ext_getElem?
    intro i
    by_cases e4 : 4 = i
    · subst e4
      simp [hl5]
    · rw [List.getElem?_set_ne e4, List.getElem?_set_ne e4]
      by_cases e3 : 3 = i
      · subst e3
        simp [hl5]
      · rw [List.getElem?_set_ne e3, List.getElem?_set_ne e3, List.getElem?_set_ne e4]
  show tSeq (rds K (spOf K (C0 (j + 1))) (.ret (.var 3))) tNext _ (((σ1.set 4 (some (.ref a))).set 3 (some (.ref z))).set 4 none) _
  rw [es]
  refine (gs_ret (g_var (i := 3))).run (o := .ret (.d (.tuple [.str "no place", .tuple ps])) st) R5 rfl fun v' H6 F6 ρ6 x6 p6 R6 r6 => ?_
  exact q v' H6 F6 ρ6 (((x1.trans x2).trans x3).trans ((Ex.new hF).trans x6)) (((p1.trans p2).trans p3).trans p6) R6 r6
theorem scP : FnScope pN pP (defScope sPart) := ⟨rfl, rfl, rfl, by decide +kernel, rfl, by decide +kernel, by decide +kernel⟩
theorem ok_part {j : Nat} {f fA : Addr} {fd fdA : FuncData} (W : Wrote T ds K mg) (A1 : AllOk T P w K mg base (C0 (j + 1)) (j + 1)) (Tn : NpTxt P K Cn fI) (gN : mg "NoPlace" = some (.ref Cn)) (GA : FnOk P w K mg base (L2.CX P w) (j + 2) fA fdA d29.ps (spAt K Cn (C0 (j + 1)) (C0 j)))
    (gA : mg "part_at" = some (.ref fA)) (kA : PySem.W.keepIn K (.ref fA) = true) (bA : Binds K fdA d29.ps []) (F : FunD K "_law_part" "_law_part" (defArgs sPart) (defBody sPart) (defScope sPart) [] [] f fd) :
    FnOk P w K mg base CX0 (j + 3) f fd pP (spOf K (callG ds GP (j + 3)) 44) := by
  refine F.ok scP (fun vs H Q E h => ?_) (fun cdv A' outer s H vs Q E hr h => ⟨tPart' K Cn (C0 (j + 1)) (C0 j), PSs.nox ?_, pure_part Tn h⟩)
  · obtain ⟨_, _, _, _, ws, _, _, _, r, e, _⟩ := h
    obtain ⟨_, _, _, _, _, _, _, _, _, rfl, _⟩ := gp_inv (show GP (j + 2) 44 ws _ = some _ from e)
    exact rvals_len r
  · have am : Amb T (C0 (j + 1)) (j + 1) (cxOf CX0 P w K mg base pN "_law_part" (defScope sPart) f cdv A' outer s H E).nox := amb_of W rfl scP.nd (hr.mono (Nat.le_succ _)) A1
    exact pss_cons (s_set d_non (d_tgn am 3))
      (pss_cons (ps_try_as (i := 4) (tb := fun W => tAsg (tCallS (spAt K Cn (C0 (j + 1)) (C0 j)) (WE W) (readA K (spOf K (C0 (j + 1))) (.cons (.var 0) (.cons (.var 1) (.cons (.var 2) .nil))))) (gName 3)) (ts := tSuite K Cn) (Wout := fun _ _ _ _ => False) rfl rfl scP.nd rfl rfl ⟨rfl, by decide, Or.inl gN⟩ takes0
        (fun W pn xe tk _ => pss_one (ps_asg (pe_callS GA hr rfl gA kA bA (fun σ => passAt tk σ) (d_cons (d_var 0) (d_cons (d_var 1) (d_cons (d_var 2) d_nil)))) (pg_name (i := 3) scP.nd rfl (Or.inl rfl))))
        (fun a oe cls d pn hz hf => pss_one (ps_asg (pe_tup (pa_cons pe_str (pa_cons (pe_xf Tn.xf Tn.noN hz hf (pe_var (i := 4) rfl (Or.inl rfl))) pa_nil))) (pg_name (i := 3) scP.nd rfl (Or.inl rfl)))))
      (pss_cons (s_ret (d_var 3)) pss_nil))
end
end Ev.K00
set_option maxHeartbeats 400000
namespace Ev.K00
open PySem PySem.Spec PyProof.Rows L2 Ev
/-- what the foreign defs answer -/
class GG where
  G : Nat → Calls
abbrev cg [GG] (k : Nat) : Calls := callG ds GG.G k
variable [GG]
def isNum (d : PyData) : Bool := isTy .int d && !isTy .bool d
theorem is_number_ok (k : Nat) (d : PyData) (st : Sto) : cg (k + 1) 0 [.d d] st = some (.d (.bool (isNum d)), st) := by
  cases d <;> rfl
theorem lcGo_map {f : PyData → Sto → Option (Option PyData × Sto)} {g : PyData → PyData} {st : Sto} : ∀ {xs : List PyData}, (∀ x ∈ xs, f x st = some (some (g x), st)) → lcGo f xs st = some (xs.map g, st)
  | [], _ => rfl
  | x :: r, h => by
    rw [lcGo, h x List.mem_cons_self]
    simp only
    rw [lcGo_map fun y hy => h y (List.mem_cons_of_mem _ hy)]
    rfl
theorem lcGo_if {f : PyData → Sto → Option (Option PyData × Sto)} {p : PyData → Bool} {g : PyData → PyData} {st : Sto} : ∀ {xs : List PyData}, (∀ x ∈ xs, f x st = some (if p x then some (g x) else none, st)) → lcGo f xs st = some ((xs.filter p).map g, st)
  | [], _ => rfl
  | x :: r, h => by
    rw [lcGo, h x List.mem_cons_self]
    simp only
    rw [lcGo_if fun y hy => h y (List.mem_cons_of_mem _ hy)]
    by_cases c : p x = true
    · simp [c]
    · simp [c]
mutual
def tupD : PyData → PyData
  | .list xs => .tuple (tupDs xs)
  | .tuple xs => .tuple (tupDs xs)
  | .none => .none
  | .bool b => .bool b
  | .int i => .int i
  | .str x => .str x
  | .dict kvs => .dict kvs
def tupDs : List PyData → List PyData
  | [] => []
  | x :: r => tupD x :: tupDs r
end
theorem tupDs_map : ∀ xs : List PyData, tupDs xs = xs.map tupD
  | [] => rfl
  | x :: r => by rw [tupDs, tupDs_map r]; rfl
/-- no dict, of at most n levels, short -/
def okN : Nat → PyData → Bool
  | _, .none => true
  | _, .bool _ => true
  | _, .int _ => true
  | _, .str _ => true
  | _, .dict _ => false
  | 0, _ => false
  | n + 1, .list xs => decide (xs.length ≤ 1000) && xs.all (okN n)
  | n + 1, .tuple xs => decide (xs.length ≤ 1000) && xs.all (okN n)
theorem okN_no {n : Nat} {d : PyData} (h : okN n d = true) : noDict (tupD d) = true := by
  cases d with
  | dict kvs => cases n <;> cases h
  | _ => rfl
theorem seq_ok {n k : Nat} {xs : List PyData} {st : Sto} (h : (decide (xs.length ≤ 1000) && xs.all (okN n)) = true) (ih : ∀ (d : PyData), okN n d = true → cg k 3 [.d d] st = some (.d (tupD d), st)) (d : PyData) (hd : d = .list xs ∨ d = .tuple xs) :
    cg (k + 1) 3 [.d d] st = some (.d (.tuple (tupDs xs)), st) := by
  obtain ⟨h1, h2⟩ := and2 h
  have hl := of_decide_eq_true h1
  have fx : ∀ {env0 : List Slot} (x : PyData), env0 = [.v (.d d), .no] → x ∈ xs → (match assign (.n 1) (.d x) env0 with
      | none => none
      | some env => match ev (cg k) (.con (.bool true)) ⟨env, st⟩ with
        | some (.d (.bool false), s2) => some (none, s2.sto)
        | some (.d (.bool true), s2) => match ev (cg k) (.call 3 (.cons (.var 1) .nil)) s2 with
          | some (.d y, s3) => if noDict y = true then some (some y, s3.sto) else none
          | _ => none
        | _ => none) = some (some (tupD x), st) := fun {env0} x e hx => by
    subst e
    have o := List.all_eq_true.mp h2 x hx
    simp only [assign, List.set, ev, evs, List.getElem?_cons_succ, List.getElem?_cons_zero, ih x o, okN_no o, if_true]
  have lc : ev (cg k) (.lc (.n 1) (.seq (.var 0)) (.con (.bool true)) (.call 3 (.cons (.var 1) .nil)) [1]) ⟨[.v (.d d), .no], st⟩ = some (.d (.list (xs.map tupD)), ⟨[.v (.d d), .no], st⟩) := by
    have hi : evIt (cg k) (.seq (.var 0)) ⟨[.v (.d d), .no], st⟩ = some (xs, ⟨[.v (.d d), .no], st⟩) := by
      rcases hd with rfl | rfl <;> rfl
    rw [ev, hi]
    simp only
    rw [lcGo_map (g := tupD) fun x hx => fx x rfl hx]
    simp only [List.length_map, show xs.length ≤ 100000 by omega, if_true]
  have hb : ev (cg k) (.isi2 (.var 0) .list .tuple) ⟨[.v (.d d), .no], st⟩ = some (.d (.bool true), ⟨[.v (.d d), .no], st⟩) := by
    rcases hd with rfl | rfl <;> rfl
  show runFn (cg k) ⟨1, 2, b3⟩ [.d d] st = _
  unfold runFn b3
  simp only [List.length_cons, List.length_nil, List.map_cons, List.map_nil, List.replicate, List.cons_append, List.nil_append, if_true, exs, ex, hb]
  rw [ev, lc]
  simp only [bltD, seqD, Option.map_some, tupDs_map]
theorem tuple_of_ok : ∀ (n k : Nat) (d : PyData) (st : Sto), okN n d = true → cg (k + n + 1) 3 [.d d] st = some (.d (tupD d), st)
  | _, _, .none, _, _ => rfl
  | _, _, .bool _, _, _ => rfl
  | _, _, .int _, _, _ => rfl
  | _, _, .str _, _, _ => rfl
  | 0, _, .dict _, _, h => nomatch h
  | _ + 1, _, .dict _, _, h => nomatch h
  | 0, _, .list _, _, h => nomatch h
  | 0, _, .tuple _, _, h => nomatch h
  | n + 1, k, .list xs, st, h => seq_ok (n := n) h (fun d hd => tuple_of_ok n k d st hd) _ (.inl rfl)
  | n + 1, k, .tuple xs, st, h => seq_ok (n := n) h (fun d hd => tuple_of_ok n k d st hd) _ (.inr rfl)
end Ev.K00
set_option maxHeartbeats 400000
namespace Ev.K00
open PySem PySem.Spec PyProof.Rows L2 Ev
variable [GG]
/-- a sign: name, kind, how many -/
structure Sg where
  n : Str
  k : Str
  m : Nat
def sgD (s : Sg) : PyData := .tuple [.str s.n, .str s.k, .int s.m]
def bookD (B : List Sg) : PyData := .tuple (B.map sgD)
def sigD (B : List Sg) : PyData := .dict (B.map fun s => (.str s.n, .tuple [.str s.k, .int s.m]))
def pl : Str := "plain"
def sw : Str := "swap"
def bg : Str := "bag"
def B0 : List Sg := [⟨"a", pl, 0⟩, ⟨"b", pl, 0⟩, ⟨"f", pl, 1⟩, ⟨"pair", sw, 2⟩, ⟨"sum", bg, 2⟩]
def B1 : List Sg := [⟨"a", pl, 0⟩, ⟨"g", pl, 2⟩, ⟨"sum", bg, 2⟩]
def B2 : List Sg := [⟨"a", pl, 0⟩, ⟨"b", pl, 0⟩, ⟨"pair", sw, 2⟩]
def B3 : List Sg := [⟨"a", pl, 0⟩, ⟨"b", pl, 0⟩, ⟨"sum", bg, 2⟩, ⟨"tot", bg, 2⟩]
def Books : List (List Sg) := [B0, B1, B2, B3]
theorem books {B : List Sg} (h : B ∈ Books) : B = B0 ∨ B = B1 ∨ B = B2 ∨ B = B3 := by
  simpa [Books] using h
theorem sure_book_ok {B : List Sg} (h : B ∈ Books) (k : Nat) (st : Sto) : cg (k + 9) 8 [.d (bookD B)] st = some (.d (bookD B), st) := by
  rcases books h with rfl | rfl | rfl | rfl <;> kernel_rfl
theorem signs_ok {B : List Sg} (h : B ∈ Books) (k : Nat) (st : Sto) : cg (k + 1) 9 [.d (bookD B)] st = some (.d (sigD B), st) := by
  rcases books h with rfl | rfl | rfl | rfl <;> kernel_rfl
/-- a term -/
inductive Tm where
  | u (n : Nat)
  | a (f : Str) (ts : List Tm)
mutual
def enc : Tm → PyData
  | .u n => .int n
  | .a f ts => .tuple [.str f, .tuple (encs ts)]
def encs : List Tm → List PyData
  | [] => []
  | t :: r => enc t :: encs r
end
theorem encs_map : ∀ ts : List Tm, encs ts = ts.map enc
  | [] => rfl
  | t :: r => by rw [encs, encs_map r]; rfl
/-- a node of a book: its sign, its parts' number -/
def Node (B : List Sg) (f : Str) (ts : List Tm) : Prop := ∃ s ∈ B, f = s.n ∧ (ts.length = s.m ∨ (s.k = bg ∧ ts.length = 3))
inductive Ok (B : List Sg) : Tm → Prop where
  | u (n : Nat) (h : n < 3) : Ok B (.u n)
  | a (f : Str) (ts : List Tm) (h : Node B f ts) (hs : ∀ t ∈ ts, Ok B t) : Ok B (.a f ts)
def kids : Tm → List Tm
  | .u _ => []
  | .a _ ts => ts
theorem len_cases {ts : List Tm} {m : Nat} (h : ts.length = m) (hm : m ≤ 3) : ts = [] ∧ m = 0 ∨ (∃ a, ts = [a] ∧ m = 1) ∨ (∃ a b, ts = [a, b] ∧ m = 2) ∨ ∃ a b c, ts = [a, b, c] ∧ m = 3 := by
  match ts, h with
  | [], h => exact .inl ⟨rfl, h.symm⟩
  | [a], h => exact .inr (.inl ⟨a, rfl, h.symm⟩)
  | [a, b], h => exact .inr (.inr (.inl ⟨a, b, rfl, h.symm⟩))
  | [a, b, c], h => exact .inr (.inr (.inr ⟨a, b, c, rfl, h.symm⟩))
  | a :: b :: c :: d :: r, h => simp at h; omega
/-- the nodes, one by one -/
theorem nodes {B : List Sg} (hB : B ∈ Books) {P : List Sg → Str → List Tm → Prop}
    (h0 : P B0 "a" [] ∧ P B0 "b" [] ∧ (∀ x, P B0 "f" [x]) ∧ (∀ x y, P B0 "pair" [x, y]) ∧ (∀ x y, P B0 "sum" [x, y]) ∧ ∀ x y z, P B0 "sum" [x, y, z])
    (h1 : P B1 "a" [] ∧ (∀ x y, P B1 "g" [x, y]) ∧ (∀ x y, P B1 "sum" [x, y]) ∧ ∀ x y z, P B1 "sum" [x, y, z])
    (h2 : P B2 "a" [] ∧ P B2 "b" [] ∧ ∀ x y, P B2 "pair" [x, y])
    (h3 : P B3 "a" [] ∧ P B3 "b" [] ∧ (∀ x y, P B3 "sum" [x, y]) ∧ (∀ x y z, P B3 "sum" [x, y, z]) ∧ (∀ x y, P B3 "tot" [x, y]) ∧ ∀ x y z, P B3 "tot" [x, y, z]) {f : Str} {ts : List Tm} (h : Node B f ts) : P B f ts := by
  obtain ⟨s, hs, rfl, hl⟩ := h
  have two : ∀ {ts : List Tm}, ts.length = 2 → ∃ x y, ts = [x, y] := fun {ts} h => match ts, h with | [x, y], _ => ⟨x, y, rfl⟩
  have three : ∀ {ts : List Tm}, ts.length = 3 → ∃ x y z, ts = [x, y, z] := fun {ts} h => match ts, h with | [x, y, z], _ => ⟨x, y, z, rfl⟩
  have one : ∀ {ts : List Tm}, ts.length = 1 → ∃ x, ts = [x] := fun {ts} h => match ts, h with | [x], _ => ⟨x, rfl⟩
  have zero : ∀ {ts : List Tm}, ts.length = 0 → ts = [] := fun {ts} h => List.eq_nil_of_length_eq_zero h
  have np : ¬ pl = bg := by decide
  have ns : ¬ sw = bg := by decide
  rcases books hB with rfl | rfl | rfl | rfl
  · simp only [B0, List.mem_cons, List.not_mem_nil, or_false] at hs
    rcases hs with rfl | rfl | rfl | rfl | rfl
    · rcases hl with hl | ⟨e, _⟩
      · rw [zero hl]; exact h0.1
      · exact absurd e np
    · rcases hl with hl | ⟨e, _⟩
      · rw [zero hl]; exact h0.2.1
      · exact absurd e np
    · rcases hl with hl | ⟨e, _⟩
      · obtain ⟨x, rfl⟩ := one hl; exact h0.2.2.1 x
      · exact absurd e np
    · rcases hl with hl | ⟨e, _⟩
      · obtain ⟨x, y, rfl⟩ := two hl; exact h0.2.2.2.1 x y
      · exact absurd e ns
    · rcases hl with hl | ⟨_, hl⟩
      · obtain ⟨x, y, rfl⟩ := two hl; exact h0.2.2.2.2.1 x y
      · obtain ⟨x, y, z, rfl⟩ := three hl; exact h0.2.2.2.2.2 x y z
  · simp only [B1, List.mem_cons, List.not_mem_nil, or_false] at hs
    rcases hs with rfl | rfl | rfl
    · rcases hl with hl | ⟨e, _⟩
      · rw [zero hl]; exact h1.1
      · exact absurd e np
    · rcases hl with hl | ⟨e, _⟩
      · obtain ⟨x, y, rfl⟩ := two hl; exact h1.2.1 x y
      · exact absurd e np
    · rcases hl with hl | ⟨_, hl⟩
      · obtain ⟨x, y, rfl⟩ := two hl; exact h1.2.2.1 x y
      · obtain ⟨x, y, z, rfl⟩ := three hl; exact h1.2.2.2 x y z
  · simp only [B2, List.mem_cons, List.not_mem_nil, or_false] at hs
    rcases hs with rfl | rfl | rfl
    · rcases hl with hl | ⟨e, _⟩
      · rw [zero hl]; exact h2.1
      · exact absurd e np
    · rcases hl with hl | ⟨e, _⟩
      · rw [zero hl]; exact h2.2.1
      · exact absurd e np
    · rcases hl with hl | ⟨e, _⟩
      · obtain ⟨x, y, rfl⟩ := two hl; exact h2.2.2 x y
      · exact absurd e ns
  · simp only [B3, List.mem_cons, List.not_mem_nil, or_false] at hs
    rcases hs with rfl | rfl | rfl | rfl
    · rcases hl with hl | ⟨e, _⟩
      · rw [zero hl]; exact h3.1
      · exact absurd e np
    · rcases hl with hl | ⟨e, _⟩
      · rw [zero hl]; exact h3.2.1
      · exact absurd e np
    · rcases hl with hl | ⟨_, hl⟩
      · obtain ⟨x, y, rfl⟩ := two hl; exact h3.2.2.1 x y
      · obtain ⟨x, y, z, rfl⟩ := three hl; exact h3.2.2.2.1 x y z
    · rcases hl with hl | ⟨_, hl⟩
      · obtain ⟨x, y, rfl⟩ := two hl; exact h3.2.2.2.2.1 x y
      · obtain ⟨x, y, z, rfl⟩ := three hl; exact h3.2.2.2.2.2 x y z
theorem three {n : Nat} (h : n < 3) : n = 0 ∨ n = 1 ∨ n = 2 := by omega
theorem parts_fit_ok {B : List Sg} (hB : B ∈ Books) {t : Tm} (h : Ok B t) (k : Nat) (st : Sto) : cg (k + 3) 10 [.d (sigD B), .d (enc t)] st = some (.d (.tuple ((kids t).map enc)), st) := by
  cases h with
  | u n hn =>
    rcases three hn with rfl | rfl | rfl <;> rcases books hB with rfl | rfl | rfl | rfl <;> kernel_rfl
  | a f ts hn _ =>
    refine nodes hB (P := fun B f ts => cg (k + 3) 10 [.d (sigD B), .d (enc (.a f ts))] st = some (.d (.tuple ((kids (.a f ts)).map enc)), st)) ?_ ?_ ?_ ?_ hn
    · refine ⟨?_, ?_, fun x => ?_, fun x y => ?_, fun x y => ?_, fun x y z => ?_⟩ <;> kernel_rfl
    · refine ⟨?_, fun x y => ?_, fun x y => ?_, fun x y z => ?_⟩ <;> kernel_rfl
    · refine ⟨?_, ?_, fun x y => ?_⟩ <;> kernel_rfl
    · refine ⟨?_, ?_, fun x y => ?_, fun x y z => ?_, fun x y => ?_, fun x y z => ?_⟩ <;> kernel_rfl
theorem parts_in_ok {t : Tm} (k : Nat) (st : Sto) : cg (k + 2) 16 [.d (enc t)] st = some (.d (.tuple ((kids t).map enc)), st) := by
  cases t with
  | u n => kernel_rfl
  | a f ts =>
    have e : kids (.a f ts) = ts := rfl
    rw [e, ← encs_map]
    kernel_rfl
end Ev.K00
set_option maxHeartbeats 400000
namespace Ev.K00
open PySem PySem.Spec PyProof.Rows L2 Ev
variable [GG]
/-! ### the steps of a body, one by one -/
section
variable {C : Calls}
theorem run_of {F : Fn} {ws : List Val} {st st1 : Sto} {w : Val} (hl : ws.length = F.ps) (h : exs C F.body ⟨ws.map Slot.v ++ List.replicate (F.n - ws.length) .no, st⟩ = some (.ret w st1)) : runFn C F ws st = some (w, st1) := by
  rw [runFn, if_pos hl, h]
theorem x_set {tg : Tg} {a : E} {r : Sts} {s s1 : S} {w : Val} {env : List Slot} {R : Option Fl} (ha : ev C a s = some (w, s1)) (ht : assign tg w s1.env = some env) (hr : exs C r ⟨env, s1.sto⟩ = R) : exs C (.cons (.set tg a) r) s = R := by
  rw [exs, ex, ha]; simp only [ht, Option.map_some]; exact hr
theorem x_ret {a : E} {r : Sts} {s : S} {env : List Slot} {st : Sto} {w : Val} (ha : ev C a s = some (w, ⟨env, st⟩)) : exs C (.cons (.ret a) r) s = some (.ret w st) := by
  rw [exs, ex, ha]
theorem x_expr {a : E} {r : Sts} {s s1 : S} {w : Val} {R : Option Fl} (ha : ev C a s = some (w, s1)) (hr : exs C r s1 = R) : exs C (.cons (.expr a) r) s = R := by
  rw [exs, ex, ha]; exact hr
theorem x_iff {c : E} {t r : Sts} {s s1 : S} {R : Option Fl} (hc : ev C c s = some (.d (.bool false), s1)) (hr : exs C r s1 = R) : exs C (.cons (.ite c t .nil) r) s = R := by
  rw [exs, ex, hc]; exact hr
theorem x_ift {c : E} {t e r : Sts} {s s1 : S} {w : Val} {st : Sto} (hc : ev C c s = some (.d (.bool true), s1)) (ht : exs C t s1 = some (.ret w st)) : exs C (.cons (.ite c t e) r) s = some (.ret w st) := by
  rw [exs, ex, hc]; simp only; rw [ht]
theorem x_ifn {c : E} {t e r : Sts} {s s1 s2 : S} {R : Option Fl} (hc : ev C c s = some (.d (.bool true), s1)) (ht : exs C t s1 = some (.next s2)) (hr : exs C r s2 = R) : exs C (.cons (.ite c t e) r) s = R := by
  rw [exs, ex, hc]; simp only; rw [ht]; exact hr
theorem e_call1 {f : Nat} {a : E} {env : List Slot} {st st' : Sto} {w v : Val} (ha : ev C a ⟨env, st⟩ = some (w, ⟨env, st⟩)) (h : C f [w] st = some (v, st')) : ev C (.call f (.cons a .nil)) ⟨env, st⟩ = some (v, ⟨env, st'⟩) := by
  rw [ev, evs, ha]; simp only [evs]; rw [h]
theorem e_call2 {f : Nat} {a b : E} {env : List Slot} {st st' : Sto} {w u v : Val} (ha : ev C a ⟨env, st⟩ = some (w, ⟨env, st⟩)) (hb : ev C b ⟨env, st⟩ = some (u, ⟨env, st⟩)) (h : C f [w, u] st = some (v, st')) : ev C (.call f (.cons a (.cons b .nil))) ⟨env, st⟩ = some (v, ⟨env, st'⟩) := by
  rw [ev, evs, ha]; simp only [evs]; rw [hb]; simp only; rw [h]
theorem e_call3 {f : Nat} {a b c : E} {env : List Slot} {st st' : Sto} {w u x v : Val} (ha : ev C a ⟨env, st⟩ = some (w, ⟨env, st⟩)) (hb : ev C b ⟨env, st⟩ = some (u, ⟨env, st⟩)) (hc : ev C c ⟨env, st⟩ = some (x, ⟨env, st⟩)) (h : C f [w, u, x] st = some (v, st')) : ev C (.call f (.cons a (.cons b (.cons c .nil)))) ⟨env, st⟩ = some (v, ⟨env, st'⟩) := by
  rw [ev, evs, ha]; simp only [evs]; rw [hb]; simp only; rw [hc]; simp only; rw [h]
theorem e_bin {o : BOp} {a b : E} {s : S} {x y z : PyData} (ha : ev C a s = some (.d x, s)) (hb : ev C b s = some (.d y, s)) (h : binD o x y = some z) : ev C (.bin o a b) s = some (.d z, s) := by
  rw [ev, ha]; simp only; rw [hb]; simp only; rw [h]; rfl
theorem e_cmp {o : COp} {a b : E} {s : S} {x y : PyData} {z : Bool} (ha : ev C a s = some (.d x, s)) (hb : ev C b s = some (.d y, s)) (h : cmpD o x y = some z) : ev C (.cmp o a b) s = some (.d (.bool z), s) := by
  rw [ev, ha]; simp only; rw [hb]; simp only; rw [h]; rfl
theorem e_blt {f : BF} {a : E} {s : S} {w z : Val} (ha : ev C a s = some (w, s)) (h : bltD f w = some z) : ev C (.blt f a) s = some (z, s) := by
  rw [ev, ha]; simp only; rw [h]; rfl
theorem e_lc {tg : Tg} {it : It} {elt : E} {own : List Nat} {env : List Slot} {st : Sto} {xs : List PyData} {g : PyData → PyData} (hi : evIt C it ⟨env, st⟩ = some (xs, ⟨env, st⟩)) (hl : xs.length ≤ 100000)
    (hx : ∀ x ∈ xs, ∃ e s3, assign tg (.d x) (wipe (hide env) own) = some e ∧ ev C elt ⟨e, st⟩ = some (.d (g x), s3) ∧ s3.sto = st ∧ noDict (g x) = true) : ev C (.lc tg it (.con (.bool true)) elt own) ⟨env, st⟩ = some (.d (.list (xs.map g)), ⟨env, st⟩) := by
  rw [ev, hi]
  simp only
  rw [lcGo_map (g := g) fun x h => ?_]
  · simp only [List.length_map, hl, if_true]
  · obtain ⟨e, s3, h1, h2, h3, h4⟩ := hx x h
    rw [h1]
    simp only [ev]
    rw [h2]
    simp only [h4, if_true, h3]
theorem e_lcIf {tg : Tg} {it : It} {c elt : E} {own : List Nat} {env : List Slot} {st : Sto} {xs : List PyData} {p : PyData → Bool} {g : PyData → PyData} (hi : evIt C it ⟨env, st⟩ = some (xs, ⟨env, st⟩)) (hl : xs.length ≤ 100000)
    (hx : ∀ x ∈ xs, ∃ e, assign tg (.d x) (wipe (hide env) own) = some e ∧ ev C c ⟨e, st⟩ = some (.d (.bool (p x)), ⟨e, st⟩) ∧ (p x = true → ev C elt ⟨e, st⟩ = some (.d (g x), ⟨e, st⟩) ∧ noDict (g x) = true)) : ev C (.lc tg it c elt own) ⟨env, st⟩ = some (.d (.list ((xs.filter p).map g)), ⟨env, st⟩) := by
  rw [ev, hi]
  simp only
  rw [lcGo_if (p := p) (g := g) fun x h => ?_]
  · have := List.length_filter_le p xs
    simp only [List.length_map, show (xs.filter p).length ≤ 100000 by omega, if_true]
  · obtain ⟨e, h1, h2, h3⟩ := hx x h
    rw [h1]
    simp only
    rw [h2]
    cases q : p x with
    | false => simp
    | true =>
      obtain ⟨h4, h5⟩ := h3 q
      simp only
      rw [h4]
      simp [h5]
end
/-- a term of a book, of at most n levels above its constants and unknowns -/
inductive OkN (B : List Sg) : Nat → Tm → Prop where
  | u (n m : Nat) (h : m < 3) : OkN B n (.u m)
  | c (n : Nat) (f : Str) (h : Node B f []) : OkN B n (.a f [])
  | a (n : Nat) (f : Str) (ts : List Tm) (h : Node B f ts) (hs : ∀ t ∈ ts, OkN B n t) : OkN B (n + 1) (.a f ts)
theorem OkN.ok {B : List Sg} {n : Nat} {t : Tm} (h : OkN B n t) : Ok B t := by
  induction h with
  | u n m h => exact .u m h
  | c n f h => exact .a f [] h fun t ht => nomatch ht
  | a n f ts h hs ih => exact .a f ts h ih
/-- induction with fuel: P k t for each k ≥ n -/
theorem OkN.ind {B : List Sg} {P : Nat → Tm → Prop} (hu : ∀ k m, m < 3 → P k (.u m)) (ha : ∀ k f ts, Node B f ts → (∀ t ∈ ts, ∃ j, k = j + 1 ∧ P j t) → P k (.a f ts)) {n : Nat} {t : Tm} (h : OkN B n t) : ∀ k, n ≤ k → P k t := by
  induction h with
  | u n m h => exact fun k _ => hu k m h
  | c n f h => exact fun k _ => ha k f [] h fun t ht => nomatch ht
  | a n f ts h hs ih => exact fun k hk => ha k f ts h fun t ht => ⟨k - 1, by omega, ih t ht (k - 1) (by omega)⟩
theorem node_len {B : List Sg} (hB : B ∈ Books) {f : Str} {ts : List Tm} (h : Node B f ts) : ts.length ≤ 3 := by
  refine nodes hB (P := fun _ _ ts => ts.length ≤ 3) ?_ ?_ ?_ ?_ h <;> simp
theorem enc_no (t : Tm) : noDict (enc t) = true := by cases t <;> rfl
end Ev.K00
set_option maxHeartbeats 400000
namespace Ev.K00
open PySem PySem.Spec PyProof.Rows L2 Ev
variable [GG]
theorem lcGo_mapT {α : Type} {f : PyData → Sto → Option (Option PyData × Sto)} {h g : α → PyData} {st : Sto} : ∀ {xs : List α}, (∀ x ∈ xs, f (h x) st = some (some (g x), st)) → lcGo f (xs.map h) st = some (xs.map g, st)
  | [], _ => rfl
  | x :: r, hh => by
    rw [List.map_cons, lcGo, hh x List.mem_cons_self]
    simp only
    rw [lcGo_mapT fun y hy => hh y (List.mem_cons_of_mem _ hy)]
    rfl
theorem e_lcT {C : Calls} {α : Type} {tg : Tg} {it : It} {elt : E} {own : List Nat} {env : List Slot} {st : Sto} {xs : List α} {h g : α → PyData} (hi : evIt C it ⟨env, st⟩ = some (xs.map h, ⟨env, st⟩)) (hl : xs.length ≤ 100000)
    (hx : ∀ x ∈ xs, ∃ e s3, assign tg (.d (h x)) (wipe (hide env) own) = some e ∧ ev C elt ⟨e, st⟩ = some (.d (g x), s3) ∧ s3.sto = st ∧ noDict (g x) = true) : ev C (.lc tg it (.con (.bool true)) elt own) ⟨env, st⟩ = some (.d (.list (xs.map g)), ⟨env, st⟩) := by
  rw [ev, hi]
  simp only
  rw [lcGo_mapT (g := g) fun x hm => ?_]
  · simp only [List.length_map, hl, if_true]
  · obtain ⟨e, s3, h1, h2, h3, h4⟩ := hx x hm
    rw [h1]
    simp only [ev]
    rw [h2]
    simp only [h4, if_true, h3]
/-! ### words -/
def isBag (f : Str) : Bool := f == "sum" || f == "tot"
def own1 (f : Str) (n : Nat) : Int := if isBag f then (n : Int) - 1 else 1
mutual
def wd : Tm → Int
  | .u _ => 1
  | .a f ts => own1 f ts.length + wds ts
def wds : List Tm → Int
  | [] => 0
  | t :: r => wd t + wds r
end
theorem wds_sum : ∀ ts : List Tm, wds ts = (ts.map wd).sum
  | [] => rfl
  | t :: r => by rw [wds, wds_sum r]; rfl
theorem intsOf_map {α : Type} (g : α → Int) : ∀ xs : List α, intsOf (xs.map fun x => PyData.int (g x)) = some (xs.map g)
  | [] => rfl
  | x :: r => by rw [List.map_cons, intsOf, intsOf_map g r]; rfl
theorem enc_a (f : Str) (ts : List Tm) : enc (.a f ts) = .tuple [.str f, .tuple (ts.map enc)] := by rw [enc, encs_map]
theorem words_in_ok {B : List Sg} (hB : B ∈ Books) {n : Nat} {t : Tm} (h : OkN B n t) : ∀ k, n ≤ k → ∀ st, cg (k + 2) 18 [.d (sigD B), .d (enc t)] st = some (.d (.int (wd t)), st) := by
  refine OkN.ind (P := fun k t => ∀ st, cg (k + 2) 18 [.d (sigD B), .d (enc t)] st = some (.d (.int (wd t)), st)) (fun k m _ st => ?_) (fun k f ts hn ih st => ?_) h
  · rfl
  · have hl := node_len hB hn
    show runFn (cg (k + 1)) ⟨2, 4, b18⟩ _ _ = _
    rw [enc_a]
    refine run_of rfl (x_iff (s1 := ⟨_, st⟩) rfl (x_set (w := .d (.int (wds ts))) (e_blt (e_lcT (xs := ts) (h := enc) (g := fun t => .int (wd t)) rfl (by omega) fun t ht => ?_) ?_) rfl (x_ret (e_bin (z := .int (wd (.a f ts))) (y := .int (own1 f ts.length)) rfl ?_ ?_))))
    · obtain ⟨j, rfl, q⟩ := ih t ht
      exact ⟨_, _, rfl, e_call2 rfl rfl (q st), rfl, rfl⟩
    · rw [bltD, intsOf_map, wds_sum]; rfl
    · rw [← encs_map]
      refine nodes hB (P := fun B f ts => ev (cg (k + 1)) (.ite (.cmp .eq (.ix (.dget (.var 0) (.ix (.var 1) (.con (.int 0)))) (.con (.int 0))) (.con (.str (Str.ofString "bag")))) (.bin .sub (.blt .len (.ix (.var 1) (.con (.int 1)))) (.con (.int 1))) (.con (.int 1))) ⟨[.v (.d (sigD B)), .v (.d (.tuple [.str f, .tuple (encs ts)])), .v (.d (.int (wds ts))), .no], st⟩ = some (.d (.int (own1 f ts.length)), ⟨[.v (.d (sigD B)), .v (.d (.tuple [.str f, .tuple (encs ts)])), .v (.d (.int (wds ts))), .no], st⟩)) ?_ ?_ ?_ ?_ hn
      · refine ⟨?_, ?_, fun x => ?_, fun x y => ?_, fun x y => ?_, fun x y z => ?_⟩ <;> kernel_rfl
      · refine ⟨?_, fun x y => ?_, fun x y => ?_, fun x y z => ?_⟩ <;> kernel_rfl
      · refine ⟨?_, ?_, fun x y => ?_⟩ <;> kernel_rfl
      · refine ⟨?_, ?_, fun x y => ?_, fun x y z => ?_, fun x y => ?_, fun x y z => ?_⟩ <;> kernel_rfl
    · rw [binD, wd, Int.add_comm]
theorem words_all_ok {B : List Sg} (hB : B ∈ Books) {n : Nat} {t : Tm} (h : OkN B n t) : ∀ k, n ≤ k → ∀ st, cg (k + 2) 43 [.d (bookD B), .d (enc t)] st = some (.d (.int (wd t)), st) := by
  refine OkN.ind (P := fun k t => ∀ st, cg (k + 2) 43 [.d (bookD B), .d (enc t)] st = some (.d (.int (wd t)), st)) (fun k m _ st => ?_) (fun k f ts hn ih st => ?_) h
  · rfl
  · have hl := node_len hB hn
    show runFn (cg (k + 1)) ⟨2, 5, b43⟩ _ _ = _
    have hk : ev (cg (k + 1)) (.ix (.lc (.n 3) (.seq (.var 0)) (.cmp .eq (.ix (.var 3) (.con (.int 0))) (.ix (.var 1) (.con (.int 0)))) (.ix (.var 3) (.con (.int 1))) [3]) (.con (.int 0))) ⟨[.v (.d (bookD B)), .v (.d (.tuple [.str f, .tuple (encs ts)])), .no, .no, .no], st⟩ = some (.d (.str (if isBag f then bg else if f == "pair" then sw else pl)), ⟨[.v (.d (bookD B)), .v (.d (.tuple [.str f, .tuple (encs ts)])), .no, .no, .no], st⟩) := by
      refine nodes hB (P := fun B f ts => ev (cg (k + 1)) (.ix (.lc (.n 3) (.seq (.var 0)) (.cmp .eq (.ix (.var 3) (.con (.int 0))) (.ix (.var 1) (.con (.int 0)))) (.ix (.var 3) (.con (.int 1))) [3]) (.con (.int 0))) ⟨[.v (.d (bookD B)), .v (.d (.tuple [.str f, .tuple (encs ts)])), .no, .no, .no], st⟩ = some (.d (.str (if isBag f then bg else if f == "pair" then sw else pl)), ⟨[.v (.d (bookD B)), .v (.d (.tuple [.str f, .tuple (encs ts)])), .no, .no, .no], st⟩)) ?_ ?_ ?_ ?_ hn
      · refine ⟨?_, ?_, fun x => ?_, fun x y => ?_, fun x y => ?_, fun x y z => ?_⟩ <;> kernel_rfl
      · refine ⟨?_, fun x y => ?_, fun x y => ?_, fun x y z => ?_⟩ <;> kernel_rfl
      · refine ⟨?_, ?_, fun x y => ?_⟩ <;> kernel_rfl
      · refine ⟨?_, ?_, fun x y => ?_, fun x y z => ?_, fun x y => ?_, fun x y z => ?_⟩ <;> kernel_rfl
    rw [enc_a]
    rw [encs_map] at hk
    refine run_of rfl (x_iff (s1 := ⟨_, st⟩) rfl (x_set hk rfl (x_ret (e_bin (z := .int (wd (.a f ts))) (x := .int (own1 f ts.length)) (y := .int (wds ts)) ?_ (e_blt (e_lcT (xs := ts) (h := enc) (g := fun t => .int (wd t)) rfl (by omega) fun t ht => ?_) ?_) ?_))))
    · rw [← encs_map]
      refine nodes hB (P := fun B f ts => ev (cg (k + 1)) (.ite (.cmp .eq (.var 2) (.con (.str (Str.ofString "bag")))) (.bin .sub (.blt .len (.ix (.var 1) (.con (.int 1)))) (.con (.int 1))) (.con (.int 1))) ⟨[.v (.d (bookD B)), .v (.d (.tuple [.str f, .tuple (encs ts)])), .v (.d (.str (if isBag f then bg else if f == "pair" then sw else pl))), .no, .no], st⟩ = some (.d (.int (own1 f ts.length)), ⟨[.v (.d (bookD B)), .v (.d (.tuple [.str f, .tuple (encs ts)])), .v (.d (.str (if isBag f then bg else if f == "pair" then sw else pl))), .no, .no], st⟩)) ?_ ?_ ?_ ?_ hn
      · refine ⟨?_, ?_, fun x => ?_, fun x y => ?_, fun x y => ?_, fun x y z => ?_⟩ <;> kernel_rfl
      · refine ⟨?_, fun x y => ?_, fun x y => ?_, fun x y z => ?_⟩ <;> kernel_rfl
      · refine ⟨?_, ?_, fun x y => ?_⟩ <;> kernel_rfl
      · refine ⟨?_, ?_, fun x y => ?_, fun x y z => ?_, fun x y => ?_, fun x y z => ?_⟩ <;> kernel_rfl
    · obtain ⟨j, rfl, q⟩ := ih t ht
      exact ⟨_, _, rfl, e_call2 rfl rfl (q st), rfl, rfl⟩
    · rw [bltD, intsOf_map, wds_sum]; rfl
    · rw [binD, wd]
end Ev.K00
set_option maxHeartbeats 400000
namespace Ev.K00
open PySem PySem.Spec PyProof.Rows L2 Ev
variable [GG]
/-! ### soft, same -/
mutual
def softD : PyData → PyData
  | .list xs => .list (softDs xs)
  | .tuple xs => .list (softDs xs)
  | .none => .none
  | .bool b => .bool b
  | .int i => .int i
  | .str x => .str x
  | .dict kvs => .dict kvs
def softDs : List PyData → List PyData
  | [] => []
  | x :: r => softD x :: softDs r
end
theorem softDs_map : ∀ xs : List PyData, softDs xs = xs.map softD
  | [] => rfl
  | x :: r => by rw [softDs, softDs_map r]; rfl
theorem okN_soft {n : Nat} {d : PyData} (h : okN n d = true) : noDict (softD d) = true := by
  cases d with
  | dict kvs => cases n <;> cases h
  | _ => rfl
theorem okN_noD {n : Nat} {d : PyData} (h : okN n d = true) : noDict d = true := by
  cases d with
  | dict kvs => cases n <;> cases h
  | _ => rfl
theorem softseq_ok {n k : Nat} {xs : List PyData} {st : Sto} (h : (decide (xs.length ≤ 1000) && xs.all (okN n)) = true) (ih : ∀ (d : PyData), okN n d = true → cg k 41 [.d d] st = some (.d (softD d), st)) (d : PyData) (hd : d = .list xs ∨ d = .tuple xs) :
    cg (k + 1) 41 [.d d] st = some (.d (.list (softDs xs)), st) := by
  obtain ⟨h1, h2⟩ := and2 h
  have hl := of_decide_eq_true h1
  have lc : ev (cg k) (.lc (.n 1) (.seq (.var 0)) (.con (.bool true)) (.call 41 (.cons (.var 1) .nil)) [1]) ⟨[.v (.d d), .no], st⟩ = some (.d (.list (softDs xs)), ⟨[.v (.d d), .no], st⟩) := by
    rw [softDs_map]
    refine e_lc (xs := xs) (g := softD) (by rcases hd with rfl | rfl <;> rfl) (by omega) fun x hx => ?_
    have o := List.all_eq_true.mp h2 x hx
    exact ⟨_, _, rfl, e_call1 rfl (ih x o), rfl, okN_soft o⟩
  have hb : ev (cg k) (.isi2 (.var 0) .list .tuple) ⟨[.v (.d d), .no], st⟩ = some (.d (.bool true), ⟨[.v (.d d), .no], st⟩) := by
    rcases hd with rfl | rfl <;> rfl
  show runFn (cg k) ⟨1, 2, b41⟩ _ _ = _
  refine run_of rfl (x_ret (env := [.v (.d d), .no]) ?_)
  show ev (cg k) (.ite _ _ _) ⟨[.v (.d d), .no], st⟩ = _
  rw [ev, hb]
  exact lc
theorem soft_ok : ∀ (n k : Nat) (d : PyData) (st : Sto), okN n d = true → cg (k + n + 1) 41 [.d d] st = some (.d (softD d), st)
  | _, _, .none, _, _ => rfl
  | _, _, .bool _, _, _ => rfl
  | _, _, .int _, _, _ => rfl
  | _, _, .str _, _, _ => rfl
  | 0, _, .dict _, _, h => nomatch h
  | _ + 1, _, .dict _, _, h => nomatch h
  | 0, _, .list _, _, h => nomatch h
  | 0, _, .tuple _, _, h => nomatch h
  | n + 1, k, .list xs, st, h => softseq_ok (n := n) h (fun d hd => soft_ok n k d st hd) _ (.inl rfl)
  | n + 1, k, .tuple xs, st, h => softseq_ok (n := n) h (fun d hd => soft_ok n k d st hd) _ (.inr rfl)
theorem zip_same : ∀ xs : List PyData, zipD xs xs = xs.map fun x => .tuple [x, x]
  | [] => rfl
  | x :: r => by rw [zipD, zip_same r]; rfl
theorem bools_map (xs : List PyData) : boolsOf (xs.map fun _ => PyData.bool true) = some (xs.map fun _ => true) := by
  induction xs with
  | nil => rfl
  | cons x r ih => rw [List.map_cons, boolsOf, ih]; rfl
theorem all_map (xs : List PyData) : (xs.map fun _ => true).all id = true := by
  induction xs with
  | nil => rfl
  | cons x r ih => exact ih
theorem sameseq_ok {n k : Nat} {xs : List PyData} {st : Sto} (h : (decide (xs.length ≤ 1000) && xs.all (okN n)) = true) (ih : ∀ (d : PyData), okN n d = true → cg k 36 [.d d, .d d] st = some (.d (.bool true), st)) (d : PyData) (hd : d = .list xs ∨ d = .tuple xs) :
    cg (k + 1) 36 [.d d, .d d] st = some (.d (.bool true), st) := by
  obtain ⟨h1, h2⟩ := and2 h
  have hl := of_decide_eq_true h1
  let env : List Slot := [.v (.d d), .v (.d d), .no, .no]
  have lc : ev (cg k) (.lc (.t [2, 3]) (.zip (.var 0) (.var 1)) (.con (.bool true)) (.call 36 (.cons (.var 2) (.cons (.var 3) .nil))) [2, 3]) ⟨env, st⟩ = some (.d (.list (xs.map fun _ => .bool true)), ⟨env, st⟩) := by
    refine e_lcT (xs := xs) (h := fun x => .tuple [x, x]) (g := fun _ => .bool true) (by rw [← zip_same]; rcases hd with rfl | rfl <;> rfl) (by omega) fun x hx => ?_
    have o := List.all_eq_true.mp h2 x hx
    exact ⟨_, _, rfl, e_call2 rfl rfl (ih x o), rfl, rfl⟩
  have hb : ev (cg k) (.isi2 (.var 1) .list .tuple) ⟨env, st⟩ = some (.d (.bool true), ⟨env, st⟩) := by
    rcases hd with rfl | rfl <;> rfl
  have hc : ev (cg k) (.or (.cmp .ne (.isi (.var 0) .list) (.isi (.var 1) .list)) (.cmp .ne (.isi (.var 0) .tuple) (.isi (.var 1) .tuple))) ⟨env, st⟩ = some (.d (.bool false), ⟨env, st⟩) := by
    rcases hd with rfl | rfl <;> rfl
  have hn : ev (cg k) (.cmp .eq (.blt .len (.var 0)) (.blt .len (.var 1))) ⟨env, st⟩ = some (.d (.bool true), ⟨env, st⟩) := by
    refine e_cmp (x := .int xs.length) (y := .int xs.length) (by rcases hd with rfl | rfl <;> rfl) (by rcases hd with rfl | rfl <;> rfl) ?_
    simp [cmpD, noDict, low, PyData.depth, PyData.eqv]
  show runFn (cg k) ⟨2, 4, b36⟩ _ _ = _
  refine run_of rfl (x_ift (s1 := ⟨env, st⟩) hb (x_iff (s1 := ⟨env, st⟩) hc (x_ret (env := env) ?_)))
  rw [ev, hn]
  simp only
  rw [e_blt lc (z := .d (.bool true)) (by rw [bltD, bools_map, Option.map_some, all_map])]
theorem same_ok : ∀ (n k : Nat) (d : PyData) (st : Sto), okN n d = true → cg (k + n + 1) 36 [.d d, .d d] st = some (.d (.bool true), st)
  | _, _, .none, _, _ => rfl
  | _, _, .bool b, _, _ => by cases b <;> rfl
  | n, k, .int i, st, _ => by
    show runFn (cg (k + n)) ⟨2, 4, b36⟩ _ _ = _
    refine run_of rfl (x_iff (s1 := ⟨_, st⟩) rfl (x_iff (s1 := ⟨_, st⟩) rfl (x_ret (env := [.v (.d (.int i)), .v (.d (.int i)), .no, .no]) ?_)))
    simp [ev, cmpD, noDict, low, PyData.depth, PyData.eqv, isTy]
  | n, k, .str x, st, _ => by
    show runFn (cg (k + n)) ⟨2, 4, b36⟩ _ _ = _
    refine run_of rfl (x_iff (s1 := ⟨_, st⟩) rfl (x_ift (s1 := ⟨_, st⟩) rfl (x_ret (env := [.v (.d (.str x)), .v (.d (.str x)), .no, .no]) ?_)))
    simp [ev, cmpD, noDict, low, PyData.depth, PyData.eqv, isTy, isNone]
  | 0, _, .dict _, _, h => nomatch h
  | _ + 1, _, .dict _, _, h => nomatch h
  | 0, _, .list _, _, h => nomatch h
  | 0, _, .tuple _, _, h => nomatch h
  | n + 1, k, .list xs, st, h => sameseq_ok (n := n) h (fun d hd => same_ok n k d st hd) _ (.inl rfl)
  | n + 1, k, .tuple xs, st, h => sameseq_ok (n := n) h (fun d hd => same_ok n k d st hd) _ (.inr rfl)
/-! ### terms as data -/
theorem OkN.ind0 {B : List Sg} {P : Nat → Tm → Prop} (hu : ∀ n m, m < 3 → P n (.u m)) (hc : ∀ n f, Node B f [] → P n (.a f [])) (ha : ∀ n f ts, Node B f ts → (∀ t ∈ ts, OkN B n t) → (∀ t ∈ ts, P n t) → P (n + 1) (.a f ts)) {n : Nat} {t : Tm} (h : OkN B n t) : P n t := by
  induction h with
  | u n m h => exact hu n m h
  | c n f h => exact hc n f h
  | a n f ts h hs ih => exact ha n f ts h hs ih
theorem okN_enc {B : List Sg} (hB : B ∈ Books) {n : Nat} {t : Tm} (h : OkN B n t) : okN (2 * n + 2) (enc t) = true := by
  refine OkN.ind0 (P := fun n t => okN (2 * n + 2) (enc t) = true) (fun n m _ => by cases n <;> rfl) (fun n f _ => by cases n <;> rfl) (fun n f ts hn _ ih => ?_) h
  have hl := node_len hB hn
  rw [enc_a, show 2 * (n + 1) + 2 = 2 * n + 2 + 1 + 1 by omega, okN]
  simp only [List.length_cons, List.length_nil, List.all_cons, List.all_nil, okN, List.length_map, Bool.and_true, Bool.and_eq_true, decide_eq_true_eq, List.all_eq_true, List.mem_map]
  refine ⟨by omega, trivial, by omega, ?_⟩
  rintro x ⟨t, ht, rfl⟩
  exact ih t ht
theorem tupD_enc {B : List Sg} {n : Nat} {t : Tm} (h : OkN B n t) : tupD (enc t) = enc t := by
  refine OkN.ind0 (P := fun n t => tupD (enc t) = enc t) (fun n m _ => rfl) (fun n f _ => rfl) (fun n f ts hn _ ih => ?_) h
  rw [enc_a, tupD, tupDs, tupDs, tupDs, tupD, tupD, tupDs_map, List.map_map]
  congr 4
  exact List.map_congr_left fun t ht => ih t ht
theorem okN_softD : ∀ (n : Nat) (d : PyData), okN n d = true → okN n (softD d) = true ∧ tupD (softD d) = tupD d
  | n, .none, _ => ⟨by cases n <;> rfl, rfl⟩
  | n, .bool _, _ => ⟨by cases n <;> rfl, rfl⟩
  | n, .int _, _ => ⟨by cases n <;> rfl, rfl⟩
  | n, .str _, _ => ⟨by cases n <;> rfl, rfl⟩
  | 0, .dict _, h => nomatch h
  | _ + 1, .dict _, h => nomatch h
  | 0, .list _, h => nomatch h
  | 0, .tuple _, h => nomatch h
  | n + 1, .list xs, h => by
    have ih := okN_softD n
    obtain ⟨h1, h2⟩ := and2 (show (decide (xs.length ≤ 1000) && xs.all (okN n)) = true from h)
    rw [softD, softDs_map, okN, tupD, tupD, tupDs_map, tupDs_map, List.map_map, List.length_map]
    refine ⟨?_, congrArg _ (List.map_congr_left fun x hx => (ih x (List.all_eq_true.mp h2 x hx)).2)⟩
    rw [h1, Bool.true_and, List.all_eq_true]
    intro y hy
    obtain ⟨x, hx, rfl⟩ := List.mem_map.mp hy
    exact (ih x (List.all_eq_true.mp h2 x hx)).1
  | n + 1, .tuple xs, h => by
    have ih := okN_softD n
    obtain ⟨h1, h2⟩ := and2 (show (decide (xs.length ≤ 1000) && xs.all (okN n)) = true from h)
    rw [softD, softDs_map, okN, tupD, tupD, tupDs_map, tupDs_map, List.map_map, List.length_map]
    refine ⟨?_, congrArg _ (List.map_congr_left fun x hx => (ih x (List.all_eq_true.mp h2 x hx)).2)⟩
    rw [h1, Bool.true_and, List.all_eq_true]
    intro y hy
    obtain ⟨x, hx, rfl⟩ := List.mem_map.mp hy
    exact (ih x (List.all_eq_true.mp h2 x hx)).1
theorem tuple_enc {B : List Sg} (hB : B ∈ Books) {n : Nat} {t : Tm} (h : OkN B n t) (k : Nat) (st : Sto) : cg (k + (2 * n + 3)) 3 [.d (enc t)] st = some (.d (enc t), st) := by
  rw [show k + (2 * n + 3) = k + (2 * n + 2) + 1 by omega, tuple_of_ok _ _ _ _ (okN_enc hB h), tupD_enc h]
theorem tuple_soft {B : List Sg} (hB : B ∈ Books) {n : Nat} {t : Tm} (h : OkN B n t) (k : Nat) (st : Sto) : cg (k + (2 * n + 3)) 3 [.d (softD (enc t))] st = some (.d (enc t), st) := by
  obtain ⟨a, b⟩ := okN_softD _ _ (okN_enc hB h)
  rw [show k + (2 * n + 3) = k + (2 * n + 2) + 1 by omega, tuple_of_ok _ _ _ _ a, b, tupD_enc h]
theorem soft_enc {B : List Sg} (hB : B ∈ Books) {n : Nat} {t : Tm} (h : OkN B n t) (k : Nat) (st : Sto) : cg (k + (2 * n + 3)) 41 [.d (enc t)] st = some (.d (softD (enc t)), st) := by
  rw [show k + (2 * n + 3) = k + (2 * n + 2) + 1 by omega, soft_ok _ _ _ _ (okN_enc hB h)]
end Ev.K00
set_option maxHeartbeats 400000
namespace Ev.K00
open PySem PySem.Spec PyProof.Rows L2 Ev
variable [GG]
section
variable {C : Calls}
theorem x_ext {i : Nat} {a : E} {r : Sts} {env env' : List Slot} {st : Sto} {xs ys : List PyData} {R : Option Fl} (hi : env[i]? = some (.own xs)) (ha : ev C a ⟨env, st⟩ = some (.d (.list ys), ⟨env, st⟩)) (hl : xs.length + ys.length < 100000) (he : env.set i (.own (xs ++ ys)) = env') (hr : exs C r ⟨env', st⟩ = R) : exs C (.cons (.ownExt i a) r) ⟨env, st⟩ = R := by
  rw [exs, ex]; simp only [hi]; rw [ha]; simp only [hi, hl, if_true, he]; exact hr
theorem x_app {i : Nat} {a : E} {r : Sts} {env env' : List Slot} {st : Sto} {xs : List PyData} {x : PyData} {R : Option Fl} (hi : env[i]? = some (.own xs)) (ha : ev C a ⟨env, st⟩ = some (.d x, ⟨env, st⟩)) (hl : xs.length < 100000) (hn : noDict x = true) (he : env.set i (.own (xs ++ [x])) = env') (hr : exs C r ⟨env', st⟩ = R) : exs C (.cons (.ownApp i a) r) ⟨env, st⟩ = R := by
  rw [exs, ex]; simp only [hi]; rw [ha]; simp only [hi, hl, hn, and_self, if_true, he]; exact hr
theorem e_pop {i : Nat} {env env' : List Slot} {st : Sto} {xs : List PyData} {x : PyData} (hi : env[i]? = some (.own (xs ++ [x]))) (he : env.set i (.own xs) = env') : ev C (.ownPop i) ⟨env, st⟩ = some (.d x, ⟨env', st⟩) := by
  rw [ev]; simp only [hi, List.getLast?_append, List.getLast?_singleton, Option.some_or, List.dropLast_concat, he]
def wc (C : Calls) (c : E) (s : S) : Option (Bool × S) := match ev C c s with
  | some (.d (.bool k), s1) => some (k, s1)
  | _ => none
theorem ex_while {c : E} {b : Sts} {s : S} : ex C (.while c b) s = whileGo (wc C c) (exs C b) 100000 s := by rw [ex]; rfl
theorem x_while {c : E} {b r : Sts} {s1 s2 : S} {R : Option Fl} (h : whileGo (wc C c) (exs C b) 100000 s1 = some (.next s2)) (hr : exs C r s2 = R) : exs C (.cons (.while c b) r) s1 = R := by
  rw [exs, ex_while, h]; exact hr
theorem x_own {i : Nat} {a : E} {r : Sts} {env env' : List Slot} {st : Sto} {xs : List PyData} {R : Option Fl} (ha : ev C a ⟨env, st⟩ = some (.d (.list xs), ⟨env, st⟩)) (he : env.set i (.own xs) = env') (hr : exs C r ⟨env', st⟩ = R) : exs C (.cons (.own i a) r) ⟨env, st⟩ = R := by
  rw [exs, ex, ha]; simp only [he]; exact hr
end
/-! ### sizes -/
mutual
def sz : Tm → Nat
  | .u _ => 1
  | .a _ ts => 1 + szs ts
def szs : List Tm → Nat
  | [] => 0
  | t :: r => sz t + szs r
end
theorem szs_app : ∀ a b : List Tm, szs (a ++ b) = szs a + szs b
  | [], b => by simp [szs]
  | t :: r, b => by rw [List.cons_append, szs, szs, szs_app r b]; omega
theorem sz_kids (t : Tm) : sz t = 1 + szs (kids t) := by cases t <;> rfl
theorem sz_pos (t : Tm) : 1 ≤ sz t := by rw [sz_kids]; omega
theorem len_szs : ∀ ts : List Tm, ts.length ≤ szs ts
  | [] => Nat.le_refl 0
  | t :: r => by have := sz_pos t; have := len_szs r; rw [szs, List.length_cons]; omega
def capS : Nat → Nat
  | 0 => 1
  | n + 1 => 1 + 3 * capS n
theorem capS_pos (n : Nat) : 1 ≤ capS n := by cases n <;> simp [capS]
theorem szs_le {m : Nat} : ∀ {ts : List Tm}, (∀ t ∈ ts, sz t ≤ m) → szs ts ≤ ts.length * m
  | [], _ => by simp [szs]
  | t :: r, h => by
    have a := h t List.mem_cons_self
    have b := szs_le (ts := r) fun u hu => h u (List.mem_cons_of_mem _ hu)
    rw [szs, List.length_cons, Nat.succ_mul]; omega
theorem sz_cap {B : List Sg} (hB : B ∈ Books) {n : Nat} {t : Tm} (h : OkN B n t) : sz t ≤ capS n := by
  refine OkN.ind0 (P := fun n t => sz t ≤ capS n) (fun n m _ => capS_pos n) (fun n f _ => capS_pos n) (fun n f ts hn _ ih => ?_) h
  have hl := node_len hB hn
  have a := szs_le ih
  rw [sz, capS]
  have : ts.length * capS n ≤ 3 * capS n := Nat.mul_le_mul_right _ hl
  omega
theorem capS_mono {a b : Nat} (h : a ≤ b) : capS a ≤ capS b := by
  induction b with
  | zero => cases Nat.le_zero.mp h; exact Nat.le_refl _
  | succ b ih =>
    by_cases q : a = b + 1
    · rw [q]; exact Nat.le_refl _
    · have := ih (by omega); rw [capS]; omega
theorem sz_le {B : List Sg} (hB : B ∈ Books) {n : Nat} {t : Tm} (h : OkN B n t) (hn : n ≤ 5) : sz t ≤ 400 := by
  have := sz_cap hB h
  have := capS_mono hn
  have e : capS 5 = 364 := rfl
  omega
/-! ### is_term_by -/
def body11 : Sts := (.cons (.set (.n 3) (.call 10 (.cons (.var 0) (.cons (.ownPop 2) .nil))))
  (.cons (.ite (.cmp .is (.var 3) (.con .none)) (.cons (.ret (.con (.bool false)))
  .nil) .nil)
  (.cons (.ownExt 2 (.blt .list (.var 3)))
  .nil)))
theorem step11 {B : List Sg} (hB : B ∈ Books) (k : Nat) {r : List Tm} {t : Tm} (h : Ok B t) (hl : r.length + sz t < 100000) (x1 : Slot) (x3 : Slot) (st : Sto) :
    exs (cg (k + 3)) body11 ⟨[.v (.d (sigD B)), x1, .own (r.map enc ++ [enc t]), x3], st⟩ = some (.next ⟨[.v (.d (sigD B)), x1, .own ((r ++ kids t).map enc), .v (.d (.tuple ((kids t).map enc)))], st⟩) := by
  have e1 : ev (cg (k + 3)) (.call 10 (.cons (.var 0) (.cons (.ownPop 2) .nil))) ⟨[.v (.d (sigD B)), x1, .own (r.map enc ++ [enc t]), x3], st⟩ = some (.d (.tuple ((kids t).map enc)), ⟨[.v (.d (sigD B)), x1, .own (r.map enc), x3], st⟩) := by
    rw [ev, evs]
    simp only [ev, evs, List.getElem?_cons_zero, List.getElem?_cons_succ, List.getLast?_append, List.getLast?_singleton, Option.some_or, List.dropLast_concat, List.set_cons_zero, List.set_cons_succ]
    rw [parts_fit_ok hB h k st]
  have := sz_kids t
  have := len_szs (kids t)
  refine x_set e1 rfl (x_iff (s1 := ⟨[.v (.d (sigD B)), x1, .own (r.map enc), .v (.d (.tuple ((kids t).map enc)))], st⟩) rfl (x_ext (xs := r.map enc) (ys := (kids t).map enc) rfl rfl (by simp only [List.length_map]; omega) rfl ?_))
  rw [List.map_append]
  rfl
theorem kids_ok {B : List Sg} {t : Tm} (h : Ok B t) : ∀ u ∈ kids t, Ok B u := by
  cases h with
  | u n h => exact fun u hu => nomatch hu
  | a f ts h hs => exact hs
theorem while11 {B : List Sg} (hB : B ∈ Books) (k : Nat) (x1 : Slot) (st : Sto) : ∀ (N : Nat) (ts : List Tm), (∀ t ∈ ts, Ok B t) → szs ts < N → szs ts < 100000 → ∀ x3 : Slot, ∃ y3, whileGo (wc (cg (k + 3)) (.ownNe 2)) (exs (cg (k + 3)) body11) N ⟨[.v (.d (sigD B)), x1, .own (ts.map enc), x3], st⟩ = some (.next ⟨[.v (.d (sigD B)), x1, .own [], y3], st⟩)
  | 0, _, _, h, _, _ => absurd h (by omega)
  | N + 1, ts, ho, h, hm, x3 => by
    rcases List.eq_nil_or_concat ts with rfl | ⟨r, t, rfl⟩
    · exact ⟨x3, rfl⟩
    · rw [List.concat_eq_append] at *
      have e1 : szs (r ++ [t]) = szs r + sz t := by rw [szs_app, szs, szs]; rfl
      have e2 : szs (r ++ kids t) = szs r + szs (kids t) := szs_app _ _
      have e3 := sz_kids t
      have e4 := len_szs r
      have hk := ho t (List.mem_append_right _ List.mem_cons_self)
      obtain ⟨y3, h3⟩ := while11 hB k x1 st N (r ++ kids t) (fun u hu => (List.mem_append.mp hu).elim (fun q => ho u (List.mem_append_left _ q)) (kids_ok hk u)) (by omega) (by omega) (.v (.d (.tuple ((kids t).map enc))))
      refine ⟨y3, ?_⟩
      have e0 : wc (cg (k + 3)) (.ownNe 2) ⟨[.v (.d (sigD B)), x1, .own ((r ++ [t]).map enc), x3], st⟩ = some (true, ⟨[.v (.d (sigD B)), x1, .own ((r ++ [t]).map enc), x3], st⟩) := by
        simp [wc, ev]
      rw [whileGo, e0]
      simp only
      rw [List.map_append]
      rw [show [t].map enc = [enc t] from rfl, step11 hB k hk (by omega) x1 x3 st]
      exact h3
theorem is_term_by_ok {B : List Sg} (hB : B ∈ Books) {t : Tm} (h : Ok B t) (hs : sz t ≤ 400) (k : Nat) (st : Sto) : cg (k + 4) 11 [.d (sigD B), .d (enc t)] st = some (.d (.bool true), st) := by
  obtain ⟨y3, h3⟩ := while11 hB k (.v (.d (enc t))) st 100000 [t] (fun u hu => by cases List.mem_singleton.mp hu; exact h) (by rw [szs, szs]; omega) (by rw [szs, szs]; omega) .no
  show runFn (cg (k + 3)) ⟨2, 4, b11⟩ _ _ = _
  refine run_of rfl (x_own (xs := [enc t]) ?_ rfl (x_while h3 (x_ret (env := [.v (.d (sigD B)), .v (.d (enc t)), .own [], y3]) rfl)))
  simp [ev, evs, isD, noDicts, enc_no]
theorem sure_term_ok {B : List Sg} (hB : B ∈ Books) {n : Nat} {t : Tm} (h : OkN B n t) (hn : n ≤ 5) (d : PyData) (hd : d = enc t ∨ d = softD (enc t)) (k : Nat) (st : Sto) : cg (k + 17) 13 [.d (bookD B), .d d] st = some (.d (enc t), st) := by
  show runFn (cg (k + 16)) ⟨2, 3, b13⟩ _ _ = _
  have a : cg (k + 16) 3 [.d d] st = some (.d (enc t), st) := by
    have e : k + 16 = (k + 13 - 2 * n) + (2 * n + 3) := by omega
    rcases hd with rfl | rfl
    · rw [e, tuple_enc hB h]
    · rw [e, tuple_soft hB h]
  refine run_of rfl (x_set (e_call1 (w := .d d) rfl a) rfl (x_expr (s1 := ⟨_, st⟩) (w := .d .none) (e_call1 (e_call2 (e_call1 (w := .d (bookD B)) rfl (signs_ok hB (k + 15) st)) rfl (is_term_by_ok hB h.ok (sz_le hB h hn) (k + 12) st)) rfl) (x_ret (env := [.v (.d (bookD B)), .v (.d d), .v (.d (enc t))]) rfl)))
theorem is_term_ok {B : List Sg} (hB : B ∈ Books) {n : Nat} {t : Tm} (h : OkN B n t) (hn : n ≤ 5) (k : Nat) (st : Sto) : cg (k + 17) 12 [.d (bookD B), .d (enc t)] st = some (.d (.bool true), st) := by
  show runFn (cg (k + 16)) ⟨2, 2, b12⟩ _ _ = _
  exact run_of rfl (x_ret (env := [.v (.d (bookD B)), .v (.d (enc t))]) (e_call2 (e_call1 (e_call1 (w := .d (bookD B)) rfl (sure_book_ok hB (k + 7) st)) (signs_ok hB (k + 15) st)) rfl (is_term_by_ok hB h.ok (sz_le hB h hn) (k + 12) st)))
end Ev.K00
set_option maxHeartbeats 400000
namespace Ev.K00
open PySem PySem.Spec PyProof.Rows L2 Ev
variable [GG]
/-! ### the parts with their paths -/
abbrev Pc := List Nat × Tm
mutual
def pre : Tm → List Pc
  | .u n => [([], .u n)]
  | .a f ts => ([], .a f ts) :: pres 0 ts
def pres : Nat → List Tm → List Pc
  | _, [] => []
  | i, t :: r => (pre t).map (fun q => (i :: q.1, q.2)) ++ pres (i + 1) r
end
def nI (i : Nat) : PyData := .int i
def pthD (p : List Nat) : PyData := .tuple (p.map nI)
def pcD (q : Pc) : PyData := .tuple [pthD q.1, enc q.2]
/-- the stack's entries: a part at a path -/
def under (q : Pc) : List Pc := (pre q.2).map fun o => (q.1 ++ o.1, o.2)
def kidsAt (p : List Nat) : Nat → List Tm → List Pc
  | _, [] => []
  | i, t :: r => (p ++ [i], t) :: kidsAt p (i + 1) r
theorem pre_kids (t : Tm) : pre t = ([], t) :: pres 0 (kids t) := by cases t <;> rfl
theorem under_kids (p : List Nat) : ∀ (i : Nat) (ts : List Tm), (pres i ts).map (fun o => (p ++ o.1, o.2)) = (kidsAt p i ts).flatMap under
  | _, [] => rfl
  | i, t :: r => by
    rw [pres, kidsAt, List.map_append, List.flatMap_cons, under_kids p (i + 1) r, List.map_map]
    congr 1
    rw [under]
    exact List.map_congr_left fun o _ => by simp
theorem under_eq (p : List Nat) (t : Tm) : under (p, t) = (p, t) :: (kidsAt p 0 (kids t)).flatMap under := by
  rw [← under_kids, under, pre_kids, List.map_cons, List.append_nil]
theorem kidsAt_enum (p : List Nat) : ∀ (i : Nat) (ts : List Tm), (kidsAt p i ts).map pcD = (enumD i (ts.map enc)).map fun d => match d with | .tuple [j, x] => .tuple [.tuple (p.map nI ++ [j]), x] | _ => .none
  | _, [] => rfl
  | i, t :: r => by
    rw [kidsAt, List.map_cons, List.map_cons, enumD, List.map_cons, kidsAt_enum p (i + 1) r, pcD, pthD]
    simp [nI]
def body20 : Sts := (.cons (.set (.t [3, 4]) (.ownPop 2))
  (.cons (.ownApp 1 (.tup (.cons (.var 3) (.cons (.var 4) .nil))))
  (.cons (.ownExt 2 (.rev (.lc (.t [5, 6]) (.enum (.call 16 (.cons (.var 4) .nil))) (.con (.bool true)) (.tup (.cons (.star (.var 3) (.var 5)) (.cons (.var 6) .nil))) [5, 6])))
  .nil)))
theorem enumD_mem {d : PyData} : ∀ {i : Nat} {ts : List Tm}, d ∈ enumD i (ts.map enc) → ∃ (j : Nat) (t : Tm), t ∈ ts ∧ d = .tuple [.int j, enc t]
  | _, [], h => nomatch h
  | i, t :: r, h => by
    rw [List.map_cons, enumD] at h
    rcases List.mem_cons.mp h with rfl | h
    · exact ⟨i, t, List.mem_cons_self, rfl⟩
    · obtain ⟨j, u, hu, e⟩ := enumD_mem h
      exact ⟨j, u, List.mem_cons_of_mem _ hu, e⟩
theorem enumD_len : ∀ (i : Nat) (xs : List PyData), (enumD i xs).length = xs.length
  | _, [] => rfl
  | i, x :: r => by rw [enumD, List.length_cons, enumD_len (i + 1) r, List.length_cons]
theorem kidsAt_len (p : List Nat) : ∀ (i : Nat) (ts : List Tm), (kidsAt p i ts).length = ts.length
  | _, [] => rfl
  | i, t :: r => by rw [kidsAt, List.length_cons, kidsAt_len p (i + 1) r, List.length_cons]
theorem e_rev {C : Calls} {a : E} {s : S} {xs : List PyData} (ha : ev C a s = some (.d (.list xs), s)) : ev C (.rev a) s = some (.d (.list xs.reverse), s) := by
  rw [ev, ha]
theorem e_star {C : Calls} {a b : E} {s : S} {xs : List PyData} {y : PyData} (ha : ev C a s = some (.d (.tuple xs), s)) (hb : ev C b s = some (.d y, s)) (hl : xs.length ≤ 1000) (hn : noDict y = true) : ev C (.star a b) s = some (.d (.tuple (xs ++ [y])), s) := by
  rw [ev, ha]; simp only; rw [hb]; simp only [hl, hn, and_self, if_true]
theorem e_tup2 {C : Calls} {a b : E} {s : S} {x y : PyData} (ha : ev C a s = some (.d x, s)) (hb : ev C b s = some (.d y, s)) (h1 : noDict x = true) (h2 : noDict y = true) : ev C (.tup (.cons a (.cons b .nil))) s = some (.d (.tuple [x, y]), s) := by
  rw [ev, evs, ha]; simp only [evs]; rw [hb]; simp [isD, noDicts, h1, h2]
theorem step20 (k : Nat) {fnd L : List Pc} {p : List Nat} {t : Tm} (hf : fnd.length < 100000) (hl : L.length + sz t < 100000) (hp : p.length ≤ 1000) (d0 : PyData) (x3 x4 : Slot) (st : Sto) :
    exs (cg (k + 2)) body20 ⟨[.v (.d d0), .own (fnd.map pcD), .own (L.map pcD ++ [pcD (p, t)]), x3, x4, .no, .no], st⟩ = some (.next ⟨[.v (.d d0), .own ((fnd ++ [(p, t)]).map pcD), .own ((L ++ (kidsAt p 0 (kids t)).reverse).map pcD), .v (.d (pthD p)), .v (.d (enc t)), .no, .no], st⟩) := by
  have := sz_kids t
  have := len_szs (kids t)
  have hk := kidsAt_len p 0 (kids t)
  refine x_set (e_pop (x := pcD (p, t)) (xs := L.map pcD) rfl rfl) (env := [.v (.d d0), .own (fnd.map pcD), .own (L.map pcD), .v (.d (pthD p)), .v (.d (enc t)), .no, .no]) rfl ?_
  refine x_app (xs := fnd.map pcD) (x := pcD (p, t)) rfl (e_tup2 rfl rfl rfl (enc_no t)) (by simp only [List.length_map]; exact hf) rfl (env' := [.v (.d d0), .own ((fnd ++ [(p, t)]).map pcD), .own (L.map pcD), .v (.d (pthD p)), .v (.d (enc t)), .no, .no]) (by rw [List.map_append]; rfl) ?_
  refine x_ext (xs := L.map pcD) (ys := ((kidsAt p 0 (kids t)).reverse).map pcD) rfl ?_ (by simp only [List.length_map, List.length_reverse]; omega) (env' := [.v (.d d0), .own ((fnd ++ [(p, t)]).map pcD), .own ((L ++ (kidsAt p 0 (kids t)).reverse).map pcD), .v (.d (pthD p)), .v (.d (enc t)), .no, .no]) (by rw [List.map_append (l₁ := L)]; rfl) rfl
  rw [List.map_reverse, kidsAt_enum]
  refine e_rev (e_lc (xs := enumD 0 ((kids t).map enc)) ?_ (by rw [enumD_len, List.length_map]; omega) fun x hx => ?_)
  · rw [evIt, e_call1 (w := .d (enc t)) rfl (parts_in_ok k st)]
    rfl
  · obtain ⟨j, u, hu, rfl⟩ := enumD_mem hx
    refine ⟨_, _, rfl, e_tup2 (e_star (xs := p.map nI) rfl rfl (by rw [List.length_map]; exact hp) rfl) rfl rfl (enc_no u), rfl, rfl⟩
def szL : List Pc → Nat
  | [] => 0
  | q :: r => sz q.2 + szL r
theorem szL_app : ∀ a b : List Pc, szL (a ++ b) = szL a + szL b
  | [], b => by simp [szL]
  | t :: r, b => by rw [List.cons_append, szL, szL, szL_app r b]; omega
theorem szL_len : ∀ L : List Pc, L.length ≤ szL L
  | [] => Nat.le_refl 0
  | q :: r => by have := sz_pos q.2; have := szL_len r; rw [szL, List.length_cons]; omega
theorem szL_kids (p : List Nat) : ∀ (i : Nat) (ts : List Tm), szL (kidsAt p i ts) = szs ts
  | _, [] => rfl
  | i, t :: r => by rw [kidsAt, szL, szs, szL_kids p (i + 1) r]
theorem sz_mem {t : Tm} : ∀ {ts : List Tm}, t ∈ ts → sz t ≤ szs ts
  | [], h => nomatch h
  | u :: r, h => by
    rw [szs]
    rcases List.mem_cons.mp h with rfl | h
    · omega
    · have := sz_mem h; omega
theorem kidsAt_mem {q : Pc} {p : List Nat} : ∀ {i : Nat} {ts : List Tm}, q ∈ kidsAt p i ts → q.1.length = p.length + 1 ∧ q.2 ∈ ts
  | _, [], h => nomatch h
  | i, t :: r, h => by
    rcases List.mem_cons.mp h with rfl | h
    · exact ⟨by simp, List.mem_cons_self⟩
    · obtain ⟨a, b⟩ := kidsAt_mem h
      exact ⟨a, List.mem_cons_of_mem _ b⟩
theorem while20 (k : Nat) (d0 : PyData) (st : Sto) : ∀ (N : Nat) (fnd L : List Pc), (∀ q ∈ L, q.1.length + sz q.2 ≤ 1000) → szL L < N → fnd.length + szL L < 100000 → ∀ x3 x4 : Slot, ∃ y3 y4, whileGo (wc (cg (k + 2)) (.ownNe 2)) (exs (cg (k + 2)) body20) N ⟨[.v (.d d0), .own (fnd.map pcD), .own (L.reverse.map pcD), x3, x4, .no, .no], st⟩ = some (.next ⟨[.v (.d d0), .own ((fnd ++ L.flatMap under).map pcD), .own [], y3, y4, .no, .no], st⟩)
  | 0, _, _, _, h, _, _, _ => absurd h (by omega)
  | N + 1, fnd, [], _, h, hm, x3, x4 => ⟨x3, x4, by rw [List.flatMap_nil, List.append_nil]; rfl⟩
  | N + 1, fnd, (p, t) :: L, ho, h, hm, x3, x4 => by
    have e1 : szL ((p, t) :: L) = sz t + szL L := rfl
    have e2 : szL (kidsAt p 0 (kids t) ++ L) = szs (kids t) + szL L := by rw [szL_app, szL_kids]
    have e3 := sz_kids t
    have e4 := szL_len L
    have hk := ho (p, t) List.mem_cons_self
    have hk' : p.length + sz t ≤ 1000 := hk
    obtain ⟨y3, y4, h3⟩ := while20 k d0 st N (fnd ++ [(p, t)]) (kidsAt p 0 (kids t) ++ L) (fun q hq => (List.mem_append.mp hq).elim (fun z => by
      obtain ⟨a, b⟩ := kidsAt_mem z
      have := sz_mem b
      omega) (fun z => ho q (List.mem_cons_of_mem _ z))) (by omega) (by rw [List.length_append, List.length_singleton]; omega) (.v (.d (pthD p))) (.v (.d (enc t)))
    refine ⟨y3, y4, ?_⟩
    have e0 : wc (cg (k + 2)) (.ownNe 2) ⟨[.v (.d d0), .own (fnd.map pcD), .own (((p, t) :: L).reverse.map pcD), x3, x4, .no, .no], st⟩ = some (true, ⟨[.v (.d d0), .own (fnd.map pcD), .own (((p, t) :: L).reverse.map pcD), x3, x4, .no, .no], st⟩) := by
      simp [wc, ev]
    rw [whileGo, e0]
    simp only
    rw [List.reverse_cons, List.map_append, show [(p, t)].map pcD = [pcD (p, t)] from rfl, step20 k (by omega) (by rw [List.length_reverse]; omega) (by omega) d0 x3 x4 st]
    simp only
    rw [List.reverse_append] at h3
    rw [h3, List.flatMap_append, List.flatMap_cons, under_eq, List.append_assoc, List.singleton_append, List.cons_append]
theorem walked_ok {t : Tm} (hs : sz t ≤ 400) (k : Nat) (st : Sto) : cg (k + 3) 20 [.d (enc t)] st = some (.d (.list ((pre t).map pcD)), st) := by
  obtain ⟨y3, y4, h3⟩ := while20 k (enc t) st 100000 [] [([], t)] (fun q hq => by cases List.mem_singleton.mp hq; simp; omega) (by simp only [szL]; omega) (by simp only [szL, List.length_nil]; omega) .no .no
  have e : under ([], t) = pre t := by simp [under]
  rw [List.flatMap_cons, List.flatMap_nil, List.append_nil, List.nil_append, e] at h3
  show runFn (cg (k + 2)) ⟨1, 7, b20⟩ _ _ = _
  refine run_of rfl ?_
  have e0 : ∀ r, exs (cg (k + 2)) (.cons (.parOwn 1 2 .nil (.cons (.tup (.cons (.tup .nil) (.cons (.var 0) .nil))) .nil)) r) ⟨[.v (.d (enc t)), .no, .no, .no, .no, .no, .no], st⟩ = exs (cg (k + 2)) r ⟨[.v (.d (enc t)), .own [], .own [pcD ([], t)], .no, .no, .no, .no], st⟩ := fun r => by
    cases t <;> rfl
  exact (e0 _).trans (x_while h3 (x_ret (env := [.v (.d (enc t)), .v (.d (.list ((pre t).map pcD))), .own [], y3, y4, .no, .no]) rfl))
end Ev.K00
set_option maxHeartbeats 400000
namespace Ev.K00
open PySem PySem.Spec PyProof.Rows L2 Ev
variable [GG]
def fb (C : Calls) (tg : Tg) (b : Sts) (x : PyData) (s : S) : Option Fl := match assign tg (.d x) s.env with
  | some env => exs C b ⟨env, s.sto⟩
  | none => none
section
variable {C : Calls}
theorem ex_for {tg : Tg} {it : It} {b : Sts} {s s1 : S} {xs : List PyData} (hi : evIt C it s = some (xs, s1)) : ex C (.for tg it b) s = forGo (fb C tg b) xs s1 := by rw [ex, hi]; rfl
theorem x_for {tg : Tg} {it : It} {b r : Sts} {s s1 s2 : S} {xs : List PyData} {R : Option Fl} (hi : evIt C it s = some (xs, s1)) (hf : forGo (fb C tg b) xs s1 = some (.next s2)) (hr : exs C r s2 = R) : exs C (.cons (.for tg it b) r) s = R := by
  rw [exs, ex_for hi, hf]; exact hr
end
theorem pre_len (t : Tm) : (pre t).length = sz t := by
  have h1 := Tm.rec (motive_1 := fun t => (pre t).length = sz t) (motive_2 := fun ts => ∀ i, (pres i ts).length = szs ts) (fun n => rfl) (fun f ts ih => by rw [pre, sz, List.length_cons, ih]; omega) (fun i => rfl) (fun t r iht ihr i => by rw [pres, szs, List.length_append, List.length_map, iht, ihr])
  exact h1 t
theorem pres_len (i : Nat) (ts : List Tm) : (pres i ts).length = szs ts := by
  induction ts generalizing i with
  | nil => rfl
  | cons t r ih => rw [pres, szs, List.length_append, List.length_map, pre_len, ih]
theorem pre_path (t : Tm) : ∀ q ∈ pre t, q.1.length < sz t := by
  have h1 := Tm.rec (motive_1 := fun t => ∀ q ∈ pre t, q.1.length < sz t) (motive_2 := fun ts => ∀ i, ∀ q ∈ pres i ts, q.1.length ≤ szs ts) (fun n q h => by
      cases List.mem_singleton.mp h; simp [sz]) (fun f ts ih q h => by
      rw [pre] at h
      rcases List.mem_cons.mp h with rfl | h
      · simp [sz]; omega
      · have := ih 0 q h; rw [sz]; omega) (fun i q h => nomatch h) (fun t r iht ihr i q h => by
      rw [pres] at h
      rw [szs]
      rcases List.mem_append.mp h with h | h
      · obtain ⟨o, ho, rfl⟩ := List.mem_map.mp h
        have := iht o ho
        simp only [List.length_cons]; omega
      · have := ihr (i + 1) q h; omega)
  exact h1 t
def body39 : Sts := (.cons (.set (.n 1) (.bin .add (.var 1) (.lc (.t [4, 5]) (.seq (.call 39 (.cons (.var 3) .nil))) (.con (.bool true)) (.tup (.cons (.bin .add (.tup (.cons (.var 2) .nil)) (.var 4)) (.cons (.var 5) .nil))) [4, 5])))
  .nil)
theorem for39 (k : Nat) (d0 : PyData) (st : Sto) : ∀ (ts : List Tm) (i : Nat) (acc : List Pc), (∀ t ∈ ts, cg k 39 [.d (enc t)] st = some (.d (.list ((pre t).map pcD)), st)) → acc.length + szs ts ≤ 400 → ∀ x2 x3 : Slot, ∃ y2 y3, forGo (fb (cg k) (.t [2, 3]) body39) (enumD i (ts.map enc)) ⟨[.v (.d d0), .v (.d (.list (acc.map pcD))), x2, x3, .no, .no], st⟩ = some (.next ⟨[.v (.d d0), .v (.d (.list ((acc ++ pres i ts).map pcD))), y2, y3, .no, .no], st⟩)
  | [], i, acc, _, _, x2, x3 => ⟨x2, x3, by rw [pres, List.append_nil]; rfl⟩
  | t :: r, i, acc, h, hl, x2, x3 => by
    rw [szs] at hl
    have hp := pre_len t
    obtain ⟨y2, y3, q⟩ := for39 k d0 st r (i + 1) (acc ++ (pre t).map fun q => (i :: q.1, q.2)) (fun u hu => h u (List.mem_cons_of_mem _ hu)) (by rw [List.length_append, List.length_map]; omega) (.v (.d (.int i))) (.v (.d (enc t)))
    refine ⟨y2, y3, ?_⟩
    have hb : fb (cg k) (.t [2, 3]) body39 (.tuple [.int i, enc t]) ⟨[.v (.d d0), .v (.d (.list (acc.map pcD))), x2, x3, .no, .no], st⟩ = some (.next ⟨[.v (.d d0), .v (.d (.list ((acc ++ (pre t).map fun q => (i :: q.1, q.2)).map pcD))), .v (.d (.int i)), .v (.d (enc t)), .no, .no], st⟩) := by
      show exs (cg k) body39 ⟨[.v (.d d0), .v (.d (.list (acc.map pcD))), .v (.d (.int i)), .v (.d (enc t)), .no, .no], st⟩ = _
      refine x_set (e_bin (z := .list ((acc ++ (pre t).map fun q => (i :: q.1, q.2)).map pcD)) rfl (e_lcT (xs := pre t) (h := pcD) (g := fun q => pcD (i :: q.1, q.2)) ?_ (by omega) fun q hq => ?_) ?_) rfl rfl
      · rw [evIt, e_call1 (w := .d (enc t)) rfl (h t List.mem_cons_self)]
        rfl
      · have := pre_path t q hq
        refine ⟨[.v (.d d0), .v (.d (.list (acc.map pcD))), .v (.d (.int i)), .v (.d (enc t)), .v (.d (pthD q.1)), .v (.d (enc q.2))], _, rfl, e_tup2 (e_bin (x := .tuple [.int i]) (y := pthD q.1) (z := pthD (i :: q.1)) rfl rfl ?_) rfl rfl (enc_no q.2), rfl, rfl⟩
        rw [pthD, binD, if_pos (by rw [List.length_map, List.length_singleton]; omega)]
        rfl
      · rw [binD, if_pos (by simp only [List.length_map]; omega), List.map_append, List.map_map]
        rfl
    rw [List.map_cons, enumD, forGo, hb]
    simp only
    rw [q, pres, List.append_assoc]
theorem pieces_ok {B : List Sg} (hB : B ∈ Books) {n : Nat} {t : Tm} (h : OkN B n t) : ∀ k, n ≤ k → sz t ≤ 390 → ∀ st, cg (k + 1) 39 [.d (enc t)] st = some (.d (.list ((pre t).map pcD)), st) := by
  refine OkN.ind (P := fun k t => sz t ≤ 390 → ∀ st, cg (k + 1) 39 [.d (enc t)] st = some (.d (.list ((pre t).map pcD)), st)) (fun k m _ _ st => rfl) (fun k f ts hn ih hs st => ?_) h
  rw [sz] at hs
  show runFn (cg k) ⟨1, 6, b39⟩ _ _ = _
  have hx : ∀ t ∈ ts, cg k 39 [.d (enc t)] st = some (.d (.list ((pre t).map pcD)), st) := fun t ht => by
    obtain ⟨j, rfl, q⟩ := ih t ht
    exact q (by have := sz_mem ht; omega) st
  obtain ⟨y2, y3, q⟩ := for39 k (enc (.a f ts)) st ts 0 [([], .a f ts)] hx (by rw [List.length_singleton]; omega) .no .no
  have e0 : ∀ r, exs (cg k) (.cons (.set (.n 1) (.lst (.cons (.tup (.cons (.tup .nil) (.cons (.var 0) .nil))) .nil))) r) ⟨[.v (.d (enc (.a f ts))), .no, .no, .no, .no, .no], st⟩ = exs (cg k) r ⟨[.v (.d (enc (.a f ts))), .v (.d (.list ([([], .a f ts)].map pcD))), .no, .no, .no, .no], st⟩ := fun r => rfl
  refine run_of rfl ((e0 _).trans (x_ifn (s1 := ⟨_, st⟩) rfl (x_for (s1 := ⟨_, st⟩) (xs := enumD 0 (ts.map enc)) ?_ q rfl) (x_ret (env := [.v (.d (enc (.a f ts))), .v (.d (.list ((pre (.a f ts)).map pcD))), y2, y3, .no, .no]) rfl)))
  rw [← encs_map]
  rfl
/-! ### bare -/
mutual
def bare : Tm → List Nat
  | .u n => [n]
  | .a _ ts => bares ts
def bares : List Tm → List Nat
  | [] => []
  | t :: r => bare t ++ bares r
end
def isU : Tm → Bool
  | .u _ => true
  | _ => false
def body40 : Sts := (.cons (.set (.n 1) (.bin .add (.var 1) (.call 40 (.cons (.var 2) .nil))))
  .nil)
theorem bare_len (t : Tm) : (bare t).length ≤ sz t := by
  have h1 := Tm.rec (motive_1 := fun t => (bare t).length ≤ sz t) (motive_2 := fun ts => (bares ts).length ≤ szs ts) (fun n => Nat.le_refl 1) (fun f ts ih => by rw [bare, sz]; omega) (Nat.le_refl 0) (fun t r iht ihr => by rw [bares, szs, List.length_append]; omega)
  exact h1 t
theorem for40 (k : Nat) (d0 : PyData) (st : Sto) : ∀ (ts : List Tm) (acc : List Nat), (∀ t ∈ ts, cg k 40 [.d (enc t)] st = some (.d (.list ((bare t).map nI)), st)) → acc.length + szs ts ≤ 400 → ∀ x2 : Slot, ∃ y2, forGo (fb (cg k) (.n 2) body40) (ts.map enc) ⟨[.v (.d d0), .v (.d (.list (acc.map nI))), x2], st⟩ = some (.next ⟨[.v (.d d0), .v (.d (.list ((acc ++ bares ts).map nI))), y2], st⟩)
  | [], acc, _, _, x2 => ⟨x2, by rw [bares, List.append_nil]; rfl⟩
  | t :: r, acc, h, hl, x2 => by
    rw [szs] at hl
    have hp := bare_len t
    obtain ⟨y2, q⟩ := for40 k d0 st r (acc ++ bare t) (fun u hu => h u (List.mem_cons_of_mem _ hu)) (by rw [List.length_append]; omega) (.v (.d (enc t)))
    refine ⟨y2, ?_⟩
    have hb : fb (cg k) (.n 2) body40 (enc t) ⟨[.v (.d d0), .v (.d (.list (acc.map nI))), x2], st⟩ = some (.next ⟨[.v (.d d0), .v (.d (.list ((acc ++ bare t).map nI))), .v (.d (enc t))], st⟩) := by
      show exs (cg k) body40 ⟨[.v (.d d0), .v (.d (.list (acc.map nI))), .v (.d (enc t))], st⟩ = _
      refine x_set (e_bin (z := .list ((acc ++ bare t).map nI)) rfl (e_call1 (w := .d (enc t)) rfl (h t List.mem_cons_self)) ?_) rfl rfl
      rw [binD, if_pos (by simp only [List.length_map]; omega), List.map_append]
    rw [List.map_cons, forGo, hb]
    simp only
    rw [q, bares, List.append_assoc]
theorem bare_ok {B : List Sg} (hB : B ∈ Books) {n : Nat} {t : Tm} (h : OkN B n t) : ∀ k, n ≤ k → sz t ≤ 390 → ∀ st, cg (k + 1) 40 [.d (enc t)] st = some (.d (.list ((bare t).map nI)), st) := by
  refine OkN.ind (P := fun k t => sz t ≤ 390 → ∀ st, cg (k + 1) 40 [.d (enc t)] st = some (.d (.list ((bare t).map nI)), st)) (fun k m _ _ st => rfl) (fun k f ts hn ih hs st => ?_) h
  rw [sz] at hs
  show runFn (cg k) ⟨1, 3, b40⟩ _ _ = _
  have hx : ∀ t ∈ ts, cg k 40 [.d (enc t)] st = some (.d (.list ((bare t).map nI)), st) := fun t ht => by
    obtain ⟨j, rfl, q⟩ := ih t ht
    exact q (by have := sz_mem ht; omega) st
  obtain ⟨y2, q⟩ := for40 k (enc (.a f ts)) st ts [] hx (by rw [List.length_nil]; omega) .no
  refine run_of rfl (x_iff (s1 := ⟨_, st⟩) rfl (x_set (s1 := ⟨_, st⟩) (w := .d (.list [])) rfl rfl (x_for (s1 := ⟨_, st⟩) (xs := ts.map enc) ?_ q (x_ret (env := [.v (.d (enc (.a f ts))), .v (.d (.list ((bare (.a f ts)).map nI))), y2]) rfl))))
  rw [← encs_map]
  rfl
end Ev.K00
set_option maxHeartbeats 400000
namespace Ev.K00
open PySem PySem.Spec PyProof.Rows L2 Ev
variable [GG]
/-! ### what is told of all parts -/
theorem pre_bare (t : Tm) : (((pre t).filter fun q => isU q.2).map fun q => enc q.2) = (bare t).map nI := by
  have h1 := Tm.rec (motive_1 := fun t => (((pre t).filter fun q => isU q.2).map fun q => enc q.2) = (bare t).map nI) (motive_2 := fun ts => ∀ i, (((pres i ts).filter fun q => isU q.2).map fun q => enc q.2) = (bares ts).map nI) (fun n => rfl) (fun f ts ih => by rw [pre, bare, List.filter_cons_of_neg (by simp [isU]), ih]) (fun i => rfl) (fun t r iht ihr i => by
      rw [pres, bares, List.filter_append, List.map_append, ihr, List.map_append, ← iht, List.filter_map, List.map_map]
      rfl)
  exact h1 t
theorem lcGo_ifT {α : Type} {f : PyData → Sto → Option (Option PyData × Sto)} {p : α → Bool} {h g : α → PyData} {st : Sto} : ∀ {xs : List α}, (∀ x ∈ xs, f (h x) st = some (if p x then some (g x) else none, st)) → lcGo f (xs.map h) st = some ((xs.filter p).map g, st)
  | [], _ => rfl
  | x :: r, hh => by
    rw [List.map_cons, lcGo, hh x List.mem_cons_self]
    simp only
    rw [lcGo_ifT fun y hy => hh y (List.mem_cons_of_mem _ hy)]
    by_cases c : p x = true
    · simp [c]
    · simp [c]
theorem e_lcIfT {C : Calls} {α : Type} {tg : Tg} {it : It} {c elt : E} {own : List Nat} {env : List Slot} {st : Sto} {xs : List α} {p : α → Bool} {h g : α → PyData} (hi : evIt C it ⟨env, st⟩ = some (xs.map h, ⟨env, st⟩)) (hl : xs.length ≤ 100000)
    (hx : ∀ x ∈ xs, ∃ e, assign tg (.d (h x)) (wipe (hide env) own) = some e ∧ ev C c ⟨e, st⟩ = some (.d (.bool (p x)), ⟨e, st⟩) ∧ (p x = true → ev C elt ⟨e, st⟩ = some (.d (g x), ⟨e, st⟩) ∧ noDict (g x) = true)) : ev C (.lc tg it c elt own) ⟨env, st⟩ = some (.d (.list ((xs.filter p).map g)), ⟨env, st⟩) := by
  rw [ev, hi]
  simp only
  rw [lcGo_ifT (p := p) (g := g) fun x h => ?_]
  · have := List.length_filter_le p xs
    simp only [List.length_map, show (xs.filter p).length ≤ 100000 by omega, if_true]
  · obtain ⟨e, h1, h2, h3⟩ := hx x h
    rw [h1]
    simp only
    rw [h2]
    cases q : p x with
    | false => simp
    | true =>
      obtain ⟨h4, h5⟩ := h3 q
      simp only
      rw [h4]
      simp [h5]
theorem e_srt {C : Calls} {a : E} {s : S} {xs ys : List PyData} (ha : ev C a s = some (.d (.list xs), s)) (h : srtD xs = some ys) : ev C (.srt a) s = some (.d (.list ys), s) := by
  rw [ev, ha]; simp only; rw [h]; rfl
def nZ (n : Nat) : Int := n
theorem srt_nI (ns : List Nat) (h : ns.length < 64) : srtD (ns.map nI) = some ((srtI (ns.map nZ)).map .int) := by
  rw [srtD, List.length_map, if_neg (by omega)]
  have e : intsOf (ns.map nI) = some (ns.map nZ) := intsOf_map nZ ns
  rw [e]
def unkD (t : Tm) : PyData := .tuple ((srtI ((bare t).map nZ)).map .int)
theorem isNum_enc (t : Tm) : isNum (enc t) = isU t := by cases t <;> rfl
theorem unknowns_in_ok {t : Tm} (hs : sz t < 64) (k : Nat) (st : Sto) : cg (k + 4) 21 [.d (enc t)] st = some (.d (unkD t), st) := by
  have hp := pre_len t
  have hb := bare_len t
  show runFn (cg (k + 3)) ⟨1, 3, b21⟩ _ _ = _
  refine run_of rfl (x_ret (env := [.v (.d (enc t)), .no, .no]) (e_blt (e_srt (xs := (bare t).map nI) ?_ (srt_nI _ (by omega))) rfl))
  rw [← pre_bare]
  refine e_lcIfT (xs := pre t) (h := pcD) (p := fun q => isU q.2) (g := fun q => enc q.2) ?_ (by omega) fun q hq => ?_
  · rw [evIt, e_call1 (w := .d (enc t)) rfl (walked_ok (by omega) k st)]
    rfl
  · refine ⟨[.v (.d (enc t)), .v (.d (pthD q.1)), .v (.d (enc q.2))], rfl, ?_, fun _ => ⟨rfl, enc_no q.2⟩⟩
    rw [← isNum_enc]
    exact e_call1 (w := .d (enc q.2)) rfl (is_number_ok (k + 2) _ st)
section
variable {B : List Sg} (hB : B ∈ Books) {n : Nat} {t : Tm} (h : OkN B n t) (hn : n ≤ 5) (k : Nat) (st : Sto)
include hB h hn
theorem words_of_ok (d : PyData) (hd : d = enc t ∨ d = softD (enc t)) : cg (k + 18) 19 [.d (bookD B), .d d] st = some (.d (.int (wd t)), st) := by
  show runFn (cg (k + 17)) ⟨2, 3, b19⟩ _ _ = _
  refine run_of rfl (x_set (e_call1 (w := .d (bookD B)) rfl (sure_book_ok hB (k + 8) st)) rfl (x_ret (env := [.v (.d (bookD B)), .v (.d d), .v (.d (bookD B))]) (e_call2 (e_call1 (w := .d (bookD B)) rfl (signs_ok hB (k + 16) st)) (e_call2 (w := .d (bookD B)) (u := .d d) rfl rfl (sure_term_ok hB h hn d hd k st)) (words_in_ok hB h (k + 15) (by omega) st))))
theorem unknowns_of_ok (hs : sz t < 64) : cg (k + 18) 22 [.d (bookD B), .d (enc t)] st = some (.d (unkD t), st) := by
  show runFn (cg (k + 17)) ⟨2, 2, b22⟩ _ _ = _
  exact run_of rfl (x_ret (env := [.v (.d (bookD B)), .v (.d (enc t))]) (e_call1 (e_call2 (w := .d (bookD B)) (u := .d (enc t)) (e_call1 (w := .d (bookD B)) rfl (sure_book_ok hB (k + 8) st)) rfl (sure_term_ok hB h hn (enc t) (.inl rfl) k st)) (unknowns_in_ok hs (k + 13) st)))
theorem paths_of_ok : cg (k + 18) 27 [.d (bookD B), .d (enc t)] st = some (.d (.list ((pre t).map fun q => pthD q.1)), st) := by
  have hs := sz_le hB h hn
  have hp := pre_len t
  show runFn (cg (k + 17)) ⟨2, 4, b27⟩ _ _ = _
  refine run_of rfl (x_ret (env := [.v (.d (bookD B)), .v (.d (enc t)), .no, .no]) (e_lcT (xs := pre t) (h := pcD) (g := fun q => pthD q.1) ?_ (by omega) fun q hq => ⟨_, _, rfl, rfl, rfl, rfl⟩))
  have e : ev (cg (k + 17)) (.call 20 (.cons (.call 13 (.cons (.call 8 (.cons (.var 0) .nil)) (.cons (.var 1) .nil))) .nil)) ⟨[.v (.d (bookD B)), .v (.d (enc t)), .no, .no], st⟩ = some (.d (.list ((pre t).map pcD)), ⟨[.v (.d (bookD B)), .v (.d (enc t)), .no, .no], st⟩) := e_call1 (e_call2 (w := .d (bookD B)) (u := .d (enc t)) (e_call1 (w := .d (bookD B)) rfl (sure_book_ok hB (k + 8) st)) rfl (sure_term_ok hB h hn (enc t) (.inl rfl) k st)) (walked_ok hs (k + 14) st)
  show evIt (cg (k + 17)) _ ⟨[.v (.d (bookD B)), .v (.d (enc t)), .no, .no], st⟩ = _
  rw [evIt, e]
  rfl
theorem depth_of_ok (m : Int) (hm : bltD .max (.d (.list ((pre t).map fun q => PyData.int (q.1.length : Int)))) = some (.d (.int m))) : cg (k + 18) 26 [.d (bookD B), .d (enc t)] st = some (.d (.int (1 + m)), st) := by
  have hs := sz_le hB h hn
  have hp := pre_len t
  show runFn (cg (k + 17)) ⟨2, 5, b26⟩ _ _ = _
  refine run_of rfl (x_set (e_call2 (w := .d (bookD B)) (u := .d (enc t)) (e_call1 (w := .d (bookD B)) rfl (sure_book_ok hB (k + 8) st)) rfl (sure_term_ok hB h hn (enc t) (.inl rfl) k st)) rfl (x_ret (env := [.v (.d (bookD B)), .v (.d (enc t)), .v (.d (enc t)), .no, .no]) (e_bin (x := .int 1) (y := .int m) rfl (e_blt (e_lcT (xs := pre t) (h := pcD) (g := fun q => .int (q.1.length : Int)) ?_ (by omega) fun q hq => ⟨[.v (.d (bookD B)), .v (.d (enc t)), .v (.d (enc t)), .v (.d (pthD q.1)), .v (.d (enc q.2))], _, rfl, e_blt (w := .d (pthD q.1)) rfl ?_, rfl, rfl⟩) hm) rfl)))
  · rw [evIt, e_call1 (w := .d (enc t)) rfl (walked_ok hs (k + 14) st)]
    rfl
  · rw [pthD, bltD, List.length_map]
end
end Ev.K00
set_option maxHeartbeats 400000
namespace Ev.K00
open PySem PySem.Spec PyProof.Rows L2 Ev
variable [GG]
/-! ### names, closed, how often -/
section
variable {B : List Sg} (hB : B ∈ Books) {n : Nat} {t : Tm} (h : OkN B n t) (hn : n ≤ 5) (k : Nat) (st : Sto)
include hB h hn
theorem is_closed_ok (hs : sz t < 64) : cg (k + 19) 23 [.d (bookD B), .d (enc t)] st = some (.d (.bool (PyData.eqv (unkD t) (.tuple []))), st) := by
  show runFn (cg (k + 18)) ⟨2, 2, b23⟩ _ _ = _
  refine run_of rfl (x_ret (env := [.v (.d (bookD B)), .v (.d (enc t))]) (e_cmp (x := unkD t) (y := .tuple []) (e_call2 (w := .d (bookD B)) (u := .d (enc t)) rfl rfl (unknowns_of_ok hB h hn k st hs)) rfl ?_))
  simp [cmpD, noDict, low, PyData.depth, unkD]
  intro _
  simp [PyData.depthAll]
theorem how_often_ok (m : Nat) (hm : m < 4) (hs : sz t ≤ 400) : cg (k + 18) 25 [.d (bookD B), .d (enc t), .d (.int (m : Int))] st = some (.d (.int (((pre t).filter fun q => isU q.2 && PyData.eqv (enc q.2) (.int (m : Int))).length : Int)), st) := by
  have hp := pre_len t
  show runFn (cg (k + 17)) ⟨3, 6, b25⟩ _ _ = _
  have hb : cg (k + 17) 1 [.d (.int (m : Int)), .d (.int 100)] st = some (.d (.bool true), st) := by
    have : m = 0 ∨ m = 1 ∨ m = 2 ∨ m = 3 := by omega
    rcases this with rfl | rfl | rfl | rfl <;> kernel_rfl
  refine run_of rfl (x_set (e_call2 (w := .d (bookD B)) (u := .d (enc t)) (e_call1 (w := .d (bookD B)) rfl (sure_book_ok hB (k + 8) st)) rfl (sure_term_ok hB h hn (enc t) (.inl rfl) k st)) rfl (x_expr (s1 := ⟨[.v (.d (bookD B)), .v (.d (enc t)), .v (.d (.int (m : Int))), .v (.d (enc t)), .no, .no], st⟩) (w := .d .none) (e_call1 (w := .d (.bool true)) (e_call2 (w := .d (.int (m : Int))) (u := .d (.int 100)) rfl rfl hb) rfl) (x_ret (env := [.v (.d (bookD B)), .v (.d (enc t)), .v (.d (.int (m : Int))), .v (.d (enc t)), .no, .no]) (e_blt (e_lcIfT (xs := pre t) (h := pcD) (p := fun q => isU q.2 && PyData.eqv (enc q.2) (.int (m : Int))) (g := fun q => enc q.2) ?_ (by omega) fun q hq => ?_) (by rw [bltD, List.length_map])))))
  · show evIt (cg (k + 17)) _ ⟨[.v (.d (bookD B)), .v (.d (enc t)), .v (.d (.int (m : Int))), .v (.d (enc t)), .no, .no], st⟩ = _
    have e : ev (cg (k + 17)) (.call 20 (.cons (.var 3) .nil)) ⟨[.v (.d (bookD B)), .v (.d (enc t)), .v (.d (.int (m : Int))), .v (.d (enc t)), .no, .no], st⟩ = some (.d (.list ((pre t).map pcD)), ⟨[.v (.d (bookD B)), .v (.d (enc t)), .v (.d (.int (m : Int))), .v (.d (enc t)), .no, .no], st⟩) := e_call1 (w := .d (enc t)) rfl (walked_ok hs (k + 14) st)
    rw [evIt, e]
    rfl
  · refine ⟨[.v (.d (bookD B)), .v (.d (enc t)), .v (.d (.int (m : Int))), .v (.d (enc t)), .v (.d (pthD q.1)), .v (.d (enc q.2))], rfl, ?_, fun _ => ⟨rfl, enc_no q.2⟩⟩
    have e1 := e_call1 (C := cg (k + 17)) (a := .var 5) (env := [.v (.d (bookD B)), .v (.d (enc t)), .v (.d (.int (m : Int))), .v (.d (enc t)), .v (.d (pthD q.1)), .v (.d (enc q.2))]) (w := .d (enc q.2)) rfl (is_number_ok (k + 16) (enc q.2) st)
    rw [ev, e1, isNum_enc]
    cases isU q.2 with
    | false => rfl
    | true =>
      simp only
      rw [e_cmp (x := enc q.2) (y := .int (m : Int)) (z := PyData.eqv (enc q.2) (.int (m : Int))) rfl rfl (by simp only [cmpD, enc_no]; simp [noDict, low, PyData.depth])]
      simp
end
end Ev.K00
set_option maxHeartbeats 400000
namespace Ev.K00
open PySem PySem.Spec PyProof.Rows L2 Ev
variable [GG]
theorem pre_count (t : Tm) (m : Nat) : ((pre t).filter fun q => isU q.2 && PyData.eqv (enc q.2) (.int (m : Int))).length = (bare t).count m := by
  have e : ((pre t).filter fun q => isU q.2 && PyData.eqv (enc q.2) (.int (m : Int))) = (((pre t).filter fun q => isU q.2).filter fun q => PyData.eqv (enc q.2) (.int (m : Int))) := by
    rw [List.filter_filter]
    exact List.filter_congr fun q _ => Bool.and_comm _ _
  have f : ((((pre t).filter fun q => isU q.2).filter fun q => PyData.eqv (enc q.2) (.int (m : Int))).map fun q => enc q.2) = ((bare t).map nI).filter fun d => PyData.eqv d (.int (m : Int)) := by
    rw [← pre_bare, List.filter_map]
    rfl
  rw [e, ← List.length_map (f := fun q : Pc => enc q.2), f, List.filter_map, List.length_map, List.count, List.countP_eq_length_filter]
  congr 1
  refine List.filter_congr fun i _ => ?_
  by_cases q : i = m
  · subst q
    simp [nI, PyData.eqv]
  · have : ¬ (i : Int) = (m : Int) := by omega
    have a : ((i : Int) == (m : Int)) = false := beq_false_of_ne (by omega)
    have b : (i == m) = false := beq_false_of_ne (by omega)
    simp only [nI, PyData.eqv, Function.comp, a, b]
end Ev.K00
set_option maxHeartbeats 400000
namespace Ev.K00
open PySem PySem.Spec PyProof.Rows L2 Ev
variable [GG]
/-! ### parts at paths, plainly -/
def sub : List Nat → Tm → Option Tm
  | [], t => some t
  | i :: p, t => match (kids t)[i]? with
    | some u => sub p u
    | none => none
def put : List Nat → Tm → Tm → Tm
  | [], _, o => o
  | _ :: _, .u n, _ => .u n
  | i :: p, .a f ts, o => .a f (ts.modify i fun u => put p u o)
theorem pre_sub (t : Tm) : ∀ q ∈ pre t, sub q.1 t = some q.2 := by
  have h1 := Tm.rec (motive_1 := fun t => ∀ q ∈ pre t, sub q.1 t = some q.2) (motive_2 := fun ts => ∀ (hd : List Tm) (i : Nat), hd.length = i → ∀ q ∈ pres i ts, ∃ (j : Nat) (p : List Nat) (u : Tm), q.1 = j :: p ∧ (hd ++ ts)[j]? = some u ∧ sub p u = some q.2) (fun n q h => by
      cases List.mem_singleton.mp h; rfl) (fun f ts ih q h => by
      rw [pre] at h
      rcases List.mem_cons.mp h with rfl | h
      · rfl
      · obtain ⟨j, p, u, e, g, s⟩ := ih [] 0 rfl q h
        rw [e, sub]
        simp only [kids, List.nil_append] at g ⊢
        rw [g]
        exact s) (fun hd i _ q h => nomatch h) (fun t r iht ihr hd i hi q h => by
      rw [pres] at h
      rcases List.mem_append.mp h with h | h
      · obtain ⟨o, ho, rfl⟩ := List.mem_map.mp h
        refine ⟨i, o.1, t, rfl, ?_, iht o ho⟩
        rw [List.getElem?_append_right (by omega), hi]
        simp
      · obtain ⟨j, p, u, e, g, s⟩ := ihr (hd ++ [t]) (i + 1) (by simp [hi]) q h
        refine ⟨j, p, u, e, ?_, s⟩
        rw [← g]
        simp)
  exact h1 t
theorem OkN.mono {B : List Sg} {n m : Nat} {t : Tm} (h : OkN B n t) (hm : n ≤ m) : OkN B m t := by
  induction h generalizing m with
  | u n k h => exact .u m k h
  | c n f h => exact .c m f h
  | a n f ts h hs ih =>
    obtain ⟨m', rfl⟩ : ∃ m', m = m' + 1 := ⟨m - 1, by omega⟩
    exact .a m' f ts h fun t ht => ih t ht (by omega)
theorem OkN.kid {B : List Sg} {n : Nat} {t u : Tm} (h : OkN B n t) (hu : u ∈ kids t) : OkN B n u := by
  cases h with
  | u n m h => cases hu
  | c n f h => cases hu
  | a n f ts h hs => exact (hs u hu).mono (Nat.le_succ n)
theorem sub_okN {B : List Sg} {n : Nat} : ∀ {p : List Nat} {t u : Tm}, OkN B n t → sub p t = some u → OkN B n u
  | [], t, u, h, e => by cases e; exact h
  | i :: p, t, u, h, e => by
    rw [sub] at e
    split at e
    · rename_i v g
      exact sub_okN (h.kid (List.mem_of_getElem? g)) e
    · cases e
theorem node_of_len {B : List Sg} {f : Str} {ts us : List Tm} (h : Node B f ts) (e : us.length = ts.length) : Node B f us := by
  obtain ⟨s, hs, hf, hl⟩ := h
  exact ⟨s, hs, hf, by rw [e]; exact hl⟩
theorem put_okN {B : List Sg} {o : Tm} (ho : OkN B 1 o) : ∀ (p : List Nat) (n : Nat) (t : Tm), OkN B n t → OkN B (n + 1) (put p t o)
  | [], n, t, _ => ho.mono (by omega)
  | i :: p, n, .u m, h => by
    rw [put]; exact h.mono (Nat.le_succ n)
  | i :: p, n, .a f ts, h => by
    rw [put]
    cases h with
    | c n f h =>
      rw [List.modify_nil]
      exact .c _ f h
    | a n f ts h hs =>
      refine .a (n + 1) f _ (node_of_len h (List.length_modify ..)) fun u hu => ?_
      obtain ⟨j, hj⟩ := List.mem_iff_getElem?.mp hu
      rw [List.getElem?_modify] at hj
      cases e : ts[j]? with
      | none => rw [e] at hj; cases hj
      | some v =>
        rw [e] at hj
        have hv := hs v (List.mem_of_getElem? e)
        by_cases q : i = j
        · simp only [q, if_true, Option.map_eq_map, Option.map_some, Option.some.injEq] at hj
          rw [← hj]
          exact put_okN ho p _ _ hv
        · simp only [q, if_false, Option.map_eq_map, Option.map_some, Option.some.injEq, id] at hj
          rw [← hj]
          exact hv.mono (Nat.le_succ n)
theorem sub_put {o : Tm} : ∀ {p : List Nat} {t u : Tm}, sub p t = some u → sub p (put p t o) = some o
  | [], t, u, _ => rfl
  | i :: p, .u m, u, h => by simp [sub, kids] at h
  | i :: p, .a f ts, u, h => by
    rw [sub] at h
    split at h
    · rename_i v g
      rw [put, sub]
      simp only [kids] at g ⊢
      rw [List.getElem?_modify_eq, g]
      exact sub_put h
    · cases h
/-- a sum over the parts, one of them changed -/
theorem add_modify {g : Tm → Int} {G : List Tm → Int} (h : ∀ t r, G (t :: r) = g t + G r) (k : Tm → Tm) : ∀ {ts : List Tm} {i : Nat} {u : Tm}, ts[i]? = some u → G (ts.modify i k) + g u = G ts + g (k u)
  | [], i, u, e => by cases e
  | t :: r, 0, u, e => by
    cases e
    rw [List.modify_zero_cons, h, h]; omega
  | t :: r, i + 1, u, e => by
    have := add_modify h k (ts := r) (i := i) e
    rw [List.modify_succ_cons, h, h]; omega
theorem put_add {g : Tm → Int} {G : List Tm → Int} (c : Str → Nat → Int) (h : ∀ t r, G (t :: r) = g t + G r) (ha : ∀ f ts, g (.a f ts) = c f ts.length + G ts) {o : Tm} : ∀ {p : List Nat} {t u : Tm}, sub p t = some u → g (put p t o) + g u = g t + g o
  | [], t, u, e => by cases e; rw [put]; omega
  | i :: p, .u m, u, e => by simp [sub, kids] at e
  | i :: p, .a f ts, u, e => by
    rw [sub] at e
    split at e
    · rename_i v gv
      have a := put_add c h ha e (o := o)
      have b := add_modify h (fun u => put p u o) (ts := ts) gv
      rw [put, ha, ha, List.length_modify]
      omega
    · cases e
theorem wd_put {o : Tm} {p : List Nat} {t u : Tm} (h : sub p t = some u) : wd (put p t o) + wd u = wd t + wd o :=
  put_add (G := wds) own1 (fun t r => by rw [wds]) (fun f ts => by rw [wd]) h
theorem count_put {o : Tm} {p : List Nat} {t u : Tm} (m : Nat) (h : sub p t = some u) : ((bare (put p t o)).count m : Int) + ((bare u).count m : Int) = ((bare t).count m : Int) + ((bare o).count m : Int) :=
  put_add (g := fun t => ((bare t).count m : Int)) (G := fun ts => ((bares ts).count m : Int)) (fun _ _ => 0) (fun t r => by simp only [bares, List.count_append]; omega) (fun f ts => by simp only [bare]; omega) h
theorem sz_put {o : Tm} {p : List Nat} {t u : Tm} (h : sub p t = some u) : (sz (put p t o) : Int) + (sz u : Int) = (sz t : Int) + (sz o : Int) :=
  put_add (g := fun t => (sz t : Int)) (G := fun ts => (szs ts : Int)) (fun _ _ => 1) (fun t r => by simp only [szs]; omega) (fun f ts => by simp only [sz]; omega) h
end Ev.K00
set_option maxHeartbeats 400000
namespace Ev.K00
open PySem PySem.Spec PyProof.Rows L2 Ev
variable [GG]
/-! ### paths in the program -/
theorem e_and {C : Calls} {a b : E} {s : S} {k : Bool} (ha : ev C a s = some (.d (.bool true), s)) (hb : ev C b s = some (.d (.bool k), s)) : ev C (.and a b) s = some (.d (.bool k), s) := by
  rw [ev, ha]; simp only; rw [hb]
theorem e_ix {C : Calls} {a b : E} {s : S} {x y z : PyData} (ha : ev C a s = some (.d x, s)) (hb : ev C b s = some (.d y, s)) (h : ixD x y = some z) : ev C (.ix a b) s = some (.d z, s) := by
  rw [ev, ha]; simp only; rw [hb]; simp only; rw [h]; rfl
theorem bools_mapT {α : Type} (xs : List α) : boolsOf (xs.map fun _ => PyData.bool true) = some (xs.map fun _ => true) := by
  induction xs with
  | nil => rfl
  | cons x r ih => rw [List.map_cons, boolsOf, ih]; rfl
theorem all_mapT {α : Type} (xs : List α) : (xs.map fun _ => true).all id = true := by
  induction xs with
  | nil => rfl
  | cons x r ih => exact ih
theorem is_path_ok (p : List Nat) (hp : p.length ≤ 1000) (k : Nat) (st : Sto) : cg (k + 2) 14 [.d (pthD p)] st = some (.d (.bool true), st) := by
  show runFn (cg (k + 1)) ⟨1, 2, b14⟩ _ _ = _
  refine run_of rfl (x_ret (env := [.v (.d (pthD p)), .no]) (e_and rfl (e_blt (e_lcT (xs := p) (h := nI) (g := fun _ => .bool true) rfl (by omega) fun i _ => ⟨[.v (.d (pthD p)), .v (.d (nI i))], _, rfl, e_and (e_call1 (w := .d (nI i)) rfl (is_number_ok k (nI i) st)) (e_cmp (x := nI i) (y := .int 0) rfl rfl ?_), rfl, rfl⟩) ?_)))
  · simp [nI, cmpD]
  · rw [bltD, bools_mapT, Option.map_some, all_mapT]
theorem okN_pth (p : List Nat) (hp : p.length ≤ 1000) : okN 1 (pthD p) = true ∧ okN 1 (.list (p.map nI)) = true := by
  constructor <;> simp [pthD, okN, hp, nI]
theorem tupD_pth (p : List Nat) : tupD (pthD p) = pthD p ∧ tupD (.list (p.map nI)) = pthD p := by
  constructor <;> (simp only [pthD, tupD, tupDs_map, List.map_map]; rfl)
theorem sure_path_ok (p : List Nat) (hp : p.length ≤ 1000) (d : PyData) (hd : d = pthD p ∨ d = .list (p.map nI)) (k : Nat) (st : Sto) : cg (k + 3) 15 [.d d] st = some (.d (pthD p), st) := by
  show runFn (cg (k + 2)) ⟨1, 2, b15⟩ _ _ = _
  have a : cg (k + 2) 3 [.d d] st = some (.d (pthD p), st) := by
    rcases hd with rfl | rfl
    · rw [show k + 2 = k + 1 + 1 by omega, tuple_of_ok 1 k _ st (okN_pth p hp).1, (tupD_pth p).1]
    · rw [show k + 2 = k + 1 + 1 by omega, tuple_of_ok 1 k _ st (okN_pth p hp).2, (tupD_pth p).2]
  refine run_of rfl (x_set (e_call1 (w := .d d) rfl a) rfl (x_expr (s1 := ⟨_, st⟩) (w := .d .none) (e_call1 (e_call1 (w := .d (pthD p)) rfl (is_path_ok p hp k st)) rfl) (x_ret (env := [.v (.d d), .v (.d (pthD p))]) rfl)))
def body28 : Sts := (.cons (.set (.n 4) (.call 16 (.cons (.var 2) .nil)))
  (.cons (.ite (.cmp .ge (.var 3) (.blt .len (.var 4))) (.cons .never
  .nil) .nil)
  (.cons (.set (.n 2) (.ix (.var 4) (.var 3)))
  .nil)))
theorem ix_kid {ts : List Tm} {i : Nat} {u : Tm} (h : ts[i]? = some u) : ixD (.tuple (ts.map enc)) (nI i) = some (enc u) :=
  atI_nat (by rw [List.getElem?_map, h]; rfl)
theorem for28 (k : Nat) (d0 d1 : PyData) (st : Sto) : ∀ (p : List Nat) (t u : Tm), sub p t = some u → ∀ x3 x4 : Slot, ∃ y3 y4, forGo (fb (cg (k + 2)) (.n 3) body28) (p.map nI) ⟨[.v (.d d0), .v (.d d1), .v (.d (enc t)), x3, x4], st⟩ = some (.next ⟨[.v (.d d0), .v (.d d1), .v (.d (enc u)), y3, y4], st⟩)
  | [], t, u, h, x3, x4 => ⟨x3, x4, by cases h; rfl⟩
  | i :: p, t, u, h, x3, x4 => by
    rw [sub] at h
    split at h
    case h_2 => cases h
    rename_i v g
    obtain ⟨y3, y4, q⟩ := for28 k d0 d1 st p v u h (.v (.d (nI i))) (.v (.d (.tuple ((kids t).map enc))))
    refine ⟨y3, y4, ?_⟩
    have hl := (List.getElem?_eq_some_iff.mp g).1
    have hb : fb (cg (k + 2)) (.n 3) body28 (nI i) ⟨[.v (.d d0), .v (.d d1), .v (.d (enc t)), x3, x4], st⟩ = some (.next ⟨[.v (.d d0), .v (.d d1), .v (.d (enc v)), .v (.d (nI i)), .v (.d (.tuple ((kids t).map enc)))], st⟩) := by
      show exs (cg (k + 2)) body28 ⟨[.v (.d d0), .v (.d d1), .v (.d (enc t)), .v (.d (nI i)), x4], st⟩ = _
      refine x_set (e_call1 (w := .d (enc t)) rfl (parts_in_ok k st)) rfl (x_iff (s1 := ⟨[.v (.d d0), .v (.d d1), .v (.d (enc t)), .v (.d (nI i)), .v (.d (.tuple ((kids t).map enc)))], st⟩) (e_cmp (x := nI i) (y := .int ((kids t).length : Int)) rfl (e_blt (w := .d (.tuple ((kids t).map enc))) rfl (by rw [bltD, List.length_map])) ?_) (x_set (w := .d (enc v)) (e_ix (x := .tuple ((kids t).map enc)) (y := nI i) rfl rfl (ix_kid g)) rfl rfl))
      simp only [nI, cmpD]
      rw [decide_eq_false (by omega)]
    rw [List.map_cons, forGo, hb]
    exact q
theorem part_told_ok {p : List Nat} {t u : Tm} (h : sub p t = some u) (k : Nat) (st : Sto) : cg (k + 3) 28 [.d (enc t), .d (pthD p)] st = some (.d (enc u), st) := by
  obtain ⟨y3, y4, q⟩ := for28 k (enc t) (pthD p) st p t u h .no .no
  show runFn (cg (k + 2)) ⟨2, 5, b28⟩ _ _ = _
  exact run_of rfl (x_set (w := .d (enc t)) (s1 := ⟨_, st⟩) rfl rfl (x_for (s1 := ⟨_, st⟩) (xs := p.map nI) rfl q (x_ret (env := [.v (.d (enc t)), .v (.d (pthD p)), .v (.d (enc u)), y3, y4]) rfl)))
section
variable {B : List Sg} (hB : B ∈ Books) {n : Nat} {t u : Tm} (h : OkN B n t) (hn : n ≤ 5) {p : List Nat} (hs : sub p t = some u) (hp : p.length ≤ 1000) (k : Nat) (st : Sto)
include hB h hn hs hp
theorem part_at_ok : cg (k + 18) 29 [.d (bookD B), .d (enc t), .d (pthD p)] st = some (.d (enc u), st) := by
  show runFn (cg (k + 17)) ⟨3, 4, b29⟩ _ _ = _
  exact run_of rfl (x_set (e_call2 (w := .d (bookD B)) (u := .d (enc t)) (e_call1 (w := .d (bookD B)) rfl (sure_book_ok hB (k + 8) st)) rfl (sure_term_ok hB h hn (enc t) (.inl rfl) k st)) rfl (x_ret (env := [.v (.d (bookD B)), .v (.d (enc t)), .v (.d (pthD p)), .v (.d (enc t))]) (e_call2 (w := .d (enc t)) (u := .d (pthD p)) rfl (e_call1 (w := .d (pthD p)) rfl (sure_path_ok p hp (pthD p) (.inl rfl) (k + 14) st)) (part_told_ok hs (k + 14) st))))
end
/-! ### another one at a path -/
theorem ix_pth (i : Nat) (p : List Nat) : ixD (pthD (i :: p)) (.int 0) = some (nI i) := atI_nat (xs := (i :: p).map nI) (j := 0) rfl
theorem sl_pth (i : Nat) (p : List Nat) : slD (pthD (i :: p)) (some 1) none = some (pthD p) := by
  have e1 : HT.sIx ((i :: p).map nI).length 0 (some 1) = 1 := by
    rw [show (1 : Int) = ((1 : Nat) : Int) from rfl, HT.sIx_nat, List.length_map, List.length_cons]; omega
  have e2 : HT.sIx ((i :: p).map nI).length ((i :: p).map nI).length none = p.length + 1 := by
    rw [HT.sIx_none, List.length_map, List.length_cons]
  rw [pthD, slD, cutD, e1, e2]
  simp only [List.map_cons, List.drop_succ_cons, List.drop_zero, Nat.add_sub_cancel]
  rw [List.take_of_length_le (by simp)]
  rfl
theorem put_map {o : Tm} {ts : List Tm} {i : Nat} {v : Tm} (f : Tm → Tm) (g : ts[i]? = some v) : (ts.map enc).set i (enc (f v)) = (ts.modify i f).map enc := by
  apply List.ext_getElem?
  intro j
  rw [List.getElem?_map, List.getElem?_modify]
  by_cases e : i = j
  · subst e
    have hl := (List.getElem?_eq_some_iff.mp g).1
    rw [List.getElem?_set_self (by simpa using hl), g]
    simp
  · rw [List.getElem?_set_ne e, List.getElem?_map]
    simp [e]
theorem put_told_ok {B : List Sg} (hB : B ∈ Books) {n : Nat} {o : Tm} : ∀ (p : List Nat) (t u : Tm), OkN B n t → sub p t = some u → ∀ (k : Nat) (st : Sto), cg (k + p.length + 1) 30 [.d (enc t), .d (pthD p), .d (enc o)] st = some (.d (enc (put p t o)), st)
  | [], t, u, _, _, k, st => rfl
  | i :: p, .u m, u, _, h, k, st => by simp [sub, kids] at h
  | i :: p, .a f ts, u, ok, h, k, st => by
    rw [sub] at h
    split at h
    case h_2 => cases h
    rename_i v g
    have g' : ts[i]? = some v := g
    have hl := (List.getElem?_eq_some_iff.mp g').1
    have okv : OkN B n v := ok.kid (List.mem_of_getElem? g)
    have ih := put_told_ok hB (o := o) p v u okv h k st
    have hlen : ts.length ≤ 3 := by
      cases ok with
      | c n f h => exact Nat.zero_le _
      | a n f ts h hs => exact node_len hB h
    have e0 : enc (.a f ts) = .tuple [.str f, .tuple (ts.map enc)] := enc_a f ts
    let env : List Slot := [.v (.d (enc (.a f ts))), .v (.d (pthD (i :: p))), .v (.d (enc o)), .own (ts.map enc)]
    have c0 : ev (cg (k + p.length + 1)) (.cmp .eq (.var 1) (.tup .nil)) ⟨[.v (.d (enc (.a f ts))), .v (.d (pthD (i :: p))), .v (.d (enc o)), .no], st⟩ = some (.d (.bool false), ⟨[.v (.d (enc (.a f ts))), .v (.d (pthD (i :: p))), .v (.d (enc o)), .no], st⟩) := by
      refine e_cmp (x := pthD (i :: p)) (y := .tuple []) rfl rfl ?_
      simp [cmpD, noDict, low, PyData.depth, PyData.depthAll, pthD, PyData.eqv, PyData.eqvAll]
    have ix0 : ev (cg (k + p.length + 1)) (.ix (.var 1) (.con (.int 0))) ⟨env, st⟩ = some (.d (nI i), ⟨env, st⟩) := e_ix (x := pthD (i :: p)) (y := .int 0) rfl rfl (ix_pth i p)
    have oix : ev (cg (k + p.length + 1)) (.ownIx 3 (.ix (.var 1) (.con (.int 0)))) ⟨env, st⟩ = some (.d (enc v), ⟨env, st⟩) := by
      rw [ev]
      simp only [env, List.getElem?_cons_succ, List.getElem?_cons_zero]
      rw [ix0]
      simp only [env, List.getElem?_cons_succ, List.getElem?_cons_zero]
      rw [show ixD (.list (ts.map enc)) (nI i) = some (enc v) from atI_nat (by rw [List.getElem?_map, g']; rfl)]
      rfl
    have sl : ev (cg (k + p.length + 1)) (.sl (.var 1) (.con (.int 1)) (.con .none)) ⟨env, st⟩ = some (.d (pthD p), ⟨env, st⟩) := by
      have := sl_pth i p
      simp only [ev, env, List.getElem?_cons_succ, List.getElem?_cons_zero, isNoneC, partI, if_true]
      simp [this]
    have cl := e_call3 oix sl (show ev (cg (k + p.length + 1)) (.var 2) ⟨env, st⟩ = some (.d (enc o), ⟨env, st⟩) from rfl) ih
    show runFn (cg (k + p.length + 1)) ⟨3, 4, b30⟩ _ _ = _
    refine run_of rfl (x_iff c0 (x_own (xs := ts.map enc) (env' := env) (by rw [e0]; rfl) rfl ?_))
    rw [exs, ex, cl]
    simp only [env, List.getElem?_cons_succ, List.getElem?_cons_zero]
    rw [ix0]
    simp only [env, nI, List.getElem?_cons_succ, List.getElem?_cons_zero]
    rw [if_pos ⟨⟨by omega, by rw [List.length_map]; omega⟩, enc_no _⟩]
    simp only [List.set_cons_succ, List.set_cons_zero, Int.toNat_natCast]
    rw [put_map (o := o) (fun w => put p w o) g']
    refine x_ret (env := [.v (.d (enc (.a f ts))), .v (.d (pthD (i :: p))), .v (.d (enc o)), .own ((ts.modify i fun w => put p w o).map enc)]) ?_
    rw [put, enc_a f (ts.modify i fun w => put p w o)]
    show ev (cg (k + p.length + 1)) _ ⟨[.v (.d (enc (.a f ts))), .v (.d (pthD (i :: p))), .v (.d (enc o)), .own ((ts.modify i fun w => put p w o).map enc)], st⟩ = _
    exact e_tup2 (x := .str f) (y := .tuple ((ts.modify i fun w => put p w o).map enc)) (e_ix (x := enc (.a f ts)) (y := .int 0) rfl rfl (by rw [e0]; rfl)) (by rfl) rfl rfl
theorem put_at_ok {B : List Sg} (hB : B ∈ Books) {n : Nat} {t u o : Tm} (h : OkN B n t) (hn : n ≤ 5) (ho : OkN B 1 o) {p : List Nat} (hs : sub p t = some u) (hp : p.length ≤ 10) (k : Nat) (st : Sto) :
    cg (k + 18) 31 [.d (bookD B), .d (enc t), .d (.list (p.map nI)), .d (enc o)] st = some (.d (enc (put p t o)), st) := by
  show runFn (cg (k + 17)) ⟨4, 8, b31⟩ _ _ = _
  refine run_of rfl (x_set (e_call1 (w := .d (bookD B)) rfl (sure_book_ok hB (k + 8) st)) rfl ?_)
  have a := e_call2 (C := cg (k + 17)) (env := [.v (.d (bookD B)), .v (.d (enc t)), .v (.d (.list (p.map nI))), .v (.d (enc o)), .v (.d (bookD B)), .no, .no, .no]) (a := .var 4) (b := .var 1) (w := .d (bookD B)) (u := .d (enc t)) rfl rfl (sure_term_ok hB h hn (enc t) (.inl rfl) k st)
  have b := e_call1 (C := cg (k + 17)) (env := [.v (.d (bookD B)), .v (.d (enc t)), .v (.d (.list (p.map nI))), .v (.d (enc o)), .v (.d (bookD B)), .no, .no, .no]) (a := .var 2) (w := .d (.list (p.map nI))) rfl (sure_path_ok p (by omega) _ (.inr rfl) (k + 14) st)
  show exs (cg (k + 17)) _ ⟨[.v (.d (bookD B)), .v (.d (enc t)), .v (.d (.list (p.map nI))), .v (.d (enc o)), .v (.d (bookD B)), .no, .no, .no], st⟩ = _
  rw [exs, ex, a]
  simp only
  rw [b]
  refine x_set (env := [.v (.d (bookD B)), .v (.d (enc t)), .v (.d (.list (p.map nI))), .v (.d (enc o)), .v (.d (bookD B)), .v (.d (enc t)), .v (.d (pthD p)), .v (.d (enc o))]) (e_call2 (w := .d (bookD B)) (u := .d (enc o)) rfl rfl (sure_term_ok hB ho (by omega) (enc o) (.inl rfl) k st)) rfl ?_
  refine x_expr (e_call2 (w := .d (enc t)) (u := .d (pthD p)) rfl rfl (part_told_ok hs (k + 14) st)) (x_ret (e_call3 (w := .d (enc t)) (u := .d (pthD p)) (x := .d (enc o)) rfl rfl rfl ?_))
  rw [show k + 17 = (k + 16 - p.length) + p.length + 1 by omega]
  exact put_told_ok hB p t u h hs _ st
/-! ### the same by the law's own -/
theorem enumD_zip : ∀ (i : Nat) (ts : List Tm), enumD i (ts.map enc) = (ts.zipIdx i).map fun q => .tuple [nI q.2, enc q.1]
  | _, [] => rfl
  | i, t :: r => by rw [List.map_cons, enumD, enumD_zip (i + 1) r, List.zipIdx_cons, List.map_cons]; rfl
theorem zip_modify (f : Tm → Tm) (ts : List Tm) (i : Nat) : ((ts.zipIdx 0).map fun q => enc (if q.2 = i then f q.1 else q.1)) = (ts.modify i f).map enc := by
  apply List.ext_getElem?
  intro j
  rw [List.getElem?_map, List.getElem?_zipIdx, List.getElem?_map, List.getElem?_modify]
  cases e : ts[j]? with
  | none => rfl
  | some v =>
    by_cases q : i = j
    · simp [q]
    · have : ¬ j = i := fun z => q z.symm
      simp [q, this]
theorem swapped_ok {B : List Sg} (hB : B ∈ Books) {n : Nat} {o : Tm} : ∀ (p : List Nat) (t u : Tm), OkN B n t → sub p t = some u → ∀ (k : Nat) (st : Sto), cg (k + p.length + 1) 42 [.d (enc t), .d (pthD p), .d (enc o)] st = some (.d (enc (put p t o)), st)
  | [], t, u, _, _, k, st => rfl
  | i :: p, .u m, u, _, h, k, st => by simp [sub, kids] at h
  | i :: p, .a f ts, u, ok, h, k, st => by
    rw [sub] at h
    split at h
    case h_2 => cases h
    rename_i v g
    have g' : ts[i]? = some v := g
    have okv : OkN B n v := ok.kid (List.mem_of_getElem? g)
    have ih := swapped_ok hB (o := o) p v u okv h k st
    have hlen : ts.length ≤ 3 := by
      cases ok with
      | c n f h => exact Nat.zero_le _
      | a n f ts h hs => exact node_len hB h
    have e0 : enc (.a f ts) = .tuple [.str f, .tuple (ts.map enc)] := enc_a f ts
    have c0 : ev (cg (k + p.length + 1)) (.cmp .eq (.var 1) (.tup .nil)) ⟨[.v (.d (enc (.a f ts))), .v (.d (pthD (i :: p))), .v (.d (enc o)), .no, .no], st⟩ = some (.d (.bool false), ⟨[.v (.d (enc (.a f ts))), .v (.d (pthD (i :: p))), .v (.d (enc o)), .no, .no], st⟩) := by
      refine e_cmp (x := pthD (i :: p)) (y := .tuple []) rfl rfl ?_
      simp [cmpD, noDict, low, PyData.depth, PyData.depthAll, pthD, PyData.eqv, PyData.eqvAll]
    show runFn (cg (k + p.length + 1)) ⟨3, 5, b42⟩ _ _ = _
    refine run_of rfl (x_iff c0 (x_ret (env := [.v (.d (enc (.a f ts))), .v (.d (pthD (i :: p))), .v (.d (enc o)), .no, .no]) ?_))
    rw [put, enc_a f (ts.modify i fun w => put p w o)]
    refine e_tup2 (x := .str f) (e_ix (x := enc (.a f ts)) (y := .int 0) rfl rfl (by rw [e0]; rfl)) (e_blt (w := .d (.list ((ts.modify i fun w => put p w o).map enc))) ?_ rfl) rfl rfl
    rw [← zip_modify (fun w => put p w o) ts i]
    refine e_lcT (xs := ts.zipIdx 0) (h := fun q => .tuple [nI q.2, enc q.1]) (g := fun q => enc (if q.2 = i then put p q.1 o else q.1)) ?_ (by rw [List.length_zipIdx]; omega) fun q hq => ?_
    · rw [← enumD_zip, e0]
      rfl
    · refine ⟨[.v (.d (enc (.a f ts))), .v (.d (pthD (i :: p))), .v (.d (enc o)), .v (.d (nI q.2)), .v (.d (enc q.1))], ⟨[.v (.d (enc (.a f ts))), .v (.d (pthD (i :: p))), .v (.d (enc o)), .v (.d (nI q.2)), .v (.d (enc q.1))], st⟩, rfl, ?_, rfl, enc_no _⟩
      have hc : ev (cg (k + p.length + 1)) (.cmp .eq (.var 3) (.ix (.var 1) (.con (.int 0)))) ⟨[.v (.d (enc (.a f ts))), .v (.d (pthD (i :: p))), .v (.d (enc o)), .v (.d (nI q.2)), .v (.d (enc q.1))], st⟩ = some (.d (.bool (decide (q.2 = i))), ⟨[.v (.d (enc (.a f ts))), .v (.d (pthD (i :: p))), .v (.d (enc o)), .v (.d (nI q.2)), .v (.d (enc q.1))], st⟩) := by
        refine e_cmp (x := nI q.2) (y := nI i) rfl (e_ix (x := pthD (i :: p)) (y := .int 0) rfl rfl (ix_pth i p)) ?_
        simp only [nI, cmpD, noDict, low, PyData.depth, PyData.eqv]
        by_cases z : q.2 = i
        · simp [z]
        · have : ¬ (q.2 : Int) = (i : Int) := by omega
          simp [z, this]
      rw [ev, hc]
      by_cases z : q.2 = i
      · have hv : q.1 = v := by
          have := (List.mem_zipIdx_iff_getElem?).mp hq
          rw [z, g'] at this
          exact (Option.some.inj this).symm
        rw [decide_eq_true z, if_pos z, hv]
        have sl : ev (cg (k + p.length + 1)) (.sl (.var 1) (.con (.int 1)) (.con .none)) ⟨[.v (.d (enc (.a f ts))), .v (.d (pthD (i :: p))), .v (.d (enc o)), .v (.d (nI q.2)), .v (.d (enc v))], st⟩ = some (.d (pthD p), ⟨[.v (.d (enc (.a f ts))), .v (.d (pthD (i :: p))), .v (.d (enc o)), .v (.d (nI q.2)), .v (.d (enc v))], st⟩) := by
          have := sl_pth i p
          simp only [ev, List.getElem?_cons_succ, List.getElem?_cons_zero, isNoneC, partI, if_true]
          simp [this]
        exact e_call3 (w := .d (enc v)) (x := .d (enc o)) rfl sl rfl ih
      · rw [decide_eq_false z, if_neg z]
        rfl
/-! ### no place -/
theorem told_ok (C : Calls) {i : Nat} {st : Sto} (hC : ∀ t : Tm, C 16 [.d (enc t)] st = some (.d (.tuple ((kids t).map enc)), st)) : ∀ (p : List Nat) (t u : Tm), sub p t = some u → (kids u).length ≤ i → told C (enc t) ((p ++ [i]).map nI) st = some st
  | [], t, u, h, hi => by
    cases h
    show told C (enc t) [nI i] st = _
    rw [told, hC]
    simp only [bltD, nI, cmpD, List.length_map]
    rw [decide_eq_true (by omega)]
  | j :: p, t, u, h, hi => by
    rw [sub] at h
    split at h
    case h_2 => cases h
    rename_i v g
    have hl := (List.getElem?_eq_some_iff.mp g).1
    rw [List.cons_append, List.map_cons, told, hC]
    simp only [bltD, nI, cmpD, List.length_map]
    rw [decide_eq_false (by omega)]
    simp only
    rw [show ixD (.tuple ((kids t).map enc)) (.int (j : Int)) = some (enc v) from ix_kid g]
    exact told_ok C hC p v u h hi
end Ev.K00
set_option maxHeartbeats 400000
namespace Ev.K00
open PySem PySem.Spec PyProof.Rows L2 Ev
variable [GG]
/-! ### things that are no terms; signs; wide ones -/
/-- the odd things of a sign that tell nothing of the drawn term -/
def odds (s : Sg) : List PyData := [.tuple [.str s.n, .tuple (List.replicate (if s.k = bg then 1 else s.m + 1) (.int 0))], .tuple [.str s.n], .tuple [.str s.n, .int 0], .tuple [.str "no", .tuple []], .int 100, .bool true, .none, .tuple [.str s.n, .tuple (List.replicate s.m (.int 0)), .int 0], .str s.n]
theorem odd_no {B : List Sg} (hB : B ∈ Books) {s : Sg} (hs : s ∈ B) (k : Nat) (st : Sto) : ∀ x ∈ odds s, cg (k + 17) 12 [.d (bookD B), .d x] st = some (.d (.bool false), st) := by
  have key : ((odds s).map fun x => cg (k + 17) 12 [.d (bookD B), .d x] st) = (odds s).map fun _ => some (.d (.bool false), st) := by
    rcases books hB with rfl | rfl | rfl | rfl <;> simp only [B0, B1, B2, B3, List.mem_cons, List.not_mem_nil, or_false] at hs
    · rcases hs with rfl | rfl | rfl | rfl | rfl <;> kernel_rfl
    · rcases hs with rfl | rfl | rfl <;> kernel_rfl
    · rcases hs with rfl | rfl | rfl <;> kernel_rfl
    · rcases hs with rfl | rfl | rfl | rfl <;> kernel_rfl
  intro x hx
  obtain ⟨j, hj⟩ := List.mem_iff_getElem?.mp hx
  have := congrArg (fun l => l[j]?) key
  simp only [List.getElem?_map, hj, Option.map_some] at this
  exact Option.some.inj this
/-- the first odd thing: the term with lists, -1 for an unknown -/
def odd0 : Tm → PyData
  | .u _ => .int (-1)
  | .a f ts => softD (enc (.a f ts))
theorem odd0_no {B : List Sg} (hB : B ∈ Books) (t : Tm) (k : Nat) (st : Sto) : cg (k + 17) 12 [.d (bookD B), .d (odd0 t)] st = some (.d (.bool false), st) := by
  cases t with
  | u n => rcases books hB with rfl | rfl | rfl | rfl <;> kernel_rfl
  | a f ts => rcases books hB with rfl | rfl | rfl | rfl <;> kernel_rfl
theorem sign_of_ok {B : List Sg} (hB : B ∈ Books) {s : Sg} (hs : s ∈ B) (k : Nat) (st : Sto) : cg (k + 17) 17 [.d (bookD B), .d (.str s.n)] st = some (.d (sgD s), st) := by
  rcases books hB with rfl | rfl | rfl | rfl <;> simp only [B0, B1, B2, B3, List.mem_cons, List.not_mem_nil, or_false] at hs
  · rcases hs with rfl | rfl | rfl | rfl | rfl <;> kernel_rfl
  · rcases hs with rfl | rfl | rfl <;> kernel_rfl
  · rcases hs with rfl | rfl | rfl <;> kernel_rfl
  · rcases hs with rfl | rfl | rfl | rfl <;> kernel_rfl
def wideD (s : Sg) (o : Tm) : PyData := .tuple [.str s.n, .tuple (List.replicate (s.m + 2) (enc o))]
theorem wide_fit {B : List Sg} (hB : B ∈ Books) {s : Sg} (hs : s ∈ B) (o : Tm) (k : Nat) (st : Sto) : cg (k + 3) 10 [.d (sigD B), .d (wideD s o)] st = some (.d (if s.k = bg then .tuple (List.replicate (s.m + 2) (enc o)) else .none), st) := by
  rcases books hB with rfl | rfl | rfl | rfl <;> simp only [B0, B1, B2, B3, List.mem_cons, List.not_mem_nil, or_false] at hs
  · rcases hs with rfl | rfl | rfl | rfl | rfl <;> kernel_rfl
  · rcases hs with rfl | rfl | rfl <;> kernel_rfl
  · rcases hs with rfl | rfl | rfl <;> kernel_rfl
  · rcases hs with rfl | rfl | rfl | rfl <;> kernel_rfl
end Ev.K00
set_option maxHeartbeats 400000
namespace Ev.K00
open PySem PySem.Spec PyProof.Rows L2 Ev
variable [GG]
/-! ### draws -/
def urn (a b c : Int) : Sto := [[.int a, .int b, .int c]]
def Urn (N : Nat) (st : Sto) : Prop := ∃ a b c : Int, st = urn a b c ∧ 0 ≤ a ∧ 0 ≤ b ∧ b < 2 ^ 62 ∧ 0 ≤ c ∧ c < (N : Int)
theorem Urn.mono {N M : Nat} {st : Sto} (h : Urn N st) (hm : N ≤ M) : Urn M st := by
  obtain ⟨a, b, c, e, h1, h2, h3, h4, h5⟩ := h
  exact ⟨a, b, c, e, h1, h2, h3, h4, by omega⟩
theorem e_uix {C : Calls} {env : List Slot} {a b c : Int} (j : Int) {x : PyData} (h0 : env[0]? = some (.v (.ref 0))) (h : ixD (.list [.int a, .int b, .int c]) (.int j) = some x) : ev C (.ix (.var 0) (.con (.int j))) ⟨env, urn a b c⟩ = some (.d x, ⟨env, urn a b c⟩) := by
  simp only [ev, h0, urn, List.getElem?_cons_zero]
  rw [h]
  rfl
theorem x_rset {C : Calls} {env : List Slot} {a b c : Int} (j : Nat) {e : E} {r : Sts} {x : PyData} {xs : List PyData} {R : Option Fl} (h0 : env[0]? = some (.v (.ref 0))) (hj : j < 3) (he : ev C e ⟨env, urn a b c⟩ = some (.d x, ⟨env, urn a b c⟩)) (hn : noDict x = true)
    (hx : [.int a, .int b, .int c].set j x = xs) (hr : exs C r ⟨env, [xs]⟩ = R) : exs C (.cons (.refSet (.var 0) (.con (.int (j : Int))) e) r) ⟨env, urn a b c⟩ = R := by
  rw [exs, ex, he]
  simp only [ev, h0, urn, List.getElem?_cons_zero]
  rw [if_pos ⟨⟨by omega, by simp only [List.length_cons, List.length_nil]; omega⟩, hn⟩]
  simp only [List.set_cons_zero, Int.toNat_natCast, hx]
  exact hr
theorem mulOk {i j : Int} (h : (-(2 ^ 64) < i ∧ i < 2 ^ 64) ∨ (-(2 ^ 64) < j ∧ j < 2 ^ 64)) : binD .mul (.int i) (.int j) = some (.int (i * j)) := by
  rw [binD, if_pos h]
theorem modOk {i j : Int} (h : 0 < j) : binD .mod (.int i) (.int j) = some (.int (i % j)) := by
  rw [binD, if_pos h]
theorem fdivOk {i j : Int} (h : 0 < j ∧ j < 1073741824) : binD .fdiv (.int i) (.int j) = some (.int (i / j)) := by
  rw [binD, if_pos h]
def once (b c : Int) : Int := (b + 48271 * c) * (39373 + c) % 2147483647
def far (b c : Int) : Int := once b c % 40009 + 7
def twice (b c : Int) : Int := (once b c + c + b / 1000003) * far b c % 2147483629
def drawn (b c m : Int) : Int := (twice b c * 48271 + once b c) % 2147483587 / 64 % m
theorem take_ok {N : Nat} {st : Sto} (U : Urn N st) (hN : N ≤ 2 ^ 30) (m : Int) (hm : 0 < m) (hm2 : m < 1000) (k : Nat) : ∃ (r : Int) (st' : Sto), cg (k + 1) 33 [.ref 0, .d (.int m)] st = some (.d (.int r), st') ∧ 0 ≤ r ∧ r < m ∧ Urn (N + 1) st' := by
  obtain ⟨a, b, c, rfl, ha, hb, hb2, hc, hc2⟩ := U
  have c0 : ev (cg k) (.cmp .gt (.ix (.var 0) (.con (.int 0))) (.con (.int 0))) ⟨[.v (.ref 0), .v (.d (.int m)), .no, .no, .no, .no], urn a b c⟩ = some (.d (.bool (decide (0 < a))), ⟨[.v (.ref 0), .v (.d (.int m)), .no, .no, .no, .no], urn a b c⟩) := by
    exact e_cmp (x := .int a) (y := .int 0) (e_uix 0 rfl rfl) rfl rfl
  by_cases h : 0 < a
  · rw [decide_eq_true h] at c0
    refine ⟨a % m, urn (a / m) b c, ?_, Int.emod_nonneg _ (by omega), Int.emod_lt_of_pos _ hm, ⟨a / m, b, c, rfl, Int.ediv_nonneg ha (by omega), hb, hb2, hc, by omega⟩⟩
    show runFn (cg k) ⟨2, 6, b33⟩ _ _ = _
    refine run_of rfl (x_ift c0 ?_)
    refine x_set (env := [.v (.ref 0), .v (.d (.int m)), .v (.d (.int (a % m))), .no, .no, .no]) (e_bin (x := .int a) (y := .int m) (e_blt (w := .d (.int a)) (e_uix 0 rfl rfl) rfl) rfl (modOk hm)) rfl ?_
    refine x_rset 0 (x := .int (a / m)) rfl (by omega) (e_bin (x := .int a) (y := .int m) (e_uix 0 rfl rfl) rfl (fdivOk ⟨hm, by omega⟩)) rfl rfl (x_ret (env := [.v (.ref 0), .v (.d (.int m)), .v (.d (.int (a % m))), .no, .no, .no]) rfl)
  · rw [decide_eq_false h] at c0
    have ho1 : 0 ≤ once b (c + 1) := Int.emod_nonneg _ (by decide)
    have ho2 : once b (c + 1) < 2147483647 := Int.emod_lt_of_pos _ (by decide)
    have hf1 : 0 ≤ once b (c + 1) % 40009 := Int.emod_nonneg _ (by decide)
    have hf2 : once b (c + 1) % 40009 < 40009 := Int.emod_lt_of_pos _ (by decide)
    have ht1 : 0 ≤ twice b (c + 1) := Int.emod_nonneg _ (by decide)
    have ht2 : twice b (c + 1) < 2147483629 := Int.emod_lt_of_pos _ (by decide)
    refine ⟨drawn b (c + 1) m, urn a b (c + 1), ?_, Int.emod_nonneg _ (by omega), Int.emod_lt_of_pos _ hm, ⟨a, b, c + 1, rfl, ha, hb, hb2, by omega, by omega⟩⟩
    show runFn (cg k) ⟨2, 6, b33⟩ _ _ = _
    refine run_of rfl (x_iff c0 ?_)
    refine x_rset 2 (x := .int (c + 1)) rfl (by omega) (e_bin (x := .int c) (y := .int 1) (e_uix 2 rfl rfl) rfl rfl) rfl rfl ?_
    show exs (cg k) _ ⟨[.v (.ref 0), .v (.d (.int m)), .no, .no, .no, .no], urn a b (c + 1)⟩ = _
    refine x_set (env := [.v (.ref 0), .v (.d (.int m)), .no, .v (.d (.int (once b (c + 1)))), .no, .no]) (e_bin (x := .int ((b + 48271 * (c + 1)) * (39373 + (c + 1)))) (y := .int 2147483647) (e_blt (w := .d (.int ((b + 48271 * (c + 1)) * (39373 + (c + 1))))) (e_bin (x := .int (b + 48271 * (c + 1))) (y := .int (39373 + (c + 1))) (e_bin (x := .int b) (y := .int (48271 * (c + 1))) (e_uix 1 rfl rfl) (e_bin (x := .int 48271) (y := .int (c + 1)) rfl (e_uix 2 rfl rfl) (mulOk (.inl ⟨by decide, by decide⟩))) rfl) (e_bin (x := .int 39373) (y := .int (c + 1)) rfl (e_uix 2 rfl rfl) rfl) (mulOk (.inr ⟨by omega, by omega⟩))) rfl) rfl (modOk (by decide))) rfl ?_
    refine x_set (env := [.v (.ref 0), .v (.d (.int m)), .no, .v (.d (.int (once b (c + 1)))), .v (.d (.int (far b (c + 1)))), .no]) (e_bin (x := .int (once b (c + 1) % 40009)) (y := .int 7) (e_bin (x := .int (once b (c + 1))) (y := .int 40009) rfl rfl (modOk (by decide))) rfl rfl) rfl ?_
    refine x_set (env := [.v (.ref 0), .v (.d (.int m)), .no, .v (.d (.int (once b (c + 1)))), .v (.d (.int (far b (c + 1)))), .v (.d (.int (twice b (c + 1))))]) (e_bin (x := .int ((once b (c + 1) + (c + 1) + b / 1000003) * far b (c + 1))) (y := .int 2147483629) (e_blt (w := .d (.int ((once b (c + 1) + (c + 1) + b / 1000003) * far b (c + 1)))) (e_bin (x := .int (once b (c + 1) + (c + 1) + b / 1000003)) (y := .int (far b (c + 1))) (e_bin (x := .int (once b (c + 1) + (c + 1))) (y := .int (b / 1000003)) (e_bin (x := .int (once b (c + 1))) (y := .int (c + 1)) rfl (e_uix 2 rfl rfl) rfl) (e_bin (x := .int b) (y := .int 1000003) (e_uix 1 rfl rfl) rfl (fdivOk ⟨by decide, by decide⟩)) rfl) rfl (mulOk (.inr ⟨by rw [far]; omega, by rw [far]; omega⟩))) rfl) rfl (modOk (by decide))) rfl ?_
    refine x_ret (env := [.v (.ref 0), .v (.d (.int m)), .no, .v (.d (.int (once b (c + 1)))), .v (.d (.int (far b (c + 1)))), .v (.d (.int (twice b (c + 1))))]) (e_bin (x := .int ((twice b (c + 1) * 48271 + once b (c + 1)) % 2147483587 / 64)) (y := .int m) (e_blt (w := .d (.int ((twice b (c + 1) * 48271 + once b (c + 1)) % 2147483587 / 64))) (e_bin (x := .int ((twice b (c + 1) * 48271 + once b (c + 1)) % 2147483587)) (y := .int 64) (e_bin (x := .int (twice b (c + 1) * 48271 + once b (c + 1))) (y := .int 2147483587) (e_blt (w := .d (.int (twice b (c + 1) * 48271 + once b (c + 1)))) (e_bin (x := .int (twice b (c + 1) * 48271)) (y := .int (once b (c + 1))) (e_bin (x := .int (twice b (c + 1))) (y := .int 48271) rfl rfl (mulOk (.inr ⟨by decide, by decide⟩))) rfl rfl) rfl) rfl (modOk (by decide))) rfl (fdivOk ⟨by decide, by decide⟩)) rfl) rfl (modOk hm))
theorem of_ok {N : Nat} {st : Sto} (U : Urn N st) (hN : N ≤ 2 ^ 30) (xs : List PyData) (h0 : 0 < xs.length) (h1 : xs.length < 1000) (d : PyData) (hd : d = .list xs ∨ d = .tuple xs) (k : Nat) : ∃ (x : PyData) (st' : Sto), cg (k + 2) 35 [.ref 0, .d d] st = some (.d x, st') ∧ x ∈ xs ∧ Urn (N + 1) st' := by
  obtain ⟨r, st', e, h2, h3, U'⟩ := take_ok U hN (xs.length : Int) (by omega) (by omega) k
  have hr : r.toNat < xs.length := by omega
  refine ⟨xs[r.toNat], st', ?_, List.getElem_mem hr, U'⟩
  show runFn (cg (k + 1)) ⟨2, 2, b35⟩ _ _ = _
  refine run_of rfl (x_ret (env := [.v (.ref 0), .v (.d d)]) ?_)
  have c := e_call2 (C := cg (k + 1)) (f := 33) (a := .var 0) (b := .blt .len (.var 1)) (env := [.v (.ref 0), .v (.d d)]) (w := .ref 0) (u := .d (.int (xs.length : Int))) rfl (e_blt (w := .d d) rfl (by rcases hd with rfl | rfl <;> rfl)) e
  have hx : L2.atI xs r = some xs[r.toNat] := by
    have := atI_nat (List.getElem?_eq_getElem hr)
    rwa [Int.toNat_of_nonneg h2] at this
  show ev (cg (k + 1)) (.ix (.var 1) _) ⟨[.v (.ref 0), .v (.d d)], st⟩ = _
  rw [ev]
  simp only [ev, List.getElem?_cons_succ, List.getElem?_cons_zero] at c ⊢
  rw [c]
  rcases hd with rfl | rfl
  · simp only [ixD, hx, Option.map_some]
  · simp only [ixD, hx, Option.map_some]
theorem all_books {N : Nat} {st : Sto} (U : Urn N st) (hN : N ≤ 2 ^ 30) (k : Nat) : ∃ (B : List Sg) (st' : Sto), cg (k + 3) 37 [.ref 0] st = some (.d (bookD B), st') ∧ B ∈ Books ∧ Urn (N + 1) st' := by
  obtain ⟨x, st', e, hx, U'⟩ := of_ok U hN [bookD B0, bookD B1, bookD B2, bookD B3] (by decide) (by decide) _ (.inl rfl) k
  have hb : ∃ B, x = bookD B ∧ B ∈ Books := by
    simp only [List.mem_cons, List.not_mem_nil, or_false] at hx
    rcases hx with rfl | rfl | rfl | rfl
    · exact ⟨B0, rfl, by simp [Books]⟩
    · exact ⟨B1, rfl, by simp [Books]⟩
    · exact ⟨B2, rfl, by simp [Books]⟩
    · exact ⟨B3, rfl, by simp [Books]⟩
  obtain ⟨B, rfl, hB⟩ := hb
  refine ⟨B, st', ?_, hB, U'⟩
  show runFn (cg (k + 2)) ⟨1, 2, b37⟩ _ _ = _
  refine run_of rfl (x_set (s1 := ⟨[.v (.ref 0), .no], st⟩) (w := .d (.list [bookD B0, bookD B1])) rfl rfl (x_ret (env := [.v (.ref 0), .v (.d (.list [bookD B0, bookD B1]))]) (e_call2 (w := .ref 0) (u := .d (.list [bookD B0, bookD B1, bookD B2, bookD B3])) rfl rfl e)))
end Ev.K00
set_option maxHeartbeats 400000
namespace Ev.K00
open PySem PySem.Spec PyProof.Rows L2 Ev
variable [GG]
/-! ### a drawn term -/
section
variable {C : Calls}
theorem e_cmpS {o : COp} {a b : E} {s s1 : S} {x y : PyData} {z : Bool} (ha : ev C a s = some (.d x, s1)) (hb : ev C b s1 = some (.d y, s1)) (h : cmpD o x y = some z) : ev C (.cmp o a b) s = some (.d (.bool z), s1) := by
  rw [ev, ha]; simp only; rw [hb]; simp only; rw [h]; rfl
theorem e_andS {a b : E} {s s1 : S} {k : Bool} (ha : ev C a s = some (.d (.bool true), s)) (hb : ev C b s = some (.d (.bool k), s1)) : ev C (.and a b) s = some (.d (.bool k), s1) := by
  rw [ev, ha]; simp only; rw [hb]
theorem e_and0 {a b : E} {s : S} (ha : ev C a s = some (.d (.bool false), s)) : ev C (.and a b) s = some (.d (.bool false), s) := by
  rw [ev, ha]
theorem e_bltS {f : BF} {a : E} {s s1 : S} {w z : Val} (ha : ev C a s = some (w, s1)) (h : bltD f w = some z) : ev C (.blt f a) s = some (z, s1) := by
  rw [ev, ha]; simp only; rw [h]; rfl
theorem e_binS {o : BOp} {a b : E} {s s1 : S} {x y z : PyData} (ha : ev C a s = some (.d x, s)) (hb : ev C b s = some (.d y, s1)) (h : binD o x y = some z) : ev C (.bin o a b) s = some (.d z, s1) := by
  rw [ev, ha]; simp only; rw [hb]; simp only; rw [h]; rfl
theorem e_tup1S {a : E} {s s1 : S} {x : PyData} (ha : ev C a s = some (.d x, s1)) (hn : noDict x = true) : ev C (.tup (.cons a .nil)) s = some (.d (.tuple [x]), s1) := by
  rw [ev, evs, ha]; simp [evs, isD, noDicts, hn]
theorem eq_int (i j : Int) : cmpD .eq (.int i) (.int j) = some (decide (i = j)) := by
  simp only [cmpD, noDict, low, PyData.depth, PyData.eqv]
  by_cases h : i = j <;> simp [h]
theorem eq_str (x y : Str) : cmpD .eq (.str x) (.str y) = some (decide (x = y)) := by
  simp only [cmpD, noDict, low, PyData.depth, PyData.eqv]
  by_cases h : x = y <;> simp [h]
def lcF (C : Calls) (tg : Tg) (elt : E) (base : List Slot) (x : PyData) (st : Sto) : Option (Option PyData × Sto) := match assign tg (.d x) base with
  | none => none
  | some e => match ev C elt ⟨e, st⟩ with
    | some (.d y, s3) => if noDict y = true then some (some y, s3.sto) else none
    | _ => none
theorem ev_lc {tg : Tg} {it : It} {elt : E} {own : List Nat} {env : List Slot} {st : Sto} {xs : List PyData} (hi : evIt C it ⟨env, st⟩ = some (xs, ⟨env, st⟩)) : ev C (.lc tg it (.con (.bool true)) elt own) ⟨env, st⟩ = match lcGo (lcF C tg elt (wipe (hide env) own)) xs st with
    | some (ys, st) => if ys.length ≤ 100000 then some (.d (.list ys), ⟨env, st⟩) else none
    | none => none := by
  rw [ev, hi]
  rfl
theorem e_lcD {tg : Tg} {it : It} {elt : E} {own : List Nat} {env : List Slot} {B : List Sg} {n c N : Nat} : ∀ (xs : List PyData) {st : Sto}, (∀ st : Sto, evIt C it ⟨env, st⟩ = some (xs, ⟨env, st⟩)) → xs.length ≤ 100000 →
    (∀ x ∈ xs, ∀ (M : Nat) (st : Sto), M ≤ N + xs.length * c → Urn M st → ∃ (e : List Slot) (s3 : S) (t : Tm), assign tg (.d x) (wipe (hide env) own) = some e ∧ ev C elt ⟨e, st⟩ = some (.d (enc t), s3) ∧ OkN B n t ∧ Urn (M + c) s3.sto) → Urn N st →
    ∃ (ts : List Tm) (st2 : Sto), ev C (.lc tg it (.con (.bool true)) elt own) ⟨env, st⟩ = some (.d (.list (ts.map enc)), ⟨env, st2⟩) ∧ ts.length = xs.length ∧ (∀ t ∈ ts, OkN B n t) ∧ Urn (N + xs.length * c) st2 := fun xs st hi hl hx U => by
  have go : ∀ (f : PyData → Sto → Option (Option PyData × Sto)) (ys : List PyData) (M : Nat) (st : Sto), (∀ x ∈ ys, ∀ (M : Nat) (st : Sto), M ≤ N + xs.length * c → Urn M st → ∃ (t : Tm) (st' : Sto), f x st = some (some (enc t), st') ∧ OkN B n t ∧ Urn (M + c) st') → M + ys.length * c ≤ N + xs.length * c → Urn M st →
      ∃ (ts : List Tm) (st2 : Sto), lcGo f ys st = some (ts.map enc, st2) ∧ ts.length = ys.length ∧ (∀ t ∈ ts, OkN B n t) ∧ Urn (M + ys.length * c) st2 := by
    intro f ys
    induction ys with
    | nil => intro M st _ _ U; exact ⟨[], st, rfl, rfl, fun t h => (List.not_mem_nil h).elim, by simpa using U⟩
    | cons y r ih =>
      intro M st h hM U
      rw [List.length_cons, Nat.succ_mul] at hM
      obtain ⟨t, st1, e1, o1, U1⟩ := h y List.mem_cons_self M st (by omega) U
      obtain ⟨ts, st2, e2, l2, o2, U2⟩ := ih (M + c) st1 (fun x hx => h x (List.mem_cons_of_mem _ hx)) (by omega) U1
      refine ⟨t :: ts, st2, ?_, by rw [List.length_cons, l2, List.length_cons], fun u hu => ?_, ?_⟩
      · rw [lcGo, e1]
        simp only
        rw [e2]
        rfl
      · rcases List.mem_cons.mp hu with rfl | hu
        · exact o1
        · exact o2 u hu
      · rw [List.length_cons, Nat.succ_mul]
        exact U2.mono (by omega)
  rw [ev_lc (hi st)]
  obtain ⟨ts, st2, e, l, o, U2⟩ := go (lcF C tg elt (wipe (hide env) own)) xs N st (fun x hm M st hM U => by
      obtain ⟨e, s3, t, h1, h2, h3, h4⟩ := hx x hm M st hM U
      refine ⟨t, s3.sto, ?_, h3, h4⟩
      simp only [lcF, h1]
      rw [h2]
      simp only [enc_no, if_true]) (Nat.le_refl _) U
  refine ⟨ts, st2, ?_, l, o, U2⟩
  rw [e]
  simp only [List.length_map]
  rw [if_pos (by omega)]
end
def usD (us : List Nat) : PyData := .tuple (us.map nI)
theorem head_in {B : List Sg} (hB : B ∈ Books) : (⟨"a", pl, 0⟩ : Sg) ∈ B := by
  rcases books hB with rfl | rfl | rfl | rfl <;> simp [B0, B1, B2, B3]
theorem book_len {B : List Sg} (hB : B ∈ Books) : B.length ≤ 5 := by
  rcases books hB with rfl | rfl | rfl | rfl <;> decide
theorem sign_m {B : List Sg} (hB : B ∈ Books) {s : Sg} (hs : s ∈ B) : s.m ≤ 2 ∧ (s.k = bg → s.m = 2) := by
  have np : ¬ pl = bg := by decide
  have ns : ¬ sw = bg := by decide
  rcases books hB with rfl | rfl | rfl | rfl <;> simp only [B0, B1, B2, B3, List.mem_cons, List.not_mem_nil, or_false] at hs
  · rcases hs with rfl | rfl | rfl | rfl | rfl <;> simp [np, ns]
  · rcases hs with rfl | rfl | rfl <;> simp [np, ns]
  · rcases hs with rfl | rfl | rfl <;> simp [np, ns]
  · rcases hs with rfl | rfl | rfl | rfl <;> simp [np, ns]
theorem decide_beq (m : Nat) : decide ((m : Int) = 0) = (m == 0) := by
  cases m with
  | zero => rfl
  | succ m => exact decide_eq_false (by omega)
theorem any_step {B : List Sg} (hB : B ∈ Books) {us : List Nat} (hu : us = [0, 1, 2] ∨ us = [0, 1]) (n c N : Nat) (st : Sto) (k : Nat) (U : Urn N st) (hN : N + 4 + 4 * c ≤ 2 ^ 29)
    (rec : 0 < n → ∀ (M : Nat) (st : Sto), M + 2 * c ≤ 2 ^ 29 → Urn M st → ∃ (t : Tm) (st' : Sto), cg (k + 3) 38 [.ref 0, .d (bookD B), .d (usD us), .d (.int ((n : Int) - 1))] st = some (.d (enc t), st') ∧ OkN B (n - 1) t ∧ Urn (M + c) st') :
    ∃ (t : Tm) (st' : Sto), cg (k + 4) 38 [.ref 0, .d (bookD B), .d (usD us), .d (.int (n : Int))] st = some (.d (enc t), st') ∧ OkN B n t ∧ Urn (N + (4 + 2 * c)) st' := by
  obtain ⟨r, st1, e1, r0, r1, U1⟩ := take_ok U (by omega) 3 (by decide) (by decide) (k + 2)
  have hus : (∀ m ∈ us, m < 3) ∧ 0 < us.length ∧ us.length < 1000 := by
    rcases hu with rfl | rfl <;> decide
  let env0 : List Slot := [.v (.ref 0), .v (.d (bookD B)), .v (.d (usD us)), .v (.d (.int (n : Int))), .no, .no, .no, .no, .no, .no]
  have cA : ev (cg (k + 3)) (.cmp .ne (.var 2) (.tup .nil)) ⟨env0, st⟩ = some (.d (.bool true), ⟨env0, st⟩) := by
    refine e_cmp (x := usD us) (y := .tuple []) rfl rfl ?_
    rcases hu with rfl | rfl <;> rfl
  have cB : ev (cg (k + 3)) (.cmp .eq (.call 33 (.cons (.var 0) (.cons (.con (.int 3)) .nil))) (.con (.int 0))) ⟨env0, st⟩ = some (.d (.bool (decide (r = 0))), ⟨env0, st1⟩) :=
    e_cmpS (e_call2 (w := .ref 0) (u := .d (.int 3)) rfl rfl e1) rfl (eq_int r 0)
  have c0 := e_andS cA cB
  by_cases h : r = 0
  · -- an unknown
    rw [decide_eq_true h] at c0
    obtain ⟨x, st2, e2, hx, U2⟩ := of_ok U1 (by omega) (us.map nI) (by simpa using hus.2.1) (by simpa using hus.2.2) (usD us) (.inr rfl) (k + 1)
    obtain ⟨m, hm, rfl⟩ := List.mem_map.mp hx
    refine ⟨.u m, st2, ?_, .u n m (hus.1 m hm), U2.mono (by omega)⟩
    show runFn (cg (k + 3)) ⟨4, 10, b38⟩ _ _ = _
    exact run_of rfl (x_ift c0 (x_ret (env := env0) (e_call2 (w := .ref 0) (u := .d (usD us)) rfl rfl e2)))
  · rw [decide_eq_false h] at c0
    -- the sign
    let p : Sg → Bool := fun s => s.m == 0 || decide (0 < (n : Int))
    have hlc : ev (cg (k + 3)) (.lc (.n 8) (.seq (.var 1)) (.or (.cmp .eq (.ix (.var 8) (.con (.int 2))) (.con (.int 0))) (.cmp .gt (.var 3) (.con (.int 0)))) (.var 8) [8]) ⟨env0, st1⟩ = some (.d (.list ((B.filter p).map sgD)), ⟨env0, st1⟩) := by
      refine e_lcIfT (xs := B) (h := sgD) (p := p) (g := sgD) rfl (by have := book_len hB; omega) fun s hs => ?_
      refine ⟨[.v (.ref 0), .v (.d (bookD B)), .v (.d (usD us)), .v (.d (.int (n : Int))), .no, .no, .no, .no, .v (.d (sgD s)), .no], rfl, ?_, fun _ => ⟨rfl, rfl⟩⟩
      have a : ev (cg (k + 3)) (.cmp .eq (.ix (.var 8) (.con (.int 2))) (.con (.int 0))) ⟨[.v (.ref 0), .v (.d (bookD B)), .v (.d (usD us)), .v (.d (.int (n : Int))), .no, .no, .no, .no, .v (.d (sgD s)), .no], st1⟩ = some (.d (.bool (s.m == 0)), ⟨[.v (.ref 0), .v (.d (bookD B)), .v (.d (usD us)), .v (.d (.int (n : Int))), .no, .no, .no, .no, .v (.d (sgD s)), .no], st1⟩) :=
        e_cmp (x := .int (s.m : Int)) (y := .int 0) (e_ix (x := sgD s) (y := .int 2) rfl rfl rfl) rfl (by rw [eq_int, decide_beq])
      rw [ev, a, show p s = (s.m == 0 || decide (0 < (n : Int))) from rfl]
      cases s.m == 0 with
      | true => rfl
      | false =>
        simp only [Bool.false_or]
        rw [e_cmp (x := .int (n : Int)) (y := .int 0) (z := decide (0 < (n : Int))) rfl rfl rfl]
    have hf : 0 < ((B.filter p).map sgD).length := by
      rw [List.length_map]
      exact List.length_pos_of_mem (List.mem_filter.mpr ⟨head_in hB, rfl⟩)
    have hf2 : ((B.filter p).map sgD).length < 1000 := by
      rw [List.length_map]
      have := List.length_filter_le p B
      have := book_len hB
      omega
    obtain ⟨x, st2, e2, hx, U2⟩ := of_ok U1 (by omega) ((B.filter p).map sgD) hf hf2 _ (.inl rfl) (k + 1)
    obtain ⟨s, hs, rfl⟩ := List.mem_map.mp hx
    obtain ⟨hsB, hp⟩ := List.mem_filter.mp hs
    obtain ⟨hm2, hbag⟩ := sign_m hB hsB
    have hpos : s.m ≠ 0 → 0 < n := fun z => by
      have hp' : (s.m == 0 || decide (0 < (n : Int))) = true := hp
      rcases Nat.eq_zero_or_pos n with q | q
      · subst q
        simp [z] at hp'
      · exact q
    -- the parts
    let env1 : List Slot := [.v (.ref 0), .v (.d (bookD B)), .v (.d (usD us)), .v (.d (.int (n : Int))), .v (.d (.str s.n)), .v (.d (.str s.k)), .v (.d (.int (s.m : Int))), .no, .no, .no]
    have hrl : ((List.range s.m).map fun (i : Nat) => PyData.int (i : Int)).length = s.m := by rw [List.length_map, List.length_range]
    have hmc : s.m * c ≤ 2 * c := Nat.mul_le_mul_right c hm2
    obtain ⟨ts, st3, e3, hl, ho, U3⟩ := e_lcD (C := cg (k + 3)) (tg := .n 9) (it := .rng (.var 6)) (elt := .call 38 (.cons (.var 0) (.cons (.var 1) (.cons (.var 2) (.cons (.bin .sub (.var 3) (.con (.int 1))) .nil))))) (own := [9]) (env := env1) (B := B) (n := n - 1) (c := c) (N := N + 2)
      ((List.range s.m).map fun (i : Nat) => PyData.int (i : Int)) (st := st2) (fun st => by
        simp only [evIt, ev, env1, List.getElem?_cons_succ, List.getElem?_cons_zero]
        rw [if_pos (by omega), Int.toNat_natCast]) (by rw [hrl]; omega) (fun x hx M st hM UM => by
        obtain ⟨i, hi, rfl⟩ := List.mem_map.mp hx
        have hi' := List.mem_range.mp hi
        rw [hrl] at hM
        have hM' : M + 2 * c ≤ 2 ^ 29 := by omega
        obtain ⟨t, st', et, ot, Ut⟩ := rec (hpos (by omega)) M st hM' UM
        refine ⟨[.v (.ref 0), .v (.d (bookD B)), .v (.d (usD us)), .v (.d (.int (n : Int))), .v (.d (.str s.n)), .v (.d (.str s.k)), .v (.d (.int (s.m : Int))), .no, .no, .v (.d (.int (i : Int)))], ⟨[.v (.ref 0), .v (.d (bookD B)), .v (.d (usD us)), .v (.d (.int (n : Int))), .v (.d (.str s.n)), .v (.d (.str s.k)), .v (.d (.int (s.m : Int))), .no, .no, .v (.d (.int (i : Int)))], st'⟩, t, rfl, ?_, ot, Ut⟩
        have : evs (cg (k + 3)) (.cons (.var 0) (.cons (.var 1) (.cons (.var 2) (.cons (.bin .sub (.var 3) (.con (.int 1))) .nil)))) ⟨[.v (.ref 0), .v (.d (bookD B)), .v (.d (usD us)), .v (.d (.int (n : Int))), .v (.d (.str s.n)), .v (.d (.str s.k)), .v (.d (.int (s.m : Int))), .no, .no, .v (.d (.int (i : Int)))], st⟩ = some ([.ref 0, .d (bookD B), .d (usD us), .d (.int ((n : Int) - 1))], ⟨[.v (.ref 0), .v (.d (bookD B)), .v (.d (usD us)), .v (.d (.int (n : Int))), .v (.d (.str s.n)), .v (.d (.str s.k)), .v (.d (.int (s.m : Int))), .no, .no, .v (.d (.int (i : Int)))], st⟩) := rfl
        rw [ev, this]
        simp only
        rw [et]) U2
    rw [hrl] at hl U3
    have U4 : Urn (N + 2 + 2 * c) st3 := U3.mono (by omega)
    let env2 : List PyData → List Slot := fun xs => [.v (.ref 0), .v (.d (bookD B)), .v (.d (usD us)), .v (.d (.int (n : Int))), .v (.d (.str s.n)), .v (.d (.str s.k)), .v (.d (.int (s.m : Int))), .v (.d (.tuple xs)), .no, .no]
    -- what is left answers
    have fin : ∀ (us' : List Tm) (st4 : Sto), Node B s.n us' → (∀ t ∈ us', t ∈ ts) → Urn (N + (4 + 2 * c)) st4 → exs (cg (k + 3)) (.cons (.ite (.and (.cmp .eq (.var 5) (.con (.str (Str.ofString "bag")))) (.cmp .eq (.call 33 (.cons (.var 0) (.cons (.con (.int 3)) .nil))) (.con (.int 0)))) (.cons (.set (.n 7) (.bin .add (.var 7) (.tup (.cons (.call 35 (.cons (.var 0) (.cons (.var 7) .nil))) .nil)))) .nil) .nil)
        (.cons (.ret (.tup (.cons (.var 4) (.cons (.var 7) .nil)))) .nil)) ⟨env2 (ts.map enc), st3⟩ = exs (cg (k + 3)) (.cons (.ret (.tup (.cons (.var 4) (.cons (.var 7) .nil)))) .nil) ⟨env2 (us'.map enc), st4⟩ →
        ∃ (t : Tm) (st' : Sto), cg (k + 4) 38 [.ref 0, .d (bookD B), .d (usD us), .d (.int (n : Int))] st = some (.d (enc t), st') ∧ OkN B n t ∧ Urn (N + (4 + 2 * c)) st' := by
      intro us' st4 hn hin U5 he
      refine ⟨.a s.n us', st4, ?_, ?_, U5⟩
      · show runFn (cg (k + 3)) ⟨4, 10, b38⟩ _ _ = _
        refine run_of rfl (x_iff c0 (x_set (env := env1) (e_call2 (w := .ref 0) (u := .d (.list ((B.filter p).map sgD))) rfl hlc e2) rfl (x_set (env := env2 (ts.map enc)) (e_bltS (w := .d (.list (ts.map enc))) e3 rfl) rfl (he.trans ?_))))
        refine x_ret (env := env2 (us'.map enc)) ?_
        rw [enc_a]
        exact e_tup2 (x := .str s.n) (y := .tuple (us'.map enc)) rfl rfl rfl rfl
      · cases us' with
        | nil => exact .c n s.n hn
        | cons a r =>
          have hn0 : 0 < n := hpos fun z => by
            have := hin a List.mem_cons_self
            rw [z] at hl
            rw [List.eq_nil_of_length_eq_zero hl] at this
            cases this
          obtain ⟨n', rfl⟩ : ∃ n', n = n' + 1 := ⟨n - 1, by omega⟩
          exact .a n' s.n (a :: r) hn fun t ht => ho t (hin t ht)
    have nd : Node B s.n ts := ⟨s, hsB, rfl, .inl hl⟩
    have cK : ev (cg (k + 3)) (.cmp .eq (.var 5) (.con (.str (Str.ofString "bag")))) ⟨env2 (ts.map enc), st3⟩ = some (.d (.bool (decide (s.k = bg))), ⟨env2 (ts.map enc), st3⟩) :=
      e_cmp (x := .str s.k) (y := .str bg) rfl rfl (eq_str s.k bg)
    by_cases hk : s.k = bg
    · rw [decide_eq_true hk] at cK
      obtain ⟨r2, st5, e5, r20, r21, U5⟩ := take_ok U4 (by omega) 3 (by decide) (by decide) (k + 2)
      have cL : ev (cg (k + 3)) (.cmp .eq (.call 33 (.cons (.var 0) (.cons (.con (.int 3)) .nil))) (.con (.int 0))) ⟨env2 (ts.map enc), st3⟩ = some (.d (.bool (decide (r2 = 0))), ⟨env2 (ts.map enc), st5⟩) :=
        e_cmpS (e_call2 (w := .ref 0) (u := .d (.int 3)) rfl rfl e5) rfl (eq_int r2 0)
      have cM := e_andS cK cL
      by_cases h2 : r2 = 0
      · rw [decide_eq_true h2] at cM
        have hlt : ts.length = 2 := by rw [hl, hbag hk]
        obtain ⟨x, st6, e6, hx, U6⟩ := of_ok U5 (by omega) (ts.map enc) (by rw [List.length_map]; omega) (by rw [List.length_map]; omega) (.tuple (ts.map enc)) (.inr rfl) (k + 1)
        obtain ⟨u, hu2, rfl⟩ := List.mem_map.mp hx
        refine fin (ts ++ [u]) st6 ⟨s, hsB, rfl, .inr ⟨hk, by rw [List.length_append, hlt]; rfl⟩⟩ (fun t ht => (List.mem_append.mp ht).elim id fun z => by cases List.mem_singleton.mp z; exact hu2) (U6.mono (by omega)) ?_
        refine x_ifn cM (s2 := ⟨env2 ((ts ++ [u]).map enc), st6⟩) (x_set (env := env2 ((ts ++ [u]).map enc)) (w := .d (.tuple ((ts ++ [u]).map enc))) (s1 := ⟨env2 (ts.map enc), st6⟩) ?_ rfl rfl) rfl
        have e7 := e_call2 (C := cg (k + 3)) (f := 35) (a := .var 0) (b := .var 7) (env := env2 (ts.map enc)) (w := .ref 0) (u := .d (.tuple (ts.map enc))) rfl rfl e6
        exact e_binS (x := .tuple (ts.map enc)) (y := .tuple [enc u]) rfl (e_tup1S e7 (enc_no u)) (by rw [binD, if_pos (by simp only [List.length_map, List.length_singleton]; omega), List.map_append]; rfl)
      · rw [decide_eq_false h2] at cM
        exact fin ts st5 nd (fun _ h => h) (U5.mono (by omega)) (x_iff cM rfl)
    · rw [decide_eq_false hk] at cK
      exact fin ts st3 nd (fun _ h => h) (U4.mono (by omega)) (x_iff (e_and0 cK) rfl)
theorem any_ok {B : List Sg} (hB : B ∈ Books) {us : List Nat} (hu : us = [0, 1, 2] ∨ us = [0, 1]) : ∀ (n N : Nat) (st : Sto), Urn N st → N + 8 * 3 ^ n ≤ 2 ^ 29 → ∀ k : Nat, ∃ (t : Tm) (st' : Sto),
    cg (k + n + 4) 38 [.ref 0, .d (bookD B), .d (usD us), .d (.int (n : Int))] st = some (.d (enc t), st') ∧ OkN B n t ∧ Urn (N + 4 * 3 ^ n) st'
  | 0, N, st, U, hN, k => by
    obtain ⟨t, st', e, o, U'⟩ := any_step hB hu 0 0 N st k U (by omega) fun h => absurd h (by omega)
    exact ⟨t, st', e, o, U'.mono (by omega)⟩
  | n + 1, N, st, U, hN, k => by
    have h3 : 1 ≤ 3 ^ n := Nat.one_le_pow _ _ (by decide)
    rw [Nat.pow_succ] at hN
    obtain ⟨t, st', e, o, U'⟩ := any_step hB hu (n + 1) (4 * 3 ^ n) N st (k + n + 1) U (by omega) fun _ M st hM UM => by
      have ec : ((n + 1 : Nat) : Int) - 1 = (n : Int) := by omega
      rw [ec]
      exact any_ok hB hu n M st UM (by omega) k
    refine ⟨t, st', e, o, U'.mono (by rw [Nat.pow_succ]; omega)⟩
end Ev.K00
set_option maxHeartbeats 400000
namespace Ev.K00
open PySem PySem.Spec PyProof.Rows L2 Ev
variable [GG]
/-! ### names, the greatest depth -/
def nmD : Tm → PyData
  | .u n => .int n
  | .a f _ => .str f
def nmL (t : Tm) : List PyData := ((pre t).filter fun q => !isU q.2).map fun q => nmD q.2
theorem nm_strs : ∀ L : List Pc, ∃ fs : List Str, ((L.filter fun q => !isU q.2).map fun q => nmD q.2) = fs.map .str ∧ fs.length ≤ L.length
  | [] => ⟨[], rfl, Nat.le_refl _⟩
  | (p, .u n) :: r => by
    obtain ⟨fs, e, l⟩ := nm_strs r
    exact ⟨fs, by rw [List.filter_cons_of_neg (by simp [isU])]; exact e, by rw [List.length_cons]; omega⟩
  | (p, .a f ts) :: r => by
    obtain ⟨fs, e, l⟩ := nm_strs r
    exact ⟨f :: fs, by rw [List.filter_cons_of_pos (by simp [isU]), List.map_cons, e]; rfl, by rw [List.length_cons, List.length_cons]; omega⟩
theorem strsOf_map : ∀ fs : List Str, strsOf (fs.map PyData.str) = some fs
  | [] => rfl
  | f :: r => by rw [List.map_cons, strsOf, strsOf_map r]; rfl
theorem insT_len (x : Str) : ∀ l : List Str, (insT x l).length ≤ l.length + 1
  | [] => Nat.le_refl _
  | y :: r => by
    have := insT_len x r
    rw [insT]
    split
    · simp
    · split
      · simp
      · simp only [List.length_cons]; omega
theorem srtS_len : ∀ l : List Str, (srtS l).length ≤ l.length
  | [] => Nat.le_refl _
  | x :: r => by
    have := srtS_len r
    have := insT_len x (srtS r)
    rw [srtS, List.length_cons]; omega
theorem insN_len (x : Int) : ∀ l : List Int, (insN x l).length ≤ l.length + 1
  | [] => Nat.le_refl _
  | y :: r => by
    have := insN_len x r
    rw [insN]
    split
    · simp
    · split
      · simp
      · simp only [List.length_cons]; omega
theorem srtI_len : ∀ l : List Int, (srtI l).length ≤ l.length
  | [] => Nat.le_refl _
  | x :: r => by
    have := srtI_len r
    have := insN_len x (srtI r)
    rw [srtI, List.length_cons]; omega
theorem nm_srt (t : Tm) (hs : sz t < 64) : ∃ ss : List Str, ss.length ≤ 64 ∧ srtD (nmL t) = some (ss.map .str) := by
  obtain ⟨fs, e, l⟩ := nm_strs (pre t)
  rw [pre_len] at l
  rw [nmL, e, srtD, List.length_map, if_neg (by omega)]
  cases fs with
  | nil => exact ⟨[], by decide, rfl⟩
  | cons f r =>
    refine ⟨srtS (f :: r), by have := srtS_len (f :: r); omega, ?_⟩
    rw [strsOf_map]
    rfl
theorem insN_ne (x : Int) (l : List Int) : insN x l ≠ [] := by
  cases l with
  | nil => simp [insN]
  | cons y r =>
    rw [insN]
    split
    · simp
    · split <;> simp
theorem closed_same (t : Tm) : PyData.eqv (unkD t) (.tuple []) = PyData.eqv (.list ((bare t).map nI)) (.list []) := by
  cases e : bare t with
  | nil => simp [unkD, e, srtI, PyData.eqv, PyData.eqvAll]
  | cons m r =>
    have h := insN_ne (nZ m) (srtI (r.map nZ))
    cases q : insN (nZ m) (srtI (r.map nZ)) with
    | nil => exact absurd q h
    | cons a b => simp [unkD, e, srtI, q, PyData.eqv, PyData.eqvAll]
theorem e_not {C : Calls} {a : E} {s : S} {k : Bool} (ha : ev C a s = some (.d (.bool k), s)) : ev C (.not a) s = some (.d (.bool (!k)), s) := by
  rw [ev, ha]
theorem max_some (t : Tm) : ∃ m : Int, bltD .max (.d (.list ((pre t).map fun q => PyData.int (q.1.length : Int)))) = some (.d (.int m)) := by
  rw [bltD, intsOf_map]
  rw [pre_kids]
  exact ⟨_, rfl⟩
theorem names_in_ok {B : List Sg} (hB : B ∈ Books) {n : Nat} {t : Tm} (h : OkN B n t) (hn : n ≤ 5) (k : Nat) (st : Sto) {ss : List Str} (hs : srtD (nmL t) = some (ss.map .str)) : cg (k + 18) 24 [.d (bookD B), .d (enc t)] st = some (.d (.tuple (ss.map .str)), st) := by
  have hz := sz_le hB h hn
  have hp := pre_len t
  show runFn (cg (k + 17)) ⟨2, 5, b24⟩ _ _ = _
  refine run_of rfl (x_set (e_call2 (w := .d (bookD B)) (u := .d (enc t)) (e_call1 (w := .d (bookD B)) rfl (sure_book_ok hB (k + 8) st)) rfl (sure_term_ok hB h hn (enc t) (.inl rfl) k st)) rfl (x_ret (env := [.v (.d (bookD B)), .v (.d (enc t)), .v (.d (enc t)), .no, .no]) (e_blt (e_srt (xs := nmL t) (e_lcIfT (xs := pre t) (h := pcD) (p := fun q => !isU q.2) (g := fun q => nmD q.2) ?_ (by omega) fun q hq => ?_) hs) rfl)))
  · show evIt (cg (k + 17)) _ ⟨[.v (.d (bookD B)), .v (.d (enc t)), .v (.d (enc t)), .no, .no], st⟩ = _
    have e : ev (cg (k + 17)) (.call 20 (.cons (.var 2) .nil)) ⟨[.v (.d (bookD B)), .v (.d (enc t)), .v (.d (enc t)), .no, .no], st⟩ = some (.d (.list ((pre t).map pcD)), ⟨[.v (.d (bookD B)), .v (.d (enc t)), .v (.d (enc t)), .no, .no], st⟩) := e_call1 (w := .d (enc t)) rfl (walked_ok hz (k + 14) st)
    rw [evIt, e]
    rfl
  · refine ⟨[.v (.d (bookD B)), .v (.d (enc t)), .v (.d (enc t)), .v (.d (pthD q.1)), .v (.d (enc q.2))], rfl, ?_, fun z => ?_⟩
    · rw [← isNum_enc]
      exact e_not (e_call1 (w := .d (enc q.2)) rfl (is_number_ok (k + 16) _ st))
    · obtain ⟨p, u⟩ := q
      cases u with
      | u n => cases z
      | a f ts => exact ⟨rfl, rfl⟩
/-! ### good terms by the sign -/
theorem flat_rep {α : Type} (x : α) : ∀ n : Nat, (List.replicate n [x]).flatten = List.replicate n x
  | 0 => rfl
  | n + 1 => by rw [List.replicate_succ, List.flatten_cons, flat_rep x n]; rfl
theorem rep_ok {B : List Sg} {s : Sg} (hs : s ∈ B) {o : Tm} (ho : OkN B 1 o) : OkN B 2 (.a s.n (List.replicate s.m o)) :=
  .a 1 s.n _ ⟨s, hs, rfl, .inl (List.length_replicate ..)⟩ fun t ht => by rw [List.eq_of_mem_replicate ht]; exact ho
theorem szs_rep (o : Tm) : ∀ n : Nat, szs (List.replicate n o) = n * sz o
  | 0 => by simp [szs]
  | n + 1 => by rw [List.replicate_succ, szs, szs_rep o n, Nat.succ_mul]; omega
theorem x_whileR {C : Calls} {c : E} {b r : Sts} {s1 : S} {w : Val} {st : Sto} (h : whileGo (wc C c) (exs C b) 100000 s1 = some (.ret w st)) : exs C (.cons (.while c b) r) s1 = some (.ret w st) := by
  rw [exs, ex_while, h]
theorem wide_by {B : List Sg} (hB : B ∈ Books) {s : Sg} (hs : s ∈ B) {o : Tm} (ho : Ok B o) (hz : sz o ≤ 400) (k : Nat) (st : Sto) : cg (k + 4) 11 [.d (sigD B), .d (wideD s o)] st = some (.d (.bool (decide (s.k = bg))), st) := by
  have hm := (sign_m hB hs).1
  show runFn (cg (k + 3)) ⟨2, 4, b11⟩ _ _ = _
  have e1 : ev (cg (k + 3)) (.call 10 (.cons (.var 0) (.cons (.ownPop 2) .nil))) ⟨[.v (.d (sigD B)), .v (.d (wideD s o)), .own [wideD s o], .no], st⟩ = some (.d (if s.k = bg then .tuple (List.replicate (s.m + 2) (enc o)) else .none), ⟨[.v (.d (sigD B)), .v (.d (wideD s o)), .own [], .no], st⟩) := by
    have : evs (cg (k + 3)) (.cons (.var 0) (.cons (.ownPop 2) .nil)) ⟨[.v (.d (sigD B)), .v (.d (wideD s o)), .own [wideD s o], .no], st⟩ = some ([.d (sigD B), .d (wideD s o)], ⟨[.v (.d (sigD B)), .v (.d (wideD s o)), .own [], .no], st⟩) := rfl
    rw [ev, this]
    simp only
    rw [wide_fit hB hs o k st]
  refine run_of rfl (x_own (xs := [wideD s o]) rfl rfl ?_)
  show exs (cg (k + 3)) _ ⟨[.v (.d (sigD B)), .v (.d (wideD s o)), .own [wideD s o], .no], st⟩ = _
  by_cases hk : s.k = bg
  · rw [if_pos hk] at e1
    rw [decide_eq_true hk]
    have hzz : szs (List.replicate (s.m + 2) o) ≤ 1600 := by
      rw [szs_rep]
      exact Nat.mul_le_mul (show s.m + 2 ≤ 4 by omega) hz
    obtain ⟨y3, h3⟩ := while11 hB k (.v (.d (wideD s o))) st 99999 (List.replicate (s.m + 2) o) (fun u hu => by rw [List.eq_of_mem_replicate hu]; exact ho) (by omega) (by omega) (.v (.d (.tuple (List.replicate (s.m + 2) (enc o)))))
    refine x_while (s2 := ⟨[.v (.d (sigD B)), .v (.d (wideD s o)), .own [], y3], st⟩) ?_ (x_ret (env := [.v (.d (sigD B)), .v (.d (wideD s o)), .own [], y3]) rfl)
    have e0 : wc (cg (k + 3)) (.ownNe 2) ⟨[.v (.d (sigD B)), .v (.d (wideD s o)), .own [wideD s o], .no], st⟩ = some (true, ⟨[.v (.d (sigD B)), .v (.d (wideD s o)), .own [wideD s o], .no], st⟩) := rfl
    have eb : exs (cg (k + 3)) body11 ⟨[.v (.d (sigD B)), .v (.d (wideD s o)), .own [wideD s o], .no], st⟩ = some (.next ⟨[.v (.d (sigD B)), .v (.d (wideD s o)), .own ((List.replicate (s.m + 2) o).map enc), .v (.d (.tuple (List.replicate (s.m + 2) (enc o))))], st⟩) :=
      x_set e1 rfl (x_iff (s1 := ⟨[.v (.d (sigD B)), .v (.d (wideD s o)), .own [], .v (.d (.tuple (List.replicate (s.m + 2) (enc o))))], st⟩) rfl (x_ext (xs := []) (ys := List.replicate (s.m + 2) (enc o)) rfl rfl (by rw [List.length_replicate, List.length_nil]; omega) rfl (by rw [List.map_replicate, List.nil_append]; rfl)))
    rw [show (100000 : Nat) = 99999 + 1 from rfl, whileGo, e0]
    show (match exs (cg (k + 3)) body11 _ with
      | none => none
      | some (.next s2) => whileGo _ _ _ s2
      | some (.cont s2) => whileGo _ _ _ s2
      | some (.brk s2) => some (.next s2)
      | some (.ret w st) => some (.ret w st)) = _
    rw [eb]
    exact h3
  · rw [if_neg hk] at e1
    rw [decide_eq_false hk]
    refine x_whileR ?_
    have e0 : wc (cg (k + 3)) (.ownNe 2) ⟨[.v (.d (sigD B)), .v (.d (wideD s o)), .own [wideD s o], .no], st⟩ = some (true, ⟨[.v (.d (sigD B)), .v (.d (wideD s o)), .own [wideD s o], .no], st⟩) := rfl
    have eb : exs (cg (k + 3)) body11 ⟨[.v (.d (sigD B)), .v (.d (wideD s o)), .own [wideD s o], .no], st⟩ = some (.ret (.d (.bool false)) st) :=
      x_set e1 rfl (x_ift (s1 := ⟨[.v (.d (sigD B)), .v (.d (wideD s o)), .own [], .v (.d .none)], st⟩) rfl rfl)
    rw [show (100000 : Nat) = 99999 + 1 from rfl, whileGo, e0]
    show (match exs (cg (k + 3)) body11 _ with
      | none => none
      | some (.next s2) => whileGo _ _ _ s2
      | some (.cont s2) => whileGo _ _ _ s2
      | some (.brk s2) => some (.next s2)
      | some (.ret w st) => some (.ret w st)) = _
    rw [eb]
theorem wide_ok {B : List Sg} (hB : B ∈ Books) {s : Sg} (hs : s ∈ B) {o : Tm} (ho : Ok B o) (hz : sz o ≤ 400) (k : Nat) (st : Sto) : cg (k + 17) 12 [.d (bookD B), .d (wideD s o)] st = some (.d (.bool (decide (s.k = bg))), st) := by
  show runFn (cg (k + 16)) ⟨2, 2, b12⟩ _ _ = _
  exact run_of rfl (x_ret (env := [.v (.d (bookD B)), .v (.d (wideD s o))]) (e_call2 (e_call1 (e_call1 (w := .d (bookD B)) rfl (sure_book_ok hB (k + 7) st)) (signs_ok hB (k + 15) st)) rfl (wide_by hB hs ho hz (k + 12) st)))
end Ev.K00
set_option maxHeartbeats 400000
namespace Ev.K00
open PySem PySem.Spec PyProof.Rows L2 Ev
variable [GG]
/-! ### the walk over the parts -/
theorem path_len {B : List Sg} : ∀ (p : List Nat) (n : Nat) (t u : Tm), OkN B n t → sub p t = some u → p.length ≤ n
  | [], n, t, u, _, _ => Nat.zero_le _
  | i :: p, n, t, u, h, e => by
    rw [sub] at e
    split at e
    case h_2 => cases e
    rename_i v g
    cases h with
    | u n m h => simp [kids] at g
    | c n f h => simp [kids] at g
    | a n f ts h hs =>
      have := path_len p n v u (hs v (List.mem_of_getElem? g)) e
      rw [List.length_cons]; omega
section
variable {C : Calls}
theorem e_call4 {f : Nat} {a b c d : E} {env : List Slot} {st st' : Sto} {w u x y v : Val} (ha : ev C a ⟨env, st⟩ = some (w, ⟨env, st⟩)) (hb : ev C b ⟨env, st⟩ = some (u, ⟨env, st⟩)) (hc : ev C c ⟨env, st⟩ = some (x, ⟨env, st⟩)) (hd : ev C d ⟨env, st⟩ = some (y, ⟨env, st⟩)) (h : C f [w, u, x, y] st = some (v, st')) : ev C (.call f (.cons a (.cons b (.cons c (.cons d .nil))))) ⟨env, st⟩ = some (v, ⟨env, st'⟩) := by
  rw [ev, evs, ha]; simp only [evs]; rw [hb]; simp only; rw [hc]; simp only; rw [hd]; simp only; rw [h]
theorem e_lst3 {a b c : E} {s : S} {x y z : PyData} (ha : ev C a s = some (.d x, s)) (hb : ev C b s = some (.d y, s)) (hc : ev C c s = some (.d z, s)) (h1 : noDict x = true) (h2 : noDict y = true) (h3 : noDict z = true) : ev C (.lst (.cons a (.cons b (.cons c .nil)))) s = some (.d (.list [x, y, z]), s) := by
  rw [ev, evs, ha]; simp only [evs]; rw [hb]; simp only; rw [hc]; simp [isD, noDicts, h1, h2, h3]
theorem e_lst2 {a b : E} {s : S} {x y : PyData} (ha : ev C a s = some (.d x, s)) (hb : ev C b s = some (.d y, s)) (h1 : noDict x = true) (h2 : noDict y = true) : ev C (.lst (.cons a (.cons b .nil))) s = some (.d (.list [x, y]), s) := by
  rw [ev, evs, ha]; simp only [evs]; rw [hb]; simp [isD, noDicts, h1, h2]
theorem cnt (m : Nat) : ∀ ns : List Nat, (ns.map nZ).count (m : Int) = ns.count m
  | [] => rfl
  | x :: r => by
    rw [List.map_cons, List.count_cons, List.count_cons, cnt m r]
    by_cases h : x = m
    · simp [nZ, h]
    · have : ¬ (x : Int) = (m : Int) := by omega
      simp [nZ, h, this]
theorem e_cnt {a b : E} {s : S} {ns : List Nat} {m : Nat} (ha : ev C a s = some (.d (.list (ns.map nI)), s)) (hb : ev C b s = some (.d (.int (m : Int)), s)) : ev C (.count a b) s = some (.d (.int (ns.count m : Int)), s) := by
  rw [ev, ha]; simp only; rw [hb]; simp only
  have e : intsOf (ns.map nI) = some (ns.map nZ) := intsOf_map nZ ns
  rw [e, Option.map_some, cnt]
theorem ne_int (i j : Int) : cmpD .ne (.int i) (.int j) = some (!decide (i = j)) := by
  simp only [cmpD, noDict, low, PyData.depth, PyData.eqv]
  by_cases h : i = j <;> simp [h]
end
abbrev LE (lp : Int) (B : List Sg) (t o : Tm) (ss : List Str) (r : List Slot) : List Slot := .v (.ref 0) :: .v (.d (.int lp)) :: .v (.d (bookD B)) :: .v (.d (enc t)) :: .v (.d (enc o)) :: .v (.d (.list ((pre t).map pcD))) :: .v (.d (.list ((bare t).map nI))) :: .v (.d (.list (ss.map .str))) :: r
abbrev PE (lp : Int) (B : List Sg) (t o : Tm) (ss : List Str) (x8 x9 : PyData) (p : List Nat) (u : Tm) (x12 x13 x14 : Slot) : List Slot := LE lp B t o ss [.v (.d x8), .v (.d x9), .v (.d (pthD p)), .v (.d (enc u)), x12, x13, x14, .no, .no, .no, .no, .no]
/-- what the foreign def answers -/
def Told44 (k : Nat) : Prop := ∀ B ∈ Books, ∀ t, OkN B 3 t → ∀ (p : List Nat) (u : Tm) (i : Nat), sub p t = some u → (kids u).length ≤ i → p.length ≤ 20 → ∀ st : Sto, cg (k + 20) 44 [.d (bookD B), .d (enc t), .d (pthD (p ++ [i]))] st = some (.d (.tuple [.str "no place", pthD (p ++ [i])]), st)
def bodyU : Sts := (.cons (.ite (.cmp .ne (.call 25 (.cons (.var 2) (.cons (.var 12) (.cons (.var 14) .nil)))) (.bin .add (.bin .sub (.count (.var 6) (.var 14)) (.count (.var 13) (.var 14))) (.count (.call 40 (.cons (.var 4) .nil)) (.var 14)))) (.cons (.ret (.con (.bool false)))
  .nil) .nil)
  .nil)
def bodyP : Sts := (.cons (.set (.n 12) (.call 31 (.cons (.var 2) (.cons (.var 3) (.cons (.blt .list (.var 10)) (.cons (.var 4) .nil))))))
  (.cons (.ite (.not (.call 36 (.cons (.lst (.cons (.call 29 (.cons (.var 2) (.cons (.var 3) (.cons (.var 10) .nil)))) (.cons (.var 12) (.cons (.call 29 (.cons (.var 2) (.cons (.var 12) (.cons (.var 10) .nil)))) .nil)))) (.cons (.lst (.cons (.var 11) (.cons (.call 42 (.cons (.var 3) (.cons (.var 10) (.cons (.var 4) .nil)))) (.cons (.var 4) .nil)))) .nil)))) (.cons (.ret (.con (.bool false)))
  .nil) .nil)
  (.cons (.set (.n 13) (.call 40 (.cons (.var 11) .nil)))
  (.cons (.for (.n 14) (.seq (.tup (.cons (.con (.int 0)) (.cons (.con (.int 1)) (.cons (.con (.int 2)) .nil))))) bodyU)
  (.cons (.ite (.not (.call 36 (.cons (.call 19 (.cons (.var 2) (.cons (.var 12) .nil))) (.cons (.bin .add (.bin .sub (.call 43 (.cons (.var 2) (.cons (.var 3) .nil))) (.call 43 (.cons (.var 2) (.cons (.var 11) .nil)))) (.call 43 (.cons (.var 2) (.cons (.var 4) .nil)))) .nil)))) (.cons (.ret (.con (.bool false)))
  .nil) .nil)
  (.cons (.ite (.and (.isi (.var 11) .int) (.not (.call 36 (.cons (.call 44 (.cons (.var 2) (.cons (.var 3) (.cons (.bin .add (.var 10) (.tup (.cons (.con (.int 0)) .nil))) .nil)))) (.cons (.tup (.cons (.con (.str (Str.ofString "no place"))) (.cons (.bin .add (.var 10) (.tup (.cons (.con (.int 0)) .nil))) .nil))) .nil))))) (.cons (.ret (.con (.bool false)))
  .nil) .nil)
  (.cons (.ite (.and (.not (.isi (.var 11) .int)) (.not (.call 36 (.cons (.call 44 (.cons (.var 2) (.cons (.var 3) (.cons (.bin .add (.var 10) (.tup (.cons (.blt .len (.ix (.var 11) (.con (.int 1)))) .nil))) .nil)))) (.cons (.tup (.cons (.con (.str (Str.ofString "no place"))) (.cons (.bin .add (.var 10) (.tup (.cons (.blt .len (.ix (.var 11) (.con (.int 1)))) .nil))) .nil))) .nil))))) (.cons (.ret (.con (.bool false)))
  .nil) .nil)
  .nil)))))))
theorem okN_mono : ∀ (n : Nat) (d : PyData), okN n d = true → okN (n + 1) d = true
  | n, .none, _ => rfl
  | n, .bool _, _ => rfl
  | n, .int _, _ => rfl
  | n, .str _, _ => rfl
  | 0, .dict _, h => nomatch h
  | _ + 1, .dict _, h => nomatch h
  | 0, .list _, h => nomatch h
  | 0, .tuple _, h => nomatch h
  | n + 1, .list xs, h => by
    obtain ⟨h1, h2⟩ := and2 (show (decide (xs.length ≤ 1000) && xs.all (okN n)) = true from h)
    show (decide (xs.length ≤ 1000) && xs.all (okN (n + 1))) = true
    rw [h1, Bool.true_and, List.all_eq_true]
    exact fun x hx => okN_mono n x (List.all_eq_true.mp h2 x hx)
  | n + 1, .tuple xs, h => by
    obtain ⟨h1, h2⟩ := and2 (show (decide (xs.length ≤ 1000) && xs.all (okN n)) = true from h)
    show (decide (xs.length ≤ 1000) && xs.all (okN (n + 1))) = true
    rw [h1, Bool.true_and, List.all_eq_true]
    exact fun x hx => okN_mono n x (List.all_eq_true.mp h2 x hx)
theorem okN_up {n m : Nat} {d : PyData} (h : okN n d = true) (hm : n ≤ m) : okN m d = true := by
  induction m with
  | zero => cases Nat.le_zero.mp hm; exact h
  | succ m ih =>
    by_cases q : n = m + 1
    · rw [← q]; exact h
    · exact okN_mono m d (ih (by omega))
section
variable {B : List Sg} (hB : B ∈ Books) {t o : Tm} (ht : OkN B 3 t) (ho : OkN B 1 o) {k : Nat} (h44 : Told44 k) {lp : Int} {ss : List Str} {x8 x9 : PyData} {p : List Nat} {u : Tm} (hs : sub p t = some u) (st : Sto)
include hB ht ho hs
theorem turnU (m : Nat) (hm : m < 3) (x14 : Slot) : fb (cg (k + 20)) (.n 14) bodyU (nI m) ⟨PE lp B t o ss x8 x9 p u (.v (.d (enc (put p t o)))) (.v (.d (.list ((bare u).map nI)))) x14, st⟩ = some (.next ⟨PE lp B t o ss x8 x9 p u (.v (.d (enc (put p t o)))) (.v (.d (.list ((bare u).map nI)))) (.v (.d (nI m))), st⟩) := by
  have hw := put_okN ho p 3 t ht
  have c := count_put (o := o) m hs
  show exs (cg (k + 20)) bodyU ⟨PE lp B t o ss x8 x9 p u (.v (.d (enc (put p t o)))) (.v (.d (.list ((bare u).map nI)))) (.v (.d (nI m))), st⟩ = _
  refine x_iff (e_cmp (x := .int ((bare (put p t o)).count m : Int)) (y := .int (((bare t).count m : Int) - ((bare u).count m : Int) + ((bare o).count m : Int))) (e_call3 (w := .d (bookD B)) (u := .d (enc (put p t o))) (x := .d (.int (m : Int))) rfl rfl rfl (by
    rw [show k + 20 = (k + 2) + 18 by omega, how_often_ok hB hw (by decide) (k + 2) st m (by omega) (by have := sz_le hB hw (by decide); omega), pre_count])) (e_bin (e_bin (e_cnt (ns := bare t) (m := m) rfl rfl) (e_cnt (ns := bare u) (m := m) rfl rfl) rfl) (e_cnt (ns := bare o) (m := m) (e_call1 (w := .d (enc o)) rfl (bare_ok hB ho (k + 19) (by omega) (by have := sz_cap hB ho; have e : capS 1 = 4 := rfl; omega) st)) rfl) rfl) ?_) rfl
  rw [ne_int, decide_eq_true (by omega)]
  rfl
theorem turnP (h44 : Told44 k) (x10 x11 x12 x13 x14 : Slot) : ∃ y12 y13 y14 : PyData, fb (cg (k + 20)) (.t [10, 11]) bodyP (pcD (p, u)) ⟨LE lp B t o ss [.v (.d x8), .v (.d x9), x10, x11, x12, x13, x14, .no, .no, .no, .no, .no], st⟩ = some (.next ⟨PE lp B t o ss x8 x9 p u (.v (.d y12)) (.v (.d y13)) (.v (.d y14)), st⟩) := by
  have hp := path_len p 3 t u ht hs
  have hw := put_okN ho p 3 t ht
  have hu := sub_okN ht hs
  have hsw := sub_put (o := o) hs
  refine ⟨enc (put p t o), .list ((bare u).map nI), nI 2, ?_⟩
  show exs (cg (k + 20)) bodyP ⟨PE lp B t o ss x8 x9 p u x12 x13 x14, st⟩ = _
  -- whole
  refine x_set (env := PE lp B t o ss x8 x9 p u (.v (.d (enc (put p t o)))) x13 x14) (e_call4 (w := .d (bookD B)) (u := .d (enc t)) (x := .d (.list (p.map nI))) (y := .d (enc o)) rfl rfl (e_blt (w := .d (pthD p)) rfl rfl) rfl (put_at_ok hB ht (by decide) ho hs (by omega) (k + 2) st)) rfl ?_
  -- parts
  have a1 : ev (cg (k + 20)) (.lst (.cons (.call 29 (.cons (.var 2) (.cons (.var 3) (.cons (.var 10) .nil)))) (.cons (.var 12) (.cons (.call 29 (.cons (.var 2) (.cons (.var 12) (.cons (.var 10) .nil)))) .nil)))) ⟨PE lp B t o ss x8 x9 p u (.v (.d (enc (put p t o)))) x13 x14, st⟩ = some (.d (.list [enc u, enc (put p t o), enc o]), ⟨PE lp B t o ss x8 x9 p u (.v (.d (enc (put p t o)))) x13 x14, st⟩) :=
    e_lst3 (e_call3 (w := .d (bookD B)) (u := .d (enc t)) (x := .d (pthD p)) rfl rfl rfl (part_at_ok hB ht (by decide) hs (by omega) (k + 2) st)) rfl (e_call3 (w := .d (bookD B)) (u := .d (enc (put p t o))) (x := .d (pthD p)) rfl rfl rfl (part_at_ok hB hw (by decide) hsw (by omega) (k + 2) st)) (enc_no _) (enc_no _) (enc_no _)
  have a2 : ev (cg (k + 20)) (.lst (.cons (.var 11) (.cons (.call 42 (.cons (.var 3) (.cons (.var 10) (.cons (.var 4) .nil)))) (.cons (.var 4) .nil)))) ⟨PE lp B t o ss x8 x9 p u (.v (.d (enc (put p t o)))) x13 x14, st⟩ = some (.d (.list [enc u, enc (put p t o), enc o]), ⟨PE lp B t o ss x8 x9 p u (.v (.d (enc (put p t o)))) x13 x14, st⟩) :=
    e_lst3 rfl (e_call3 (w := .d (enc t)) (u := .d (pthD p)) (x := .d (enc o)) rfl rfl rfl (by
      rw [show k + 20 = (k + 19 - p.length) + p.length + 1 by omega]
      exact swapped_ok hB p t u ht hs _ st)) rfl (enc_no _) (enc_no _) (enc_no _)
  have okl : okN 11 (.list [enc u, enc (put p t o), enc o]) = true := by
    have b1 := okN_up (m := 10) (okN_enc hB hu) (by decide)
    have b2 := okN_up (m := 10) (okN_enc hB hw) (by decide)
    have b3 := okN_up (m := 10) (okN_enc hB ho) (by decide)
    simp [okN, b1, b2, b3]
  refine x_iff (e_not (k := true) (e_call2 a1 a2 (same_ok 11 (k + 8) _ st okl))) ?_
  -- bare
  refine x_set (env := PE lp B t o ss x8 x9 p u (.v (.d (enc (put p t o)))) (.v (.d (.list ((bare u).map nI)))) x14) (e_call1 (w := .d (enc u)) rfl (bare_ok hB hu (k + 19) (by omega) (by have := sz_cap hB hu; have e : capS 3 = 40 := rfl; omega) st)) rfl ?_
  -- counts
  refine x_for (s1 := ⟨PE lp B t o ss x8 x9 p u (.v (.d (enc (put p t o)))) (.v (.d (.list ((bare u).map nI)))) x14, st⟩) (xs := [nI 0, nI 1, nI 2]) rfl (s2 := ⟨PE lp B t o ss x8 x9 p u (.v (.d (enc (put p t o)))) (.v (.d (.list ((bare u).map nI)))) (.v (.d (nI 2))), st⟩) ?_ ?_
  · rw [forGo, turnU hB ht ho hs st 0 (by decide)]
    simp only
    rw [forGo, turnU hB ht ho hs st 1 (by decide)]
    simp only
    rw [forGo, turnU hB ht ho hs st 2 (by decide)]
    rfl
  -- words
  have w1 := words_of_ok hB hw (by decide) (k + 2) st (enc (put p t o)) (.inl rfl)
  have w2 := words_all_ok hB ht (k + 18) (by omega) st
  have w3 := words_all_ok hB hu (k + 18) (by omega) st
  have w4 := words_all_ok hB ho (k + 18) (by omega) st
  have ww := wd_put (o := o) hs
  refine x_iff (s1 := ⟨PE lp B t o ss x8 x9 p u (.v (.d (enc (put p t o)))) (.v (.d (.list ((bare u).map nI)))) (.v (.d (nI 2))), st⟩) (e_not (k := true) (e_call2 (w := .d (.int (wd (put p t o)))) (u := .d (.int (wd t - wd u + wd o))) (e_call2 (w := .d (bookD B)) (u := .d (enc (put p t o))) rfl rfl w1) (e_bin (x := .int (wd t - wd u)) (y := .int (wd o)) (e_bin (x := .int (wd t)) (y := .int (wd u)) (e_call2 (w := .d (bookD B)) (u := .d (enc t)) rfl rfl w2) (e_call2 (w := .d (bookD B)) (u := .d (enc u)) rfl rfl w3) rfl) (e_call2 (w := .d (bookD B)) (u := .d (enc o)) rfl rfl w4) rfl) (by
    rw [show wd t - wd u + wd o = wd (put p t o) by omega]
    exact same_ok 0 (k + 19) _ st rfl))) ?_
  -- no place
  have place : ∀ (i : Nat) (e : E), (kids u).length ≤ i → ev (cg (k + 20)) e ⟨PE lp B t o ss x8 x9 p u (.v (.d (enc (put p t o)))) (.v (.d (.list ((bare u).map nI)))) (.v (.d (nI 2))), st⟩ = some (.d (.int (i : Int)), ⟨PE lp B t o ss x8 x9 p u (.v (.d (enc (put p t o)))) (.v (.d (.list ((bare u).map nI)))) (.v (.d (nI 2))), st⟩) →
      ev (cg (k + 20)) (.not (.call 36 (.cons (.call 44 (.cons (.var 2) (.cons (.var 3) (.cons (.bin .add (.var 10) (.tup (.cons e .nil))) .nil)))) (.cons (.tup (.cons (.con (.str (Str.ofString "no place"))) (.cons (.bin .add (.var 10) (.tup (.cons e .nil))) .nil))) .nil)))) ⟨PE lp B t o ss x8 x9 p u (.v (.d (enc (put p t o)))) (.v (.d (.list ((bare u).map nI)))) (.v (.d (nI 2))), st⟩ = some (.d (.bool false), ⟨PE lp B t o ss x8 x9 p u (.v (.d (enc (put p t o)))) (.v (.d (.list ((bare u).map nI)))) (.v (.d (nI 2))), st⟩) := by
    intro i e hi he
    have hb : ev (cg (k + 20)) (.bin .add (.var 10) (.tup (.cons e .nil))) ⟨PE lp B t o ss x8 x9 p u (.v (.d (enc (put p t o)))) (.v (.d (.list ((bare u).map nI)))) (.v (.d (nI 2))), st⟩ = some (.d (pthD (p ++ [i])), ⟨PE lp B t o ss x8 x9 p u (.v (.d (enc (put p t o)))) (.v (.d (.list ((bare u).map nI)))) (.v (.d (nI 2))), st⟩) := by
      refine e_bin (x := pthD p) (y := .tuple [.int (i : Int)]) rfl (e_tup1S he rfl) ?_
      rw [pthD, binD, if_pos (by rw [List.length_map, List.length_singleton]; omega), pthD, List.map_append]
      rfl
    refine e_not (k := true) (e_call2 (e_call3 (w := .d (bookD B)) (u := .d (enc t)) rfl rfl hb (h44 B hB t ht p u i hs hi (by omega) st)) (e_tup2 rfl hb rfl rfl) (same_ok 2 (k + 17) _ st ?_))
    have := (okN_pth (p ++ [i]) (by rw [List.length_append, List.length_singleton]; omega)).1
    simp only [okN, List.all_cons, this]
    rfl
  cases u with
  | u m =>
    refine x_iff (e_andS (k := false) rfl (place 0 (.con (.int 0)) (Nat.zero_le _) rfl)) (x_iff (s1 := ⟨PE lp B t o ss x8 x9 p (.u m) (.v (.d (enc (put p t o)))) (.v (.d (.list ((bare (.u m)).map nI)))) (.v (.d (nI 2))), st⟩) rfl rfl)
  | a f ts =>
    refine x_iff (s1 := ⟨PE lp B t o ss x8 x9 p (.a f ts) (.v (.d (enc (put p t o)))) (.v (.d (.list ((bare (.a f ts)).map nI)))) (.v (.d (nI 2))), st⟩) rfl (x_iff (e_andS (k := false) rfl (place ts.length (.blt .len (.ix (.var 11) (.con (.int 1)))) (Nat.le_refl _) (e_blt (w := .d (.tuple (ts.map enc))) (e_ix (x := enc (.a f ts)) (y := .int 1) rfl rfl (by rw [enc_a]; rfl)) (by rw [bltD, List.length_map])))) rfl)
end
end Ev.K00
set_option maxHeartbeats 400000
namespace Ev.K00
open PySem PySem.Spec PyProof.Rows L2 Ev
variable [GG]
/-! ### a lap -/
section
variable {B : List Sg} (hB : B ∈ Books) {t o : Tm} (ht : OkN B 3 t) (ho : OkN B 1 o) {k : Nat} (h44 : Told44 k) {lp : Int} {ss : List Str} {x8 x9 : PyData} (st : Sto)
include hB ht ho h44
theorem forP : ∀ (qs : List Pc), (∀ q ∈ qs, sub q.1 t = some q.2) → ∀ d10 d11 d12 d13 d14 : PyData, ∃ e10 e11 e12 e13 e14 : PyData, forGo (fb (cg (k + 20)) (.t [10, 11]) bodyP) (qs.map pcD) ⟨LE lp B t o ss [.v (.d x8), .v (.d x9), .v (.d d10), .v (.d d11), .v (.d d12), .v (.d d13), .v (.d d14), .no, .no, .no, .no, .no], st⟩ = some (.next ⟨LE lp B t o ss [.v (.d x8), .v (.d x9), .v (.d e10), .v (.d e11), .v (.d e12), .v (.d e13), .v (.d e14), .no, .no, .no, .no, .no], st⟩)
  | [], _, d10, d11, d12, d13, d14 => ⟨d10, d11, d12, d13, d14, rfl⟩
  | q :: r, h, d10, d11, d12, d13, d14 => by
    obtain ⟨y12, y13, y14, e⟩ := turnP (k := k) (lp := lp) (ss := ss) (x8 := x8) (x9 := x9) hB ht ho (h q List.mem_cons_self) st h44 (.v (.d d10)) (.v (.d d11)) (.v (.d d12)) (.v (.d d13)) (.v (.d d14))
    obtain ⟨e10, e11, e12, e13, e14, e'⟩ := forP r (fun u hu => h u (List.mem_cons_of_mem _ hu)) (pthD q.1) (enc q.2) y12 y13 y14
    refine ⟨e10, e11, e12, e13, e14, ?_⟩
    rw [List.map_cons, forGo, e]
    exact e'
theorem forP0 : ∃ e10 e11 e12 e13 e14 : PyData, forGo (fb (cg (k + 20)) (.t [10, 11]) bodyP) (((pre t).take 9).map pcD) ⟨LE lp B t o ss [.v (.d x8), .v (.d x9), .no, .no, .no, .no, .no, .no, .no, .no, .no, .no], st⟩ = some (.next ⟨LE lp B t o ss [.v (.d x8), .v (.d x9), .v (.d e10), .v (.d e11), .v (.d e12), .v (.d e13), .v (.d e14), .no, .no, .no, .no, .no], st⟩) := by
  have hall : ∀ q ∈ (pre t).take 9, sub q.1 t = some q.2 := fun q hq => pre_sub t q (List.mem_of_mem_take hq)
  cases e : (pre t).take 9 with
  | nil => rw [pre_kids] at e; cases e
  | cons q r =>
    rw [e] at hall
    obtain ⟨y12, y13, y14, e1⟩ := turnP (k := k) (lp := lp) (ss := ss) (x8 := x8) (x9 := x9) hB ht ho (hall q List.mem_cons_self) st h44 .no .no .no .no .no
    obtain ⟨e10, e11, e12, e13, e14, e'⟩ := forP hB ht ho h44 st r (fun u hu => hall u (List.mem_cons_of_mem _ hu)) (pthD q.1) (enc q.2) y12 y13 y14
    refine ⟨e10, e11, e12, e13, e14, ?_⟩
    rw [List.map_cons, forGo, e1]
    exact e'
end
section
variable {C : Calls}
theorem e_tup2S {a b : E} {s s1 s2 : S} {x y : PyData} (ha : ev C a s = some (.d x, s1)) (hb : ev C b s1 = some (.d y, s2)) (h1 : noDict x = true) (h2 : noDict y = true) : ev C (.tup (.cons a (.cons b .nil))) s = some (.d (.tuple [x, y]), s2) := by
  rw [ev, evs, ha]; simp only [evs]; rw [hb]; simp [isD, noDicts, h1, h2]
theorem evs_mapM {es : Es} {s s1 : S} {xs : List PyData} (h : ev C (.lst es) s = some (.d (.list xs), s1)) : ∃ ws, evs C es s = some (ws, s1) ∧ ws.mapM isD = some xs ∧ xs.length ≤ 1000 ∧ noDicts xs = true := by
  rw [ev] at h
  cases e : evs C es s with
  | none => rw [e] at h; cases h
  | some r =>
    obtain ⟨ws, s2⟩ := r
    rw [e] at h
    simp only at h
    cases e2 : ws.mapM isD with
    | none => rw [e2] at h; cases h
    | some ys =>
      rw [e2] at h
      simp only at h
      split at h
      · rename_i q
        cases h
        exact ⟨ws, rfl, e2, q.1, q.2⟩
      · cases h
theorem e_lst_cons {a : E} {es : Es} {s : S} {x : PyData} {xs : List PyData} (ha : ev C a s = some (.d x, s)) (hx : noDict x = true) (h : ev C (.lst es) s = some (.d (.list xs), s)) (hl : xs.length < 1000) : ev C (.lst (.cons a es)) s = some (.d (.list (x :: xs)), s) := by
  obtain ⟨ws, e, m, l, nd⟩ := evs_mapM h
  rw [ev, evs, ha]
  simp only
  rw [e]
  simp only [List.mapM_cons, isD, m]
  have : (x :: xs).length ≤ 1000 ∧ noDicts (x :: xs) = true := ⟨by rw [List.length_cons]; omega, by rw [noDicts, hx, nd]; rfl⟩
  simp [this.2, hl]
  omega
theorem e_lst0 {s : S} : ev C (.lst .nil) s = some (.d (.list []), s) := rfl
end
end Ev.K00
set_option maxHeartbeats 4000000
namespace Ev.K00
open PySem PySem.Spec PyProof.Rows L2 Ev
variable [GG]
/-! ### the lap's last part -/
def tail9 : Sts := (.cons (.set (.t [15, 16, 17]) (.call 35 (.cons (.var 0) (.cons (.var 2) .nil)))) (.cons (.set (.n 18) (.lst (.cons (.ite (.not (.isi (.var 3) .int)) (.call 41 (.cons (.var 3) .nil)) (.neg (.con (.int 1)))) (.cons (.tup (.cons (.var 15) (.cons (.bin .mul (.tup (.cons (.con (.int 0)) .nil)) (.ite (.cmp .ne (.var 16) (.con (.str (Str.ofString "bag")))) (.bin .add (.var 17) (.con (.int 1))) (.con (.int 1)))) .nil))) (.cons (.tup (.cons (.var 15) .nil)) (.cons (.tup (.cons (.var 15) (.cons (.con (.int 0)) .nil))) (.cons (.tup (.cons (.con (.str (Str.ofString "no"))) (.cons (.tup .nil) .nil))) (.cons (.con (.int 100)) (.cons (.con (.bool true)) (.cons (.con .none) (.cons (.tup (.cons (.var 15) (.cons (.bin .mul (.tup (.cons (.con (.int 0)) .nil)) (.var 17)) (.cons (.con (.int 0)) .nil)))) (.cons (.var 15) .nil)))))))))))) (.cons (.ite (.not (.call 36 (.cons (.bin .add (.lc (.n 11) (.seq (.var 18)) (.con (.bool true)) (.call 12 (.cons (.var 2) (.cons (.var 11) .nil))) [11]) (.lst (.cons (.call 12 (.cons (.var 2) (.cons (.var 3) .nil))) (.cons (.call 12 (.cons (.var 2) (.cons (.tup (.cons (.var 15) (.cons (.bin .mul (.tup (.cons (.var 4) .nil)) (.var 17)) .nil))) .nil))) .nil)))) (.cons (.bin .add (.bin .mul (.lst (.cons (.con (.bool false)) .nil)) (.con (.int 10))) (.lst (.cons (.con (.bool true)) (.cons (.con (.bool true)) .nil)))) .nil)))) (.cons (.ret (.con (.bool false))) .nil) .nil) (.cons (.set (.n 19) (.tup (.cons (.var 15) (.cons (.bin .mul (.tup (.cons (.var 4) .nil)) (.bin .add (.var 17) (.con (.int 2)))) .nil)))) (.cons (.ret (.call 36 (.cons (.lst (.cons (.call 12 (.cons (.var 2) (.cons (.var 19) .nil))) (.cons (.call 17 (.cons (.var 2) (.cons (.var 15) .nil))) .nil))) (.cons (.lst (.cons (.cmp .eq (.var 16) (.con (.str (Str.ofString "bag")))) (.cons (.tup (.cons (.var 15) (.cons (.var 16) (.cons (.var 17) .nil)))) .nil))) .nil)))) .nil)))))
def tail4 : Sts := (.cons (.set (.n 8) (.lst (.cons (.call 19 (.cons (.var 2) (.cons (.call 41 (.cons (.var 3) .nil)) .nil))) (.cons (.call 26 (.cons (.var 2) (.cons (.var 3) .nil))) (.cons (.call 22 (.cons (.var 2) (.cons (.var 3) .nil))) (.cons (.call 24 (.cons (.var 2) (.cons (.var 3) .nil))) (.cons (.call 23 (.cons (.var 2) (.cons (.var 3) .nil))) (.cons (.call 27 (.cons (.var 2) (.cons (.var 3) .nil))) .nil)))))))) (.cons (.set (.n 9) (.lst (.cons (.call 43 (.cons (.var 2) (.cons (.var 3) .nil))) (.cons (.bin .add (.con (.int 1)) (.blt .max (.lc (.t [10, 11]) (.seq (.var 5)) (.con (.bool true)) (.blt .len (.var 10)) [10, 11]))) (.cons (.blt .tuple (.srt (.var 6))) (.cons (.blt .tuple (.var 7)) (.cons (.cmp .eq (.var 6) (.lst .nil)) (.cons (.lc (.t [10, 11]) (.seq (.var 5)) (.con (.bool true)) (.var 10) [10, 11]) .nil)))))))) (.cons (.ite (.not (.call 36 (.cons (.var 8) (.cons (.var 9) .nil)))) (.cons (.ret (.con (.bool false))) .nil) .nil) (.cons (.ite (.not (.call 36 (.cons (.lc (.n 14) (.rng (.con (.int 4))) (.con (.bool true)) (.call 25 (.cons (.var 2) (.cons (.var 3) (.cons (.var 14) .nil)))) [14]) (.cons (.lc (.n 14) (.rng (.con (.int 4))) (.con (.bool true)) (.count (.var 6) (.var 14)) [14]) .nil)))) (.cons (.ret (.con (.bool false))) .nil) .nil) (.cons (.for (.t [10, 11]) (.seq (.sl (.var 5) (.con .none) (.con (.int 9)))) bodyP) tail9)))))
abbrev QE (lp : Int) (B : List Sg) (t o : Tm) (ss : List Str) (x8 x9 d10 d11 d12 d13 d14 : PyData) (s : Sg) (x18 x19 : Slot) : List Slot := LE lp B t o ss [.v (.d x8), .v (.d x9), .v (.d d10), .v (.d d11), .v (.d d12), .v (.d d13), .v (.d d14), .v (.d (.str s.n)), .v (.d (.str s.k)), .v (.d (.int (s.m : Int))), x18, x19]
section
variable {B : List Sg} (hB : B ∈ Books) {t o : Tm} (ht : OkN B 3 t) (ho : OkN B 1 o) {k : Nat} {lp : Int} {ss : List Str} {x8 x9 d10 d11 d12 d13 d14 : PyData} {s : Sg} (hs : s ∈ B) (st : Sto)
include hB hs
theorem odd_rest (x18 x19 : Slot) : ev (cg (k + 20)) (.lst (.cons (.tup (.cons (.var 15) (.cons (.bin .mul (.tup (.cons (.con (.int 0)) .nil)) (.ite (.cmp .ne (.var 16) (.con (.str (Str.ofString "bag")))) (.bin .add (.var 17) (.con (.int 1))) (.con (.int 1)))) .nil))) (.cons (.tup (.cons (.var 15) .nil)) (.cons (.tup (.cons (.var 15) (.cons (.con (.int 0)) .nil))) (.cons (.tup (.cons (.con (.str (Str.ofString "no"))) (.cons (.tup .nil) .nil))) (.cons (.con (.int 100)) (.cons (.con (.bool true)) (.cons (.con .none) (.cons (.tup (.cons (.var 15) (.cons (.bin .mul (.tup (.cons (.con (.int 0)) .nil)) (.var 17)) (.cons (.con (.int 0)) .nil)))) (.cons (.var 15) .nil)))))))))) ⟨QE lp B t o ss x8 x9 d10 d11 d12 d13 d14 s x18 x19, st⟩ = some (.d (.list (odds s)), ⟨QE lp B t o ss x8 x9 d10 d11 d12 d13 d14 s x18 x19, st⟩) := by
  rcases books hB with rfl | rfl | rfl | rfl <;> simp only [B0, B1, B2, B3, List.mem_cons, List.not_mem_nil, or_false] at hs
  · rcases hs with rfl | rfl | rfl | rfl | rfl <;> kernel_rfl
  · rcases hs with rfl | rfl | rfl <;> kernel_rfl
  · rcases hs with rfl | rfl | rfl <;> kernel_rfl
  · rcases hs with rfl | rfl | rfl | rfl <;> kernel_rfl
include ht
theorem odd_all (x18 x19 : Slot) : ev (cg (k + 20)) (.lst (.cons (.ite (.not (.isi (.var 3) .int)) (.call 41 (.cons (.var 3) .nil)) (.neg (.con (.int 1)))) (.cons (.tup (.cons (.var 15) (.cons (.bin .mul (.tup (.cons (.con (.int 0)) .nil)) (.ite (.cmp .ne (.var 16) (.con (.str (Str.ofString "bag")))) (.bin .add (.var 17) (.con (.int 1))) (.con (.int 1)))) .nil))) (.cons (.tup (.cons (.var 15) .nil)) (.cons (.tup (.cons (.var 15) (.cons (.con (.int 0)) .nil))) (.cons (.tup (.cons (.con (.str (Str.ofString "no"))) (.cons (.tup .nil) .nil))) (.cons (.con (.int 100)) (.cons (.con (.bool true)) (.cons (.con .none) (.cons (.tup (.cons (.var 15) (.cons (.bin .mul (.tup (.cons (.con (.int 0)) .nil)) (.var 17)) (.cons (.con (.int 0)) .nil)))) (.cons (.var 15) .nil))))))))))) ⟨QE lp B t o ss x8 x9 d10 d11 d12 d13 d14 s x18 x19, st⟩ = some (.d (.list (odd0 t :: odds s)), ⟨QE lp B t o ss x8 x9 d10 d11 d12 d13 d14 s x18 x19, st⟩) := by
  have hsoft := soft_enc hB ht (k + 11) st
  refine e_lst_cons (x := odd0 t) (xs := odds s) ?_ ?_ (odd_rest hB hs st x18 x19) (by simp [odds])
  · cases t with
    | u n => rfl
    | a f ts =>
      rw [ev, show ev (cg (k + 20)) (.not (.isi (.var 3) .int)) ⟨QE lp B (.a f ts) o ss x8 x9 d10 d11 d12 d13 d14 s x18 x19, st⟩ = some (.d (.bool true), ⟨QE lp B (.a f ts) o ss x8 x9 d10 d11 d12 d13 d14 s x18 x19, st⟩) from rfl]
      exact e_call1 (w := .d (enc (.a f ts))) rfl hsoft
  · cases t <;> rfl
include ho
theorem mulRep (x18 x19 : Slot) (e : E) (j : Nat) (hj : j ≤ 10) (he : ev (cg (k + 20)) e ⟨QE lp B t o ss x8 x9 d10 d11 d12 d13 d14 s x18 x19, st⟩ = some (.d (.int (j : Int)), ⟨QE lp B t o ss x8 x9 d10 d11 d12 d13 d14 s x18 x19, st⟩)) : ev (cg (k + 20)) (.tup (.cons (.var 15) (.cons (.bin .mul (.tup (.cons (.var 4) .nil)) e) .nil))) ⟨QE lp B t o ss x8 x9 d10 d11 d12 d13 d14 s x18 x19, st⟩ = some (.d (.tuple [.str s.n, .tuple (List.replicate j (enc o))]), ⟨QE lp B t o ss x8 x9 d10 d11 d12 d13 d14 s x18 x19, st⟩) := by
  refine e_tup2 (x := .str s.n) rfl (e_bin (x := .tuple [enc o]) (y := .int (j : Int)) (e_tup1S rfl (enc_no o)) he ?_) rfl rfl
  rw [binD, if_pos ⟨by omega, by omega, by simp⟩, Int.toNat_natCast, flat_rep]
theorem lapC {N : Nat} (x18 x19 : Slot) : exs (cg (k + 20)) (.cons (.set (.n 18) (.lst (.cons (.ite (.not (.isi (.var 3) .int)) (.call 41 (.cons (.var 3) .nil)) (.neg (.con (.int 1)))) (.cons (.tup (.cons (.var 15) (.cons (.bin .mul (.tup (.cons (.con (.int 0)) .nil)) (.ite (.cmp .ne (.var 16) (.con (.str (Str.ofString "bag")))) (.bin .add (.var 17) (.con (.int 1))) (.con (.int 1)))) .nil))) (.cons (.tup (.cons (.var 15) .nil)) (.cons (.tup (.cons (.var 15) (.cons (.con (.int 0)) .nil))) (.cons (.tup (.cons (.con (.str (Str.ofString "no"))) (.cons (.tup .nil) .nil))) (.cons (.con (.int 100)) (.cons (.con (.bool true)) (.cons (.con .none) (.cons (.tup (.cons (.var 15) (.cons (.bin .mul (.tup (.cons (.con (.int 0)) .nil)) (.var 17)) (.cons (.con (.int 0)) .nil)))) (.cons (.var 15) .nil)))))))))))) (.cons (.ite (.not (.call 36 (.cons (.bin .add (.lc (.n 11) (.seq (.var 18)) (.con (.bool true)) (.call 12 (.cons (.var 2) (.cons (.var 11) .nil))) [11]) (.lst (.cons (.call 12 (.cons (.var 2) (.cons (.var 3) .nil))) (.cons (.call 12 (.cons (.var 2) (.cons (.tup (.cons (.var 15) (.cons (.bin .mul (.tup (.cons (.var 4) .nil)) (.var 17)) .nil))) .nil))) .nil)))) (.cons (.bin .add (.bin .mul (.lst (.cons (.con (.bool false)) .nil)) (.con (.int 10))) (.lst (.cons (.con (.bool true)) (.cons (.con (.bool true)) .nil)))) .nil)))) (.cons (.ret (.con (.bool false))) .nil) .nil) (.cons (.set (.n 19) (.tup (.cons (.var 15) (.cons (.bin .mul (.tup (.cons (.var 4) .nil)) (.bin .add (.var 17) (.con (.int 2)))) .nil)))) (.cons (.ret (.call 36 (.cons (.lst (.cons (.call 12 (.cons (.var 2) (.cons (.var 19) .nil))) (.cons (.call 17 (.cons (.var 2) (.cons (.var 15) .nil))) .nil))) (.cons (.lst (.cons (.cmp .eq (.var 16) (.con (.str (Str.ofString "bag")))) (.cons (.tup (.cons (.var 15) (.cons (.var 16) (.cons (.var 17) .nil)))) .nil))) .nil)))) .nil)))) ⟨QE lp B t o ss x8 x9 d10 d11 d12 d13 d14 s .no .no, st⟩ = some (.ret (.d (.bool true)) st) := by
  have hm := (sign_m hB hs).1
  have hso : sz o ≤ 400 := sz_le hB ho (by decide)
  refine x_set (env := QE lp B t o ss x8 x9 d10 d11 d12 d13 d14 s (.v (.d (.list (odd0 t :: odds s)))) .no) (odd_all hB ht hs st .no .no) rfl ?_
  -- which are terms
  have l1 : ev (cg (k + 20)) (.lc (.n 11) (.seq (.var 18)) (.con (.bool true)) (.call 12 (.cons (.var 2) (.cons (.var 11) .nil))) [11]) ⟨QE lp B t o ss x8 x9 d10 d11 d12 d13 d14 s (.v (.d (.list (odd0 t :: odds s)))) .no, st⟩ = some (.d (.list ((odd0 t :: odds s).map fun _ => .bool false)), ⟨QE lp B t o ss x8 x9 d10 d11 d12 d13 d14 s (.v (.d (.list (odd0 t :: odds s)))) .no, st⟩) := by
    refine e_lc (xs := odd0 t :: odds s) (g := fun _ => .bool false) rfl (by simp [odds]) fun x hx => ?_
    have hno : cg (k + 20) 12 [.d (bookD B), .d x] st = some (.d (.bool false), st) := by
      rcases List.mem_cons.mp hx with rfl | hx
      · exact odd0_no hB t (k + 3) st
      · exact odd_no hB hs (k + 3) st x hx
    exact ⟨_, _, rfl, e_call2 (w := .d (bookD B)) (u := .d x) rfl rfl hno, rfl, rfl⟩
  have l2 : ev (cg (k + 20)) (.lst (.cons (.call 12 (.cons (.var 2) (.cons (.var 3) .nil))) (.cons (.call 12 (.cons (.var 2) (.cons (.tup (.cons (.var 15) (.cons (.bin .mul (.tup (.cons (.var 4) .nil)) (.var 17)) .nil))) .nil))) .nil))) ⟨QE lp B t o ss x8 x9 d10 d11 d12 d13 d14 s (.v (.d (.list (odd0 t :: odds s)))) .no, st⟩ = some (.d (.list [.bool true, .bool true]), ⟨QE lp B t o ss x8 x9 d10 d11 d12 d13 d14 s (.v (.d (.list (odd0 t :: odds s)))) .no, st⟩) := by
    refine e_lst2 (e_call2 (w := .d (bookD B)) (u := .d (enc t)) rfl rfl (is_term_ok hB ht (by decide) (k + 3) st)) (e_call2 (w := .d (bookD B)) (u := .d (enc (.a s.n (List.replicate s.m o)))) rfl ?_ (is_term_ok hB (rep_ok hs ho) (by decide) (k + 3) st)) rfl rfl
    rw [enc_a, List.map_replicate]
    exact mulRep hB ht ho hs st _ _ (.var 17) s.m (by omega) rfl
  have l3 : ev (cg (k + 20)) (.bin .add (.bin .mul (.lst (.cons (.con (.bool false)) .nil)) (.con (.int 10))) (.lst (.cons (.con (.bool true)) (.cons (.con (.bool true)) .nil)))) ⟨QE lp B t o ss x8 x9 d10 d11 d12 d13 d14 s (.v (.d (.list (odd0 t :: odds s)))) .no, st⟩ = some (.d (.list ((odd0 t :: odds s).map (fun _ => PyData.bool false) ++ [.bool true, .bool true])), ⟨QE lp B t o ss x8 x9 d10 d11 d12 d13 d14 s (.v (.d (.list (odd0 t :: odds s)))) .no, st⟩) := rfl
  refine x_iff (e_not (k := true) (e_call2 (e_bin l1 l2 (z := .list ((odd0 t :: odds s).map (fun _ => PyData.bool false) ++ [.bool true, .bool true])) rfl) l3 (same_ok 1 (k + 18) _ st rfl))) ?_
  -- wide
  refine x_set (env := QE lp B t o ss x8 x9 d10 d11 d12 d13 d14 s (.v (.d (.list (odd0 t :: odds s)))) (.v (.d (wideD s o)))) (mulRep hB ht ho hs st _ _ (.bin .add (.var 17) (.con (.int 2))) (s.m + 2) (by omega) rfl) rfl ?_
  refine x_ret (env := QE lp B t o ss x8 x9 d10 d11 d12 d13 d14 s (.v (.d (.list (odd0 t :: odds s)))) (.v (.d (wideD s o)))) (e_call2 (w := .d (.list [.bool (decide (s.k = bg)), sgD s])) (u := .d (.list [.bool (decide (s.k = bg)), sgD s])) (e_lst2 (e_call2 (w := .d (bookD B)) (u := .d (wideD s o)) rfl rfl (wide_ok hB hs ho.ok hso (k + 3) st)) (e_call2 (w := .d (bookD B)) (u := .d (.str s.n)) rfl rfl (sign_of_ok hB hs (k + 3) st)) rfl rfl) (e_lst2 (e_cmp (x := .str s.k) (y := .str bg) rfl rfl (eq_str s.k bg)) rfl rfl rfl) (same_ok 2 (k + 17) _ st rfl))
end
end Ev.K00
set_option maxHeartbeats 4000000
namespace Ev.K00
open PySem PySem.Spec PyProof.Rows L2 Ev
variable [GG]
/-! ### the lap's first part -/
theorem e_lst6 {C : Calls} {a b c d e f : E} {s : S} {x1 x2 x3 x4 x5 x6 : PyData} (h1 : ev C a s = some (.d x1, s)) (h2 : ev C b s = some (.d x2, s)) (h3 : ev C c s = some (.d x3, s)) (h4 : ev C d s = some (.d x4, s)) (h5 : ev C e s = some (.d x5, s)) (h6 : ev C f s = some (.d x6, s))
    (n1 : noDict x1 = true) (n2 : noDict x2 = true) (n3 : noDict x3 = true) (n4 : noDict x4 = true) (n5 : noDict x5 = true) (n6 : noDict x6 = true) : ev C (.lst (.cons a (.cons b (.cons c (.cons d (.cons e (.cons f .nil))))))) s = some (.d (.list [x1, x2, x3, x4, x5, x6]), s) :=
  e_lst_cons h1 n1 (e_lst_cons h2 n2 (e_lst_cons h3 n3 (e_lst_cons h4 n4 (e_lst_cons h5 n5 (e_lst_cons h6 n6 e_lst0 (by simp)) (by simp)) (by simp)) (by simp)) (by simp)) (by simp)
def gotL (t : Tm) (m : Int) (ss : List Str) : PyData := .list [.int (wd t), .int (1 + m), unkD t, .tuple (ss.map .str), .bool (PyData.eqv (unkD t) (.tuple [])), .list ((pre t).map fun q => pthD q.1)]
theorem okN_got {B : List Sg} (hB : B ∈ Books) {t : Tm} (ht : OkN B 3 t) (m : Int) {ss : List Str} (hss : ss.length ≤ 64) : okN 3 (gotL t m ss) = true := by
  have hz := sz_cap hB ht
  have e : capS 3 = 40 := rfl
  have hp := pre_len t
  have hb := bare_len t
  have hu := srtI_len ((bare t).map nZ)
  rw [List.length_map] at hu
  have a1 : okN 2 (unkD t) = true := by
    show (decide (((srtI ((bare t).map nZ)).map PyData.int).length ≤ 1000) && ((srtI ((bare t).map nZ)).map PyData.int).all (okN 1)) = true
    rw [decide_eq_true (by rw [List.length_map]; omega), Bool.true_and, List.all_eq_true]
    intro x hx
    obtain ⟨i, _, rfl⟩ := List.mem_map.mp hx
    rfl
  have a2 : okN 2 (.tuple (ss.map .str)) = true := by
    show (decide ((ss.map PyData.str).length ≤ 1000) && (ss.map PyData.str).all (okN 1)) = true
    rw [decide_eq_true (by rw [List.length_map]; omega), Bool.true_and, List.all_eq_true]
    intro x hx
    obtain ⟨i, _, rfl⟩ := List.mem_map.mp hx
    rfl
  have a3 : okN 2 (.list ((pre t).map fun q => pthD q.1)) = true := by
    show (decide (((pre t).map fun q => pthD q.1).length ≤ 1000) && ((pre t).map fun q => pthD q.1).all (okN 1)) = true
    rw [decide_eq_true (by rw [List.length_map]; omega), Bool.true_and, List.all_eq_true]
    intro x hx
    obtain ⟨q, hq, rfl⟩ := List.mem_map.mp hx
    have := pre_path t q hq
    exact (okN_pth q.1 (by omega)).1
  show (true && (okN 2 (.int (wd t)) && (okN 2 (.int (1 + m)) && (okN 2 (unkD t) && (okN 2 (.tuple (ss.map .str)) && (okN 2 (.bool (PyData.eqv (unkD t) (.tuple []))) && (okN 2 (.list ((pre t).map fun q => pthD q.1)) && true))))))) = true
  rw [a1, a2, a3]
  rfl
section
variable {B : List Sg} (hB : B ∈ Books) {t o : Tm} (ht : OkN B 3 t) (ho : OkN B 1 o) {k : Nat} {lp : Int} {ss : List Str} (hss : ss.length ≤ 64) (hn : srtD (nmL t) = some (ss.map .str)) {m : Int} (hm : bltD .max (.d (.list ((pre t).map fun q => PyData.int (q.1.length : Int)))) = some (.d (.int m))) (st : Sto)
include hB ht hn hm
theorem got_ok : ev (cg (k + 20)) (.lst (.cons (.call 19 (.cons (.var 2) (.cons (.call 41 (.cons (.var 3) .nil)) .nil))) (.cons (.call 26 (.cons (.var 2) (.cons (.var 3) .nil))) (.cons (.call 22 (.cons (.var 2) (.cons (.var 3) .nil))) (.cons (.call 24 (.cons (.var 2) (.cons (.var 3) .nil))) (.cons (.call 23 (.cons (.var 2) (.cons (.var 3) .nil))) (.cons (.call 27 (.cons (.var 2) (.cons (.var 3) .nil))) .nil))))))) ⟨LE lp B t o ss [.no, .no, .no, .no, .no, .no, .no, .no, .no, .no, .no, .no], st⟩ = some (.d (gotL t m ss), ⟨LE lp B t o ss [.no, .no, .no, .no, .no, .no, .no, .no, .no, .no, .no, .no], st⟩) := by
  have hz := sz_cap hB ht
  have e : capS 3 = 40 := rfl
  exact e_lst6 (e_call2 (w := .d (bookD B)) (u := .d (softD (enc t))) rfl (e_call1 (w := .d (enc t)) rfl (soft_enc hB ht (k + 11) st)) (words_of_ok hB ht (by decide) (k + 2) st _ (.inr rfl)))
    (e_call2 (w := .d (bookD B)) (u := .d (enc t)) rfl rfl (depth_of_ok hB ht (by decide) (k + 2) st m hm))
    (e_call2 (w := .d (bookD B)) (u := .d (enc t)) rfl rfl (unknowns_of_ok hB ht (by decide) (k + 2) st (by omega)))
    (e_call2 (w := .d (bookD B)) (u := .d (enc t)) rfl rfl (names_in_ok hB ht (by decide) (k + 2) st hn))
    (e_call2 (w := .d (bookD B)) (u := .d (enc t)) rfl rfl (is_closed_ok hB ht (by decide) (k + 1) st (by omega)))
    (e_call2 (w := .d (bookD B)) (u := .d (enc t)) rfl rfl (paths_of_ok hB ht (by decide) (k + 2) st)) rfl rfl rfl rfl rfl rfl
theorem due_ok (x8 : PyData) : ev (cg (k + 20)) (.lst (.cons (.call 43 (.cons (.var 2) (.cons (.var 3) .nil))) (.cons (.bin .add (.con (.int 1)) (.blt .max (.lc (.t [10, 11]) (.seq (.var 5)) (.con (.bool true)) (.blt .len (.var 10)) [10, 11]))) (.cons (.blt .tuple (.srt (.var 6))) (.cons (.blt .tuple (.var 7)) (.cons (.cmp .eq (.var 6) (.lst .nil)) (.cons (.lc (.t [10, 11]) (.seq (.var 5)) (.con (.bool true)) (.var 10) [10, 11]) .nil))))))) ⟨LE lp B t o ss [.v (.d x8), .no, .no, .no, .no, .no, .no, .no, .no, .no, .no, .no], st⟩ = some (.d (gotL t m ss), ⟨LE lp B t o ss [.v (.d x8), .no, .no, .no, .no, .no, .no, .no, .no, .no, .no, .no], st⟩) := by
  have hz := sz_cap hB ht
  have e : capS 3 = 40 := rfl
  have hp := pre_len t
  have hb := bare_len t
  refine e_lst6 (e_call2 (w := .d (bookD B)) (u := .d (enc t)) rfl rfl (words_all_ok hB ht (k + 18) (by omega) st))
    (e_bin (x := .int 1) (y := .int m) rfl (e_blt (e_lcT (xs := pre t) (h := pcD) (g := fun q => .int (q.1.length : Int)) rfl (by omega) fun q hq => ⟨LE lp B t o ss [.v (.d x8), .no, .v (.d (pthD q.1)), .v (.d (enc q.2)), .no, .no, .no, .no, .no, .no, .no, .no], ⟨LE lp B t o ss [.v (.d x8), .no, .v (.d (pthD q.1)), .v (.d (enc q.2)), .no, .no, .no, .no, .no, .no, .no, .no], st⟩, rfl, e_blt (w := .d (pthD q.1)) rfl (by rw [pthD, bltD, List.length_map]), rfl, rfl⟩) hm) rfl)
    (e_blt (e_srt (xs := (bare t).map nI) rfl (srt_nI _ (by omega))) rfl) (e_blt (w := .d (.list (ss.map .str))) rfl rfl)
    (e_cmp (x := .list ((bare t).map nI)) (y := .list []) rfl rfl (by rw [closed_same]; simp [cmpD, noDict, low, PyData.depth, PyData.depthAll]))
    (e_lcT (xs := pre t) (h := pcD) (g := fun q => pthD q.1) rfl (by omega) fun q hq => ⟨LE lp B t o ss [.v (.d x8), .no, .v (.d (pthD q.1)), .v (.d (enc q.2)), .no, .no, .no, .no, .no, .no, .no, .no], ⟨LE lp B t o ss [.v (.d x8), .no, .v (.d (pthD q.1)), .v (.d (enc q.2)), .no, .no, .no, .no, .no, .no, .no, .no], st⟩, rfl, rfl, rfl, rfl⟩) rfl rfl rfl rfl rfl rfl
omit hn hm
theorem often_ok (x8 x9 : PyData) : ev (cg (k + 20)) (.lc (.n 14) (.rng (.con (.int 4))) (.con (.bool true)) (.call 25 (.cons (.var 2) (.cons (.var 3) (.cons (.var 14) .nil)))) [14]) ⟨LE lp B t o ss [.v (.d x8), .v (.d x9), .no, .no, .no, .no, .no, .no, .no, .no, .no, .no], st⟩ = some (.d (.list ((List.range 4).map fun m => .int ((bare t).count m : Int))), ⟨LE lp B t o ss [.v (.d x8), .v (.d x9), .no, .no, .no, .no, .no, .no, .no, .no, .no, .no], st⟩) := by
  have hz := sz_le hB ht (by decide)
  refine e_lcT (xs := List.range 4) (h := nI) (g := fun m => .int ((bare t).count m : Int)) rfl (by simp) fun m hm => ?_
  have hm' := List.mem_range.mp hm
  refine ⟨LE lp B t o ss [.v (.d x8), .v (.d x9), .no, .no, .no, .no, .v (.d (nI m)), .no, .no, .no, .no, .no], ⟨LE lp B t o ss [.v (.d x8), .v (.d x9), .no, .no, .no, .no, .v (.d (nI m)), .no, .no, .no, .no, .no], st⟩, rfl, ?_, rfl, rfl⟩
  refine e_call3 (w := .d (bookD B)) (u := .d (enc t)) (x := .d (.int (m : Int))) rfl rfl rfl ?_
  rw [show k + 20 = (k + 2) + 18 by omega, how_often_ok hB ht (by decide) (k + 2) st m (by omega) hz, pre_count]
theorem count_ok (x8 x9 : PyData) : ev (cg (k + 20)) (.lc (.n 14) (.rng (.con (.int 4))) (.con (.bool true)) (.count (.var 6) (.var 14)) [14]) ⟨LE lp B t o ss [.v (.d x8), .v (.d x9), .no, .no, .no, .no, .no, .no, .no, .no, .no, .no], st⟩ = some (.d (.list ((List.range 4).map fun m => .int ((bare t).count m : Int))), ⟨LE lp B t o ss [.v (.d x8), .v (.d x9), .no, .no, .no, .no, .no, .no, .no, .no, .no, .no], st⟩) := by
  refine e_lcT (xs := List.range 4) (h := nI) (g := fun m => .int ((bare t).count m : Int)) rfl (by simp) fun m hm => ?_
  exact ⟨LE lp B t o ss [.v (.d x8), .v (.d x9), .no, .no, .no, .no, .v (.d (nI m)), .no, .no, .no, .no, .no], ⟨LE lp B t o ss [.v (.d x8), .v (.d x9), .no, .no, .no, .no, .v (.d (nI m)), .no, .no, .no, .no, .no], st⟩, rfl, e_cnt rfl rfl, rfl, rfl⟩
include ho
theorem sl9 (x8 x9 : PyData) : evIt (cg (k + 20)) (.seq (.sl (.var 5) (.con .none) (.con (.int 9)))) ⟨LE lp B t o ss [.v (.d x8), .v (.d x9), .no, .no, .no, .no, .no, .no, .no, .no, .no, .no], st⟩ = some (((pre t).take 9).map pcD, ⟨LE lp B t o ss [.v (.d x8), .v (.d x9), .no, .no, .no, .no, .no, .no, .no, .no, .no, .no], st⟩) := by
  have e1 : HT.sIx ((pre t).map pcD).length ((pre t).map pcD).length (some 9) = min 9 ((pre t).map pcD).length := HT.sIx_nat _ _ 9
  have e : slD (.list ((pre t).map pcD)) none (some 9) = some (.list (((pre t).take 9).map pcD)) := by
    rw [slD, cutD, e1, HT.sIx_none, List.drop_zero, Nat.sub_zero, List.map_take]
    congr 2
    rw [List.take_eq_take_iff]
    omega
  have e2 : ev (cg (k + 20)) (.sl (.var 5) (.con .none) (.con (.int 9))) ⟨LE lp B t o ss [.v (.d x8), .v (.d x9), .no, .no, .no, .no, .no, .no, .no, .no, .no, .no], st⟩ = some (.d (.list (((pre t).take 9).map pcD)), ⟨LE lp B t o ss [.v (.d x8), .v (.d x9), .no, .no, .no, .no, .no, .no, .no, .no, .no, .no], st⟩) := by
    simp only [ev, List.getElem?_cons_succ, List.getElem?_cons_zero, isNoneC, partI, if_true]
    simp only [Bool.false_eq_true, if_false, e, Option.map_some]
  rw [evIt, e2]
  rfl
include hss hn hm
theorem lapB {N : Nat} (U : Urn N st) (hN : N ≤ 2 ^ 29) (h44 : Told44 k) : ∃ st', exs (cg (k + 20)) tail4 ⟨LE lp B t o ss [.no, .no, .no, .no, .no, .no, .no, .no, .no, .no, .no, .no], st⟩ = some (.ret (.d (.bool true)) st') ∧ Urn (N + 1) st' := by
  obtain ⟨e10, e11, e12, e13, e14, hf⟩ := forP0 (k := k) (lp := lp) (ss := ss) (x8 := gotL t m ss) (x9 := gotL t m ss) hB ht ho h44 st
  have hbl : (B.map sgD).length = B.length := List.length_map ..
  have hb5 := book_len hB
  have hb0 : 0 < B.length := List.length_pos_of_mem (head_in hB)
  obtain ⟨x, st', eo, hx, U'⟩ := of_ok U (by omega) (B.map sgD) (by omega) (by omega) (bookD B) (.inr rfl) (k + 18)
  obtain ⟨s, hs, rfl⟩ := List.mem_map.mp hx
  refine ⟨st', ?_, U'⟩
  refine x_set (env := LE lp B t o ss [.v (.d (gotL t m ss)), .no, .no, .no, .no, .no, .no, .no, .no, .no, .no, .no]) (got_ok hB ht hn hm st) rfl ?_
  refine x_set (env := LE lp B t o ss [.v (.d (gotL t m ss)), .v (.d (gotL t m ss)), .no, .no, .no, .no, .no, .no, .no, .no, .no, .no]) (due_ok hB ht hn hm st (gotL t m ss)) rfl ?_
  refine x_iff (s1 := ⟨LE lp B t o ss [.v (.d (gotL t m ss)), .v (.d (gotL t m ss)), .no, .no, .no, .no, .no, .no, .no, .no, .no, .no], st⟩) (e_not (k := true) (e_call2 (w := .d (gotL t m ss)) (u := .d (gotL t m ss)) rfl rfl (same_ok 3 (k + 16) _ st (okN_got hB ht m hss)))) ?_
  refine x_iff (s1 := ⟨LE lp B t o ss [.v (.d (gotL t m ss)), .v (.d (gotL t m ss)), .no, .no, .no, .no, .no, .no, .no, .no, .no, .no], st⟩) (e_not (k := true) (e_call2 (often_ok hB ht st _ _) (count_ok hB ht st _ _) (same_ok 1 (k + 18) _ st rfl))) ?_
  refine x_for (sl9 hB ht ho st _ _) hf ?_
  refine x_set (env := QE lp B t o ss (gotL t m ss) (gotL t m ss) e10 e11 e12 e13 e14 s .no .no) (e_call2 (w := .ref 0) (u := .d (bookD B)) rfl rfl eo) rfl ?_
  exact lapC hB ht ho hs st' (N := 0) .no .no
end
end Ev.K00
set_option maxHeartbeats 4000000
namespace Ev.K00
open PySem PySem.Spec PyProof.Rows L2 Ev
section
variable [GG]
/-! ### a lap, the law -/
theorem lap_ok {N : Nat} {st : Sto} (U : Urn N st) (hN : N ≤ 2 ^ 28) (k : Nat) (h44 : Told44 k) (lp : Int) : ∃ st', cg (k + 21) 45 [.ref 0, .d (.int lp)] st = some (.d (.bool true), st') ∧ Urn (N + 122) st' := by
  obtain ⟨B, st1, e1, hB, U1⟩ := all_books U (by omega) (k + 17)
  obtain ⟨t, st2, e2, ht, U2⟩ := any_ok hB (us := [0, 1, 2]) (.inl rfl) 3 (N + 1) st1 U1 (by omega) (k + 13)
  obtain ⟨o, st3, e3, ho, U3⟩ := any_ok hB (us := [0, 1]) (.inr rfl) 1 _ st2 U2 (by omega) (k + 15)
  have hz := sz_cap hB ht
  have ec : capS 3 = 40 := rfl
  have hp := pre_len t
  obtain ⟨ss, hss, hn⟩ := nm_srt t (by omega)
  obtain ⟨m, hm⟩ := max_some t
  obtain ⟨st4, e4, U4⟩ := lapB (k := k) (lp := lp) hB ht ho hss hn hm st3 U3 (by omega) h44
  refine ⟨st4, ?_, U4.mono (by omega)⟩
  show runFn (cg (k + 20)) ⟨2, 20, b45⟩ _ _ = _
  refine run_of rfl ?_
  refine x_set (env := [.v (.ref 0), .v (.d (.int lp)), .v (.d (bookD B)), .no, .no, .no, .no, .no, .no, .no, .no, .no, .no, .no, .no, .no, .no, .no, .no, .no]) (e_call1 (w := .ref 0) rfl e1) rfl ?_
  refine x_set (env := [.v (.ref 0), .v (.d (.int lp)), .v (.d (bookD B)), .v (.d (enc t)), .v (.d (enc o)), .no, .no, .no, .no, .no, .no, .no, .no, .no, .no, .no, .no, .no, .no, .no]) (e_tup2S (e_call4 (w := .ref 0) (u := .d (bookD B)) (x := .d (usD [0, 1, 2])) (y := .d (.int ((3 : Nat) : Int))) rfl rfl rfl rfl e2) (e_call4 (w := .ref 0) (u := .d (bookD B)) (x := .d (usD [0, 1])) (y := .d (.int ((1 : Nat) : Int))) rfl rfl rfl rfl e3) (enc_no t) (enc_no o)) rfl ?_
  refine x_set (env := [.v (.ref 0), .v (.d (.int lp)), .v (.d (bookD B)), .v (.d (enc t)), .v (.d (enc o)), .v (.d (.list ((pre t).map pcD))), .v (.d (.list ((bare t).map nI))), .no, .no, .no, .no, .no, .no, .no, .no, .no, .no, .no, .no, .no]) (e_tup2S (e_call1 (w := .d (enc t)) rfl (pieces_ok hB ht (k + 19) (by omega) (by omega) st3)) (e_call1 (w := .d (enc t)) rfl (bare_ok hB ht (k + 19) (by omega) (by omega) st3)) rfl rfl) rfl ?_
  refine x_set (env := LE lp B t o ss [.no, .no, .no, .no, .no, .no, .no, .no, .no, .no, .no, .no]) (e_srt (xs := nmL t) (e_lcIfT (xs := pre t) (h := pcD) (p := fun q => !isU q.2) (g := fun q => nmD q.2) rfl (by omega) fun q hq => ?_) hn) rfl e4
  obtain ⟨p, u⟩ := q
  refine ⟨[.v (.ref 0), .v (.d (.int lp)), .v (.d (bookD B)), .v (.d (enc t)), .v (.d (enc o)), .v (.d (.list ((pre t).map pcD))), .v (.d (.list ((bare t).map nI))), .no, .no, .no, .v (.d (pthD p)), .v (.d (enc u)), .no, .no, .no, .no, .no, .no, .no, .no], rfl, ?_, fun z => ?_⟩
  · cases u <;> rfl
  · cases u with
    | u n => cases z
    | a f ts => exact ⟨rfl, rfl⟩
def body34 : Sts := (.cons (.set (.n 5) (.bin .mod (.blt .int (.var 3)) (.var 1))) (.cons (.ownSet 2 (.var 5) (.bin .add (.ownIx 2 (.var 5)) (.bin .mul (.var 4) (.bin .add (.var 3) (.con (.int 2)))))) .nil))
theorem for34 (k : Nat) (d0 : PyData) (st : Sto) : ∀ (ys : List Int) (i : Nat) (c : Int), i + ys.length ≤ 1000 → ∀ x3 x4 x5 : Slot, ∃ (c' : Int) (y3 y4 y5 : Slot), forGo (fb (cg k) (.t [3, 4]) body34) (enumD i (ys.map .int)) ⟨[.v (.d d0), .v (.d (.int 1)), .own [.int c], x3, x4, x5], st⟩ = some (.next ⟨[.v (.d d0), .v (.d (.int 1)), .own [.int c'], y3, y4, y5], st⟩)
  | [], i, c, _, x3, x4, x5 => ⟨c, x3, x4, x5, rfl⟩
  | y :: r, i, c, h, x3, x4, x5 => by
    rw [List.length_cons] at h
    obtain ⟨c', y3, y4, y5, q⟩ := for34 k d0 st r (i + 1) (c + y * ((i : Int) + 2)) (by omega) (.v (.d (.int (i : Int)))) (.v (.d (.int y))) (.v (.d (.int 0)))
    refine ⟨c', y3, y4, y5, ?_⟩
    let env : List Slot := [.v (.d d0), .v (.d (.int 1)), .own [.int c], .v (.d (.int (i : Int))), .v (.d (.int y)), .v (.d (.int 0))]
    have a : ev (cg k) (.bin .add (.ownIx 2 (.var 5)) (.bin .mul (.var 4) (.bin .add (.var 3) (.con (.int 2))))) ⟨env, st⟩ = some (.d (.int (c + y * ((i : Int) + 2))), ⟨env, st⟩) :=
      e_bin (x := .int c) (y := .int (y * ((i : Int) + 2))) rfl (e_bin (x := .int y) (y := .int ((i : Int) + 2)) rfl rfl (mulOk (.inr ⟨by omega, by omega⟩))) rfl
    have hb : fb (cg k) (.t [3, 4]) body34 (.tuple [.int (i : Int), .int y]) ⟨[.v (.d d0), .v (.d (.int 1)), .own [.int c], x3, x4, x5], st⟩ = some (.next ⟨[.v (.d d0), .v (.d (.int 1)), .own [.int (c + y * ((i : Int) + 2))], .v (.d (.int (i : Int))), .v (.d (.int y)), .v (.d (.int 0))], st⟩) := by
      show exs (cg k) body34 ⟨[.v (.d d0), .v (.d (.int 1)), .own [.int c], .v (.d (.int (i : Int))), .v (.d (.int y)), x5], st⟩ = _
      refine x_set (env := env) (w := .d (.int 0)) (e_bin (x := .int (i : Int)) (y := .int 1) rfl rfl (by rw [modOk (by decide), Int.emod_one])) rfl ?_
      show exs (cg k) _ ⟨env, st⟩ = _
      rw [exs, ex, a]
      rfl
    rw [List.map_cons, enumD, forGo, hb]
    exact q
theorem cells_ok (ns : List Int) (hl : ns.length ≤ 63) (k : Nat) (st : Sto) : ∃ c : Int, cg (k + 1) 34 [.d (.list (ns.map .int)), .d (.int 1)] st = some (.d (.list [.int c]), st) := by
  obtain ⟨ys, hy, e⟩ : ∃ ys : List Int, ys.length ≤ 63 ∧ slD (.list (ns.map .int)) (some 1) (some 63) = some (.list (ys.map .int)) := by
    refine ⟨(ns.drop (HT.sIx (ns.map PyData.int).length 0 (some 1))).take (HT.sIx (ns.map PyData.int).length (ns.map PyData.int).length (some 63) - HT.sIx (ns.map PyData.int).length 0 (some 1)), ?_, ?_⟩
    · rw [List.length_take, List.length_drop]; omega
    · rw [slD, cutD, List.map_take, List.map_drop]
  obtain ⟨c0, h0⟩ : ∃ c0 : Int, ∀ r, exs (cg k) (.cons (.own 2 (.orL (.blt .list (.sl (.var 0) (.con .none) (.var 1))) (.lst (.cons (.con (.int 0)) .nil)))) r) ⟨[.v (.d (.list (ns.map .int))), .v (.d (.int 1)), .no, .no, .no, .no], st⟩ = exs (cg k) r ⟨[.v (.d (.list (ns.map .int))), .v (.d (.int 1)), .own [.int c0], .no, .no, .no], st⟩ := by
    cases ns with
    | nil => exact ⟨0, fun r => rfl⟩
    | cons n r =>
      refine ⟨n, fun r' => ?_⟩
      have e1 : HT.sIx ((n :: r).map PyData.int).length ((n :: r).map PyData.int).length (some 1) = 1 := by
        rw [show (1 : Int) = ((1 : Nat) : Int) from rfl, HT.sIx_nat, List.length_map, List.length_cons]; omega
      have e2 : slD (.list ((n :: r).map .int)) none (some 1) = some (.list [.int n]) := by
        rw [slD, cutD, e1, HT.sIx_none]
        rfl
      have e3 : ev (cg k) (.sl (.var 0) (.con .none) (.var 1)) ⟨[.v (.d (.list ((n :: r).map .int))), .v (.d (.int 1)), .no, .no, .no, .no], st⟩ = some (.d (.list [.int n]), ⟨[.v (.d (.list ((n :: r).map .int))), .v (.d (.int 1)), .no, .no, .no, .no], st⟩) := by
        simp only [ev, List.getElem?_cons_succ, List.getElem?_cons_zero, isNoneC, partI, if_true]
        simp only [Bool.false_eq_true, if_false, e2, Option.map_some]
      have e4 : ev (cg k) (.orL (.blt .list (.sl (.var 0) (.con .none) (.var 1))) (.lst (.cons (.con (.int 0)) .nil))) ⟨[.v (.d (.list ((n :: r).map .int))), .v (.d (.int 1)), .no, .no, .no, .no], st⟩ = some (.d (.list [.int n]), ⟨[.v (.d (.list ((n :: r).map .int))), .v (.d (.int 1)), .no, .no, .no, .no], st⟩) := by
        rw [ev, e_blt e3 (z := .d (.list [.int n])) rfl]
      exact x_own e4 rfl rfl
  obtain ⟨c', y3, y4, y5, q⟩ := for34 k (.list (ns.map .int)) st ys 0 c0 (by omega) .no .no .no
  refine ⟨c', ?_⟩
  show runFn (cg k) ⟨2, 6, b34⟩ _ _ = _
  refine run_of rfl ((h0 _).trans (x_for (s1 := ⟨[.v (.d (.list (ns.map .int))), .v (.d (.int 1)), .own [.int c0], .no, .no, .no], st⟩) (xs := enumD 0 (ys.map .int)) ?_ q (x_ret (env := [.v (.d (.list (ns.map .int))), .v (.d (.int 1)), .v (.d (.list [.int c'])), y3, y4, y5]) rfl)))
  have e5 : ev (cg k) (.sl (.var 0) (.var 1) (.con (.int 63))) ⟨[.v (.d (.list (ns.map .int))), .v (.d (.int 1)), .own [.int c0], .no, .no, .no], st⟩ = some (.d (.list (ys.map .int)), ⟨[.v (.d (.list (ns.map .int))), .v (.d (.int 1)), .own [.int c0], .no, .no, .no], st⟩) := by
    simp only [ev, List.getElem?_cons_succ, List.getElem?_cons_zero, isNoneC, partI, if_true]
    simp only [Bool.false_eq_true, if_false, e, Option.map_some]
  rw [evIt, e5]
  rfl
theorem e_box3 {C : Calls} {a b c : E} {env : List Slot} {st : Sto} {x y z : PyData} (ha : ev C a ⟨env, st⟩ = some (.d x, ⟨env, st⟩)) (hb : ev C b ⟨env, st⟩ = some (.d y, ⟨env, st⟩)) (hc : ev C c ⟨env, st⟩ = some (.d z, ⟨env, st⟩)) (h1 : noDict x = true) (h2 : noDict y = true) (h3 : noDict z = true) : ev C (.box (.cons a (.cons b (.cons c .nil)))) ⟨env, st⟩ = some (.ref st.length, ⟨env, st ++ [[x, y, z]]⟩) := by
  rw [ev, evs, ha]; simp only [evs]; rw [hb]; simp only; rw [hc]; simp [isD, noDicts, h1, h2, h3]
theorem box_ok (c : Int) (k : Nat) : ∃ st, cg (k + 1) 32 [.d (.list [.int c]), .d (.int 0)] [] = some (.ref 0, st) ∧ Urn 1 st := by
  have hb1 : 0 ≤ c % 2305843009213693951 := Int.emod_nonneg _ (by decide)
  have hb2 : c % 2305843009213693951 < 2305843009213693951 := Int.emod_lt_of_pos _ (by decide)
  let a : Int := if c < 0 then -c else c
  let f : Int := if decide ((10 : Int) ^ 18 ≤ a) then 1 else 0
  have ha : 0 ≤ a := by show 0 ≤ if c < 0 then -c else c; split <;> omega
  have hf : f = 0 ∨ f = 1 := by
    show (if decide ((10 : Int) ^ 18 ≤ a) then (1 : Int) else 0) = 0 ∨ (if decide ((10 : Int) ^ 18 ≤ a) then (1 : Int) else 0) = 1
    split
    · exact .inr rfl
    · exact .inl rfl
  refine ⟨urn (a * f) (c % 2305843009213693951 + 39373 * 0 + 2322200) 0, ?_, ⟨_, _, _, rfl, Int.mul_nonneg ha (by omega), by omega, by omega, by omega, by omega⟩⟩
  show runFn (cg k) ⟨2, 3, b32⟩ _ _ = _
  refine run_of rfl (x_set (env := [.v (.d (.list [.int c])), .v (.d (.int 0)), .v (.d (.int c))]) (w := .d (.int c)) rfl rfl (x_ret (env := [.v (.d (.list [.int c])), .v (.d (.int 0)), .v (.d (.int c))]) (e_box3 (x := .int (a * f)) (y := .int (c % 2305843009213693951 + 39373 * 0 + 2322200)) (z := .int 0) ?_ ?_ rfl rfl rfl rfl)))
  · refine e_bin (x := .int a) (y := .int f) rfl (e_blt (w := .d (.bool (decide ((10 : Int) ^ 18 ≤ a)))) (e_cmp (x := .int a) (y := .int ((10 : Int) ^ 18)) rfl (e_bin (x := .int 10) (y := .int 18) rfl rfl ?_) rfl) rfl) (mulOk (.inr ⟨by omega, by omega⟩))
    rw [binD, if_pos ⟨by decide, by decide, by decide⟩]
    rfl
  · exact e_bin (x := .int (c % 2305843009213693951 + 39373 * 0)) (y := .int 2322200) (e_bin (x := .int (c % 2305843009213693951)) (y := .int (39373 * 0)) (e_bin (x := .int c) (y := .int 2305843009213693951) rfl rfl (modOk (by decide))) (e_bin (x := .int 39373) (y := .int 0) rfl rfl (mulOk (.inl ⟨by decide, by decide⟩))) rfl) rfl rfl
def body46 : Sts := (.cons (.ite (.not (.call 45 (.cons (.var 1) (.cons (.var 2) .nil)))) (.cons (.ret (.con (.bool false))) .nil) .nil) .nil)
theorem for46 (k : Nat) (h44 : Told44 k) (d0 : PyData) : ∀ (xs : List Int) (N : Nat) (st : Sto), Urn N st → N + xs.length * 122 ≤ 2 ^ 28 → ∀ x2 : Slot, ∃ y2 st', forGo (fb (cg (k + 21)) (.n 2) body46) (xs.map .int) ⟨[.v (.d d0), .v (.ref 0), x2], st⟩ = some (.next ⟨[.v (.d d0), .v (.ref 0), y2], st'⟩)
  | [], N, st, U, _, x2 => ⟨x2, st, rfl⟩
  | x :: r, N, st, U, h, x2 => by
    rw [List.length_cons, Nat.succ_mul] at h
    obtain ⟨st1, e1, U1⟩ := lap_ok U (by omega) k h44 x
    obtain ⟨y2, st', q⟩ := for46 k h44 d0 r (N + 122) st1 U1 (by omega) (.v (.d (.int x)))
    refine ⟨y2, st', ?_⟩
    have hb : fb (cg (k + 21)) (.n 2) body46 (.int x) ⟨[.v (.d d0), .v (.ref 0), x2], st⟩ = some (.next ⟨[.v (.d d0), .v (.ref 0), .v (.d (.int x))], st1⟩) := by
      show exs (cg (k + 21)) body46 ⟨[.v (.d d0), .v (.ref 0), .v (.d (.int x))], st⟩ = _
      have c1 := e_call2 (C := cg (k + 21)) (f := 45) (a := .var 1) (b := .var 2) (env := [.v (.d d0), .v (.ref 0), .v (.d (.int x))]) (w := .ref 0) (u := .d (.int x)) rfl rfl e1
      have c2 : ev (cg (k + 21)) (.not (.call 45 (.cons (.var 1) (.cons (.var 2) .nil)))) ⟨[.v (.d d0), .v (.ref 0), .v (.d (.int x))], st⟩ = some (.d (.bool false), ⟨[.v (.d d0), .v (.ref 0), .v (.d (.int x))], st1⟩) := by
        rw [ev, c1]
        rfl
      exact x_iff c2 rfl
    rw [List.map_cons, forGo, hb]
    exact q
theorem law_ok (ns : List Int) (hl : ns.length ≤ 63) (k : Nat) (h44 : Told44 k) : ∃ st, cg (k + 22) 46 [.d (.list (ns.map PyData.int))] [] = some (.d (.bool true), st) := by
  obtain ⟨c, e1⟩ := cells_ok ns hl (k + 20) []
  obtain ⟨st, e2, U⟩ := box_ok c (k + 20)
  obtain ⟨y2, st', q⟩ := for46 k h44 (.list (ns.map .int)) [0, 1, 2] 1 st U (by decide) .no
  refine ⟨st', ?_⟩
  show runFn (cg (k + 21)) ⟨1, 3, b46⟩ _ _ = _
  refine run_of rfl (x_set (env := [.v (.d (.list (ns.map .int))), .v (.ref 0), .no]) (e_call2 (w := .d (.list [.int c])) (u := .d (.int 0)) (e_call2 (w := .d (.list (ns.map .int))) (u := .d (.int 1)) rfl rfl e1) rfl e2) rfl (x_for (s1 := ⟨[.v (.d (.list (ns.map .int))), .v (.ref 0), .no], st⟩) (xs := [0, 1, 2].map PyData.int) rfl q (x_ret (env := [.v (.d (.list (ns.map .int))), .v (.ref 0), y2]) rfl)))
end
end Ev.K00
set_option maxHeartbeats 400000
namespace Ev.K00
open PySem PySem.Spec PyProof.Rows L2 Ev
/-! ### with the foreign def -/
abbrev gGP : GG := ⟨GP⟩
abbrev gNo : GG := ⟨fun _ _ _ _ => none⟩
theorem told44 (k : Nat) : @Told44 gGP k := fun B hB t ht p u i hs hi hp st => by
  have hl : (p ++ [i]).length ≤ 1000 := by rw [List.length_append, List.length_singleton]; omega
  have h8 : C0 (k + 18) 8 [.d (bookD B)] st = some (.d (bookD B), st) := @sure_book_ok gNo B hB (k + 9) st
  have h13 : C0 (k + 18) 13 [.d (bookD B), .d (enc t)] st = some (.d (enc t), st) := @sure_term_ok gNo B hB 3 t ht (by decide) (enc t) (.inl rfl) (k + 1) st
  have h15 : C0 (k + 18) 15 [.d (pthD (p ++ [i]))] st = some (.d (.tuple ((p ++ [i]).map nI)), st) := @sure_path_ok gNo (p ++ [i]) hl _ (.inl rfl) (k + 15) st
  have hT : told (C0 (k + 17)) (enc t) ((p ++ [i]).map nI) st = some st := @told_ok gNo (C0 (k + 17)) i st (fun t => @parts_in_ok gNo t (k + 15) st) p t u hs hi
  show GP (k + 17 + 2) 44 [.d (bookD B), .d (enc t), .d (pthD (p ++ [i]))] st = _
  simp only [GP]
  rw [h8]
  simp only
  rw [h13]
  simp only
  rw [h15]
  simp only
  rw [hT]
  rfl
theorem plain (ns : List Int) (h : ns.length ≤ 63) : ∃ st, callG ds GP 40 46 [.d (.list (ns.map PyData.int))] [] = some (.d (.bool true), st) :=
  @law_ok gGP ns h 18 (told44 18)
end Ev.K00
set_option maxHeartbeats 0
namespace Ev.K00
open PySem PySem.Spec PyProof.Rows L2 Ev
theorem only44 {i : Nat} {x : Str} (h : T.fns[i]? = some x) (hd : ds i = none) : i = 44 := by
  have hi : i < 47 := (List.getElem?_eq_some_iff.mp h).1
  have key : ∀ j : Fin 47, (ds j.val).isNone = true → j.val = 44 := by decide
  exact key ⟨i, hi⟩ (by show (ds i).isNone = true; rw [hd]; rfl)
section
variable {P : Program} {w : World} {K : PySem.W.Frag} {mg : Str → Option Value} {base h : Heap}
theorem all0 (W : Wrote T ds K mg) : ∀ k : Nat, AllOk T P w K mg base (C0 k) k := all_ok W good fun k i x hi hd => by
  obtain ⟨a, fd, ps, h1, h2, h3, _⟩ := W.fns i x hi
  have bad : ∀ {vs : List V} {H : Hp} {Q : VK} {E : XK}, ¬ spOf K (callG ds (fun _ _ _ _ => none) (k + 1)) i vs H Q E := fun {vs H Q E} q => by
    obtain ⟨B, F, ρ, sto, ws, v, sto', _, _, e, _⟩ := q
    rw [callG, hd] at e
    cases e
  exact ⟨a, fd, ps, ⟨fun _ _ _ _ q => (bad q).elim, fun _ _ _ _ _ _ _ _ _ _ _ _ _ q => (bad q).elim⟩, h1, h2, h3⟩
theorem part_ok (X : K.In h) (G : h.Ns mainGlobals mg) (c : He.SaysD fa fn K) (hn : npObs K = npVal) (ho : npOk P K = true) (k i : Nat) (x : Str) (hi : T.fns[i]? = some x) (hd : ds i = none) :
    ∃ (a : Addr) (fd : FuncData) (ps : List Str), FnOk P w K mg base CX0 (k + 1) a fd ps (spOf K (callG ds GP (k + 1)) i) ∧ mg x = some (.ref a) ∧ PySem.W.keepIn K (.ref a) = true ∧ Binds K fd ps [] := by
  have W := wrote X G c
  obtain rfl := only44 hi hd
  cases (show some (Str.ofString "_law_part") = some x from hi)
  obtain ⟨fd, F⟩ := c.def_ 44 (d := h44) rfl
  have b : Binds K fd pP [] := F.bindsN fun _ _ _ _ _ _ us hl => match us, hl with | [_, _, _], _ => rfl
  have g44 := He.glo_ok X G (c.fact 44 (f := .glo (Str.ofString "_law_part")) rfl)
  have gN := He.glo_ok X G (c.fact 71 (f := .glo (Str.ofString "NoPlace")) rfl)
  have Tn := npTxt_of hn ho
  have low : k < 2 → ∀ {vs : List V} {H : Hp} {Q : VK} {E : XK}, ¬ spOf K (callG ds GP (k + 1)) 44 vs H Q E := fun hk vs H Q E q => by
    obtain ⟨B, F', ρ, sto, ws, v, sto', _, _, e, _⟩ := q
    have e' : GP k 44 ws sto = some (v, sto') := e
    match k, hk, e' with
    | 0, _, e' => cases e'
    | 1, _, e' => cases e'
  refine ⟨_, fd, pP, ?_, g44, F.kp, b⟩
  by_cases hk : k < 2
  · exact ⟨fun _ _ _ _ q => (low hk q).elim, fun _ _ _ _ _ _ _ _ _ _ _ _ _ q => (low hk q).elim⟩
  · obtain ⟨j, rfl⟩ : ∃ j, k = j + 2 := ⟨k - 2, by omega⟩
    obtain ⟨fdT, FT⟩ := c.def_ 28 (d := h28) rfl
    have bT : Binds K fdT d28.ps [] := FT.bindsN fun _ _ _ _ _ _ us hl => match us, hl with | [_, _], _ => rfl
    have gT := He.glo_ok X G (c.fact 28 (f := .glo (Str.ofString "part_told")) rfl)
    obtain ⟨fdA, FA⟩ := c.def_ 29 (d := h29) rfl
    have bA : Binds K fdA d29.ps [] := FA.bindsN fun _ _ _ _ _ _ us hl => match us, hl with | [_, _, _], _ => rfl
    have gA := He.glo_ok X G (c.fact 29 (f := .glo (Str.ofString "part_at")) rfl)
    exact ok_part W (all0 W (j + 1)) Tn gN (ok_at W (all0 W (j + 1)) (ok_told W (all0 W j) Tn gN FT) gT FT.kp bT FA) gA FA.kp bA F
end
theorem rel0 {K : PySem.W.Frag} (H : Hp) : Rel K (fun _ => none) H [] [] H ⟨[], []⟩ :=
  ⟨Ex.refl H, rfl, fun i sl h => by simp at h, fun i j xs ys a h => by simp at h, rfl, List.nodup_nil, fun n a xs h => by simp at h, fun a o h => nomatch h⟩
end Ev.K00
open PySem PySem.W PySem.Calls PyProof.Rows
set_option maxHeartbeats 0 in
theorem PySem.Challenge.cw_weighedterms_k00_terms_counted_by_own_wa_holds : PySem.Challenge.rw_weighedterms_k00_terms_counted_by_own_wa.Holds := by
  w_on; o_law
  refine HandSHeadRun.head_any (r := OpenLaw.row PySem.Challenge.rw_weighedterms_k00_terms_counted_by_own_wa) (q := view (OpenLaw.row PySem.Challenge.rw_weighedterms_k00_terms_counted_by_own_wa).prog [60]) (H := Ev.K00.hk) (ob := Ev.K00.ob) (M := 5000) (loose := Ev.K00.nms) (d := HandSHeadRun.topDef (OpenLaw.row PySem.Challenge.rw_weighedterms_k00_terms_counted_by_own_wa).prog 60) (kwd := []) Ev.K00.ob_eq
    (by kernel_rfl) (fun s => by kernel_rfl) Ev.K00.run (by kernel_rfl) (by kernel_rfl) (by kernel_rfl) (by rfl) (by first | assumption | decide +kernel) (by decide +kernel) ⟨rfl, rfl, rfl, rfl, rfl, by decide +kernel⟩ ?hw ?hc
  case hw => w_witness2
  case hc =>
    refine L2.walk_ofE (l := PySem.Challenge.rw_weighedterms_k00_terms_counted_by_own_wa) (n := 63) (k := 40) (x := "script") (CX := L2.CX0) rfl (by decide) (by kernel_rfl) ⟨rfl, by decide, by decide⟩ ?F (fun _ _ _ _ z => z)
    intro w mg fa h Y G hmg0
    obtain ⟨K, KX, c, hn, ho⟩ := Y
    have hmg : mg ("law" : PySem.Str) = some (.ref fa) := by
      have e : (HandSHeadRun.topDef (OpenLaw.row PySem.Challenge.rw_weighedterms_k00_terms_counted_by_own_wa).prog 60).name = ("law" : PySem.Str) := by kernel_rfl
      rw [← e]
      exact hmg0
    have Wr := Ev.K00.wrote KX G c
    obtain ⟨fd, F⟩ := c.def_ 46 (d := Ev.K00.h46) rfl
    have e := hmg.symm.trans (He.glo_ok KX G (c.fact 46 (f := .glo "law") rfl))
    cases e
    have b := L2.FunD.bindsA (ps := ["script"]) F fun _ _ _ _ _ _ us hl => match us, hl with | [_], _ => rfl
    refine ⟨K, fd, Ev.spOf K (Ev.callG Ev.K00.ds Ev.K00.GP 40) 46, KX, fun s v => b s [v] rfl, fun H a ns hl _ hS => ?_, fun base _ _ => ?_⟩
    · obtain ⟨st, hp⟩ := Ev.K00.plain ns hl
      refine ⟨_, H, [], [], [.d (.list (ns.map PySem.PyData.int))], _, st, Ev.K00.rel0 H, ⟨?_, trivial⟩, hp, fun v H' F' ρ' _ _ _ r => ?_⟩
      · exact (show L2.Dp K H (.ref a) (.list _) from .lst hS (Ev.ints_dps ns))
      · cases (show L2.Dp K F' v (.bool true) from r)
        rfl
    · exact Ev.def_ok (d := Ev.K00.d46) (i := 46) (k := 39) Wr rfl Ev.K00.g46 (Ev.all_ok Wr Ev.K00.good (Ev.K00.part_ok KX G c hn ho) 39) F
