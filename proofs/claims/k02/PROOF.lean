import PyProof.Rows.All
import Wide.All
import OpenK.AllK
import Wide.FinOn
import HandS.ForMost
import HandS.ForExc
import HandS.Slots
import HandS.Wide
import HandS.TupMul
import HandS.TupAny
import HandS.IsInst
import HandS.Zip
import HandS.Flow
import HandS.Style
import HandS.CallSlots
import HandS.Conv
import HandS.Defaults
import HandS.More
import KE.SortCalls
import KE.DataCmp
import KE.DataFind
import HandS.WordsDict
import HandS.Codes
import HandS.Text
import HandS.SlotsOwn
import KE.GoesMore
import KE.GoesEnum
import KE.GoesNew
import HandS.TryOnly
import HandS.NoneIn
import KE.SortData
import HandS.Set
import HandS.SetTxt0
import HandS.SetFor
import PyProof.Rows.FactsN_isinstance
import HandS.Words
import HandS.ExcOwn
import HandS.ExcIs
import HandS.ExcField
import HandS.WordsExc
import KE.KExcIs
import HandS.CallRecv
import PySem.Challenge.RW_lateshown_k02_programs_as_texts
set_option Elab.async false
set_option linter.all false
set_option autoImplicit false
/-! A small language of values and its interpreter: what the defs of the program compute, over plain data. -/
namespace Ls
/-- a key of a dict: an int or a text, or a tuple of such -/
inductive Ky where
  | ki (n : Int) | ks (x : List Nat) | kt (l : List (Sum Int (List Nat)))
  deriving DecidableEq
/-- plain data; ref n: the n-th thing of the small heap (may change) -/
inductive D where
  | non | bl (b : Bool) | int (i : Int) | str (s : List Nat)
  | tup (xs : List D) | lst (xs : List D) | rol (xs : List D) | dct (t : Bool) (kvs : List (Ky × D)) | ref (n : Nat) | obj (c : Nat) (xs : List D)
  | rot (xs : List D) | exn (c : Nat) (xs : List D)
/-- what may change -/
inductive O where
  | dead | lst (xs : List D) | lck (xs : List D) | dct (t : Bool) (kvs : List (Ky × D)) | dlk (t : Bool) (kvs : List (Ky × D))
abbrev Hh := List O
abbrev Ev := List (Option D)
structure Xn where
  cls : Nat
  fs : List D
inductive R (α : Type) where
  | stuck | ok (a : α) (h : Hh) | err (x : Xn) (h : Hh)
namespace R
def bind {α β : Type} (r : R α) (f : α → Hh → R β) : R β :=
  match r with
  | .stuck => .stuck
  | .ok a h => f a h
  | .err x h => .err x h
end R
@[simp] theorem bind_ok {α β : Type} (a : α) (h : Hh) (f : α → Hh → R β) : (R.ok a h).bind f = f a h := rfl
@[simp] theorem bind_stuck {α β : Type} (f : α → Hh → R β) : (R.stuck : R α).bind f = .stuck := rfl
@[simp] theorem bind_err {α β : Type} (x : Xn) (h : Hh) (f : α → Hh → R β) : (R.err x h : R α).bind f = .err x h := rfl
/-- from an Option -/
def lift {α : Type} (o : Option α) (h : Hh) : R α := match o with | some a => .ok a h | none => .stuck
@[simp] theorem lift_some {α : Type} (a : α) (h : Hh) : lift (some a) h = .ok a h := rfl
@[simp] theorem lift_none {α : Type} (h : Hh) : lift (none : Option α) h = .stuck := rfl
/-- by a test's answer -/
def br {α : Type} : Option Bool → R α → R α → R α
  | some true, a, _ => a
  | some false, _, b => b
  | none, _, _ => .stuck
@[simp] theorem br_true {α : Type} (a b : R α) : br (some true) a b = a := rfl
@[simp] theorem br_false {α : Type} (a b : R α) : br (some false) a b = b := rfl
@[simp] theorem br_none {α : Type} (a b : R α) : br none a b = .stuck := rfl
inductive Bo where | add | sub | mul | div | mod | pow
inductive Co where | eq | ne | lt | le | gt | ge | isn | notn | isin | notin
inductive Ty where | bool | int | str | list | tuple
inductive Pr where | len | abs | int | str | tuple | sum | mx2 | mn2 | mx | mn | all | any
inductive Mt where | index | count | append | extend | pop0 | popat | insert | join | get1 | get2 | strip
mutual
inductive E where
  | var (i : Nat) | cst (d : D)
  | bin (o : Bo) (a b : E) | neg (a : E) | not (a : E)
  | cmp (o : Co) (a b : E) | chn (o p : Co) (a b c : E)
  | bool (a : Bool) (es : Es) | ite (c a b : E)
  | tup (es : Es) | lv (f : F) | lr (f : F)
  | call (f : Nat) (es : Es) (p : List Nat)
  | pr (p : Pr) (es : Es) | mt (m : Mt) (o : E) (es : Es)
  | ix (o i : E) | sl (o : E) (lo hi : Oe)
  | isi (e : E) (ts : List Ty) | frz (e : E)
  | glb (x : String) (d : D) | att (e : E) (k : Nat) | prop (f : Nat) (e : E) | newp (f : Nat) (e : E) | isc (e : E)
  | xat (e : E) (f : List Nat) | isx (e : E) (b : Bool)
  | scall (f : Nat) (es : Es) (p : List Nat) | olen (f : Nat) (e : E) | oop (k f : Nat) (a b : E)
inductive Oe where
  | no | so (e : E)
inductive Es where
  | nil | cons (e : E) (r : Es) | star (e : E) (r : Es)
/-- expressions that make a new list -/
inductive F where
  | disp (es : Es) | comp (t : T) (i : I) (c : Es) (e : E) | comp2 (t : T) (i : I) (u : T) (j : I) (c : Es) (e : E)
  | list (e : E) | rng (a : Oe) (b : E) | sorted (e : E) | sset (e : E) | sli (o : E) (lo hi : Oe) | cat (a b : E) | rep (a k : E) | rev (o : E) | split (o s : E)
/-- what is walked -/
inductive I where
  | seq (e : E) | rng (a : Oe) (b : E) | enum (e : E) | zip (a b : E) | sgn (e : E) | items (e : E)
/-- targets -/
inductive T where
  | nm (i : Nat) | tp (ts : Ts) | ix (o i : E)
inductive Ts where
  | nil | cons (t : T) (r : Ts)
end
mutual
inductive S where
  | expr (e : E) | asg (t : T) (e : E) | par (ts : List Nat) (es : Es) | ret (e : E) | retn | ife (c : E) (a b : Ss)
  | for_ (t : T) (i : I) (b : Ss) | whl (c : E) (b : Ss) | pass | brk | cnt | aug (i : Nat) (o : Bo) (e : E)
  | raise_ (c : Nat) (es : Es) | never | tryR (b : Ss) (c : Nat) (d : D) | tryK (b : Ss) (c n i : Nat)
inductive Ss where
  | nil | cons (s : S) (r : Ss)
end
/-! ### exceptions by number: the fields of the class, whether it is a LookupError (else a ValueError) -/
def exT : List (List (List Nat) × Bool) := [([[108, 105, 110, 101]], true), ([[112, 108, 97, 99, 101]], true), ([[110, 97, 109, 101]], true), ([[110, 117, 109, 98, 101, 114]], true), ([], false), ([[110, 97, 109, 101]], false), ([], false), ([], false), ([], true), ([], false), ([], false), ([[112, 108, 97, 99, 101]], false), ([[119, 105, 115, 104]], false), ([[115, 112, 111, 116]], false), ([[110, 97, 109, 101]], true), ([[110, 97, 109, 101]], true), ([[110, 97, 109, 101]], false), ([[110, 117, 109, 98, 101, 114]], false), ([[110, 117, 109, 98, 101, 114], [114, 97, 105, 115, 101, 100], [118, 97, 108, 117, 101]], false)]
def exF (c : Nat) : List (List Nat) := (exT.getD c ([], false)).1
def exB (c : Nat) : Bool := (exT.getD c ([], false)).2
/-! ### values -/
mutual
/-- no ref lies within -/
def D.free : D → Bool
  | .ref _ => false
  | .tup xs => D.freeL xs
  | .lst xs => D.freeL xs
  | .rol xs => D.freeL xs
  | .dct _ kvs => D.freeK kvs
  | .obj _ xs => D.freeL xs
  | .rot xs => D.freeL xs
  | .exn _ xs => D.freeL xs
  | _ => true
def D.freeL : List D → Bool
  | [] => true
  | x :: r => D.free x && D.freeL r
def D.freeK : List (Ky × D) → Bool
  | [] => true
  | (_, x) :: r => D.free x && D.freeK r
end
mutual
/-- data without refs, dicts, objects, at most n deep -/
def D.flat : Nat → D → Bool
  | _, .non => true
  | _, .bl _ => true
  | _, .int _ => true
  | _, .str _ => true
  | 0, _ => false
  | n + 1, .tup xs => D.flatL n xs
  | n + 1, .lst xs => D.flatL n xs
  | _, _ => false
def D.flatL : Nat → List D → Bool
  | _, [] => true
  | n, x :: r => D.flat n x && D.flatL n r
end
mutual
/-- Python's == of such data -/
def D.eqv : D → D → Bool
  | .non, .non => true
  | .bl a, .bl b => a == b
  | .bl a, .int j => (if a then 1 else 0) == j
  | .int i, .bl b => i == (if b then 1 else 0)
  | .int i, .int j => i == j
  | .str a, .str b => a == b
  | .tup xs, .tup ys => D.eqvL xs ys
  | .lst xs, .lst ys => D.eqvL xs ys
  | _, _ => false
def D.eqvL : List D → List D → Bool
  | [], [] => true
  | x :: xs, y :: ys => D.eqv x y && D.eqvL xs ys
  | _, _ => false
end
mutual
/-- the two can be compared place by place -/
def D.alike : D → D → Bool
  | .bl _, .bl _ => true
  | .int _, .int _ => true
  | .str _, .str _ => true
  | .tup xs, .tup ys => D.alikeL xs ys
  | .lst xs, .lst ys => D.alikeL xs ys
  | _, _ => false
def D.alikeL : List D → List D → Bool
  | x :: xs, y :: ys => D.alike x y && D.alikeL xs ys
  | _, _ => true
end
def ltL : List Nat → List Nat → Bool
  | [], [] => false
  | [], _ :: _ => true
  | _ :: _, [] => false
  | x :: xs, y :: ys => if x = y then ltL xs ys else decide (x < y)
mutual
/-- Python's < of alike data -/
def D.lt : D → D → Bool
  | .bl a, .bl b => !a && b
  | .int i, .int j => decide (i < j)
  | .str a, .str b => ltL a b
  | .tup xs, .tup ys => D.ltS xs ys
  | .lst xs, .lst ys => D.ltS xs ys
  | _, _ => false
def D.ltS : List D → List D → Bool
  | [], [] => false
  | [], _ :: _ => true
  | _ :: _, [] => false
  | x :: xs, y :: ys => if D.eqv x y then D.ltS xs ys else D.lt x y
end
/-- the items of a list, a ref of one, as they stand -/
def itemsL (h : Hh) : D → Option (List D)
  | .lst xs => some xs
  | .rol xs => some xs
  | .ref n => match h[n]? with | some (.lst xs) => some xs | some (.lck xs) => some xs | _ => none
  | _ => none
/-- .. of a list that the text itself has made -/
def itemsW (h : Hh) : D → Option (List D)
  | .rol _ => none
  | d => itemsL h d
/-- .. or of a tuple -/
def itemsS (h : Hh) : D → Option (List D)
  | .tup xs => some xs
  | .rot xs => some xs
  | d => itemsL h d
/-- .. that may be walked -/
def itemsI (h : Hh) : D → Option (List D)
  | .rot _ => none
  | d => itemsS h d
def entries (h : Hh) : D → Option (Bool × List (Ky × D))
  | .dct t kvs => some (t, kvs)
  | .ref n => match h[n]? with | some (.dct t kvs) => some (t, kvs) | some (.dlk t kvs) => some (t, kvs) | _ => none
  | _ => none
/-- a ref of a list as the list that it is now -/
def snap (h : Hh) : D → D
  | .ref n => match h[n]? with | some (.lst xs) => .lst xs | some (.lck xs) => .lst xs | _ => .ref n
  | d => d
def atoms : List D → Option (List (Sum Int (List Nat)))
  | [] => some []
  | .int i :: r => (atoms r).map (Sum.inl i :: ·)
  | .str s :: r => (atoms r).map (Sum.inr s :: ·)
  | _ => none
def keyOf : D → Option Ky
  | .int i => some (.ki i)
  | .str s => some (.ks s)
  | .tup xs => (atoms xs).map .kt
  | _ => none
def Ky.t : Ky → Bool
  | .kt _ => true
  | _ => false
/-- what a dict has at a key -/
def lookK (h : Hh) (o i : D) : Option (Option D) := match entries h o, keyOf i with
  | some (t, kvs), some k => if k.t = t then some ((kvs.find? fun p => decide (p.1 = k)).map (·.2)) else none
  | _, _ => none
def Ky.toD : Ky → D
  | .ki n => .int n
  | .ks x => .str x
  | .kt l => .tup (l.map fun | .inl i => .int i | .inr s => .str s)
abbrev big : Nat := 16777216
def okLen {α : Type} (xs : List α) : Bool := decide (xs.length ≤ big)
/-- truth -/
def tru (h : Hh) : D → Option Bool
  | .non => some false
  | .bl b => some b
  | .int i => some (i != 0)
  | .str s => if okLen s then some (!s.isEmpty) else none
  | .tup xs => some (!xs.isEmpty)
  | .rot xs => some (!xs.isEmpty)
  | d => match itemsL h d with | some xs => some (!xs.isEmpty) | none => none
def isTy (h : Hh) (d : D) : Ty → Bool
  | .bool => match d with | .bl _ => true | _ => false
  | .int => match d with | .bl _ => true | .int _ => true | _ => false
  | .str => match d with | .str _ => true | _ => false
  | .list => (itemsL h d).isSome
  | .tuple => match d with | .tup _ => true | .rot _ => true | _ => false
/-- a datum's type -/
def dTy (h : Hh) (d : D) : Option String :=
  match d with
  | .non => some "NoneType" | .bl _ => some "bool" | .int _ => some "int" | .str _ => some "str" | .tup _ => some "tuple" | .rot _ => some "tuple"
  | d => match itemsL h d with | some _ => some "list" | none => none
/-- an instance -/
def isObj : D → Bool
  | .obj _ _ => true
  | _ => false
/-- the place of an index -/
def at_ (n : Nat) (i : Int) : Option Nat :=
  if 0 ≤ i then (if i < n then some i.toNat else none) else if -(n : Int) ≤ i then some (i + n).toNat else none
/-- an end of a slice -/
def cut (n : Nat) (d : Nat) : Option Int → Nat
  | none => d
  | some i => if i < 0 then (i + (n : Int)).toNat else min i.toNat n
def slice {α : Type} (xs : List α) (lo hi : Option Int) : List α :=
  let a := cut xs.length 0 lo
  let b := cut xs.length xs.length hi
  (xs.drop a).take (b - a)
def bigI : Int := 18446744073709551616
def binD (h : Hh) (o : Bo) (x y : D) : Option D :=
  match o, x, y with
  | .add, .int i, .int j => some (.int (i + j))
  | .sub, .int i, .int j => some (.int (i - j))
  | .mul, .int i, .int j => if (-bigI < i ∧ i < bigI) ∨ (-bigI < j ∧ j < bigI) ∨ (i.natAbs < 2 ^ 4000 ∧ j.natAbs < 2 ^ 4000) then some (.int (i * j)) else none
  | .div, .int i, .int j => if 0 < j ∧ j.natAbs < 2 ^ 8000 then some (.int (i / j)) else none
  | .mod, .int i, .int j => if 0 < j then some (.int (i % j)) else none
  | .pow, .int i, .int j => if 0 ≤ j ∧ j ≤ 1000000 ∧ -bigI < i ∧ i < bigI then some (.int (i ^ j.toNat)) else none
  | .add, .str a, .str b => if a.length + b.length ≤ big then some (.str (a ++ b)) else none
  | .add, .tup a, .tup b => if a.length + b.length ≤ big then some (.tup (a ++ b)) else none
  | .mul, .str a, .int k => if a.length ≤ 1000 ∧ 0 ≤ k ∧ k ≤ 1000 then some (.str (List.replicate k.toNat a).flatten) else none
  | .mul, .tup a, .int k => if a.length ≤ 1000 ∧ a ≠ [] ∧ 2 ≤ k ∧ k ≤ 1000 then some (.tup (List.replicate k.toNat a).flatten) else none
  | .add, x, y => match itemsW h x, itemsW h y with
    | some a, some b => if a.length + b.length ≤ big then some (.lst (a ++ b)) else none
    | _, _ => none
  | .mul, x, .int k => match itemsW h x with
    | some a => if a.length ≤ 1000000 ∧ -9223372036854775808 ≤ k ∧ k < 1000000 ∧ a.length * k.toNat ≤ big then some (.lst (List.replicate k.toNat a).flatten) else none
    | none => none
  | _, _, _ => none
def hasE (x : D) (xs : List D) : Bool := xs.any fun y => D.eqv y x
def cmpD (h : Hh) (o : Co) (x y : D) : Option Bool :=
  match o with
  | .isn => match y with | .non => some (match x with | .non => true | _ => false) | _ => none
  | .notn => match y with | .non => some (match x with | .non => false | _ => true) | _ => none
  | .eq => if D.flat 60 (snap h x) && D.flat 60 (snap h y) then some (D.eqv (snap h x) (snap h y)) else none
  | .ne => if D.flat 60 (snap h x) && D.flat 60 (snap h y) then some (!D.eqv (snap h x) (snap h y)) else none
  | .lt => if D.flat 60 x && D.flat 60 y && D.alike x y && D.alike y x then some (D.lt x y) else none
  | .gt => if D.flat 60 x && D.flat 60 y && D.alike x y && D.alike y x then some (D.lt y x) else none
  | .le => if D.flat 60 x && D.flat 60 y && D.alike x y && D.alike y x then some (!D.lt y x) else none
  | .ge => if D.flat 60 x && D.flat 60 y && D.alike x y && D.alike y x then some (!D.lt x y) else none
  | .isin => match y with
    | .str t => match x with | .str [c] => some (decide (c ∈ t)) | _ => none
    | y => match itemsS h y with
      | some xs => if D.flat 60 x && D.flatL 60 xs then some (hasE x xs) else none
      | none => (lookK h y x).map Option.isSome
  | .notin => match y with
    | .str t => match x with | .str [c] => some (!decide (c ∈ t)) | _ => none
    | y => match itemsS h y with
      | some xs => if D.flat 60 x && D.flatL 60 xs then some (!hasE x xs) else none
      | none => (lookK h y x).map fun o => !o.isSome
def intsD : List D → Option (List Int)
  | [] => some []
  | .int i :: r => (intsD r).map (i :: ·)
  | _ => none
def boolsD : List D → Option (List Bool)
  | [] => some []
  | .bl i :: r => (boolsD r).map (i :: ·)
  | _ => none
def strsD : List D → Option (List (List Nat))
  | [] => some []
  | .str i :: r => (strsD r).map (i :: ·)
  | _ => none
/-- the number that digits write -/
def decV (cs : List Nat) : Nat := cs.foldl (fun acc c => acc * 10 + (c - 48)) 0
/-- digits -/
def digs (n : Nat) : List Nat := (Nat.toDigits 10 n).map Char.toNat
def strInt (i : Int) : List Nat := if i < 0 then 45 :: digs i.natAbs else digs i.natAbs
def maxI : List Int → Option Int
  | [] => none
  | x :: r => some (r.foldl (fun a b => if a < b then b else a) x)
def minI : List Int → Option Int
  | [] => none
  | x :: r => some (r.foldl (fun a b => if b < a then b else a) x)
/-- tuple(d) -/
def tupD (h : Hh) : D → Option D
  | .rot xs => some (.rot xs)
  | d => match itemsS h d with | some xs => some (.tup xs) | none => none
def prD (h : Hh) (p : Pr) (xs : List D) : Option D :=
  match p, xs with
  | .len, [.str s] => if okLen s then some (.int s.length) else none
  | .len, [d] => match itemsS h d with
    | some xs => some (.int xs.length)
    | none => match entries h d with | some (false, kvs) => some (.int kvs.length) | _ => none
  | .abs, [.int i] => some (.int (if i < 0 then -i else i))
  | .int, [.int i] => some (.int i)
  | .int, [.bl b] => some (.int (if b then 1 else 0))
  | .int, [.str s] => if s ≠ [] ∧ (s.all fun c => decide (48 ≤ c) && decide (c ≤ 57)) = true ∧ s.length ≤ 640 then some (.int (decV s : Nat)) else none
  | .str, [.int i] => if i.natAbs < 2 ^ 1900 then some (.str (strInt i)) else none
  | .tuple, [d] => tupD h d
  | .sum, [d] => match itemsL h d with
    | some xs => (intsD xs).map fun l => .int l.sum
    | none => none
  | .mx2, [.int i, .int j] => some (.int (if j > i then j else i))
  | .mn2, [.int i, .int j] => some (.int (if j < i then j else i))
  | .mx, [d] => match itemsL h d with
    | some xs => ((intsD xs).bind maxI).map .int
    | none => none
  | .mn, [d] => match itemsL h d with
    | some xs => ((intsD xs).bind minI).map .int
    | none => none
  | .all, [d] => match itemsL h d with
    | some xs => (boolsD xs).map fun l => .bl (l.all id)
    | none => none
  | .any, [d] => match itemsL h d with
    | some xs => (boolsD xs).map fun l => .bl (l.any id)
    | none => none
  | _, _ => none
def joinL (sep : List Nat) : List (List Nat) → List Nat
  | [] => []
  | [x] => x
  | x :: y :: r => x ++ sep ++ joinL sep (y :: r)
/-- a method; the second part: what the small heap is behind it -/
def mtD (h : Hh) (m : Mt) (o : D) (xs : List D) : Option (D × Hh) :=
  match m, xs with
  | .append, [d] => match o with
    | .ref n => match h[n]? with
      | some (.lst ys) => if ys.length < big then some (.non, h.set n (.lst (ys ++ [d]))) else none
      | _ => none
    | _ => none
  | .extend, [d] => match o, itemsL h d with
    | .ref n, some zs => match h[n]? with
      | some (.lst ys) => if ys.length + zs.length ≤ big then some (.non, h.set n (.lst (ys ++ zs))) else none
      | _ => none
    | _, _ => none
  | .pop0, [] => match o with
    | .ref n => match h[n]? with
      | some (.lst ys) => match ys[ys.length - 1]? with
        | some y => some (y, h.set n (.lst ys.dropLast))
        | none => none
      | _ => none
    | _ => none
  | .popat, [.int i] => match o with
    | .ref n => match h[n]? with
      | some (.lst ys) => match at_ ys.length i with
        | some k => match ys[k]? with
          | some y => some (y, h.set n (.lst (ys.eraseIdx k)))
          | none => none
        | none => none
      | _ => none
    | _ => none
  | .insert, [.int i, d] => match o with
    | .ref n => match h[n]? with
      | some (.lst ys) => if ys.length < big ∧ 0 ≤ i ∧ i < big then some (.non, h.set n (.lst (ys.take i.toNat ++ [d] ++ ys.drop i.toNat))) else none
      | _ => none
    | _ => none
  | .index, [d] => match itemsS h o with
    | some ys => if D.flat 60 d && D.flatL 60 ys then
        (match ys.findIdx? (fun y => D.eqv y d) with | some k => some (.int k, h) | none => none) else none
    | none => none
  | .count, [d] => match itemsS h o with
    | some ys => if D.flat 60 d && D.flatL 60 ys then some (.int (ys.countP fun y => D.eqv y d), h) else none
    | none => none
  | .join, [d] => match o, itemsS h d with
    | .str sep, some ys => match strsD ys with
      | some l => if (l.map (·.length)).sum + l.length * sep.length ≤ big then some (.str (joinL sep l), h) else none
      | none => none
    | _, _ => none
  | .get1, [d] => (lookK h o d).map fun r => (r.getD .non, h)
  | .get2, [d, e] => (lookK h o d).map fun r => (r.getD e, h)
  | _, _ => none
/-- the receiver is of the method's kind -/
def mtPre (h : Hh) (m : Mt) (o : D) : Bool :=
  match m with
  | .append => (itemsL h o).isSome
  | .extend => (itemsL h o).isSome
  | .pop0 => (itemsL h o).isSome
  | .popat => (itemsL h o).isSome
  | .insert => (itemsL h o).isSome
  | .index => (itemsS h o).isSome
  | .count => (itemsS h o).isSome
  | .join => match o with | .str _ => true | _ => false
  | .strip => match o with | .str _ => true | _ => false
  | .get1 => (entries h o).isSome
  | .get2 => (entries h o).isSome
def ixD (h : Hh) (o i : D) : Option D :=
  match o, i with
  | .str s, .int k => if okLen s then (match at_ s.length k with | some j => (s[j]?).map fun c => .str [c] | none => none) else none
  | o, i => match itemsS h o, i with
    | some xs, .int k => match at_ xs.length k with | some j => xs[j]? | none => none
    | none, i => (lookK h o i).bind id
    | _, _ => none
/-- o[i] = d -/
def setD (h : Hh) (o i d : D) : Option Hh :=
  match o with
  | .ref n => match h[n]?, i with
    | some (.lst xs), .int k => match at_ xs.length k with | some j => some (h.set n (.lst (xs.set j d))) | none => none
    | some (.dct t kvs), i => match keyOf i with
      | some k => if kvs.length < big ∧ k.t = t then some (h.set n (.dct t (if kvs.any (fun p => decide (p.1 = k)) then kvs.map (fun p => if p.1 = k then (k, d) else p) else kvs ++ [(k, d)]))) else none
      | none => none
    | _, _ => none
  | _ => none
/-- a slice of a text, of a tuple -/
def slD (h : Hh) (o : D) (lo hi : Option Int) : Option D :=
  match o with
  | .str s => if okLen s then some (.str (slice s lo hi)) else none
  | .tup xs => some (.tup (slice xs lo hi))
  | o => match itemsL h o with | some xs => some (.lst (slice xs lo hi)) | none => none
def insD (x : D) : List D → List D
  | [] => [x]
  | y :: r => if D.lt y x then y :: insD x r else x :: y :: r
/-- sorted, by < -/
def sortD : List D → List D
  | [] => []
  | x :: r => insD x (sortD r)
/-- sorted, without what is there already (texts) -/
def insS (x : List Nat) : List (List Nat) → List (List Nat)
  | [] => [x]
  | y :: r => if ltL y x then y :: insS x r else if x = y then y :: r else x :: y :: r
def ssetS : List (List Nat) → List (List Nat)
  | [] => []
  | x :: r => insS x (ssetS r)
def alikeAll : List D → Bool
  | [] => true
  | x :: r => r.all (fun y => D.alike x y && D.alike y x) && alikeAll r
/-- each of these with each of those -/
def alikeEach (xs ys : List D) : Bool := xs.all fun x => ys.all fun y => D.alike x y
/-- all are tuples with an item at least, or none is a tuple -/
def sortable (xs : List D) : Bool := (xs.all fun | .tup (_ :: _) => true | _ => false) || (xs.all fun | .tup _ => false | .non => false | _ => true)
def enumL : Nat → List D → List D
  | _, [] => []
  | k, x :: r => .tup [.int k, x] :: enumL (k + 1) r
def zipL : List D → List D → List D
  | x :: r, y :: s => .tup [x, y] :: zipL r s
  | _, _ => []
def rngL (a b : Int) : List D := (List.range (b - a).toNat).map fun k => .int (a + (k : Nat))
def okR (i : Int) : Bool := decide (-4611686018427387904 ≤ i ∧ i < 4611686018427387904)
/-- split by one sign -/
def spl1 (b : Nat) : List Nat → List Nat → List (List Nat)
  | acc, [] => [acc]
  | acc, c :: r => if c = b then acc :: spl1 b [] r else spl1 b (acc ++ [c]) r
def wipe (ρ : Ev) : List Nat → Ev
  | [] => ρ
  | v :: vs => (wipe ρ vs).set v none
mutual
def T.slots : T → List Nat
  | .nm i => [i]
  | .tp ts => ts.slots
  | .ix _ _ => []
def Ts.slots : Ts → List Nat
  | .nil => []
  | .cons t r => t.slots ++ r.slots
end
def Ts.len : Ts → Nat
  | .nil => 0
  | .cons _ r => r.len + 1
/-- over the items, from the left -/
def mapL (body : D → Hh → R (List D)) : List D → Hh → R (List D)
  | [], h => .ok [] h
  | x :: r, h => (body x h).bind fun ys h1 => (mapL body r h1).bind fun zs h2 => .ok (ys ++ zs) h2
/-- the thing that is walked, locked while it is walked -/
def lockO : Hh → Option Nat → Hh
  | h, none => h
  | h, some n => match h[n]? with | some (.lst xs) => h.set n (.lck xs) | some (.dct t kvs) => h.set n (.dlk t kvs) | _ => h
def unlockO (h0 h : Hh) : Option Nat → Hh
  | none => h
  | some n => match h0[n]?, h[n]? with
    | some (.lst xs), some (.lck _) => h.set n (.lst xs)
    | some (.dct t kvs), some (.dlk _ _) => h.set n (.dct t kvs)
    | _, _ => h
def refOf : D → Option Nat
  | .ref n => some n
  | _ => none
def R.unlock {α : Type} (h0 : Hh) (l : Option Nat) : R α → R α
  | .ok a h => .ok a (unlockO h0 h l)
  | .err x h => .err x (unlockO h0 h l)
  | .stuck => .stuck
/-- nothing is raised -/
def R.calm {α : Type} : R α → R α
  | .ok a h => .ok a h
  | _ => .stuck
def freshL (r : R (List D)) (k : List D → Hh → R D) : R D := r.bind fun xs h => if okLen xs then k xs h else .stuck
abbrev Cf := Nat → List D → Hh → R D
/-- the arguments in the order of the parameters; []: as they stand -/
def permD (p : List Nat) (ds : List D) : Option (List D) := match p with
  | [] => some ds
  | p => p.mapM fun j => ds[j]?
section
variable (cf : Cf)
mutual
def ev : E → Ev → Hh → R D
  | .var i, ρ, h => match ρ[i]? with | some (some d) => .ok d h | _ => .stuck
  | .cst d, _, h => .ok d h
  | .bin o a b, ρ, h => (ev a ρ h).bind fun x h1 => (ev b ρ h1).bind fun y h2 => lift (binD h2 o x y) h2
  | .neg a, ρ, h => (ev a ρ h).bind fun x h1 => match x with | .int i => .ok (.int (-i)) h1 | _ => .stuck
  | .not a, ρ, h => (ev a ρ h).bind fun x h1 => br (tru h1 x) (.ok (.bl false) h1) (.ok (.bl true) h1)
  | .cmp o a b, ρ, h => (ev a ρ h).bind fun x h1 => (ev b ρ h1).bind fun y h2 => lift ((cmpD h2 o x y).map D.bl) h2
  | .chn o p a b c, ρ, h => (ev a ρ h).bind fun x h1 => (ev b ρ h1).bind fun y h2 => br (cmpD h2 o x y) ((ev c ρ h2).bind fun z h3 => lift ((cmpD h3 p y z).map D.bl) h3) (.ok (.bl false) h2)
  | .bool a es, ρ, h => evb a es ρ h
  | .ite c a b, ρ, h => (ev c ρ h).bind fun x h1 => br (tru h1 x) (ev a ρ h1) (ev b ρ h1)
  | .tup es, ρ, h => (evs es ρ h).bind fun xs h1 => if okLen xs then .ok (.tup xs) h1 else .stuck
  | .lv f, ρ, h => freshL (evf f ρ h) fun xs h1 => .ok (.lst xs) h1
  | .lr f, ρ, h => freshL (evf f ρ h) fun xs h1 => .ok (.ref h1.length) (h1 ++ [.lst xs])
  | .call f es p, ρ, h => (evs es ρ h).bind fun xs h1 => match permD p xs with | some ys => cf f ys h1 | none => .stuck
  | .pr p es, ρ, h => (evs es ρ h).bind fun xs h1 => lift (prD h1 p xs) h1
  | .mt m o es, ρ, h => (ev o ρ h).bind fun x h1 => if mtPre h1 m x then (evs es ρ h1).bind fun xs h2 => match mtD h2 m x xs with | some (d, h3) => .ok d h3 | none => .stuck else .stuck
  | .ix o i, ρ, h => (ev o ρ h).bind fun x h1 => (ev i ρ h1).bind fun y h2 => lift (ixD h2 x y) h2
  | .sl o lo hi, ρ, h => (ev o ρ h).bind fun x h1 => (evo lo ρ h1).bind fun a h2 => (evo hi ρ h2).bind fun b h3 => lift (slD h3 x a b) h3
  | .isi e ts, ρ, h => (ev e ρ h).bind fun x h1 => if isObj x && ts.length == 1 then .ok (.bl false) h1 else if (dTy h1 x).isSome then .ok (.bl (ts.any (isTy h1 x))) h1 else .stuck
  | .frz e, ρ, h => (ev e ρ h).bind fun x h1 => match x with
    | .ref n => match h1[n]? with
      | some (.lst xs) => .ok (.lst xs) (h1.set n .dead)
      | some (.dct t kvs) => .ok (.dct t kvs) (h1.set n .dead)
      | _ => .stuck
    | _ => .stuck
  | .glb _ d, _, h => .ok d h
  | .att e k, ρ, h => (ev e ρ h).bind fun x h1 => match x with | .obj _ xs => lift xs[k]? h1 | _ => .stuck
  | .prop f e, ρ, h => (ev e ρ h).bind fun x h1 => match x with | .obj c xs => (cf f [.obj c xs] h1).calm | _ => .stuck
  | .newp f e, ρ, h => (ev e ρ h).bind fun x h1 => (cf f [x] h1).calm.bind fun y h2 => if y.free then .ok (.obj 0 [y]) h2 else .stuck
  | .xat e f, ρ, h => (ev e ρ h).bind fun x h1 => match x with | .exn c xs => lift (((exF c).zip xs).lookup f) h1 | _ => .stuck
  | .scall f es p, ρ, h => (evs es ρ h).bind fun xs h1 => match permD p xs with | some ys => cf f ys h1 | none => .stuck
  | .olen f e, ρ, h => (ev e ρ h).bind fun x h1 => match x with
    | .obj c xs => (cf f [.obj c xs] h1).bind fun y h2 => match y with | .int n => if 0 ≤ n ∧ n < 4611686018427387904 then .ok (.int n) h2 else .stuck | _ => .stuck
    | _ => .stuck
  | .oop k f a b, ρ, h => (ev a ρ h).bind fun x h1 => (ev b ρ h1).bind fun y h2 => match k, x, y with
    | 0, .obj c xs, .obj d ys => cf f [.obj c xs, .obj d ys] h2
    | 1, x, .obj c xs => (cf f [.obj c xs, x] h2).bind fun z h3 => match z with | .bl b => .ok (.bl b) h3 | _ => .stuck
    | _, _, _ => .stuck
  | .isx e b, ρ, h => (ev e ρ h).bind fun x h1 => match x with | .exn c _ => .ok (.bl (exB c == b)) h1 | _ => .stuck
  | .isc e, ρ, h => (ev e ρ h).bind fun x h1 => match x with | .obj c _ => .ok (.bl (decide (c = 0))) h1 | x => if (dTy h1 x).isSome then .ok (.bl false) h1 else .stuck
/-- and (a = true), or -/
def evb : Bool → Es → Ev → Hh → R D
  | _, .nil, _, _ => .stuck
  | a, .cons e r, ρ, h => match r with
    | .nil => ev e ρ h
    | r => (ev e ρ h).bind fun x h1 => br (tru h1 x) (if a then evb a r ρ h1 else .ok x h1) (if a then .ok x h1 else evb a r ρ h1)
  | _, .star _ _, _, _ => .stuck
def evo : Oe → Ev → Hh → R (Option Int)
  | .no, _, h => .ok none h
  | .so e, ρ, h => (ev e ρ h).bind fun x h1 => match x with | .int i => .ok (some i) h1 | _ => .stuck
def evs : Es → Ev → Hh → R (List D)
  | .nil, _, h => .ok [] h
  | .cons e r, ρ, h => (ev e ρ h).bind fun x h1 => (evs r ρ h1).bind fun xs h2 => .ok (x :: xs) h2
  | .star e r, ρ, h => (ev e ρ h).bind fun x h1 => match itemsS h1 x with
    | some ys => (evs r ρ h1).bind fun xs h2 => .ok (ys ++ xs) h2
    | none => .stuck
/-- all tests hold -/
def evt : Es → Ev → Hh → R Bool
  | .nil, _, h => .ok true h
  | .cons e r, ρ, h => (ev e ρ h).bind fun x h1 => br (tru h1 x) (evt r ρ h1) (.ok false h1)
  | .star _ _, _, _ => .stuck
def evf : F → Ev → Hh → R (List D)
  | .disp es, ρ, h => evs es ρ h
  | .comp t i c e, ρ, h => (evi i ρ h).bind fun xs h1 => R.unlock h1 xs.2 (R.calm <| mapL (fun x hh => (asgT t x (wipe ρ t.slots) hh).bind fun ρ1 h2 =>
      (evt c ρ1 h2).bind fun b h3 => if b then (ev e ρ1 h3).bind fun y h4 => .ok [y] h4 else .ok [] h3) xs.1 (lockO h1 xs.2))
  | .comp2 t i u j c e, ρ, h => (evi i ρ h).bind fun xs h1 => R.unlock h1 xs.2 (R.calm <| mapL (fun x hh => (asgT t x (wipe ρ (t.slots ++ u.slots)) hh).bind fun ρ1 h2 =>
      (evi j ρ1 h2).bind fun ys h3 => R.unlock h3 ys.2 (mapL (fun y hg => (asgT u y (wipe ρ1 u.slots) hg).bind fun ρ2 h4 =>
        (evt c ρ2 h4).bind fun b h5 => if b then (ev e ρ2 h5).bind fun z h6 => .ok [z] h6 else .ok [] h5) ys.1 (lockO h3 ys.2))) xs.1 (lockO h1 xs.2))
  | .list e, ρ, h => (ev e ρ h).bind fun x h1 => lift (itemsS h1 x) h1
  | .rng a b, ρ, h => (evo a ρ h).bind fun x h1 => (ev b ρ h1).bind fun y h2 => match y with
    | .int j => if okR (x.getD 0) && okR j then .ok (rngL (x.getD 0) j) h2 else .stuck
    | _ => .stuck
  | .sorted e, ρ, h => (ev e ρ h).bind fun x h1 => match itemsW h1 x with
    | some xs => if D.flatL 60 xs && (alikeEach xs xs && sortable xs) then .ok (sortD xs) h1 else .stuck
    | none => .stuck
  | .sset e, ρ, h => (ev e ρ h).bind fun x h1 => match itemsS h1 x with
    | some xs => match strsD xs with | some l => if l.length ≤ 4000 then .ok ((ssetS l).map D.str) h1 else .stuck | none => .stuck
    | none => .stuck
  | .sli o lo hi, ρ, h => (ev o ρ h).bind fun x h1 => (evo lo ρ h1).bind fun a h2 => (evo hi ρ h2).bind fun b h3 => match itemsL h3 x with
    | some xs => .ok (slice xs a b) h3
    | none => .stuck
  | .cat a b, ρ, h => (ev a ρ h).bind fun x h1 => (ev b ρ h1).bind fun y h2 => match itemsW h2 x, itemsW h2 y with
    | some xs, some ys => .ok (xs ++ ys) h2
    | _, _ => .stuck
  | .rep a k, ρ, h => (ev a ρ h).bind fun x h1 => (ev k ρ h1).bind fun y h2 => match itemsL h2 x, y with
    | some xs, .int n => if -9223372036854775808 ≤ n ∧ n < 1000000 then .ok (List.replicate n.toNat xs).flatten h2 else .stuck
    | _, _ => .stuck
  | .rev o, ρ, h => (ev o ρ h).bind fun x h1 => match itemsL h1 x with | some xs => .ok xs.reverse h1 | none => .stuck
  | .split o s, ρ, h => (ev o ρ h).bind fun x h1 => match x with
    | .str a => (ev s ρ h1).bind fun y h2 => match y with
      | .str [b] => if b < 256 ∧ a.length + 2 ≤ big then .ok ((spl1 b [] a).map D.str) h2 else .stuck
      | _ => .stuck
    | _ => .stuck
/-- the items, and which thing is walked -/
def evi : I → Ev → Hh → R (List D × Option Nat)
  | .seq e, ρ, h => (ev e ρ h).bind fun x h1 => match itemsI h1 x with | some xs => .ok (xs, refOf x) h1 | none => .stuck
  | .rng a b, ρ, h => (evo a ρ h).bind fun x h1 => (ev b ρ h1).bind fun y h2 => match y with
    | .int j => if okR (x.getD 0) && okR j then .ok (rngL (x.getD 0) j, none) h2 else .stuck
    | _ => .stuck
  | .enum e, ρ, h => (ev e ρ h).bind fun x h1 => match itemsI h1 x with | some xs => .ok (enumL 0 xs, refOf x) h1 | none => .stuck
  | .zip a b, ρ, h => (ev a ρ h).bind fun x h1 => (ev b ρ h1).bind fun y h2 => match x, y with
    | .lst xs, .lst ys => .ok (zipL xs ys, none) h2
    | .tup xs, .tup ys => .ok (zipL xs ys, none) h2
    | _, _ => .stuck
  | .sgn e, ρ, h => (ev e ρ h).bind fun x h1 => match x with | .str s => .ok (s.map fun c => .str [c], none) h1 | _ => .stuck
  | .items e, ρ, h => (ev e ρ h).bind fun x h1 => match entries h1 x with
    | some (_, kvs) => .ok (kvs.map fun p => .tup [p.1.toD, p.2], refOf x) h1
    | none => .stuck
def asgT : T → D → Ev → Hh → R Ev
  | .nm i, d, ρ, h => .ok (ρ.set i (some d)) h
  | .tp ts, d, ρ, h => match itemsS h d with | some xs => if xs.length = ts.len then asgTs ts xs ρ h else .stuck | none => .stuck
  | .ix o i, d, ρ, h => (ev o ρ h).bind fun x h1 => (ev i ρ h1).bind fun y h2 => match setD h2 x y d with | some h3 => .ok ρ h3 | none => .stuck
def asgTs : Ts → List D → Ev → Hh → R Ev
  | .nil, [], ρ, h => .ok ρ h
  | .cons t r, x :: xs, ρ, h => (asgT t x ρ h).bind fun ρ1 h1 => asgTs r xs ρ1 h1
  | _, _, _, _ => .stuck
end
inductive Fl where
  | nx (ρ : Ev) | rt (d : D) | bk (ρ : Ev) | ct (ρ : Ev)
def forL (body : D → Ev → Hh → R Fl) : List D → Ev → Hh → R Fl
  | [], ρ, h => .ok (.nx ρ) h
  | x :: r, ρ, h => (body x ρ h).bind fun f h1 => match f with
    | .nx ρ1 => forL body r ρ1 h1
    | .ct ρ1 => forL body r ρ1 h1
    | .bk ρ1 => .ok (.nx ρ1) h1
    | .rt d => .ok (.rt d) h1
def whlL (test : Ev → Hh → R D) (body : Ev → Hh → R Fl) : Nat → Ev → Hh → R Fl
  | 0, _, _ => .stuck
  | n + 1, ρ, h => (test ρ h).bind fun x h1 => br (tru h1 x) ((body ρ h1).bind fun f h2 => match f with
      | .nx ρ1 => whlL test body n ρ1 h2
      | .ct ρ1 => whlL test body n ρ1 h2
      | .bk ρ1 => .ok (.nx ρ1) h2
      | .rt d => .ok (.rt d) h2) (.ok (.nx ρ) h1)
def setAll (ρ : Ev) : List Nat → List D → Option Ev
  | [], [] => some ρ
  | i :: r, x :: xs => (setAll (ρ.set i (some x)) r xs)
  | _, _ => none
/-- except C: return d -/
def catchR (c : Nat) (d : D) : R Fl → R Fl
  | .err x h => if x.cls = c then .ok (.rt d) h else .err x h
  | r => r
/-- except C as n: i = n; of the other names nothing is known behind it -/
def catchK (c i : Nat) (ρ : Ev) : R Fl → R Fl
  | .err x h => if x.cls = c then .ok (.nx ((ρ.map fun _ => none).set i (some (.exn x.cls x.fs)))) h else .err x h
  | r => r
/-- a op= b, of ints -/
def augD : Bo → D → D → Option D
  | .add, .int i, .int j => some (.int (i + j))
  | .sub, .int i, .int j => some (.int (i - j))
  | _, _, _ => none
mutual
def ex : S → Ev → Hh → R Fl
  | .expr e, ρ, h => (ev cf e ρ h).bind fun _ h1 => .ok (.nx ρ) h1
  | .asg t e, ρ, h => (ev cf e ρ h).bind fun x h1 => (asgT cf t x ρ h1).bind fun ρ1 h2 => .ok (.nx ρ1) h2
  | .par ts es, ρ, h => (evs cf es ρ h).bind fun xs h1 => match setAll ρ ts xs with | some ρ1 => .ok (.nx ρ1) h1 | none => .stuck
  | .ret e, ρ, h => (ev cf e ρ h).bind fun x h1 => .ok (.rt x) h1
  | .retn, _, h => .ok (.rt .non) h
  | .ife c a b, ρ, h => (ev cf c ρ h).bind fun x h1 => br (tru h1 x) (exs a ρ h1) (exs b ρ h1)
  | .for_ t i b, ρ, h => (evi cf i ρ h).bind fun xs h1 => R.unlock h1 xs.2 (forL (fun x ρ1 hh => (asgT cf t x ρ1 hh).bind fun ρ2 h2 => exs b ρ2 h2) xs.1 ρ (lockO h1 xs.2))
  | .whl c b, ρ, h => whlL (fun ρ1 hh => ev cf c ρ1 hh) (fun ρ1 hh => exs b ρ1 hh) 100000 ρ h
  | .pass, ρ, h => .ok (.nx ρ) h
  | .brk, ρ, h => .ok (.bk ρ) h
  | .cnt, ρ, h => .ok (.ct ρ) h
  | .aug i o e, ρ, h => match ρ[i]? with
    | some (some x) => (ev cf e ρ h).bind fun y h1 => match augD o x y with | some z => .ok (.nx (ρ.set i (some z))) h1 | none => .stuck
    | _ => .stuck
  | .raise_ c es, ρ, h => (evs cf es ρ h).bind fun xs h1 => if xs.length = (exF c).length then .err ⟨c, xs⟩ h1 else .stuck
  | .never, _, _ => .stuck
  | .tryR b c d, ρ, h => catchR c d (exs b ρ h)
  | .tryK b c _ i, ρ, h => catchK c i ρ (exs b ρ h)
def exs : Ss → Ev → Hh → R Fl
  | .nil, ρ, h => .ok (.nx ρ) h
  | .cons s r, ρ, h => (ex s ρ h).bind fun f h1 => match f with
    | .nx ρ1 => exs r ρ1 h1
    | .rt d => .ok (.rt d) h1
    | .bk ρ1 => .ok (.bk ρ1) h1
    | .ct ρ1 => .ok (.ct ρ1) h1
end
end
/-- a def: how many parameters, how many slots, the body -/
structure Fn where
  np : Nat
  ns : Nat
  body : Ss
/-- the refs among the arguments -/
def refsOf : List D → List Nat
  | [] => []
  | .ref n :: r => n :: refsOf r
  | _ :: r => refsOf r
/-- the arguments as the callee sees them: refs numbered 0, 1, .. -/
def renum : Nat → List D → Option (List D)
  | _, [] => some []
  | k, .ref _ :: r => (renum (k + 1) r).map (.ref k :: ·)
  | k, d :: r => if d.free then (renum k r).map (d :: ·) else none
def pick (h : Hh) (ns : List Nat) : Option Hh := ns.mapM fun n => h[n]?
def putBack (h : Hh) : List Nat → Hh → Hh
  | n :: ns, o :: os => putBack (h.set n o) ns os
  | _, _ => h
def nodupN : List Nat → Bool
  | [] => true
  | x :: r => !r.contains x && nodupN r
def freeO : O → Bool
  | .dead => true
  | .lst xs => D.freeL xs
  | .lck xs => D.freeL xs
  | .dct _ kvs => D.freeK kvs
  | .dlk _ kvs => D.freeK kvs
/-- what the callee hands back, as the caller sees it -/
def handBack (h : Hh) (ns : List Nat) (hl : Hh) (d : D) : R D :=
  if (hl.take ns.length).all freeO then
    match d with
    | .ref j => match ns[j]? with
      | some n => .ok (.ref n) (putBack h ns hl)
      | none => match hl[j]? with
        | some o => if freeO o then .ok (.ref (putBack h ns hl).length) (putBack h ns hl ++ [o]) else .stuck
        | none => .stuck
    | d => if d.free then .ok d (putBack h ns hl) else .stuck
  else .stuck
def asVal : R Fl → R D
  | .ok (.rt d) h => .ok d h
  | .ok (.nx _) h => .ok .non h
  | .ok _ _ => .stuck
  | .err x h => .err x h
  | .stuck => .stuck
/-- a call: the callee sees the things that its arguments name, and no others -/
def localCall (run : List D → Hh → R D) (ds : List D) (h : Hh) : R D :=
  if nodupN (refsOf ds) then
    match renum 0 ds, pick h (refsOf ds) with
    | some es, some hl => if hl.all freeO then
        match run es hl with
        | .ok d hl' => handBack h (refsOf ds) hl' d
        | .err x hl' => if D.freeL x.fs && (hl'.take (refsOf ds).length).all freeO then .err x (putBack h (refsOf ds) hl') else .stuck
        | .stuck => .stuck
      else .stuck
    | _, _ => .stuck
  else .stuck
def runFn (cf : Cf) (f : Fn) (ds : List D) (h : Hh) : R D :=
  if ds.length = f.np ∧ f.np ≤ f.ns then asVal (exs cf f.body (ds.map some ++ List.replicate (f.ns - f.np) none) h) else .stuck
/-- calls at most n deep -/
def callN (G : Nat → Option Fn) : Nat → Cf
  | 0 => fun _ _ _ => .stuck
  | n + 1 => fun f ds h => match G f with
    | some fn => localCall (runFn (callN G n) fn) ds h
    | none => .stuck
end Ls
set_option maxRecDepth 100000
/-! orders, sorted lists, sorted sets of texts -/
namespace Ls
/-! ### the order of texts -/
theorem ltL_irrefl : ∀ a : List Nat, ltL a a = false
  | [] => rfl
  | x :: r => by simp [ltL, ltL_irrefl r]
theorem ltL_trans : ∀ a b c : List Nat, ltL a b = true → ltL b c = true → ltL a c = true
  | [], [], _, h, _ => by simp [ltL] at h
  | [], _ :: _, [], _, h => by simp [ltL] at h
  | [], _ :: _, _ :: _, _, _ => by simp [ltL]
  | _ :: _, [], _, h, _ => by simp [ltL] at h
  | _ :: _, _ :: _, [], _, h => by simp [ltL] at h
  | x :: a, y :: b, z :: c, h1, h2 => by
    simp only [ltL] at h1 h2 ⊢
    by_cases e1 : x = y
    · subst e1
      rw [if_pos rfl] at h1
      by_cases e2 : x = z
      · subst e2
        rw [if_pos rfl] at h2 ⊢
        exact ltL_trans a b c h1 h2
      · rw [if_neg e2] at h2 ⊢; exact h2
    · rw [if_neg e1] at h1
      simp only [decide_eq_true_eq] at h1
      by_cases e2 : y = z
      · subst e2; rw [if_neg e1]; simpa using h1
      · rw [if_neg e2] at h2
        simp only [decide_eq_true_eq] at h2
        rw [if_neg (by omega)]; simp; omega
theorem ltL_total : ∀ a b : List Nat, a ≠ b → ltL a b = false → ltL b a = true
  | [], [], h, _ => absurd rfl h
  | [], _ :: _, _, h => by simp [ltL] at h
  | _ :: _, [], _, _ => by simp [ltL]
  | x :: a, y :: b, h, h1 => by
    simp only [ltL] at h1 ⊢
    by_cases e : x = y
    · subst e
      rw [if_pos rfl] at h1 ⊢
      exact ltL_total a b (fun q => h (by rw [q])) h1
    · rw [if_neg e] at h1
      rw [if_neg (Ne.symm e)]
      simp at h1 ⊢; omega
/-- a strict order of all -/
structure Lin {α : Type} (lt : α → α → Bool) : Prop where
  irr : ∀ a, lt a a = false
  tr : ∀ a b c, lt a b = true → lt b c = true → lt a c = true
  tot : ∀ a b, a ≠ b → lt a b = false → lt b a = true
theorem linL : Lin ltL := ⟨ltL_irrefl, ltL_trans, ltL_total⟩
def ltI (a b : Int) : Bool := decide (a < b)
theorem linI : Lin ltI := ⟨by simp [ltI], by simp [ltI]; omega, by simp [ltI]; omega⟩
def ltN (a b : Nat) : Bool := decide (a < b)
theorem linN : Lin ltN := ⟨by simp [ltN], by simp [ltN]; omega, by simp [ltN]; omega⟩
/-- of pairs, by the first parts first -/
def ltP {α β : Type} [DecidableEq α] (l1 : α → α → Bool) (l2 : β → β → Bool) (a b : α × β) : Bool := if a.1 = b.1 then l2 a.2 b.2 else l1 a.1 b.1
theorem linP {α β : Type} [DecidableEq α] {l1 : α → α → Bool} {l2 : β → β → Bool} (h1 : Lin l1) (h2 : Lin l2) : Lin (ltP l1 l2) := by
  refine ⟨fun a => by simp [ltP, h2.irr], ?_, ?_⟩
  · rintro ⟨a, a'⟩ ⟨b, b'⟩ ⟨c, c'⟩ p q
    simp only [ltP] at p q ⊢
    by_cases e1 : a = b
    · subst e1
      rw [if_pos rfl] at p
      by_cases e2 : a = c
      · subst e2; rw [if_pos rfl] at q ⊢; exact h2.tr _ _ _ p q
      · rw [if_neg e2] at q ⊢; exact q
    · rw [if_neg e1] at p
      by_cases e2 : b = c
      · subst e2; rw [if_neg e1]; exact p
      · rw [if_neg e2] at q
        have := h1.tr _ _ _ p q
        rw [if_neg (by rintro rfl; rw [h1.irr] at this; cases this)]
        exact this
  · rintro ⟨a, a'⟩ ⟨b, b'⟩ ne p
    simp only [ltP] at p ⊢
    by_cases e1 : a = b
    · subst e1
      rw [if_pos rfl] at p ⊢
      exact h2.tot _ _ (fun q => ne (by rw [q])) p
    · rw [if_neg e1] at p
      rw [if_neg (Ne.symm e1)]
      exact h1.tot _ _ e1 p
section
variable {α : Type} {lt : α → α → Bool}
/-- sorted lists with the same members are the same -/
theorem sorted_eq (L : Lin lt) : ∀ {xs ys : List α}, xs.Pairwise (fun a b => lt a b = true) → ys.Pairwise (fun a b => lt a b = true) → (∀ x, x ∈ xs ↔ x ∈ ys) → xs = ys
  | [], [], _, _, _ => rfl
  | [], y :: r, _, _, h => absurd ((h y).mpr (by simp)) (by simp)
  | x :: r, [], _, _, h => absurd ((h x).mp (by simp)) (by simp)
  | x :: xs, y :: ys, p, q, h => by
    obtain ⟨p1, p2⟩ := List.pairwise_cons.mp p
    obtain ⟨q1, q2⟩ := List.pairwise_cons.mp q
    have nx : ∀ {a b : α}, lt a b = true → lt b a = true → False := fun {a b} u v => by have := L.tr _ _ _ u v; rw [L.irr] at this; cases this
    have e : x = y := by
      rcases List.mem_cons.mp ((h x).mp (by simp)) with e | e
      · exact e
      · rcases List.mem_cons.mp ((h y).mpr (by simp)) with f | f
        · exact f.symm
        · exact (nx (q1 x e) (p1 y f)).elim
    subst e
    rw [sorted_eq L p2 q2 fun z => ?_]
    constructor
    · intro hz
      rcases List.mem_cons.mp ((h z).mp (by simp [hz])) with f | f
      · subst f; exact (nx (p1 _ hz) (p1 _ hz)).elim
      · exact f
    · intro hz
      rcases List.mem_cons.mp ((h z).mpr (by simp [hz])) with f | f
      · subst f; exact (nx (q1 _ hz) (q1 _ hz)).elim
      · exact f
def ins (lt : α → α → Bool) (x : α) : List α → List α
  | [] => [x]
  | y :: r => if lt y x then y :: ins lt x r else x :: y :: r
def isort (lt : α → α → Bool) : List α → List α
  | [] => []
  | x :: r => ins lt x (isort lt r)
theorem mem_ins {x z : α} : ∀ {l : List α}, z ∈ ins lt x l ↔ z = x ∨ z ∈ l
  | [] => by simp [ins]
  | y :: r => by
    simp only [ins]
    split
    · rw [List.mem_cons, mem_ins, List.mem_cons]
      exact ⟨fun h => h.elim (fun e => .inr (.inl e)) (fun h => h.elim .inl (fun e => .inr (.inr e))), fun h => h.elim (fun e => .inr (.inl e)) (fun h => h.elim .inl (fun e => .inr (.inr e)))⟩
    · rw [List.mem_cons]
theorem mem_isort {z : α} : ∀ {l : List α}, z ∈ isort lt l ↔ z ∈ l
  | [] => by simp [isort]
  | y :: r => by rw [isort, mem_ins, mem_isort, List.mem_cons]
theorem len_ins {x : α} : ∀ {l : List α}, (ins lt x l).length = l.length + 1
  | [] => rfl
  | y :: r => by
    simp only [ins]
    split
    · rw [List.length_cons, len_ins, List.length_cons]
    · rfl
theorem len_isort : ∀ {l : List α}, (isort lt l).length = l.length
  | [] => rfl
  | y :: r => by rw [isort, len_ins, len_isort, List.length_cons]
theorem ins_sorted (L : Lin lt) {x : α} : ∀ {l : List α}, l.Pairwise (fun a b => lt a b = true) → x ∉ l → (ins lt x l).Pairwise (fun a b => lt a b = true)
  | [], _, _ => by simp [ins]
  | y :: r, p, nx => by
    obtain ⟨p1, p2⟩ := List.pairwise_cons.mp p
    simp only [ins]
    split
    · rename_i e
      refine List.pairwise_cons.mpr ⟨fun z hz => ?_, ins_sorted L p2 fun q => nx (by simp [q])⟩
      rcases mem_ins.mp hz with rfl | hz
      · exact e
      · exact p1 z hz
    · rename_i e
      have e' : lt x y = true := L.tot y x (fun q => nx (by simp [q])) (by simpa using e)
      refine List.pairwise_cons.mpr ⟨fun z hz => ?_, p⟩
      rcases List.mem_cons.mp hz with rfl | hz
      · exact e'
      · exact L.tr _ _ _ e' (p1 z hz)
theorem isort_sorted (L : Lin lt) : ∀ {l : List α}, l.Nodup → (isort lt l).Pairwise (fun a b => lt a b = true)
  | [], _ => by simp [isort]
  | y :: r, n => by
    obtain ⟨n1, n2⟩ := List.nodup_cons.mp n
    exact ins_sorted L (isort_sorted L n2) fun q => n1 (mem_isort.mp q)
theorem isort_eq (L : Lin lt) {xs ys : List α} (n : xs.Nodup) (p : ys.Pairwise (fun a b => lt a b = true)) (h : ∀ x, x ∈ xs ↔ x ∈ ys) : isort lt xs = ys :=
  sorted_eq L (isort_sorted L n) p fun x => mem_isort.trans (h x)
theorem sortD_enc (enc : α → D) (he : ∀ a b, D.lt (enc a) (enc b) = lt a b) : ∀ xs : List α, sortD (xs.map enc) = (isort lt xs).map enc := by
  have hi : ∀ (x : α) (l : List α), insD (enc x) (l.map enc) = (ins lt x l).map enc := by
    intro x l
    induction l with
    | nil => rfl
    | cons y r ih =>
      simp only [List.map_cons, insD, ins, he]
      split <;> simp [ih]
  intro xs
  induction xs with
  | nil => rfl
  | cons x r ih => simp only [List.map_cons, sortD, isort, ih, hi]
theorem nodup_of_sorted (L : Lin lt) {xs : List α} (p : xs.Pairwise (fun a b => lt a b = true)) : xs.Nodup :=
  p.imp fun {a b} h e => by subst e; rw [L.irr] at h; cases h
end
/-! ### sorted(set(..)) -/
theorem mem_insS {x z : List Nat} : ∀ {l : List (List Nat)}, z ∈ insS x l ↔ z = x ∨ z ∈ l
  | [] => by simp [insS]
  | y :: r => by
    simp only [insS]
    split
    · rw [List.mem_cons, mem_insS, List.mem_cons]
      exact ⟨fun h => h.elim (fun e => .inr (.inl e)) (fun h => h.elim .inl (fun e => .inr (.inr e))), fun h => h.elim (fun e => .inr (.inl e)) (fun h => h.elim .inl (fun e => .inr (.inr e)))⟩
    · split
      · rename_i e; subst e; simp
      · rw [List.mem_cons]
theorem mem_sset {z : List Nat} : ∀ {l : List (List Nat)}, z ∈ ssetS l ↔ z ∈ l
  | [] => by simp [ssetS]
  | y :: r => by rw [ssetS, mem_insS, mem_sset, List.mem_cons]
theorem insS_sorted {x : List Nat} : ∀ {l : List (List Nat)}, l.Pairwise (fun a b => ltL a b = true) → (insS x l).Pairwise (fun a b => ltL a b = true)
  | [], _ => by simp [insS]
  | y :: r, p => by
    obtain ⟨p1, p2⟩ := List.pairwise_cons.mp p
    simp only [insS]
    split
    · rename_i e
      refine List.pairwise_cons.mpr ⟨fun z hz => ?_, insS_sorted p2⟩
      rcases mem_insS.mp hz with rfl | hz
      · exact e
      · exact p1 z hz
    · rename_i e
      split
      · exact p
      · rename_i ne
        have e' : ltL x y = true := ltL_total y x (fun q => ne q.symm) (by simpa using e)
        refine List.pairwise_cons.mpr ⟨fun z hz => ?_, p⟩
        rcases List.mem_cons.mp hz with rfl | hz
        · exact e'
        · exact ltL_trans _ _ _ e' (p1 z hz)
theorem sset_sorted : ∀ l : List (List Nat), (ssetS l).Pairwise (fun a b => ltL a b = true)
  | [] => by simp [ssetS]
  | y :: r => insS_sorted (sset_sorted r)
theorem len_insS {x : List Nat} : ∀ {l : List (List Nat)}, (insS x l).length ≤ l.length + 1
  | [] => by simp [insS]
  | y :: r => by
    simp only [insS]
    split
    · have := len_insS (x := x) (l := r); simp; omega
    · split <;> simp
theorem len_sset : ∀ {l : List (List Nat)}, (ssetS l).length ≤ l.length
  | [] => by simp [ssetS]
  | y :: r => by have := len_insS (x := y) (l := ssetS r); have := len_sset (l := r); simp only [ssetS, List.length_cons]; omega
end Ls
/-! The small language's values and heaps beside the hand layer's. -/
namespace Ls
open PySem PySem.Spec PyProof.Rows L2
/-- a tuple: tracked -/
def Tp (_K : PySem.W.Frag) (H : Hp) (a : Addr) (vs : List V) : Prop := H a = some (.tup vs)
theorem Tp.sq {K : PySem.W.Frag} {H : Hp} {a : Addr} {vs : List V} (h : Tp K H a vs) : SqT K H a vs := .inl (.inl h)
/-- a list that does not change -/
def Fz (F : Addr → Prop) (H : Hp) (a : Addr) (vs : List V) : Prop := H a = some (.lst vs) ∧ ¬ F a
theorem Fz.sq {K : PySem.W.Frag} {F : Addr → Prop} {H : Hp} {a : Addr} {vs : List V} (h : Fz F H a vs) : SqL K H a vs := .inl (.inl h.1)
/-- a list to be read that the text has not made: tracked, or one of the module's own -/
def Ro (K : PySem.W.Frag) (F : Addr → Prop) (H : Hp) (a : Addr) (vs : List V) : Prop := (Rd H a (.lst vs) ∧ ¬ F a) ∨ SqL K (fun _ => none) a vs
theorem Ro.sq {K : PySem.W.Frag} {F : Addr → Prop} {H : Hp} {a : Addr} {vs : List V} (x : Ro K F H a vs) : SqL K H a vs := by
  rcases x with x | (x | ⟨_, x⟩) | x
  · exact .inl x.1
  · cases x
  · cases x
  · exact .inr x
theorem Ro.anti {K : PySem.W.Frag} {F F' : Addr → Prop} {H : Hp} {a : Addr} {vs : List V} (k : ∀ a, F' a → F a) (x : Ro K F H a vs) : Ro K F' H a vs := x.imp (fun z => ⟨z.1, fun q => z.2 (k a q)⟩) id
/-- a tuple of the text's own constants -/
def Rt (K : PySem.W.Frag) (a : Addr) (vs : List V) : Prop := SqT K (fun _ => none) a vs
theorem Rt.sq {K : PySem.W.Frag} {H : Hp} {a : Addr} {vs : List V} (x : Rt K a vs) : SqT K H a vs := by
  rcases x with (x | ⟨_, x⟩) | x
  · cases x
  · cases x
  · exact .inr x
/-- the classes with slots, by number -/
def clsN : Nat → Str
  | 0 => "Program"
  | _ => ""
/-- an instance that does not change -/
structure Ob (K : PySem.W.Frag) (F : Addr → Prop) (H : Hp) (a : Addr) (c : Nat) (vs : List V) : Prop where
  ex : ∃ C dx, PySem.W.nsIn K mainGlobals (clsN c) = some (some (.ref C)) ∧ H a = some (SlX.SlO a C dx (vs.map some)) ∧ H dx = some (.xd []) ∧ ¬ F a ∧ ¬ F dx
theorem Ob.anti {K : PySem.W.Frag} {F F' : Addr → Prop} {H : Hp} {a : Addr} {c : Nat} {vs : List V} (k : ∀ a, F' a → F a) (x : Ob K F H a c vs) : Ob K F' H a c vs := by
  obtain ⟨C, dx, h1, h2, h3, h4, h5⟩ := x.ex
  exact ⟨C, dx, h1, h2, h3, fun q => h4 (k a q), fun q => h5 (k dx q)⟩
/-- keys as the hand layer has them -/
def kyA : Key → Sum Int (List Nat)
  | .inl i => .inl i
  | .inr s => .inr s.cps.toList
def kyK : Key → Ky
  | .inl i => .ki i
  | .inr s => .ks s.cps.toList
def kyT (l : List Key) : Ky := .kt (l.map kyA)
/-- a dict: int and text keys, or (t) tuples of such -/
def Dh (H : Hp) (a : Addr) : Bool → List (Ky × V) → Prop
  | false, ws => ∃ kvs, H a = some (.dK kvs) ∧ ws = kvs.map fun p => (kyK p.1, p.2)
  | true, ws => ∃ kvs, H a = some (.dT kvs) ∧ ws = kvs.map fun p => (kyT p.1, p.2)
/-- .. that does not change -/
def Dz (F : Addr → Prop) (H : Hp) (a : Addr) (t : Bool) (ws : List (Ky × V)) : Prop := Dh H a t ws ∧ ¬ F a
/-- is a list or a dict -/
def Chg : HO → Prop
  | .lst _ => True
  | .dK _ => True
  | .dT _ => True
  | _ => False
theorem Dh.at_ {H : Hp} {a : Addr} {t : Bool} {ws : List (Ky × V)} (x : Dh H a t ws) : ∃ o, H a = some o ∧ Chg o ∧ ∀ H' : Hp, H' a = some o → Dh H' a t ws := by
  cases t with
  | false => obtain ⟨kvs, e, q⟩ := x; exact ⟨_, e, trivial, fun H' e' => ⟨kvs, e', q⟩⟩
  | true => obtain ⟨kvs, e, q⟩ := x; exact ⟨_, e, trivial, fun H' e' => ⟨kvs, e', q⟩⟩
/-- the program's exception classes, by number -/
def exS : Nat → Str
  | 0 => "NoLine"
  | 1 => "NoPlace"
  | 2 => "NoStream"
  | 3 => "NoNumber"
  | 4 => "BadText"
  | 5 => "NoLeaf"
  | 6 => "OtherLines"
  | 7 => "OtherWrites"
  | 8 => "NothingDone"
  | 9 => "NoRun"
  | 10 => "NoOutput"
  | 11 => "NoStart"
  | 12 => "NoWish"
  | 13 => "NoSpot"
  | 14 => "NoPlan"
  | 15 => "NoFrame"
  | 16 => "Outside"
  | 17 => "BadLine"
  | 18 => "Stopped"
  | _ => ""
/-- a name by its signs -/
def sgS (l : List Nat) : Str := ⟨l.toArray⟩
/-- a caught exception, as it lies -/
def xO (a : Addr) (cls : Value) (d : Option Addr) : HO := .ext fun h => ∃ oe, h.get? a = some oe ∧ Zc cls d oe ∧ ∃ vs, oe.data = .fields vs
/-- its dict -/
def XD (F : Addr → Prop) (H : Hp) (fs : List (List Nat)) (d : Option Addr) (vs : List V) : Prop :=
  (fs = [] ∧ d = none ∧ vs = []) ∨ ∃ dd, fs ≠ [] ∧ d = some dd ∧ H dd = some (.xd ((fs.map sgS).zip vs)) ∧ ¬ F dd ∧ vs.length = fs.length
/-- an exception, its class and its dict -/
structure Xc (K : PySem.W.Frag) (F : Addr → Prop) (H : Hp) (c : Nat) (cls : Value) (d : Option Addr) (vs : List V) : Prop where
  at0 : ∃ C, PySem.W.nsIn K mainGlobals (exS c) = some (some (.ref C)) ∧ cls = .ref C
  dx : XD F H (exF c) d vs
structure Xo (K : PySem.W.Frag) (F : Addr → Prop) (H : Hp) (a : Addr) (c : Nat) (vs : List V) : Prop where
  ex : ∃ cls d, Xc K F H c cls d vs ∧ H a = some (xO a cls d) ∧ ¬ F a
/-- what lies where these lie -/
theorem Xc.move {K : PySem.W.Frag} {F F' : Addr → Prop} {H H' : Hp} {c : Nat} {cls : Value} {d : Option Addr} {vs : List V} (k : ∀ b o, H b = some o → ¬ F b → ¬ Chg o → H' b = some o ∧ ¬ F' b) (x : Xc K F H c cls d vs) : Xc K F' H' c cls d vs := by
  obtain ⟨h1, h2⟩ := x
  refine ⟨h1, ?_⟩
  rcases h2 with h2 | ⟨dd, f, e, h3, h4, h5⟩
  · exact .inl h2
  · obtain ⟨q1, q2⟩ := k dd _ h3 h4 (fun z => z)
    exact .inr ⟨dd, f, e, q1, q2, h5⟩
theorem Xo.move {K : PySem.W.Frag} {F F' : Addr → Prop} {H H' : Hp} {a : Addr} {c : Nat} {vs : List V} (k : ∀ b o, H b = some o → ¬ F b → ¬ Chg o → H' b = some o ∧ ¬ F' b) (x : Xo K F H a c vs) : Xo K F' H' a c vs := by
  obtain ⟨cls, d, h1, h2, h3⟩ := x.ex
  obtain ⟨q1, q2⟩ := k a _ h2 h3 (fun z => z)
  exact ⟨cls, d, h1.move k, q1, q2⟩
section
variable (K : PySem.W.Frag) (F : Addr → Prop) (μ : List Addr) (H : Hp)
mutual
/-- a value of the small language is this value -/
def RV : D → V → Prop
  | .non, v => v = .non
  | .bl b, v => v = .bl b
  | .int i, v => v = .int i
  | .str s, v => v = .str ⟨s.toArray⟩
  | .tup xs, v => ∃ a vs, v = .ref a ∧ Tp K H a vs ∧ RVs xs vs
  | .lst xs, v => ∃ a vs, v = .ref a ∧ Fz F H a vs ∧ RVs xs vs
  | .rol xs, v => ∃ a vs, v = .ref a ∧ Ro K F H a vs ∧ RVs xs vs
  | .dct t kvs, v => ∃ a ws, v = .ref a ∧ Dz F H a t ws ∧ RVk kvs ws
  | .ref n, v => ∃ a, v = .ref a ∧ μ[n]? = some a
  | .obj c xs, v => ∃ a vs, v = .ref a ∧ Ob K F H a c vs ∧ RVs xs vs
  | .rot xs, v => ∃ a vs, v = .ref a ∧ Rt K a vs ∧ RVs xs vs
  | .exn c xs, v => ∃ a vs, v = .ref a ∧ Xo K F H a c vs ∧ RVs xs vs
def RVs : List D → List V → Prop
  | [], vs => vs = []
  | x :: r, vs => ∃ v ws, vs = v :: ws ∧ RV x v ∧ RVs r ws
def RVk : List (Ky × D) → List (Ky × V) → Prop
  | [], vs => vs = []
  | (k, x) :: r, vs => ∃ v ws, vs = (k, v) :: ws ∧ RV x v ∧ RVk r ws
end
end
def Alive : O → Prop
  | .dead => False
  | _ => True
/-- what lives in the small heap -/
def Lv (μ : List Addr) (h : Hh) (a : Addr) : Prop := ∃ (n : Nat) (o : O), μ[n]? = some a ∧ h[n]? = some o ∧ Alive o
/-- what may change: here, or elsewhere (Z) -/
def Fb (Z : Addr → Prop) (μ : List Addr) (h : Hh) (a : Addr) : Prop := Z a ∨ Lv μ h a
/-- a thing of the small heap is the thing at a -/
def RO (K : PySem.W.Frag) (F : Addr → Prop) (μ : List Addr) (H : Hp) (a : Addr) : O → Prop
  | .dead => True
  | .lst xs => ∃ vs, H a = some (.lst vs) ∧ RVs K F μ H xs vs
  | .lck xs => ∃ vs, H a = some (.lst vs) ∧ RVs K F μ H xs vs
  | .dct t kvs => ∃ ws, Dh H a t ws ∧ RVk K F μ H kvs ws
  | .dlk t kvs => ∃ ws, Dh H a t ws ∧ RVk K F μ H kvs ws
structure SR (K : PySem.W.Frag) (Z : Addr → Prop) (μ : List Addr) (h : Hh) (H : Hp) : Prop where
  len : μ.length = h.length
  inj : ∀ (n m : Nat) (a : Addr) (o o' : O), μ[n]? = some a → μ[m]? = some a → h[n]? = some o → h[m]? = some o' → Alive o → Alive o' → n = m
  nz : ∀ a, Lv μ h a → ¬ Z a
  zs : ∀ a, Z a → ∃ o, H a = some o
  obj : ∀ (n : Nat) (a : Addr) (o : O), μ[n]? = some a → h[n]? = some o → RO K (Fb Z μ h) μ H a o
structure Stp (μ : List Addr) (h : Hh) (H : Hp) (μ' : List Addr) (h' : Hh) (H' : Hp) : Prop where
  pre : ∃ ν, μ' = μ ++ ν ∧ ∀ a ∈ ν, H a = none
  hl : h.length ≤ h'.length
  dead : ∀ n : Nat, h[n]? = some O.dead → h'[n]? = some O.dead
  lck : ∀ (n : Nat) (xs : List D), h[n]? = some (O.lck xs) → h'[n]? = some (O.lck xs)
  dlk : ∀ (n : Nat) (t : Bool) (xs : List (Ky × D)), h[n]? = some (O.dlk t xs) → h'[n]? = some (O.dlk t xs)
  dom : ∀ a o, H a = some o → ∃ o', H' a = some o'
  frm : ∀ a o, H a = some o → ¬ Lv μ h a → H' a = some o
section
variable {K : PySem.W.Frag} {Z : Addr → Prop} {μ μ1 μ2 μ' : List Addr} {h h1 h2 h' : Hh} {H H1 H2 H' : Hp}
theorem Stp.refl : Stp μ h H μ h H :=
  ⟨⟨[], by simp, by simp⟩, Nat.le_refl _, fun _ e => e, fun _ _ e => e, fun _ _ _ e => e, fun _ o e => ⟨o, e⟩, fun _ _ e _ => e⟩
theorem Stp.ix (t : Stp μ h H μ' h' H') {n : Nat} {a : Addr} (e : μ[n]? = some a) : μ'[n]? = some a := by
  obtain ⟨ν, rfl, _⟩ := t.pre
  rw [List.getElem?_append_left (List.getElem?_eq_some_iff.mp e).1]
  exact e
theorem Alive.of_not_dead {o : O} (h : o ≠ .dead) : Alive o := by
  cases o with
  | dead => exact h rfl
  | lst _ => trivial
  | lck _ => trivial
  | dct _ _ => trivial
  | dlk _ _ => trivial
/-- what stood there and was not alive is not alive behind it -/
theorem Stp.notLv (t : Stp μ h H μ' h' H') (len : μ.length = h.length) {a : Addr} {o : HO} (e : H a = some o) (n : ¬ Lv μ h a) : ¬ Lv μ' h' a := by
  rintro ⟨k, u, q1, q2, q3⟩
  obtain ⟨ν, rfl, hν⟩ := t.pre
  by_cases hk : k < μ.length
  · rw [List.getElem?_append_left hk] at q1
    have hk' : k < h.length := by omega
    obtain ⟨u0, e0⟩ : ∃ u0, h[k]? = some u0 := ⟨h[k], List.getElem?_eq_getElem hk'⟩
    refine n ⟨k, u0, q1, e0, Alive.of_not_dead ?_⟩
    rintro rfl
    have := t.dead k e0
    rw [q2] at this; cases this
    exact q3
  · rw [List.getElem?_append_right (by omega)] at q1
    have := hν a (List.mem_of_getElem? q1)
    rw [e] at this; cases this
theorem Stp.trans (len : μ.length = h.length) (a : Stp μ h H μ1 h1 H1) (b : Stp μ1 h1 H1 μ2 h2 H2) : Stp μ h H μ2 h2 H2 := by
  refine ⟨?_, Nat.le_trans a.hl b.hl, fun n e => b.dead n (a.dead n e), fun n xs e => b.lck n xs (a.lck n xs e), fun n t xs e => b.dlk n t xs (a.dlk n t xs e), fun c o e => ?_, fun c o e n => b.frm c o (a.frm c o e n) (a.notLv len e n)⟩
  · obtain ⟨ν, rfl, hν⟩ := a.pre
    obtain ⟨ν', rfl, hν'⟩ := b.pre
    refine ⟨ν ++ ν', by rw [List.append_assoc], fun c hc => ?_⟩
    rcases List.mem_append.mp hc with hc | hc
    · exact hν c hc
    · cases e : H c with
      | none => rfl
      | some o =>
        obtain ⟨o', e'⟩ := a.dom c o e
        rw [hν' c hc] at e'; cases e'
  · obtain ⟨o', e'⟩ := a.dom c o e
    exact b.dom c o' e'
/-! what stays -/
theorem SR.notLvT (S : SR K Z μ h H) {a : Addr} {u : HO} (e : H a = some u) (k : ¬ Chg u) : ¬ Lv μ h a := by
  rintro ⟨n, o, q1, q2, q3⟩
  have ob := S.obj n a o q1 q2
  have no : ∀ w, H a = some w → ¬ Chg w := fun w q => by rw [e] at q; cases q; exact k
  cases o with
  | dead => exact q3
  | lst xs => exact ob.elim fun vs q => no _ q.1 trivial
  | lck xs => exact ob.elim fun vs q => no _ q.1 trivial
  | dct _ _ => exact ob.elim fun vs q => let ⟨w, e1, e2, _⟩ := q.1.at_; no w e1 e2
  | dlk _ _ => exact ob.elim fun vs q => let ⟨w, e1, e2, _⟩ := q.1.at_; no w e1 e2
theorem Tp.mono (S : SR K Z μ h H) (t : Stp μ h H μ' h' H') {a : Addr} {vs : List V} (x : Tp K H a vs) : Tp K H' a vs :=
  t.frm a _ x (S.notLvT x fun z => z)
theorem Fz.mono (S : SR K Z μ h H) (t : Stp μ h H μ' h' H') {a : Addr} {vs : List V} (x : Fz (Fb Z μ h) H a vs) : Fz (Fb Z μ' h') H' a vs := by
  have n1 : ¬ Lv μ h a := fun q => x.2 (.inr q)
  exact ⟨t.frm a _ x.1 n1, fun q => q.elim (fun z => x.2 (.inl z)) (t.notLv S.len x.1 n1)⟩
theorem Ro.mono (S : SR K Z μ h H) (t : Stp μ h H μ' h' H') {a : Addr} {vs : List V} (x : Ro K (Fb Z μ h) H a vs) : Ro K (Fb Z μ' h') H' a vs := by
  rcases x with ⟨e, n⟩ | x
  · have n1 : ¬ Lv μ h a := fun q => n (.inr q)
    have out : ∀ {u : HO}, H a = some u → ¬ Fb Z μ' h' a := fun e q => q.elim (fun z => n (.inl z)) (t.notLv S.len e n1)
    rcases e with e | ⟨o, e⟩
    · exact .inl ⟨.inl (t.frm a _ e n1), out e⟩
    · exact .inl ⟨.inr ⟨o, t.frm a _ e n1⟩, out e⟩
  · exact .inr x
theorem Ob.mono (S : SR K Z μ h H) (t : Stp μ h H μ' h' H') {a : Addr} {c : Nat} {vs : List V} (x : Ob K (Fb Z μ h) H a c vs) : Ob K (Fb Z μ' h') H' a c vs := by
  obtain ⟨C, dx, h1, h2, h3, h4, h5⟩ := x.ex
  have n1 : ¬ Lv μ h a := fun q => h4 (.inr q)
  have n2 : ¬ Lv μ h dx := fun q => h5 (.inr q)
  exact ⟨C, dx, h1, t.frm a _ h2 n1, t.frm dx _ h3 n2, fun q => q.elim (fun z => h4 (.inl z)) (t.notLv S.len h2 n1), fun q => q.elim (fun z => h5 (.inl z)) (t.notLv S.len h3 n2)⟩
theorem Dz.mono (S : SR K Z μ h H) (t : Stp μ h H μ' h' H') {a : Addr} {tt : Bool} {ws : List (Ky × V)} (x : Dz (Fb Z μ h) H a tt ws) : Dz (Fb Z μ' h') H' a tt ws := by
  obtain ⟨o, e, _, mk⟩ := x.1.at_
  have n1 : ¬ Lv μ h a := fun q => x.2 (.inr q)
  exact ⟨mk _ (t.frm a _ e n1), fun q => q.elim (fun z => x.2 (.inl z)) (t.notLv S.len e n1)⟩
theorem keepN (S : SR K Z μ h H) (t : Stp μ h H μ' h' H') : ∀ b o, H b = some o → ¬ Fb Z μ h b → ¬ Chg o → H' b = some o ∧ ¬ Fb Z μ' h' b := fun b o e n _ =>
  have n1 : ¬ Lv μ h b := fun q => n (.inr q)
  ⟨t.frm b _ e n1, fun q => q.elim (fun z => n (.inl z)) (t.notLv S.len e n1)⟩
mutual
theorem RV.mono (S : SR K Z μ h H) (t : Stp μ h H μ' h' H') : ∀ (d : D) (v : V), RV K (Fb Z μ h) μ H d v → RV K (Fb Z μ' h') μ' H' d v
  | .non, v, x => by simpa only [RV] using x
  | .bl _, v, x => by simpa only [RV] using x
  | .int _, v, x => by simpa only [RV] using x
  | .str _, v, x => by simpa only [RV] using x
  | .tup xs, v, x => by
    rw [RV] at x ⊢
    obtain ⟨a, vs, e, tp, r⟩ := x
    exact ⟨a, vs, e, tp.mono S t, RVs.mono S t xs vs r⟩
  | .lst xs, v, x => by
    rw [RV] at x ⊢
    obtain ⟨a, vs, e, tp, r⟩ := x
    exact ⟨a, vs, e, tp.mono S t, RVs.mono S t xs vs r⟩
  | .rol xs, v, x => by
    rw [RV] at x ⊢
    obtain ⟨a, vs, e, tp, r⟩ := x
    exact ⟨a, vs, e, tp.mono S t, RVs.mono S t xs vs r⟩
  | .dct _ kvs, v, x => by
    rw [RV] at x ⊢
    obtain ⟨a, ws, e, tp, r⟩ := x
    exact ⟨a, ws, e, tp.mono S t, RVk.mono S t kvs ws r⟩
  | .ref n, v, x => by
    rw [RV] at x ⊢
    obtain ⟨a, e, q⟩ := x
    exact ⟨a, e, t.ix q⟩
  | .obj _ xs, v, x => by
    rw [RV] at x ⊢
    obtain ⟨a, vs, e, o, r⟩ := x
    exact ⟨a, vs, e, o.mono S t, RVs.mono S t xs vs r⟩
  | .rot xs, v, x => by
    rw [RV] at x ⊢
    obtain ⟨a, vs, e, o, r⟩ := x
    exact ⟨a, vs, e, o, RVs.mono S t xs vs r⟩
  | .exn _ xs, v, x => by
    rw [RV] at x ⊢
    obtain ⟨a, vs, e, o, r⟩ := x
    exact ⟨a, vs, e, o.move (keepN S t), RVs.mono S t xs vs r⟩
theorem RVs.mono (S : SR K Z μ h H) (t : Stp μ h H μ' h' H') : ∀ (xs : List D) (vs : List V), RVs K (Fb Z μ h) μ H xs vs → RVs K (Fb Z μ' h') μ' H' xs vs
  | [], vs, x => by simpa only [RVs] using x
  | d :: r, vs, x => by
    rw [RVs] at x ⊢
    obtain ⟨v, ws, e, p, q⟩ := x
    exact ⟨v, ws, e, RV.mono S t d v p, RVs.mono S t r ws q⟩
theorem RVk.mono (S : SR K Z μ h H) (t : Stp μ h H μ' h' H') : ∀ (xs : List (Ky × D)) (vs : List (Ky × V)), RVk K (Fb Z μ h) μ H xs vs → RVk K (Fb Z μ' h') μ' H' xs vs
  | [], vs, x => by simpa only [RVk] using x
  | (k, d) :: r, vs, x => by
    rw [RVk] at x ⊢
    obtain ⟨v, ws, e, p, q⟩ := x
    exact ⟨v, ws, e, RV.mono S t d v p, RVk.mono S t r ws q⟩
end
end
section
variable {K : PySem.W.Frag} {F : Addr → Prop} {μ : List Addr} {H : Hp}
theorem RVs.nil {vs : List V} : RVs K F μ H [] vs ↔ vs = [] := by rw [RVs]
theorem RVs.cons {x : D} {r : List D} {vs : List V} : RVs K F μ H (x :: r) vs ↔ ∃ v ws, vs = v :: ws ∧ RV K F μ H x v ∧ RVs K F μ H r ws := by rw [RVs]
theorem RVs.mk {x : D} {r : List D} {v : V} {ws : List V} (p : RV K F μ H x v) (q : RVs K F μ H r ws) : RVs K F μ H (x :: r) (v :: ws) := RVs.cons.mpr ⟨v, ws, rfl, p, q⟩
theorem RVs.len : ∀ {xs : List D} {vs : List V}, RVs K F μ H xs vs → xs.length = vs.length
  | [], vs, x => by rw [RVs.nil] at x; subst x; rfl
  | d :: r, vs, x => by
    obtain ⟨v, ws, rfl, _, q⟩ := RVs.cons.mp x
    simp only [List.length_cons, RVs.len q]
theorem RVs.app : ∀ {xs ys : List D} {vs ws : List V}, RVs K F μ H xs vs → RVs K F μ H ys ws → RVs K F μ H (xs ++ ys) (vs ++ ws)
  | [], ys, vs, ws, x, y => by rw [RVs.nil] at x; subst x; exact y
  | d :: r, ys, vs, ws, x, y => by
    obtain ⟨v, us, rfl, p, q⟩ := RVs.cons.mp x
    exact RVs.mk p (RVs.app q y)
theorem RVs.get : ∀ {xs : List D} {vs : List V} {i : Nat} {d : D}, RVs K F μ H xs vs → xs[i]? = some d → ∃ v, vs[i]? = some v ∧ RV K F μ H d v
  | [], vs, i, d, x, e => by simp at e
  | y :: r, vs, 0, d, x, e => by
    obtain ⟨v, us, rfl, p, q⟩ := RVs.cons.mp x
    simp only [List.getElem?_cons_zero, Option.some.injEq] at e
    subst e
    exact ⟨v, rfl, p⟩
  | y :: r, vs, i + 1, d, x, e => by
    obtain ⟨v, us, rfl, p, q⟩ := RVs.cons.mp x
    simp only [List.getElem?_cons_succ] at e ⊢
    exact RVs.get q e
theorem RVs.get' : ∀ {xs : List D} {vs : List V} {i : Nat} {v : V}, RVs K F μ H xs vs → vs[i]? = some v → ∃ d, xs[i]? = some d ∧ RV K F μ H d v
  | [], vs, i, d, x, e => by rw [RVs.nil] at x; subst x; simp at e
  | y :: r, vs, 0, d, x, e => by
    obtain ⟨v, us, rfl, p, q⟩ := RVs.cons.mp x
    simp only [List.getElem?_cons_zero, Option.some.injEq] at e
    subst e
    exact ⟨y, rfl, p⟩
  | y :: r, vs, i + 1, d, x, e => by
    obtain ⟨v, us, rfl, p, q⟩ := RVs.cons.mp x
    simp only [List.getElem?_cons_succ] at e ⊢
    exact RVs.get' q e
theorem RVs.take : ∀ {xs : List D} {vs : List V} (n : Nat), RVs K F μ H xs vs → RVs K F μ H (xs.take n) (vs.take n)
  | _, _, 0, _ => by simp [RVs.nil]
  | [], vs, n + 1, x => by rw [RVs.nil] at x; subst x; simp [RVs.nil]
  | d :: r, vs, n + 1, x => by
    obtain ⟨v, us, rfl, p, q⟩ := RVs.cons.mp x
    exact RVs.mk p (RVs.take n q)
theorem RVs.drop : ∀ {xs : List D} {vs : List V} (n : Nat), RVs K F μ H xs vs → RVs K F μ H (xs.drop n) (vs.drop n)
  | _, _, 0, x => x
  | [], vs, n + 1, x => by rw [RVs.nil] at x; subst x; simp [RVs.nil]
  | d :: r, vs, n + 1, x => by
    obtain ⟨v, us, rfl, p, q⟩ := RVs.cons.mp x
    exact RVs.drop n q
theorem RVs.set : ∀ {xs : List D} {vs : List V} {d : D} {v : V} (n : Nat), RVs K F μ H xs vs → RV K F μ H d v → RVs K F μ H (xs.set n d) (vs.set n v)
  | [], vs, d, v, n, x, y => by rw [RVs.nil] at x; subst x; simp [RVs.nil]
  | a :: r, vs, d, v, 0, x, y => by
    obtain ⟨w, us, rfl, p, q⟩ := RVs.cons.mp x
    exact RVs.mk y q
  | a :: r, vs, d, v, n + 1, x, y => by
    obtain ⟨w, us, rfl, p, q⟩ := RVs.cons.mp x
    exact RVs.mk p (RVs.set n q y)
theorem RVs.erase : ∀ {xs : List D} {vs : List V} (n : Nat), RVs K F μ H xs vs → RVs K F μ H (xs.eraseIdx n) (vs.eraseIdx n)
  | [], vs, n, x => by rw [RVs.nil] at x; subst x; simp [RVs.nil]
  | a :: r, vs, 0, x => by
    obtain ⟨w, us, rfl, p, q⟩ := RVs.cons.mp x
    exact q
  | a :: r, vs, n + 1, x => by
    obtain ⟨w, us, rfl, p, q⟩ := RVs.cons.mp x
    exact RVs.mk p (RVs.erase n q)
theorem RVs.dropLast {xs : List D} {vs : List V} (x : RVs K F μ H xs vs) : RVs K F μ H xs.dropLast vs.dropLast := by
  rw [List.dropLast_eq_take, List.dropLast_eq_take, x.len]
  exact x.take _
theorem RVs.rev : ∀ {xs : List D} {vs : List V}, RVs K F μ H xs vs → RVs K F μ H xs.reverse vs.reverse
  | [], vs, x => by rw [RVs.nil] at x; subst x; simp [RVs.nil]
  | a :: r, vs, x => by
    obtain ⟨w, us, rfl, p, q⟩ := RVs.cons.mp x
    rw [List.reverse_cons, List.reverse_cons]
    exact RVs.app (RVs.rev q) (RVs.mk p (RVs.nil.mpr rfl))
theorem RVs.repl {xs : List D} {vs : List V} (x : RVs K F μ H xs vs) : ∀ n : Nat, RVs K F μ H (List.replicate n xs).flatten (List.replicate n vs).flatten
  | 0 => by simp [RVs.nil]
  | n + 1 => by
    rw [List.replicate_succ, List.replicate_succ, List.flatten_cons, List.flatten_cons]
    exact x.app (RVs.repl x n)
theorem RV.non {v : V} : RV K F μ H .non v ↔ v = .non := by rw [RV]
theorem RV.bl {b : Bool} {v : V} : RV K F μ H (.bl b) v ↔ v = .bl b := by rw [RV]
theorem RV.int {i : Int} {v : V} : RV K F μ H (.int i) v ↔ v = .int i := by rw [RV]
theorem RV.str {s : List Nat} {v : V} : RV K F μ H (.str s) v ↔ v = .str ⟨s.toArray⟩ := by rw [RV]
theorem RV.tup {xs : List D} {v : V} : RV K F μ H (.tup xs) v ↔ ∃ a vs, v = .ref a ∧ Tp K H a vs ∧ RVs K F μ H xs vs := by rw [RV]
theorem RV.lst {xs : List D} {v : V} : RV K F μ H (.lst xs) v ↔ ∃ a vs, v = .ref a ∧ Fz F H a vs ∧ RVs K F μ H xs vs := by rw [RV]
theorem RV.rol {xs : List D} {v : V} : RV K F μ H (.rol xs) v ↔ ∃ a vs, v = .ref a ∧ Ro K F H a vs ∧ RVs K F μ H xs vs := by rw [RV]
theorem RV.obj {c : Nat} {xs : List D} {v : V} : RV K F μ H (.obj c xs) v ↔ ∃ a vs, v = .ref a ∧ Ob K F H a c vs ∧ RVs K F μ H xs vs := by rw [RV]
theorem RV.rot {xs : List D} {v : V} : RV K F μ H (.rot xs) v ↔ ∃ a vs, v = .ref a ∧ Rt K a vs ∧ RVs K F μ H xs vs := by rw [RV]
theorem RV.ref {n : Nat} {v : V} : RV K F μ H (.ref n) v ↔ ∃ a, v = .ref a ∧ μ[n]? = some a := by rw [RV]
theorem RV.dct {t : Bool} {kvs : List (Ky × D)} {v : V} : RV K F μ H (.dct t kvs) v ↔ ∃ a ws, v = .ref a ∧ Dz F H a t ws ∧ RVk K F μ H kvs ws := by rw [RV]
theorem RV.exn {c : Nat} {xs : List D} {v : V} : RV K F μ H (.exn c xs) v ↔ ∃ a vs, v = .ref a ∧ Xo K F H a c vs ∧ RVs K F μ H xs vs := by rw [RV]
theorem RVk.nil {vs : List (Ky × V)} : RVk K F μ H [] vs ↔ vs = [] := by rw [RVk]
theorem RVk.cons {k : Ky} {x : D} {r : List (Ky × D)} {vs : List (Ky × V)} : RVk K F μ H ((k, x) :: r) vs ↔ ∃ v ws, vs = (k, v) :: ws ∧ RV K F μ H x v ∧ RVk K F μ H r ws := by rw [RVk]
theorem RVk.mk {k : Ky} {x : D} {r : List (Ky × D)} {v : V} {ws : List (Ky × V)} (p : RV K F μ H x v) (q : RVk K F μ H r ws) : RVk K F μ H ((k, x) :: r) ((k, v) :: ws) := RVk.cons.mpr ⟨v, ws, rfl, p, q⟩
theorem RVk.len : ∀ {xs : List (Ky × D)} {vs : List (Ky × V)}, RVk K F μ H xs vs → xs.length = vs.length
  | [], vs, x => by rw [RVk.nil] at x; subst x; rfl
  | (k, d) :: r, vs, x => by
    obtain ⟨v, ws, rfl, _, q⟩ := RVk.cons.mp x
    simp only [List.length_cons, RVk.len q]
end
/-- the slots -/
structure ER (K : PySem.W.Frag) (F : Addr → Prop) (μ : List Addr) (H : Hp) (ρ : Ev) (σ : L2.St) : Prop where
  len : ρ.length = σ.length
  val : ∀ (i : Nat) (d : D), ρ[i]? = some (some d) → ∃ v, σ[i]? = some (some v) ∧ RV K F μ H d v
section
variable {K : PySem.W.Frag} {Z : Addr → Prop} {μ μ1 μ2 μ' : List Addr} {h h1 h2 h' : Hh} {H H1 H2 H' : Hp} {ρ : Ev} {σ : L2.St}
theorem ER.mono (S : SR K Z μ h H) (t : Stp μ h H μ' h' H') (e : ER K (Fb Z μ h) μ H ρ σ) : ER K (Fb Z μ' h') μ' H' ρ σ :=
  ⟨e.len, fun i d q => let ⟨v, q1, q2⟩ := e.val i d q; ⟨v, q1, RV.mono S t d v q2⟩⟩
theorem ER.set {F : Addr → Prop} (e : ER K F μ H ρ σ) {d : D} {v : V} (r : RV K F μ H d v) (i : Nat) : ER K F μ H (ρ.set i (some d)) (σ.set i (some v)) := by
  refine ⟨by simp [e.len], fun j d' q => ?_⟩
  by_cases hj : i = j
  · subst hj
    by_cases hi : i < ρ.length
    · rw [List.getElem?_set_self hi] at q
      cases q
      exact ⟨v, by rw [List.getElem?_set_self (by rw [← e.len]; exact hi)], r⟩
    · rw [List.getElem?_eq_none (by simpa using hi)] at q; cases q
  · rw [List.getElem?_set_ne hj] at q ⊢
    exact e.val j d' q
theorem ER.wipe {F : Addr → Prop} (e : ER K F μ H ρ σ) : ∀ vs : List Nat, ER K F μ H (wipe ρ vs) (L2.wipe σ vs)
  | [] => e
  | v :: vs => by
    have ih := ER.wipe e vs
    refine ⟨?_, fun j d' q => ?_⟩
    · show ((Ls.wipe ρ vs).set v none).length = ((L2.wipe σ vs).set v none).length
      simp [ih.len]
    · have q' : ((Ls.wipe ρ vs).set v none)[j]? = some (some d') := q
      show ∃ w, ((L2.wipe σ vs).set v none)[j]? = some (some w) ∧ _
      by_cases hj : v = j
      · subst hj
        by_cases hi : v < (Ls.wipe ρ vs).length
        · rw [List.getElem?_set_self hi] at q'; cases q'
        · rw [List.getElem?_eq_none (by simpa using hi)] at q'; cases q'
      · rw [List.getElem?_set_ne hj] at q' ⊢
        exact ih.val j d' q'
/-! the items of a list, a tuple -/
theorem SR.itemsM (S : SR K Z μ h H) {d : D} {v : V} {xs : List D} (r : RV K (Fb Z μ h) μ H d v) (e : itemsW h d = some xs) : ∃ a vs, v = .ref a ∧ H a = some (.lst vs) ∧ RVs K (Fb Z μ h) μ H xs vs := by
  cases d with
  | lst ys =>
    simp only [itemsW, itemsL, Option.some.injEq] at e
    subst e
    obtain ⟨a, vs, e1, e2, e3⟩ := RV.lst.mp r
    exact ⟨a, vs, e1, e2.1, e3⟩
  | ref n =>
    obtain ⟨a, e1, e2⟩ := RV.ref.mp r
    simp only [itemsW, itemsL] at e
    cases q : h[n]? with
    | none => rw [q] at e; cases e
    | some o =>
      rw [q] at e
      have ob := S.obj n a o e2 q
      cases o with
      | lst ys =>
        simp only [Option.some.injEq] at e
        subst e
        obtain ⟨vs, e3, e4⟩ := ob
        exact ⟨a, vs, e1, e3, e4⟩
      | lck ys =>
        simp only [Option.some.injEq] at e
        subst e
        obtain ⟨vs, e3, e4⟩ := ob
        exact ⟨a, vs, e1, e3, e4⟩
      | dead => cases e
      | dct _ _ => cases e
      | dlk _ _ => cases e
  | non => simp [itemsW, itemsL] at e
  | bl _ => simp [itemsW, itemsL] at e
  | int _ => simp [itemsW, itemsL] at e
  | str _ => simp [itemsW, itemsL] at e
  | tup _ => simp [itemsW, itemsL] at e
  | dct _ _ => simp [itemsW, itemsL] at e
  | obj _ _ => simp [itemsW, itemsL] at e
  | rot _ => simp [itemsW, itemsL] at e
  | exn _ _ => simp [itemsW, itemsL] at e
  | rol _ => simp [itemsW] at e
theorem SR.items (S : SR K Z μ h H) {d : D} {v : V} {xs : List D} (r : RV K (Fb Z μ h) μ H d v) (e : itemsL h d = some xs) : ∃ a vs, v = .ref a ∧ SqL K H a vs ∧ RVs K (Fb Z μ h) μ H xs vs := by
  cases d with
  | rol ys =>
    simp only [itemsL, Option.some.injEq] at e
    subst e
    obtain ⟨a, vs, e1, e2, e3⟩ := RV.rol.mp r
    exact ⟨a, vs, e1, e2.sq, e3⟩
  | _ => obtain ⟨a, vs, e1, e2, e3⟩ := S.itemsM r e; exact ⟨a, vs, e1, .inl (.inl e2), e3⟩
theorem SR.itemsS (S : SR K Z μ h H) {d : D} {v : V} {xs : List D} (r : RV K (Fb Z μ h) μ H d v) (e : itemsS h d = some xs) : ∃ a vs, v = .ref a ∧ (SqL K H a vs ∨ SqT K H a vs) ∧ RVs K (Fb Z μ h) μ H xs vs := by
  cases d with
  | tup ys =>
    simp only [Ls.itemsS, Option.some.injEq] at e
    subst e
    obtain ⟨a, vs, e1, e2, e3⟩ := RV.tup.mp r
    exact ⟨a, vs, e1, .inr e2.sq, e3⟩
  | rot ys =>
    simp only [Ls.itemsS, Option.some.injEq] at e
    subst e
    obtain ⟨a, vs, e1, e2, e3⟩ := RV.rot.mp r
    exact ⟨a, vs, e1, .inr e2.sq, e3⟩
  | _ => obtain ⟨a, vs, e1, e2, e3⟩ := S.items r e; exact ⟨a, vs, e1, .inl e2, e3⟩
/-! new things -/
/-- a thing of the small heap stays what it is -/
theorem RO.move (S : SR K Z μ h H) (t : Stp μ h H μ' h' H') {a : Addr} {o : O} (k : ∀ u, H a = some u → H' a = some u) (x : RO K (Fb Z μ h) μ H a o) : RO K (Fb Z μ' h') μ' H' a o := by
  cases o with
  | dead => trivial
  | lst xs => obtain ⟨vs, e1, e2⟩ := x; exact ⟨vs, k _ e1, RVs.mono S t xs vs e2⟩
  | lck xs => obtain ⟨vs, e1, e2⟩ := x; exact ⟨vs, k _ e1, RVs.mono S t xs vs e2⟩
  | dct _ _ => obtain ⟨ws, e1, e2⟩ := x; obtain ⟨o1, f1, _, f2⟩ := e1.at_; exact ⟨ws, f2 _ (k _ f1), RVk.mono S t _ ws e2⟩
  | dlk _ _ => obtain ⟨ws, e1, e2⟩ := x; obtain ⟨o1, f1, _, f2⟩ := e1.at_; exact ⟨ws, f2 _ (k _ f1), RVk.mono S t _ ws e2⟩
/-- what lives is tracked, and a list or a dict -/
theorem RO.there {F : Addr → Prop} {a : Addr} {o : O} (x : RO K F μ H a o) (al : Alive o) : ∃ u, H a = some u ∧ Chg u := by
  cases o with
  | dead => exact al.elim
  | lst xs => obtain ⟨vs, e1, _⟩ := x; exact ⟨_, e1, trivial⟩
  | lck xs => obtain ⟨vs, e1, _⟩ := x; exact ⟨_, e1, trivial⟩
  | dct _ _ => obtain ⟨ws, e1, _⟩ := x; obtain ⟨o1, f1, f2, _⟩ := e1.at_; exact ⟨_, f1, f2⟩
  | dlk _ _ => obtain ⟨ws, e1, _⟩ := x; obtain ⟨o1, f1, f2, _⟩ := e1.at_; exact ⟨_, f1, f2⟩
/-- a new tracked thing that the small language does not change -/
theorem Stp.new {p : Addr} {o : HO} (hp : H p = none) : Stp μ h H μ h (upd H p o) :=
  ⟨⟨[], by simp, by simp⟩, Nat.le_refl _, fun _ e => e, fun _ _ e => e, fun _ _ _ e => e, fun a o' e => ⟨o', by rw [upd_ne (ne_of_none e hp)]; exact e⟩, fun a o' e _ => by rw [upd_ne (ne_of_none e hp)]; exact e⟩
theorem SR.new (S : SR K Z μ h H) {p : Addr} {o : HO} (hp : H p = none) : SR K Z μ h (upd H p o) where
  len := S.len
  inj := S.inj
  nz := S.nz
  zs := fun a q => let ⟨o', e⟩ := S.zs a q; ⟨o', by rw [upd_ne (ne_of_none e hp)]; exact e⟩
  obj := fun n a u q1 q2 => RO.move S (Stp.new hp) (fun w e => by rw [upd_ne (ne_of_none e hp)]; exact e) (S.obj n a u q1 q2)
/-- a new address is not among those that may change -/
theorem SR.fresh (S : SR K Z μ h H) {p : Addr} (hp : H p = none) : ¬ Fb Z μ h p := by
  rintro (q | ⟨n, o, q1, q2, q3⟩)
  · obtain ⟨o, e⟩ := S.zs p q; rw [hp] at e; cases e
  · obtain ⟨u, e, _⟩ := RO.there (S.obj n p o q1 q2) q3
    rw [hp] at e; cases e
theorem RV.newL (S : SR K Z μ h H) {p : Addr} {xs : List D} {vs : List V} (hp : H p = none) (r : RVs K (Fb Z μ h) μ H xs vs) : RV K (Fb Z μ h) μ (upd H p (.lst vs)) (.lst xs) (.ref p) :=
  RV.lst.mpr ⟨p, vs, rfl, ⟨upd_same, S.fresh hp⟩, RVs.mono S (Stp.new hp) xs vs r⟩
theorem RV.newT (S : SR K Z μ h H) {p : Addr} {xs : List D} {vs : List V} (hp : H p = none) (r : RVs K (Fb Z μ h) μ H xs vs) : RV K (Fb Z μ h) μ (upd H p (.tup vs)) (.tup xs) (.ref p) :=
  RV.tup.mpr ⟨p, vs, rfl, upd_same, RVs.mono S (Stp.new hp) xs vs r⟩
theorem RV.newD (S : SR K Z μ h H) {p : Addr} {u : HO} {t : Bool} {xs : List (Ky × D)} {ws : List (Ky × V)} (hp : H p = none) (hd : Dh (upd H p u) p t ws) (r : RVk K (Fb Z μ h) μ H xs ws) : RV K (Fb Z μ h) μ (upd H p u) (.dct t xs) (.ref p) :=
  RV.dct.mpr ⟨p, ws, rfl, ⟨hd, S.fresh hp⟩, RVk.mono S (Stp.new hp) xs ws r⟩
/-- a new thing in the small heap -/
theorem Stp.newO {p : Addr} {u : HO} {o : O} (hp : H p = none) (len : μ.length = h.length) : Stp μ h H (μ ++ [p]) (h ++ [o]) (upd H p u) := by
  refine ⟨⟨[p], rfl, by simpa using hp⟩, by simp, fun n e => ?_, fun n ys e => ?_, fun n t ys e => ?_, fun a o' e => ⟨o', by rw [upd_ne (ne_of_none e hp)]; exact e⟩, fun a o' e _ => by rw [upd_ne (ne_of_none e hp)]; exact e⟩
  all_goals (rw [List.getElem?_append_left (List.getElem?_eq_some_iff.mp e).1]; exact e)
theorem SR.newO (S : SR K Z μ h H) {p : Addr} {u : HO} {o0 : O} (hp : H p = none) (r : RO K (Fb Z (μ ++ [p]) (h ++ [o0])) (μ ++ [p]) (upd H p u) p o0) : SR K Z (μ ++ [p]) (h ++ [o0]) (upd H p u) := by
  have t : Stp μ h H (μ ++ [p]) (h ++ [o0]) (upd H p u) := Stp.newO hp S.len
  have low : ∀ {n : Nat} {a : Addr} {o : O}, (μ ++ [p])[n]? = some a → (h ++ [o0])[n]? = some o → (n < μ.length ∧ μ[n]? = some a ∧ h[n]? = some o) ∨ (n = μ.length ∧ a = p ∧ o = o0) := by
    intro n a o q1 q2
    by_cases hn : n < μ.length
    · rw [List.getElem?_append_left hn] at q1
      rw [List.getElem?_append_left (by rw [← S.len]; exact hn)] at q2
      exact .inl ⟨hn, q1, q2⟩
    · have hn' : n = μ.length := by
        have := (List.getElem?_eq_some_iff.mp q1).1
        simp at this
        omega
      subst hn'
      rw [List.getElem?_append_right (Nat.le_refl _)] at q1
      rw [List.getElem?_append_right (by rw [S.len]; exact Nat.le_refl _)] at q2
      simp at q1
      rw [S.len] at q2
      simp at q2
      exact .inr ⟨rfl, q1.symm, q2.symm⟩
  have nf : ∀ {n : Nat} {a : Addr} {o : O}, μ[n]? = some a → h[n]? = some o → Alive o → a ≠ p := by
    rintro n a o q1 q2 q3 rfl
    exact S.fresh hp (.inr ⟨n, o, q1, q2, q3⟩)
  refine ⟨by simp [S.len], fun n m a o o' q1 q2 q3 q4 q5 q6 => ?_, fun a ⟨n, o, q1, q2, q3⟩ => ?_, fun a q => ?_, fun n a o q1 q2 => ?_⟩
  · rcases low q1 q3 with ⟨_, e1, e2⟩ | ⟨e1, e2, e3⟩
    · rcases low q2 q4 with ⟨_, e1', e2'⟩ | ⟨e1', e2', e3'⟩
      · exact S.inj n m a o o' e1 e1' e2 e2' q5 q6
      · exact absurd e2' (nf e1 e2 q5)
    · rcases low q2 q4 with ⟨_, e1', e2'⟩ | ⟨e1', e2', e3'⟩
      · exact absurd e2 (nf e1' e2' q6)
      · rw [e1, e1']
  · rcases low q1 q2 with ⟨_, e1, e2⟩ | ⟨e1, e2, e3⟩
    · exact S.nz a ⟨n, o, e1, e2, q3⟩
    · intro z
      obtain ⟨o', e⟩ := S.zs a z
      rw [e2, hp] at e; cases e
  · obtain ⟨o', e⟩ := S.zs a q
    exact ⟨o', by rw [upd_ne (ne_of_none e hp)]; exact e⟩
  · rcases low q1 q2 with ⟨_, e1, e2⟩ | ⟨e1, e2, e3⟩
    · exact RO.move S t (fun w e => by rw [upd_ne (ne_of_none e hp)]; exact e) (S.obj n a o e1 e2)
    · subst e2 e3
      exact r
/-- a new list in the small heap -/
theorem Stp.newR {p : Addr} {vs : List V} {xs : List D} (hp : H p = none) (len : μ.length = h.length) : Stp μ h H (μ ++ [p]) (h ++ [.lst xs]) (upd H p (.lst vs)) := Stp.newO hp len
theorem SR.newR (S : SR K Z μ h H) {p : Addr} {vs : List V} {xs : List D} (hp : H p = none) (r : RVs K (Fb Z μ h) μ H xs vs) : SR K Z (μ ++ [p]) (h ++ [.lst xs]) (upd H p (.lst vs)) :=
  S.newO hp ⟨vs, upd_same, RVs.mono S (Stp.newO hp S.len) xs vs r⟩
/-- a thing that may be written -/
def Wrt : O → Prop
  | .lst _ => True
  | .dct _ _ => True
  | _ => False
theorem Stp.wrO {n : Nat} {a : Addr} {o o' : O} {u : HO} (q1 : μ[n]? = some a) (q2 : h[n]? = some o) (wo : Wrt o) : Stp μ h H μ (h.set n o') (upd H a u) := by
  have al : Alive o := by cases o <;> first | trivial | exact wo.elim
  have hl : Lv μ h a := ⟨n, _, q1, q2, al⟩
  refine ⟨⟨[], by simp, by simp⟩, by simp, fun m e => ?_, fun m zs e => ?_, fun m t zs e => ?_, fun b o' e => ?_, fun b o' e nl => ?_⟩
  · have : n ≠ m := by rintro rfl; rw [q2] at e; cases e; exact wo
    rw [List.getElem?_set_ne this]; exact e
  · have : n ≠ m := by rintro rfl; rw [q2] at e; cases e; exact wo
    rw [List.getElem?_set_ne this]; exact e
  · have : n ≠ m := by rintro rfl; rw [q2] at e; cases e; exact wo
    rw [List.getElem?_set_ne this]; exact e
  · by_cases hb : b = a
    · subst hb; exact ⟨_, upd_same⟩
    · exact ⟨o', by rw [upd_ne hb]; exact e⟩
  · have hb : b ≠ a := by rintro rfl; exact nl hl
    rw [upd_ne hb]; exact e
/-- a list of the small heap written -/
theorem Stp.wr {n : Nat} {a : Addr} {xs ys : List D} {vs ws : List V} (S : SR K Z μ h H) (q1 : μ[n]? = some a) (q2 : h[n]? = some (.lst xs)) : Stp μ h H μ (h.set n (.lst ys)) (upd H a (.lst ws)) := Stp.wrO q1 q2 trivial
end
end Ls
/-! Readings by the interpreter; expressions. -/
namespace Ls
open PySem PySem.Spec PyProof.Rows L2
section
variable {K : PySem.W.Frag} {Z : Addr → Prop} {μ μ1 μ' : List Addr} {h h1 h' : Hh} {H H1 H' : Hp}
/-- setting a living thing of the small heap -/
theorem SR.put (S : SR K Z μ h H) {n : Nat} {a : Addr} {o o' : O} {H' : Hp} (q1 : μ[n]? = some a) (q2 : h[n]? = some o) (al : Alive o)
    (hd : ∀ c u, H c = some u → c ≠ a → H' c = some u) (ha : ∃ u, H' a = some u) (t : Stp μ h H μ (h.set n o') H')
    (new : RO K (Fb Z μ (h.set n o')) μ H' a o') : SR K Z μ (h.set n o') H' := by
  have hn : n < h.length := (List.getElem?_eq_some_iff.mp q2).1
  have get : ∀ {m : Nat} {u : O}, (h.set n o')[m]? = some u → (m = n ∧ u = o') ∨ (m ≠ n ∧ h[m]? = some u) := by
    intro m u e
    by_cases hm : n = m
    · subst hm
      rw [List.getElem?_set_self hn] at e
      cases e
      exact .inl ⟨rfl, rfl⟩
    · rw [List.getElem?_set_ne hm] at e
      exact .inr ⟨Ne.symm hm, e⟩
  refine ⟨by simp [S.len], fun i j c u u' e1 e2 e3 e4 e5 e6 => ?_, fun c ⟨i, u, e1, e2, e3⟩ => ?_, fun c z => ?_, fun i c u e1 e2 => ?_⟩
  · have f : ∀ {i : Nat} {u : O}, (h.set n o')[i]? = some u → Alive u → ∃ w, h[i]? = some w ∧ Alive w := by
      intro i u e al'
      rcases get e with ⟨rfl, _⟩ | ⟨_, e'⟩
      · exact ⟨o, q2, al⟩
      · exact ⟨u, e', al'⟩
    obtain ⟨w, f1, f2⟩ := f e3 e5
    obtain ⟨w', f1', f2'⟩ := f e4 e6
    exact S.inj i j c w w' e1 e2 f1 f1' f2 f2'
  · rcases get e2 with ⟨rfl, _⟩ | ⟨_, e'⟩
    · exact S.nz c ⟨i, o, e1, q2, al⟩
    · exact S.nz c ⟨i, u, e1, e', e3⟩
  · obtain ⟨u, e⟩ := S.zs c z
    by_cases hc : c = a
    · subst hc; exact ha
    · exact ⟨u, hd c u e hc⟩
  · rcases get e2 with ⟨rfl, rfl⟩ | ⟨hi, e'⟩
    · rw [q1] at e1; cases e1
      exact new
    · by_cases al' : Alive u
      · have hc : c ≠ a := by
          rintro rfl
          exact hi (S.inj i n c _ _ e1 q1 e' q2 al' al)
        exact RO.move S t (fun w f => hd c w f hc) (S.obj i c u e1 e')
      · cases u with
        | dead => trivial
        | _ => exact absurd trivial al'
/-- a list of the small heap written -/
theorem SR.wr (S : SR K Z μ h H) {n : Nat} {a : Addr} {xs ys : List D} {ws : List V} (q1 : μ[n]? = some a) (q2 : h[n]? = some (.lst xs)) (r : RVs K (Fb Z μ h) μ H ys ws) :
    SR K Z μ (h.set n (.lst ys)) (upd H a (.lst ws)) :=
  have t : Stp μ h H μ (h.set n (.lst ys)) (upd H a (.lst ws)) := Stp.wr (K := K) (Z := Z) (vs := []) S q1 q2
  S.put q1 q2 trivial (fun c u e hc => by rw [upd_ne hc]; exact e) ⟨_, upd_same⟩ t ⟨ws, upd_same, RVs.mono S t ys ws r⟩
end
/-! ### what is wanted behind an evaluation -/
/-- an exception of the small language is this one -/
def XR (K : PySem.W.Frag) (F : Addr → Prop) (μ : List Addr) (H : Hp) (x : Xn) (cls : Value) (d : Option Addr) : Prop := ∃ vs, Xc K F H x.cls cls d vs ∧ RVs K F μ H x.fs vs
/-- what is wished of it holds -/
def excE (K : PySem.W.Frag) (Z : Addr → Prop) (E : XK) (x : Xn) (μ : List Addr) (h : Hh) (H : Hp) : Prop := ∀ cls d, XR K (Fb Z μ h) μ H x cls d → E cls d H
/-- .. whatever the slots are -/
def EW (W : WX) : XK := fun cls d H => ∀ σ, W cls d σ H
def exc (K : PySem.W.Frag) (Z : Addr → Prop) (W : WX) : Xn → List Addr → Hh → Hp → Prop := excE K Z (EW W)
/-- what a call lets out is taken -/
def Thr (X : Cx) (W : WX) : Prop := Passes (L2.CX X.prog X.w) X (EW W)
theorem thr_of {X : Cx} {W : WX} (tk : Takes X W) : Thr X W := passes_call tk fun _ _ σ _ h => h σ
section
variable (K : PySem.W.Frag) (Z : Addr → Prop)
def Post {α : Type} (μ : List Addr) (h : Hh) (H : Hp) (P : α → List Addr → Hh → Hp → Prop) (Ex : Xn → List Addr → Hh → Hp → Prop) : R α → Prop
  | .stuck => False
  | .ok a h' => ∀ μ' H', SR K Z μ' h' H' → Stp μ h H μ' h' H' → P a μ' h' H'
  | .err x h' => ∀ μ' H', SR K Z μ' h' H' → Stp μ h H μ' h' H' → Ex x μ' h' H'
end
section
variable {K : PySem.W.Frag} {Z : Addr → Prop} {μ μ1 μ' : List Addr} {h h1 h' : Hh} {H H1 H' : Hp} {α β : Type}
  {P P' : α → List Addr → Hh → Hp → Prop} {Pb : β → List Addr → Hh → Hp → Prop} {Ex : Xn → List Addr → Hh → Hp → Prop} {r : R α} {f : α → Hh → R β}
theorem Post.shift (S : SR K Z μ h H) (t : Stp μ h H μ1 h1 H1) (p : Post K Z μ h H P Ex r) : Post K Z μ1 h1 H1 P Ex r := by
  cases r with
  | stuck => exact p
  | ok a h2 => exact fun μ2 H2 s2 t2 => p μ2 H2 s2 (t.trans S.len t2)
  | err x h2 => exact fun μ2 H2 s2 t2 => p μ2 H2 s2 (t.trans S.len t2)
theorem Post.imp (p : Post K Z μ h H P Ex r) (k : ∀ a μ' h' H', SR K Z μ' h' H' → Stp μ h H μ' h' H' → P a μ' h' H' → P' a μ' h' H') : Post K Z μ h H P' Ex r := by
  cases r with
  | stuck => exact p
  | ok a h2 => exact fun μ2 H2 s2 t2 => k a μ2 h2 H2 s2 t2 (p μ2 H2 s2 t2)
  | err x h2 => exact p
theorem Post.bind (S : SR K Z μ h H) (p : Post K Z μ h H Pb Ex (r.bind f)) : Post K Z μ h H (fun a μ1 h1 H1 => Post K Z μ1 h1 H1 Pb Ex (f a h1)) Ex r := by
  cases r with
  | stuck => exact p
  | ok a h2 => exact fun μ2 H2 s2 t2 => Post.shift S t2 p
  | err x h2 => exact p
theorem Post.here (S : SR K Z μ h H) {a : α} (p : Post K Z μ h H P Ex (.ok a h)) : P a μ h H := p μ H S Stp.refl
theorem Post.lift (S : SR K Z μ h H) {o : Option α} (p : Post K Z μ h H P Ex (Ls.lift o h)) : ∃ a, o = some a ∧ P a μ h H := by
  cases o with
  | none => exact p.elim
  | some a => exact ⟨a, rfl, Post.here S p⟩
end
section
variable (K : PySem.W.Frag) (cf : Cf) (W : WX)
def PV (Z : Addr → Prop) (Q : VK) (d : D) (μ' : List Addr) (h' : Hh) (H' : Hp) : Prop := ∀ v, RV K (Fb Z μ' h') μ' H' d v → Q v H'
def PVs (Z : Addr → Prop) (Q : List V → Hp → Prop) (xs : List D) (μ' : List Addr) (h' : Hh) (H' : Hp) : Prop := ∀ vs, RVs K (Fb Z μ' h') μ' H' xs vs → Q vs H'
def PB (Q : Bool → Hp → Prop) (b : Bool) (μ' : List Addr) (h' : Hh) (H' : Hp) : Prop := Q b H'
def PF (Z : Addr → Prop) (Q : VK) (xs : List D) (μ' : List Addr) (h' : Hh) (H' : Hp) : Prop := okLen xs = true ∧ ∀ vs p, RVs K (Fb Z μ' h') μ' H' xs vs → H' p = none → Q (.ref p) (upd H' p (.lst vs))
/-- the state, beside the small one -/
structure Beside (σ : L2.St) (H : Hp) (Z : Addr → Prop) (μ : List Addr) (h : Hh) (ρ : Ev) : Prop where
  sr : SR K Z μ h H
  er : ER K (Fb Z μ h) μ H ρ σ
/-- the readings: of an expression, a test, arguments, a new list, a part of a slice -/
def rdE (m : E) : TE := fun σ H Q => ∃ Z μ h ρ, Beside K σ H Z μ h ρ ∧ Post K Z μ h H (PV K Z Q) (exc K Z W) (ev cf m ρ h)
def rdT (m : E) : TT := fun σ H Q => ∃ Z μ h ρ, Beside K σ H Z μ h ρ ∧ Post K Z μ h H (PB Q) (exc K Z W) ((ev cf m ρ h).bind fun d h1 => lift (tru h1 d) h1)
def rdA (es : Es) : TA := fun σ H Q => ∃ Z μ h ρ, Beside K σ H Z μ h ρ ∧ Post K Z μ h H (PVs K Z Q) (exc K Z W) (evs cf es ρ h)
def rdF (f : F) : TE := fun σ H Q => ∃ Z μ h ρ, Beside K σ H Z μ h ρ ∧ (∀ xs h', evf cf f ρ h = .ok xs h' → okLen xs = true) ∧ Post K Z μ h H (PF K Z Q) (exc K Z W) (evf cf f ρ h)
def rdO (o : Oe) : TO := fun σ H Q => ∃ Z μ h ρ, Beside K σ H Z μ h ρ ∧ Post K Z μ h H (fun i _ _ H' => Q i H') (exc K Z W) (evo cf o ρ h)
end
theorem PE.imp {X : Cx} {e : Expr} {t t' : TE} (h : PE X e t) (k : ∀ σ H Q, t' σ H Q → t σ H Q) : PE X e t' := ⟨fun pins s σ H Q I q => h.run pins s σ H Q I (k σ H Q q)⟩
theorem PT.imp {X : Cx} {e : Expr} {t t' : TT} (h : PT X e t) (k : ∀ σ H Q, t' σ H Q → t σ H Q) : PT X e t' := ⟨fun pins s σ H Q I q => h.run pins s σ H Q I (k σ H Q q)⟩
theorem PA.imp {X : Cx} {e : List Expr} {t t' : TA} (h : PA X e t) (k : ∀ σ H Q, t' σ H Q → t σ H Q) : PA X e t' := ⟨fun pos pins s σ H Q I q => h.run pos pins s σ H Q I (k σ H Q q)⟩
theorem PO.imp {X : Cx} {e : Option Expr} {t t' : TO} (h : PO X e t) (k : ∀ σ H Q, t' σ H Q → t σ H Q) : PO X e t' := ⟨fun pins s σ H Q I q => h.run pins s σ H Q I (k σ H Q q)⟩
section
variable {K : PySem.W.Frag} {cf : Cf} {W : WX} {σ : L2.St} {H : Hp} {Z : Addr → Prop} {μ : List Addr} {h : Hh} {ρ : Ev} {α : Type} {P : α → List Addr → Hh → Hp → Prop} {Ex : Xn → List Addr → Hh → Hp → Prop}
theorem Beside.mono (B : Beside K σ H Z μ h ρ) {μ1 : List Addr} {h1 : Hh} {H1 : Hp} (S1 : SR K Z μ1 h1 H1) (t : Stp μ h H μ1 h1 H1) : Beside K σ H1 Z μ1 h1 ρ := ⟨S1, B.er.mono B.sr t⟩
/-- an expression is evaluated first -/
theorem rd1 {m : E} {f : D → Hh → R α} {Q : VK} (B : Beside K σ H Z μ h ρ) (p : Post K Z μ h H P (exc K Z W) ((ev cf m ρ h).bind f))
    (k : ∀ d v μ1 h1 H1, Beside K σ H1 Z μ1 h1 ρ → Stp μ h H μ1 h1 H1 → RV K (Fb Z μ1 h1) μ1 H1 d v → Post K Z μ1 h1 H1 P (exc K Z W) (f d h1) → Q v H1) : rdE K cf W m σ H Q :=
  ⟨Z, μ, h, ρ, B, (Post.bind B.sr p).imp fun d μ1 h1 H1 S1 t1 q v r => k d v μ1 h1 H1 (B.mono S1 t1) t1 r q⟩
theorem rdT1 {m : E} {a b : Hh → R α} {Q : Bool → Hp → Prop} (B : Beside K σ H Z μ h ρ) (p : Post K Z μ h H P (exc K Z W) ((ev cf m ρ h).bind fun x h1 => br (tru h1 x) (a h1) (b h1)))
    (k : ∀ c μ1 h1 H1, Beside K σ H1 Z μ1 h1 ρ → Stp μ h H μ1 h1 H1 → Post K Z μ1 h1 H1 P (exc K Z W) (if c = true then a h1 else b h1) → Q c H1) : rdT K cf W m σ H Q := by
  refine ⟨Z, μ, h, ρ, B, ?_⟩
  cases e : ev cf m ρ h with
  | stuck => rw [e] at p; exact p
  | err x h1 => rw [e] at p; exact p
  | ok d h1 =>
    rw [e] at p
    have p1 : Post K Z μ h H P (exc K Z W) (br (tru h1 d) (a h1) (b h1)) := p
    show Post K Z μ h H (PB Q) (exc K Z W) (lift (tru h1 d) h1)
    cases q : tru h1 d with
    | none => rw [q] at p1; exact p1
    | some c =>
      rw [q] at p1
      intro μ1 H1 S1 t1
      refine k c μ1 h1 H1 (B.mono S1 t1) t1 (Post.shift B.sr t1 ?_)
      cases c with
      | true => exact p1
      | false => exact p1
theorem rdA1 {es : Es} {f : List D → Hh → R α} {Q : List V → Hp → Prop} (B : Beside K σ H Z μ h ρ) (p : Post K Z μ h H P (exc K Z W) ((evs cf es ρ h).bind f))
    (k : ∀ xs vs μ1 h1 H1, Beside K σ H1 Z μ1 h1 ρ → Stp μ h H μ1 h1 H1 → RVs K (Fb Z μ1 h1) μ1 H1 xs vs → Post K Z μ1 h1 H1 P (exc K Z W) (f xs h1) → Q vs H1) : rdA K cf W es σ H Q :=
  ⟨Z, μ, h, ρ, B, (Post.bind B.sr p).imp fun d μ1 h1 H1 S1 t1 q v r => k d v μ1 h1 H1 (B.mono S1 t1) t1 r q⟩
theorem rdO1 {o : Oe} {f : Option Int → Hh → R α} {Q : Option Int → Hp → Prop} (B : Beside K σ H Z μ h ρ) (p : Post K Z μ h H P (exc K Z W) ((evo cf o ρ h).bind f))
    (k : ∀ i μ1 h1 H1, Beside K σ H1 Z μ1 h1 ρ → Stp μ h H μ1 h1 H1 → Post K Z μ1 h1 H1 P (exc K Z W) (f i h1) → Q i H1) : rdO K cf W o σ H Q :=
  ⟨Z, μ, h, ρ, B, (Post.bind B.sr p).imp fun d μ1 h1 H1 S1 t1 q => k d μ1 h1 H1 (B.mono S1 t1) t1 q⟩
end
end Ls
/-! Dicts: what is read at a key, what is put there. -/
namespace Ls
open PySem PySem.Spec PyProof.Rows L2
theorem str_cps {a b : Str} (h : a.cps.toList = b.cps.toList) : a = b := by
  obtain ⟨⟨a⟩⟩ := a; obtain ⟨⟨b⟩⟩ := b; cases (show a = b from h); rfl
theorem kyA_inj {a b : Key} (h : kyA a = kyA b) : a = b := by
  cases a <;> cases b <;> simp only [kyA, Sum.inl.injEq, Sum.inr.injEq, reduceCtorEq] at h
  · rw [h]
  · rw [str_cps h]
theorem kyK_inj {a b : Key} (h : kyK a = kyK b) : a = b := by
  cases a <;> cases b <;> simp only [kyK, Ky.ki.injEq, Ky.ks.injEq, reduceCtorEq] at h
  · rw [h]
  · rw [str_cps h]
theorem kyT_inj {a b : List Key} (h : kyT a = kyT b) : a = b := by
  simp only [kyT, Ky.kt.injEq] at h
  exact (List.map_inj_right fun _ _ => kyA_inj).mp h
section
variable {κ : Type} [DecidableEq κ] (f : κ → Ky) (inj : ∀ a b, f a = f b → a = b)
def kMap (kvs : List (κ × V)) : List (Ky × V) := kvs.map fun p => (f p.1, p.2)
include inj
theorem find_kMap (k : κ) : ∀ kvs : List (κ × V), ((kMap f kvs).find? fun p => decide (p.1 = f k)).map (·.2) = valV kvs k
  | [] => rfl
  | p :: r => by
    have ih := find_kMap k r
    simp only [kMap, List.map_cons, List.find?_cons, valV] at ih ⊢
    by_cases e : p.1 = k
    · simp [e]
    · have e' : ¬ f p.1 = f k := fun z => e (inj _ _ z)
      simp only [e, e', decide_false]
      exact ih
theorem any_kMap (k : κ) : ∀ kvs : List (κ × V), ((kMap f kvs).any fun p => decide (p.1 = f k)) = kvs.any fun p => decide (p.1 = k)
  | [] => rfl
  | p :: r => by
    have ih := any_kMap k r
    simp only [kMap, List.map_cons, List.any_cons] at ih ⊢
    rw [ih]
    by_cases e : p.1 = k
    · simp [e]
    · have e' : ¬ f p.1 = f k := fun z => e (inj _ _ z)
      simp [e, e']
theorem put_kMap (k : κ) (v : V) (kvs : List (κ × V)) : kMap f (putK kvs k v) = if (kMap f kvs).any (fun p => decide (p.1 = f k)) then (kMap f kvs).map (fun p => if p.1 = f k then (f k, v) else p) else kMap f kvs ++ [(f k, v)] := by
  unfold putK
  rw [any_kMap f inj]
  split
  · simp only [kMap, List.map_map]
    apply List.map_congr_left
    intro p _
    simp only [Function.comp]
    by_cases e : p.1 = k
    · simp [e]
    · have e' : ¬ f p.1 = f k := fun z => e (inj _ _ z)
      simp [e, e']
  · simp [kMap]
end
section
variable {K : PySem.W.Frag} {F : Addr → Prop} {μ : List Addr} {H : Hp}
/-- none beside none, a datum beside its value -/
def OptR (K : PySem.W.Frag) (F : Addr → Prop) (μ : List Addr) (H : Hp) (r : Option D) (o : Option V) : Prop := (r = none ∧ o = none) ∨ ∃ d v, r = some d ∧ o = some v ∧ RV K F μ H d v
theorem RVk.find {k : Ky} : ∀ {xs : List (Ky × D)} {ws : List (Ky × V)}, RVk K F μ H xs ws → OptR K F μ H ((xs.find? fun p => decide (p.1 = k)).map (·.2)) ((ws.find? fun p => decide (p.1 = k)).map (·.2))
  | [], ws, x => by rw [RVk.nil] at x; subst x; exact .inl ⟨rfl, rfl⟩
  | (j, d) :: r, ws, x => by
    obtain ⟨v, us, rfl, p, q⟩ := RVk.cons.mp x
    have ih := RVk.find (k := k) q
    simp only [List.find?_cons]
    by_cases e : j = k
    · simp only [e, decide_true, Option.map_some]
      exact .inr ⟨d, v, rfl, rfl, p⟩
    · simp only [e, decide_false]
      exact ih
theorem RVk.any {k : Ky} : ∀ {xs : List (Ky × D)} {ws : List (Ky × V)}, RVk K F μ H xs ws → (xs.any fun p => decide (p.1 = k)) = ws.any fun p => decide (p.1 = k)
  | [], ws, x => by rw [RVk.nil] at x; subst x; rfl
  | (j, d) :: r, ws, x => by
    obtain ⟨v, us, rfl, p, q⟩ := RVk.cons.mp x
    simp only [List.any_cons, RVk.any q]
theorem RVk.repl {k : Ky} {d : D} {v : V} (rv : RV K F μ H d v) : ∀ {xs : List (Ky × D)} {ws : List (Ky × V)}, RVk K F μ H xs ws → RVk K F μ H (xs.map fun p => if p.1 = k then (k, d) else p) (ws.map fun p => if p.1 = k then (k, v) else p)
  | [], ws, x => by rw [RVk.nil] at x; subst x; exact RVk.nil.mpr rfl
  | (j, e) :: r, ws, x => by
    obtain ⟨w, us, rfl, p, q⟩ := RVk.cons.mp x
    simp only [List.map_cons]
    by_cases h : j = k
    · simp only [h, if_true]; exact RVk.mk rv (RVk.repl rv q)
    · simp only [h, if_false]; exact RVk.mk p (RVk.repl rv q)
theorem RVk.app : ∀ {xs ys : List (Ky × D)} {vs ws : List (Ky × V)}, RVk K F μ H xs vs → RVk K F μ H ys ws → RVk K F μ H (xs ++ ys) (vs ++ ws)
  | [], ys, vs, ws, x, y => by rw [RVk.nil] at x; subst x; exact y
  | (k, d) :: r, ys, vs, ws, x, y => by
    obtain ⟨v, us, rfl, p, q⟩ := RVk.cons.mp x
    exact RVk.mk p (RVk.app q y)
/-- a key's value -/
theorem key_of0 {d : D} {v : V} {k : Ky} (e : keyOf d = some k) (t : k.t = false) (r : RV K F μ H d v) : ∃ y : Key, v = kV y ∧ kyK y = k := by
  cases d with
  | int i => cases e; rw [RV.int] at r; exact ⟨.inl i, r, rfl⟩
  | str s => cases e; rw [RV.str] at r; exact ⟨.inr ⟨s.toArray⟩, r, rfl⟩
  | tup xs =>
    simp only [keyOf, Option.map_eq_some_iff] at e
    obtain ⟨l, _, rfl⟩ := e
    cases t
  | _ => simp [keyOf] at e
theorem atoms_rel : ∀ {xs : List D} {l : List (Sum Int (List Nat))} {vs : List V}, atoms xs = some l → RVs K F μ H xs vs → ∃ ks : List Key, vs = ks.map kV ∧ ks.map kyA = l
  | [], l, vs, e, r => by cases e; rw [RVs.nil] at r; exact ⟨[], r, rfl⟩
  | x :: xs, l, vs, e, r => by
    obtain ⟨v, ws, rfl, p, q⟩ := RVs.cons.mp r
    cases x with
    | int i =>
      simp only [atoms, Option.map_eq_some_iff] at e
      obtain ⟨l', e1, rfl⟩ := e
      obtain ⟨ks, rfl, rfl⟩ := atoms_rel e1 q
      rw [RV.int] at p
      exact ⟨.inl i :: ks, by rw [p]; rfl, rfl⟩
    | str s =>
      simp only [atoms, Option.map_eq_some_iff] at e
      obtain ⟨l', e1, rfl⟩ := e
      obtain ⟨ks, rfl, rfl⟩ := atoms_rel e1 q
      rw [RV.str] at p
      exact ⟨.inr ⟨s.toArray⟩ :: ks, by rw [p]; rfl, rfl⟩
    | _ => simp [atoms] at e
theorem key_of1 {d : D} {v : V} {k : Ky} (e : keyOf d = some k) (t : k.t = true) (r : RV K F μ H d v) : ∃ (b : Addr) (ks : List Key), v = .ref b ∧ H b = some (.tup (ks.map kV)) ∧ kyT ks = k := by
  cases d with
  | int i => cases e; cases t
  | str s => cases e; cases t
  | tup xs =>
    simp only [keyOf, Option.map_eq_some_iff] at e
    obtain ⟨l, e1, rfl⟩ := e
    obtain ⟨b, vs, rfl, h1, h2⟩ := RV.tup.mp r
    obtain ⟨ks, rfl, rfl⟩ := atoms_rel e1 h2
    exact ⟨b, ks, rfl, h1, rfl⟩
  | _ => simp [keyOf] at e
end
section
variable {K : PySem.W.Frag} {Z : Addr → Prop} {μ : List Addr} {h : Hh} {H : Hp}
theorem SR.entries (S : SR K Z μ h H) {d : D} {v : V} {t : Bool} {kvs : List (Ky × D)} (r : RV K (Fb Z μ h) μ H d v) (e : entries h d = some (t, kvs)) : ∃ a ws, v = .ref a ∧ Dh H a t ws ∧ RVk K (Fb Z μ h) μ H kvs ws := by
  cases d with
  | dct t' kvs' =>
    cases e
    obtain ⟨a, ws, rfl, h1, h2⟩ := RV.dct.mp r
    exact ⟨a, ws, rfl, h1.1, h2⟩
  | ref n =>
    obtain ⟨a, rfl, e2⟩ := RV.ref.mp r
    simp only [Ls.entries] at e
    cases q : h[n]? with
    | none => rw [q] at e; cases e
    | some o =>
      rw [q] at e
      have ob := S.obj n a o e2 q
      cases o with
      | dct _ _ => cases e; obtain ⟨ws, h1, h2⟩ := ob; exact ⟨a, ws, rfl, h1, h2⟩
      | dlk _ _ => cases e; obtain ⟨ws, h1, h2⟩ := ob; exact ⟨a, ws, rfl, h1, h2⟩
      | _ => cases e
  | _ => simp [Ls.entries] at e
/-- what stands at a key, beside the hand layer's word -/
theorem dget_of (S : SR K Z μ h H) {d1 d2 : D} {x y : V} {r : Option D} (r1 : RV K (Fb Z μ h) μ H d1 x) (r2 : RV K (Fb Z μ h) μ H d2 y) (e : lookK h d1 d2 = some r) :
    ∃ a o, x = .ref a ∧ DGet H a y o ∧ OptR K (Fb Z μ h) μ H r o := by
  unfold lookK at e
  split at e
  rotate_left
  · cases e
  rename_i t kvs k e1 e2
  split at e
  rotate_left
  · cases e
  rename_i ht
  cases e
  obtain ⟨a, ws, rfl, h1, h2⟩ := S.entries r1 e1
  have f := RVk.find (k := k) h2
  cases t with
  | false =>
    obtain ⟨q, h3, rfl⟩ := h1
    obtain ⟨ky, rfl, rfl⟩ := key_of0 e2 ht r2
    refine ⟨a, valV q ky, rfl, DGet.k h3, ?_⟩
    rw [show (List.find? (fun p => decide (p.1 = kyK ky)) (q.map fun p => (kyK p.1, p.2))).map (·.2) = valV q ky from find_kMap kyK (fun _ _ => kyK_inj) ky q] at f
    exact f
  | true =>
    obtain ⟨q, h3, rfl⟩ := h1
    obtain ⟨b, ks, rfl, h4, rfl⟩ := key_of1 e2 ht r2
    refine ⟨a, valV q ks, rfl, DGet.t h3 h4, ?_⟩
    rw [show (List.find? (fun p => decide (p.1 = kyT ks)) (q.map fun p => (kyT p.1, p.2))).map (·.2) = valV q ks from find_kMap kyT (fun _ _ => kyT_inj) ks q] at f
    exact f
/-- the entries with one put in -/
def putD (kvs : List (Ky × D)) (k : Ky) (d : D) : List (Ky × D) := if kvs.any (fun p => decide (p.1 = k)) then kvs.map (fun p => if p.1 = k then (k, d) else p) else kvs ++ [(k, d)]
theorem dput_of (S : SR K Z μ h H) {n : Nat} {t : Bool} {kvs : List (Ky × D)} {d2 d3 : D} {x y v : V} {k : Ky} (r1 : RV K (Fb Z μ h) μ H (.ref n) x) (q : h[n]? = some (.dct t kvs)) (r2 : RV K (Fb Z μ h) μ H d2 y) (r3 : RV K (Fb Z μ h) μ H d3 v)
    (e2 : keyOf d2 = some k) (ht : k.t = t) (len : kvs.length < big) :
    ∃ a H', x = .ref a ∧ DPut H a y v H' ∧ SR K Z μ (h.set n (.dct t (putD kvs k d3))) H' ∧ Stp μ h H μ (h.set n (.dct t (putD kvs k d3))) H' := by
  obtain ⟨a, rfl, e3⟩ := RV.ref.mp r1
  obtain ⟨ws, h1, h2⟩ := S.obj n a _ e3 q
  have rp : ∀ {w : V}, RV K (Fb Z μ h) μ H d3 w → RVk K (Fb Z μ h) μ H (putD kvs k d3) (if ws.any (fun p => decide (p.1 = k)) then ws.map (fun p => if p.1 = k then (k, w) else p) else ws ++ [(k, w)]) := by
    intro w rw
    unfold putD
    rw [RVk.any h2]
    split
    · exact RVk.repl rw h2
    · exact h2.app (RVk.mk rw (RVk.nil.mpr rfl))
  have fin : ∀ {u : HO} {ws' : List (Ky × V)}, Dh (upd H a u) a t ws' → RVk K (Fb Z μ h) μ H (putD kvs k d3) ws' → SR K Z μ (h.set n (.dct t (putD kvs k d3))) (upd H a u) ∧ Stp μ h H μ (h.set n (.dct t (putD kvs k d3))) (upd H a u) := by
    intro u ws' hd rk
    have st : Stp μ h H μ (h.set n (.dct t (putD kvs k d3))) (upd H a u) := Stp.wrO e3 q trivial
    exact ⟨S.put e3 q trivial (fun c u e hc => by rw [upd_ne hc]; exact e) ⟨_, upd_same⟩ st ⟨ws', hd, RVk.mono S st _ _ rk⟩, st⟩
  have lw : ws.length < sizeLine := by rw [← h2.len]; exact len
  cases t with
  | false =>
    obtain ⟨qs, h3, rfl⟩ := h1
    obtain ⟨ky, rfl, rfl⟩ := key_of0 e2 ht r2
    rw [List.length_map] at lw
    refine ⟨a, _, rfl, DPut.k h3 lw, fin ⟨_, upd_same, rfl⟩ (show RVk K (Fb Z μ h) μ H _ (kMap kyK (putK qs ky v)) from ?_)⟩
    rw [put_kMap kyK (fun _ _ => kyK_inj) ky v qs]
    exact rp r3
  | true =>
    obtain ⟨qs, h3, rfl⟩ := h1
    obtain ⟨b, ks, rfl, h4, rfl⟩ := key_of1 e2 ht r2
    rw [List.length_map] at lw
    refine ⟨a, _, rfl, DPut.t h3 h4 lw, fin ⟨_, upd_same, rfl⟩ (show RVk K (Fb Z μ h) μ H _ (kMap kyT (putK qs ks v)) from ?_)⟩
    rw [put_kMap kyT (fun _ _ => kyT_inj) ks v qs]
    exact rp r3
end
end Ls
/-! Data; operators by values. -/
namespace Ls
open PySem PySem.Spec PyProof.Rows L2
mutual
def D.toP : D → PyData
  | .non => .none
  | .bl b => .bool b
  | .int i => .int i
  | .str s => .str ⟨s.toArray⟩
  | .tup xs => .tuple (D.toPs xs)
  | .lst xs => .list (D.toPs xs)
  | _ => .none
def D.toPs : List D → List PyData
  | [] => []
  | x :: r => D.toP x :: D.toPs r
end
theorem toPs_map : ∀ xs : List D, D.toPs xs = xs.map D.toP
  | [] => by simp [D.toPs]
  | x :: r => by simp [D.toPs, toPs_map r]
section
variable {K : PySem.W.Frag} {F : Addr → Prop} {μ : List Addr} {H : Hp}
mutual
theorem dp_of : ∀ (n : Nat) (d : D) (v : V), D.flat n d = true → RV K F μ H d v → Dp K H v d.toP
  | n, .non, v, _, r => by rw [RV.non] at r; subst r; rw [D.toP]; exact .non
  | n, .bl b, v, _, r => by rw [RV.bl] at r; subst r; rw [D.toP]; exact .bl b
  | n, .int b, v, _, r => by rw [RV.int] at r; subst r; rw [D.toP]; exact .int b
  | n, .str b, v, _, r => by rw [RV.str] at r; subst r; rw [D.toP]; exact .str _
  | 0, .tup xs, v, f, _ => by simp [D.flat] at f
  | 0, .lst xs, v, f, _ => by simp [D.flat] at f
  | n + 1, .tup xs, v, f, r => by
    simp only [D.flat] at f
    obtain ⟨a, vs, rfl, tp, rs⟩ := RV.tup.mp r
    rw [D.toP]
    exact .tup tp.sq (dps_of n xs vs f rs)
  | n + 1, .lst xs, v, f, r => by
    simp only [D.flat] at f
    obtain ⟨a, vs, rfl, tp, rs⟩ := RV.lst.mp r
    rw [D.toP]
    exact .lst tp.sq (dps_of n xs vs f rs)
  | n, .dct _ _, v, f, _ => by cases n <;> simp [D.flat] at f
  | n, .rol _, v, f, _ => by cases n <;> simp [D.flat] at f
  | n, .ref _, v, f, _ => by cases n <;> simp [D.flat] at f
  | n, .obj _ _, v, f, _ => by cases n <;> simp [D.flat] at f
  | n, .rot _, v, f, _ => by cases n <;> simp [D.flat] at f
  | n, .exn _ _, v, f, _ => by cases n <;> simp [D.flat] at f
theorem dps_of : ∀ (n : Nat) (xs : List D) (vs : List V), D.flatL n xs = true → RVs K F μ H xs vs → DpAll K H vs (D.toPs xs)
  | n, [], vs, _, r => by rw [RVs.nil] at r; subst r; rw [D.toPs]; exact .nil
  | n, x :: xs, vs, f, r => by
    simp only [D.flatL, Bool.and_eq_true] at f
    obtain ⟨v, ws, rfl, p, q⟩ := RVs.cons.mp r
    rw [D.toPs]
    exact .cons (dp_of n x v f.1 p) (dps_of n xs ws f.2 q)
end
end
mutual
theorem plain_toP : ∀ d : D, d.toP.plain = true
  | .non => by simp [D.toP, PyData.plain]
  | .bl _ => by simp [D.toP, PyData.plain]
  | .int _ => by simp [D.toP, PyData.plain]
  | .str _ => by simp [D.toP, PyData.plain]
  | .tup xs => by rw [D.toP, PyData.plain]; exact plain_toPs xs
  | .lst xs => by rw [D.toP, PyData.plain]; exact plain_toPs xs
  | .dct _ _ => by simp [D.toP, PyData.plain]
  | .rol _ => by simp [D.toP, PyData.plain]
  | .ref _ => by simp [D.toP, PyData.plain]
  | .obj _ _ => by simp [D.toP, PyData.plain]
  | .rot _ => by simp [D.toP, PyData.plain]
  | .exn _ _ => by simp [D.toP, PyData.plain]
theorem plain_toPs : ∀ xs : List D, PyData.plainAll (D.toPs xs) = true
  | [] => by simp [D.toPs, PyData.plainAll]
  | x :: r => by rw [D.toPs, PyData.plainAll, plain_toP x, plain_toPs r]; rfl
end
mutual
theorem depth_toP : ∀ (n : Nat) (d : D), D.flat n d = true → d.toP.depth ≤ n
  | n, .non, _ => by simp [D.toP, PyData.depth]
  | n, .bl _, _ => by simp [D.toP, PyData.depth]
  | n, .int _, _ => by simp [D.toP, PyData.depth]
  | n, .str _, _ => by simp [D.toP, PyData.depth]
  | 0, .tup xs, f => by simp [D.flat] at f
  | 0, .lst xs, f => by simp [D.flat] at f
  | n + 1, .tup xs, f => by
    simp only [D.flat] at f
    rw [D.toP, PyData.depth]
    exact Nat.succ_le_succ (depth_toPs n xs f)
  | n + 1, .lst xs, f => by
    simp only [D.flat] at f
    rw [D.toP, PyData.depth]
    exact Nat.succ_le_succ (depth_toPs n xs f)
  | n, .dct _ _, f => by cases n <;> simp [D.flat] at f
  | n, .rol _, f => by cases n <;> simp [D.flat] at f
  | n, .ref _, f => by cases n <;> simp [D.flat] at f
  | n, .obj _ _, f => by cases n <;> simp [D.flat] at f
  | n, .rot _, f => by cases n <;> simp [D.flat] at f
  | n, .exn _ _, f => by cases n <;> simp [D.flat] at f
theorem depth_toPs : ∀ (n : Nat) (xs : List D), D.flatL n xs = true → PyData.depthAll (D.toPs xs) ≤ n
  | n, [], _ => by simp [D.toPs, PyData.depthAll]
  | n, x :: r, f => by
    simp only [D.flatL, Bool.and_eq_true] at f
    rw [D.toPs, PyData.depthAll]
    exact Nat.max_le.mpr ⟨depth_toP n x f.1, depth_toPs n r f.2⟩
end
theorem str_beq (a b : List Nat) : ((⟨a.toArray⟩ : Str) == (⟨b.toArray⟩ : Str)) = (a == b) := by
  by_cases e : a = b
  · subst e; simp
  · have h : ¬ (⟨a.toArray⟩ : Str) = ⟨b.toArray⟩ := fun q => e (by
      injection q with q
      simpa using q)
    rw [beq_eq_false_iff_ne.mpr h, beq_eq_false_iff_ne.mpr e]
mutual
theorem eqv_toP : ∀ (n m : Nat) (a b : D), D.flat n a = true → D.flat m b = true → PyData.eqv a.toP b.toP = D.eqv a b
  | n, m, .dct _ _, b, f, _ => by cases n <;> simp [D.flat] at f
  | n, m, .rol _, b, f, _ => by cases n <;> simp [D.flat] at f
  | n, m, .ref _, b, f, _ => by cases n <;> simp [D.flat] at f
  | n, m, .obj _ _, b, f, _ => by cases n <;> simp [D.flat] at f
  | n, m, .rot _, b, f, _ => by cases n <;> simp [D.flat] at f
  | n, m, .exn _ _, b, f, _ => by cases n <;> simp [D.flat] at f
  | n, m, a, .dct _ _, _, f => by cases m <;> simp [D.flat] at f
  | n, m, a, .rol _, _, f => by cases m <;> simp [D.flat] at f
  | n, m, a, .ref _, _, f => by cases m <;> simp [D.flat] at f
  | n, m, a, .obj _ _, _, f => by cases m <;> simp [D.flat] at f
  | n, m, a, .rot _, _, f => by cases m <;> simp [D.flat] at f
  | n, m, a, .exn _ _, _, f => by cases m <;> simp [D.flat] at f
  | n, m, .non, .non, _, _ => by simp [D.toP, D.eqv, PyData.eqv]
  | n, m, .non, .bl _, _, _ => by simp [D.toP, D.eqv, PyData.eqv]
  | n, m, .non, .int _, _, _ => by simp [D.toP, D.eqv, PyData.eqv]
  | n, m, .non, .str _, _, _ => by simp [D.toP, D.eqv, PyData.eqv]
  | n, m, .non, .tup _, _, _ => by simp [D.toP, D.eqv, PyData.eqv]
  | n, m, .non, .lst _, _, _ => by simp [D.toP, D.eqv, PyData.eqv]
  | n, m, .bl _, .non, _, _ => by simp [D.toP, D.eqv, PyData.eqv]
  | n, m, .bl _, .bl _, _, _ => by simp [D.toP, D.eqv, PyData.eqv]
  | n, m, .bl _, .int _, _, _ => by simp [D.toP, D.eqv, PyData.eqv]
  | n, m, .bl _, .str _, _, _ => by simp [D.toP, D.eqv, PyData.eqv]
  | n, m, .bl _, .tup _, _, _ => by simp [D.toP, D.eqv, PyData.eqv]
  | n, m, .bl _, .lst _, _, _ => by simp [D.toP, D.eqv, PyData.eqv]
  | n, m, .int _, .non, _, _ => by simp [D.toP, D.eqv, PyData.eqv]
  | n, m, .int _, .bl _, _, _ => by simp [D.toP, D.eqv, PyData.eqv]
  | n, m, .int _, .int _, _, _ => by simp [D.toP, D.eqv, PyData.eqv]
  | n, m, .int _, .str _, _, _ => by simp [D.toP, D.eqv, PyData.eqv]
  | n, m, .int _, .tup _, _, _ => by simp [D.toP, D.eqv, PyData.eqv]
  | n, m, .int _, .lst _, _, _ => by simp [D.toP, D.eqv, PyData.eqv]
  | n, m, .str _, .non, _, _ => by simp [D.toP, D.eqv, PyData.eqv]
  | n, m, .str _, .bl _, _, _ => by simp [D.toP, D.eqv, PyData.eqv]
  | n, m, .str _, .int _, _, _ => by simp [D.toP, D.eqv, PyData.eqv]
  | n, m, .str a, .str b, _, _ => by rw [D.toP, D.toP, D.eqv, PyData.eqv]; exact str_beq a b
  | n, m, .str _, .tup _, _, _ => by simp [D.toP, D.eqv, PyData.eqv]
  | n, m, .str _, .lst _, _, _ => by simp [D.toP, D.eqv, PyData.eqv]
  | n, m, .tup _, .non, _, _ => by simp [D.toP, D.eqv, PyData.eqv]
  | n, m, .tup _, .bl _, _, _ => by simp [D.toP, D.eqv, PyData.eqv]
  | n, m, .tup _, .int _, _, _ => by simp [D.toP, D.eqv, PyData.eqv]
  | n, m, .tup _, .str _, _, _ => by simp [D.toP, D.eqv, PyData.eqv]
  | 0, m, .tup xs, .tup ys, f, _ => by simp [D.flat] at f
  | n + 1, 0, .tup xs, .tup ys, _, f => by simp [D.flat] at f
  | n + 1, m + 1, .tup xs, .tup ys, f, g => by
    simp only [D.flat] at f g
    rw [D.toP, D.toP, D.eqv, PyData.eqv]
    exact eqv_toPs n m xs ys f g
  | n, m, .tup _, .lst _, _, _ => by simp [D.toP, D.eqv, PyData.eqv]
  | n, m, .lst _, .non, _, _ => by simp [D.toP, D.eqv, PyData.eqv]
  | n, m, .lst _, .bl _, _, _ => by simp [D.toP, D.eqv, PyData.eqv]
  | n, m, .lst _, .int _, _, _ => by simp [D.toP, D.eqv, PyData.eqv]
  | n, m, .lst _, .str _, _, _ => by simp [D.toP, D.eqv, PyData.eqv]
  | n, m, .lst _, .tup _, _, _ => by simp [D.toP, D.eqv, PyData.eqv]
  | 0, m, .lst xs, .lst ys, f, _ => by simp [D.flat] at f
  | n + 1, 0, .lst xs, .lst ys, _, f => by simp [D.flat] at f
  | n + 1, m + 1, .lst xs, .lst ys, f, g => by
    simp only [D.flat] at f g
    rw [D.toP, D.toP, D.eqv, PyData.eqv]
    exact eqv_toPs n m xs ys f g
theorem eqv_toPs : ∀ (n m : Nat) (xs ys : List D), D.flatL n xs = true → D.flatL m ys = true → PyData.eqvAll (D.toPs xs) (D.toPs ys) = D.eqvL xs ys
  | n, m, [], [], _, _ => by simp [D.toPs, D.eqvL, PyData.eqvAll]
  | n, m, [], _ :: _, _, _ => by simp [D.toPs, D.eqvL, PyData.eqvAll]
  | n, m, _ :: _, [], _, _ => by simp [D.toPs, D.eqvL, PyData.eqvAll]
  | n, m, x :: xs, y :: ys, f, g => by
    simp only [D.flatL, Bool.and_eq_true] at f g
    rw [D.toPs, D.toPs, D.eqvL, PyData.eqvAll, eqv_toP n m x y f.1 g.1, eqv_toPs n m xs ys f.2 g.2]
end
mutual
theorem alike_toP : ∀ (a b : D), D.alike a b = true → PySem.W.alike a.toP b.toP = true
  | .bl _, .bl _, _ => by simp [D.toP, PySem.W.alike]
  | .int _, .int _, _ => by simp [D.toP, PySem.W.alike]
  | .str _, .str _, _ => by simp [D.toP, PySem.W.alike]
  | .tup xs, .tup ys, f => by
    rw [D.alike] at f
    rw [D.toP, D.toP, PySem.W.alike]
    exact alike_toPs xs ys f
  | .lst xs, .lst ys, f => by
    rw [D.alike] at f
    rw [D.toP, D.toP, PySem.W.alike]
    exact alike_toPs xs ys f
  | .non, b, f => by cases b <;> simp [D.alike] at f
  | .dct _ _, b, f => by cases b <;> simp [D.alike] at f
  | .rol _, b, f => by cases b <;> simp [D.alike] at f
  | .ref _, b, f => by cases b <;> simp [D.alike] at f
  | .obj _ _, b, f => by cases b <;> simp [D.alike] at f
  | .rot _, b, f => by cases b <;> simp [D.alike] at f
  | .exn _ _, b, f => by cases b <;> simp [D.alike] at f
  | .bl _, .non, f => by simp [D.alike] at f
  | .bl _, .int _, f => by simp [D.alike] at f
  | .bl _, .str _, f => by simp [D.alike] at f
  | .bl _, .tup _, f => by simp [D.alike] at f
  | .bl _, .lst _, f => by simp [D.alike] at f
  | .bl _, .dct _ _, f => by simp [D.alike] at f
  | .bl _, .rol _, f => by simp [D.alike] at f
  | .bl _, .ref _, f => by simp [D.alike] at f
  | .bl _, .obj _ _, f => by simp [D.alike] at f
  | .bl _, .rot _, f => by simp [D.alike] at f
  | .bl _, .exn _ _, f => by simp [D.alike] at f
  | .int _, .non, f => by simp [D.alike] at f
  | .int _, .bl _, f => by simp [D.alike] at f
  | .int _, .str _, f => by simp [D.alike] at f
  | .int _, .tup _, f => by simp [D.alike] at f
  | .int _, .lst _, f => by simp [D.alike] at f
  | .int _, .dct _ _, f => by simp [D.alike] at f
  | .int _, .rol _, f => by simp [D.alike] at f
  | .int _, .ref _, f => by simp [D.alike] at f
  | .int _, .obj _ _, f => by simp [D.alike] at f
  | .int _, .rot _, f => by simp [D.alike] at f
  | .int _, .exn _ _, f => by simp [D.alike] at f
  | .str _, .non, f => by simp [D.alike] at f
  | .str _, .bl _, f => by simp [D.alike] at f
  | .str _, .int _, f => by simp [D.alike] at f
  | .str _, .tup _, f => by simp [D.alike] at f
  | .str _, .lst _, f => by simp [D.alike] at f
  | .str _, .dct _ _, f => by simp [D.alike] at f
  | .str _, .rol _, f => by simp [D.alike] at f
  | .str _, .ref _, f => by simp [D.alike] at f
  | .str _, .obj _ _, f => by simp [D.alike] at f
  | .str _, .rot _, f => by simp [D.alike] at f
  | .str _, .exn _ _, f => by simp [D.alike] at f
  | .tup _, .non, f => by simp [D.alike] at f
  | .tup _, .bl _, f => by simp [D.alike] at f
  | .tup _, .int _, f => by simp [D.alike] at f
  | .tup _, .str _, f => by simp [D.alike] at f
  | .tup _, .lst _, f => by simp [D.alike] at f
  | .tup _, .dct _ _, f => by simp [D.alike] at f
  | .tup _, .rol _, f => by simp [D.alike] at f
  | .tup _, .ref _, f => by simp [D.alike] at f
  | .tup _, .obj _ _, f => by simp [D.alike] at f
  | .tup _, .rot _, f => by simp [D.alike] at f
  | .tup _, .exn _ _, f => by simp [D.alike] at f
  | .lst _, .non, f => by simp [D.alike] at f
  | .lst _, .bl _, f => by simp [D.alike] at f
  | .lst _, .int _, f => by simp [D.alike] at f
  | .lst _, .str _, f => by simp [D.alike] at f
  | .lst _, .tup _, f => by simp [D.alike] at f
  | .lst _, .dct _ _, f => by simp [D.alike] at f
  | .lst _, .rol _, f => by simp [D.alike] at f
  | .lst _, .ref _, f => by simp [D.alike] at f
  | .lst _, .obj _ _, f => by simp [D.alike] at f
  | .lst _, .rot _, f => by simp [D.alike] at f
  | .lst _, .exn _ _, f => by simp [D.alike] at f
theorem alike_toPs : ∀ (xs ys : List D), D.alikeL xs ys = true → PySem.W.alikeAll (D.toPs xs) (D.toPs ys) = true
  | [], [], _ => by simp [D.toPs, PySem.W.alikeAll]
  | [], _ :: _, _ => by simp [D.toPs, PySem.W.alikeAll]
  | _ :: _, [], _ => by simp [D.toPs, PySem.W.alikeAll]
  | x :: xs, y :: ys, f => by
    rw [D.alikeL, Bool.and_eq_true] at f
    rw [D.toPs, D.toPs, PySem.W.alikeAll, alike_toP x y f.1, alike_toPs xs ys f.2]; rfl
end
theorem toP_ne_none {a b : D} (f : D.alike a b = true) : a.toP ≠ .none := by
  cases a with
  | non => cases b <;> simp [D.alike] at f
  | bl _ => simp [D.toP]
  | int _ => simp [D.toP]
  | str _ => simp [D.toP]
  | tup _ => simp [D.toP]
  | lst _ => simp [D.toP]
  | dct _ _ => cases b <;> simp [D.alike] at f
  | rol _ => cases b <;> simp [D.alike] at f
  | ref _ => cases b <;> simp [D.alike] at f
  | obj _ _ => cases b <;> simp [D.alike] at f
  | rot _ => cases b <;> simp [D.alike] at f
  | exn _ _ => cases b <;> simp [D.alike] at f
theorem ltL_dec : ∀ a b : List Nat, ltL a b = decide (a < b)
  | [], [] => by simp [ltL]
  | [], _ :: _ => by simp [ltL]
  | _ :: _, [] => by simp [ltL]
  | x :: xs, y :: ys => by
    rw [ltL]
    by_cases e : x = y
    · subst e
      rw [if_pos rfl, ltL_dec xs ys]
      simp [List.cons_lt_cons_iff]
    · rw [if_neg e]
      simp [List.cons_lt_cons_iff, e]
open PySem.W in
mutual
theorem lt_toP : ∀ (n m : Nat) (a b : D), D.flat n a = true → D.flat m b = true → D.alike a b = true → dataLt a.toP b.toP = D.lt a b
  | n, m, .bl x, .bl y, _, _, _ => by
    rw [D.toP, D.toP, dataLt_bool, D.lt]
    cases x <;> cases y <;> rfl
  | n, m, .int x, .int y, _, _, _ => by rw [D.toP, D.toP, dataLt_int, D.lt]
  | n, m, .str x, .str y, _, _, _ => by
    rw [D.toP, D.toP, dataLt_str, D.lt, ltL_dec]
  | 0, m, .tup xs, .tup ys, f, _, _ => by simp [D.flat] at f
  | n + 1, 0, .tup xs, .tup ys, _, f, _ => by simp [D.flat] at f
  | n + 1, m + 1, .tup xs, .tup ys, f, g, a => by
    simp only [D.flat] at f g
    rw [D.alike] at a
    rw [D.toP, D.toP, dataLt_tuple, D.lt]
    exact lt_toPs n m xs ys f g a
  | 0, m, .lst xs, .lst ys, f, _, _ => by simp [D.flat] at f
  | n + 1, 0, .lst xs, .lst ys, _, f, _ => by simp [D.flat] at f
  | n + 1, m + 1, .lst xs, .lst ys, f, g, a => by
    simp only [D.flat] at f g
    rw [D.alike] at a
    rw [D.toP, D.toP, dataLt_list, D.lt]
    exact lt_toPs n m xs ys f g a
  | n, m, .non, b, _, _, f => by cases b <;> simp [D.alike] at f
  | n, m, .dct _ _, b, _, _, f => by cases b <;> simp [D.alike] at f
  | n, m, .rol _, b, _, _, f => by cases b <;> simp [D.alike] at f
  | n, m, .ref _, b, _, _, f => by cases b <;> simp [D.alike] at f
  | n, m, .obj _ _, b, _, _, f => by cases b <;> simp [D.alike] at f
  | n, m, .rot _, b, _, _, f => by cases b <;> simp [D.alike] at f
  | n, m, .exn _ _, b, _, _, f => by cases b <;> simp [D.alike] at f
  | n, m, .bl _, .non, _, _, f => by simp [D.alike] at f
  | n, m, .bl _, .int _, _, _, f => by simp [D.alike] at f
  | n, m, .bl _, .str _, _, _, f => by simp [D.alike] at f
  | n, m, .bl _, .tup _, _, _, f => by simp [D.alike] at f
  | n, m, .bl _, .lst _, _, _, f => by simp [D.alike] at f
  | n, m, .bl _, .dct _ _, _, _, f => by simp [D.alike] at f
  | n, m, .bl _, .rol _, _, _, f => by simp [D.alike] at f
  | n, m, .bl _, .ref _, _, _, f => by simp [D.alike] at f
  | n, m, .bl _, .obj _ _, _, _, f => by simp [D.alike] at f
  | n, m, .bl _, .rot _, _, _, f => by simp [D.alike] at f
  | n, m, .bl _, .exn _ _, _, _, f => by simp [D.alike] at f
  | n, m, .int _, .non, _, _, f => by simp [D.alike] at f
  | n, m, .int _, .bl _, _, _, f => by simp [D.alike] at f
  | n, m, .int _, .str _, _, _, f => by simp [D.alike] at f
  | n, m, .int _, .tup _, _, _, f => by simp [D.alike] at f
  | n, m, .int _, .lst _, _, _, f => by simp [D.alike] at f
  | n, m, .int _, .dct _ _, _, _, f => by simp [D.alike] at f
  | n, m, .int _, .rol _, _, _, f => by simp [D.alike] at f
  | n, m, .int _, .ref _, _, _, f => by simp [D.alike] at f
  | n, m, .int _, .obj _ _, _, _, f => by simp [D.alike] at f
  | n, m, .int _, .rot _, _, _, f => by simp [D.alike] at f
  | n, m, .int _, .exn _ _, _, _, f => by simp [D.alike] at f
  | n, m, .str _, .non, _, _, f => by simp [D.alike] at f
  | n, m, .str _, .bl _, _, _, f => by simp [D.alike] at f
  | n, m, .str _, .int _, _, _, f => by simp [D.alike] at f
  | n, m, .str _, .tup _, _, _, f => by simp [D.alike] at f
  | n, m, .str _, .lst _, _, _, f => by simp [D.alike] at f
  | n, m, .str _, .dct _ _, _, _, f => by simp [D.alike] at f
  | n, m, .str _, .rol _, _, _, f => by simp [D.alike] at f
  | n, m, .str _, .ref _, _, _, f => by simp [D.alike] at f
  | n, m, .str _, .obj _ _, _, _, f => by simp [D.alike] at f
  | n, m, .str _, .rot _, _, _, f => by simp [D.alike] at f
  | n, m, .str _, .exn _ _, _, _, f => by simp [D.alike] at f
  | n, m, .tup _, .non, _, _, f => by simp [D.alike] at f
  | n, m, .tup _, .bl _, _, _, f => by simp [D.alike] at f
  | n, m, .tup _, .int _, _, _, f => by simp [D.alike] at f
  | n, m, .tup _, .str _, _, _, f => by simp [D.alike] at f
  | n, m, .tup _, .lst _, _, _, f => by simp [D.alike] at f
  | n, m, .tup _, .dct _ _, _, _, f => by simp [D.alike] at f
  | n, m, .tup _, .rol _, _, _, f => by simp [D.alike] at f
  | n, m, .tup _, .ref _, _, _, f => by simp [D.alike] at f
  | n, m, .tup _, .obj _ _, _, _, f => by simp [D.alike] at f
  | n, m, .tup _, .rot _, _, _, f => by simp [D.alike] at f
  | n, m, .tup _, .exn _ _, _, _, f => by simp [D.alike] at f
  | n, m, .lst _, .non, _, _, f => by simp [D.alike] at f
  | n, m, .lst _, .bl _, _, _, f => by simp [D.alike] at f
  | n, m, .lst _, .int _, _, _, f => by simp [D.alike] at f
  | n, m, .lst _, .str _, _, _, f => by simp [D.alike] at f
  | n, m, .lst _, .tup _, _, _, f => by simp [D.alike] at f
  | n, m, .lst _, .dct _ _, _, _, f => by simp [D.alike] at f
  | n, m, .lst _, .rol _, _, _, f => by simp [D.alike] at f
  | n, m, .lst _, .ref _, _, _, f => by simp [D.alike] at f
  | n, m, .lst _, .obj _ _, _, _, f => by simp [D.alike] at f
  | n, m, .lst _, .rot _, _, _, f => by simp [D.alike] at f
  | n, m, .lst _, .exn _ _, _, _, f => by simp [D.alike] at f
theorem lt_toPs : ∀ (n m : Nat) (xs ys : List D), D.flatL n xs = true → D.flatL m ys = true → D.alikeL xs ys = true → PyProof.Rows.lexLt itemOrd (keyToksAll (D.toPs xs)) (keyToksAll (D.toPs ys)) = D.ltS xs ys
  | n, m, [], [], _, _, _ => by simp only [D.toPs, D.ltS]; decide
  | n, m, [], y :: ys, _, _, _ => by
    rw [D.toPs, D.toPs, toks_all_cons, D.ltS]
    exact lex_atom (p := .inl 0) (q := .inl 1) (by decide) _ _
  | n, m, x :: xs, [], _, _, _ => by
    rw [D.toPs, D.toPs, toks_all_cons, D.ltS]
    exact lex_atom (p := .inl 1) (q := .inl 0) (by decide) _ _
  | n, m, x :: xs, y :: ys, f, g, a => by
    simp only [D.flatL, Bool.and_eq_true] at f g
    rw [D.alikeL, Bool.and_eq_true] at a
    rw [D.toPs, D.toPs, D.ltS]
    have e := eqv_toP n m x y f.1 g.1
    by_cases q : D.eqv x y = true
    · rw [if_pos q, dataLt_all_yes (alike_toP x y a.1) (by rw [e]; exact q)]
      exact lt_toPs n m xs ys f.2 g.2 a.2
    · rw [if_neg q, dataLt_all_no (alike_toP x y a.1) (by rw [e]; simpa using q)]
      exact lt_toP n m x y f.1 g.1 a.1
end
end Ls
/-! Operators by values. -/
namespace Ls
open PySem PySem.Spec PyProof.Rows L2
/-- a two-place operation of the small language, by values -/
def r2 (K : PySem.W.Frag) (g : Hh → D → D → Option D) : R2 := fun x y H Q => ∃ Z μ h d e r, SR K Z μ h H ∧ RV K (Fb Z μ h) μ H d x ∧ RV K (Fb Z μ h) μ H e y ∧ g h d e = some r ∧ Post K Z μ h H (PV K Z Q) (fun _ _ _ _ => False) (.ok r h)
def r1 (K : PySem.W.Frag) (g : Hh → D → Option D) : V → Hp → VK → Prop := fun x H Q => ∃ Z μ h d r, SR K Z μ h H ∧ RV K (Fb Z μ h) μ H d x ∧ g h d = some r ∧ Post K Z μ h H (PV K Z Q) (fun _ _ _ _ => False) (.ok r h)
section
variable {K : PySem.W.Frag} {Z : Addr → Prop} {μ : List Addr} {h : Hh} {H : Hp} {Q : VK} {r : D} {v : V} {p : Addr} {xs : List D} {vs : List V} {Ex : Xn → List Addr → Hh → Hp → Prop}
theorem Post.now (S : SR K Z μ h H) (q : Post K Z μ h H (PV K Z Q) Ex (.ok r h)) (rv : RV K (Fb Z μ h) μ H r v) : Q v H := q μ H S Stp.refl v rv
theorem Post.newT (S : SR K Z μ h H) (q : Post K Z μ h H (PV K Z Q) Ex (.ok (.tup xs) h)) (rs : RVs K (Fb Z μ h) μ H xs vs) (hp : H p = none) : Q (.ref p) (upd H p (.tup vs)) :=
  q μ _ (S.new hp) (Stp.new hp) _ (RV.newT S hp rs)
theorem Post.newL (S : SR K Z μ h H) (q : Post K Z μ h H (PV K Z Q) Ex (.ok (.lst xs) h)) (rs : RVs K (Fb Z μ h) μ H xs vs) (hp : H p = none) : Q (.ref p) (upd H p (.lst vs)) :=
  q μ _ (S.new hp) (Stp.new hp) _ (RV.newL S hp rs)
end
section
variable {X : Cx}
def bop : Bo → Operator
  | .add => .Add | .sub => .Sub | .mul => .Mult | .div => .FloorDiv | .mod => .Mod | .pow => .Pow
theorem strLen (a : List Nat) : (⟨a.toArray⟩ : Str).length = a.length := by simp [Str.length]
theorem strApp (a b : List Nat) : ((⟨a.toArray⟩ : Str) ++ ⟨b.toArray⟩) = ⟨(a ++ b).toArray⟩ := by
  show (⟨a.toArray ++ b.toArray⟩ : Str) = _
  simp
theorem foldRepN (a : List Nat) : ∀ (n : Nat) (acc : List Nat), List.foldl (fun x1 x2 => x1 ++ x2) acc.toArray (List.replicate n a.toArray) = (acc ++ (List.replicate n a).flatten).toArray
  | 0, acc => by simp
  | n + 1, acc => by
    rw [List.replicate_succ, List.foldl_cons, List.replicate_succ, List.flatten_cons]
    have : acc.toArray ++ a.toArray = (acc ++ a).toArray := by simp
    rw [this, foldRepN a n (acc ++ a), List.append_assoc]
theorem bigLine : big = sizeLine := rfl
theorem binList {h : Hh} {d e r : D} (g : binD h .add d e = some r) {a : List D} (ha : itemsW h d = some a) : ∃ b, itemsW h e = some b ∧ a.length + b.length ≤ big ∧ r = .lst (a ++ b) := by
  have key : binD h .add d e = (match itemsW h d, itemsW h e with
    | some a, some b => if a.length + b.length ≤ big then some (.lst (a ++ b)) else none
    | _, _ => none) := by
    cases d <;> first | (simp [itemsW, itemsL] at ha; done) | (cases e <;> rfl)
  rw [key, ha] at g
  cases q : itemsW h e with
  | none => rw [q] at g; cases g
  | some b =>
    rw [q] at g
    simp only at g
    split at g
    · rename_i hb
      exact ⟨b, rfl, hb, (Option.some.inj g).symm⟩
    · cases g
theorem binRep {h : Hh} {d e r : D} (g : binD h .mul d e = some r) {a : List D} (ha : itemsW h d = some a) : ∃ k, e = .int k ∧ a.length ≤ 1000000 ∧ -9223372036854775808 ≤ k ∧ k < 1000000 ∧ a.length * k.toNat ≤ big ∧ r = .lst (List.replicate k.toNat a).flatten := by
  cases e with
  | int k =>
    have key : binD h .mul d (.int k) = (match itemsW h d with
      | some a => if a.length ≤ 1000000 ∧ -9223372036854775808 ≤ k ∧ k < 1000000 ∧ a.length * k.toNat ≤ big then some (.lst (List.replicate k.toNat a).flatten) else none
      | none => none) := by
      cases d <;> first | (simp [itemsW, itemsL] at ha; done) | rfl
    rw [key, ha] at g
    simp only at g
    split at g
    · rename_i hb
      exact ⟨k, rfl, hb.1, hb.2.1, hb.2.2.1, hb.2.2.2, (Option.some.inj g).symm⟩
    · cases g
  | _ => cases d <;> first | (simp [itemsW, itemsL] at ha; done) | (simp [binD] at g; done)
theorem op_bin_add : OpR X (binaryOp .Add) (r2 X.K fun h => binD h .add) := by
  intro pins s σ H x y v u Q I rx ry ⟨Z, μ, h, d, e, r, S, rd, re, g, p⟩
  have lists : ∀ {a : List D}, itemsW h d = some a → wpAny (model X.prog X.w) X.A (binaryOp .Add v u) (EP X pins σ Q) X.xe s := by
    intro a ha
    obtain ⟨b, hb, hz, rfl⟩ := binList g ha
    obtain ⟨l, vs, rfl, q1, q2⟩ := S.itemsM rd ha
    obtain ⟨m, ws, rfl, q3, q4⟩ := S.itemsM re hb
    exact op_cat pins s σ H _ _ v u Q I rx ry ⟨l, m, vs, ws, rfl, rfl, q1, q3, by rw [← q2.len, ← q4.len]; exact hz, fun c hc => Post.newL S p (q2.app q4) hc⟩
  cases d with
  | int i =>
    cases e with
    | int j =>
      simp only [binD, Option.some.injEq] at g
      subst g
      rw [RV.int] at rd re
      subst rd re
      exact op_add pins s σ H _ _ v u Q I rx ry ⟨i, j, rfl, rfl, Post.now S p (RV.int.mpr rfl)⟩
    | _ => simp [binD, itemsW, itemsL] at g
  | str a =>
    cases e with
    | str b =>
      simp only [binD] at g
      split at g
      · rename_i hz
        cases g
        rw [RV.str] at rd re
        subst rd re
        exact op_add_str pins s σ H _ _ v u Q I rx ry ⟨_, _, rfl, rfl, by rw [strLen, strLen]; exact hz, Post.now S p (RV.str.mpr (by rw [strApp]))⟩
      · cases g
    | _ => simp [binD, itemsW, itemsL] at g
  | tup a =>
    cases e with
    | tup b =>
      simp only [binD] at g
      split at g
      · rename_i hz
        cases g
        obtain ⟨l, vs, rfl, q1, q2⟩ := RV.tup.mp rd
        obtain ⟨m, ws, rfl, q3, q4⟩ := RV.tup.mp re
        refine op_catA pins s σ H _ _ v u Q I rx ry ⟨l, m, vs, ws, rfl, rfl, q1.sq, q3.sq, by rw [← q2.len, ← q4.len]; exact hz, fun e => ?_, fun _ e => ?_, fun _ _ c hc => Post.newT S p (q2.app q4) hc⟩
        · have : a = [] := List.eq_nil_of_length_eq_zero (by rw [q2.len, e]; rfl)
          subst this
          exact Post.now S p (RV.tup.mpr ⟨m, ws, rfl, q3, q4⟩)
        · have : b = [] := List.eq_nil_of_length_eq_zero (by rw [q4.len, e]; rfl)
          subst this
          rw [List.append_nil] at p
          exact Post.now S p (RV.tup.mpr ⟨l, vs, rfl, q1, q2⟩)
      · cases g
    | _ => simp [binD, itemsW, itemsL] at g
  | lst a => exact lists (a := a) rfl
  | ref n =>
    cases ha : itemsW h (.ref n) with
    | some a => exact lists ha
    | none =>
      exfalso
      have : binD h .add (.ref n) e = (match itemsW h (.ref n), itemsW h e with
        | some a, some b => if a.length + b.length ≤ big then some (.lst (a ++ b)) else none
        | _, _ => none) := by cases e <;> rfl
      replace g : binD h .add (.ref n) e = some r := g
      rw [this, ha] at g
      cases g
  | rol _ => cases e <;> simp [binD, itemsW, itemsL] at g
  | non => simp [binD, itemsW, itemsL] at g
  | bl _ => simp [binD, itemsW, itemsL] at g
  | dct _ _ => simp [binD, itemsW, itemsL] at g
  | obj _ _ => simp [binD, itemsW, itemsL] at g
  | rot _ => simp [binD, itemsW, itemsL] at g
  | exn _ _ => simp [binD, itemsW, itemsL] at g
theorem op_bin_sub : OpR X (binaryOp .Sub) (r2 X.K fun h => binD h .sub) := by
  intro pins s σ H x y v u Q I rx ry ⟨Z, μ, h, d, e, r, S, rd, re, g, p⟩
  cases d with
  | int i =>
    cases e with
    | int j =>
      simp only [binD, Option.some.injEq] at g
      subst g
      rw [RV.int] at rd re
      subst rd re
      exact op_sub pins s σ H _ _ v u Q I rx ry ⟨i, j, rfl, rfl, Post.now S p (RV.int.mpr rfl)⟩
    | _ => simp [binD] at g
  | _ => simp [binD] at g
theorem op_bin_mod : OpR X (binaryOp .Mod) (r2 X.K fun h => binD h .mod) := by
  intro pins s σ H x y v u Q I rx ry ⟨Z, μ, h, d, e, r, S, rd, re, g, p⟩
  cases d with
  | int i =>
    cases e with
    | int j =>
      simp only [binD] at g
      split at g
      · rename_i hz
        cases g
        rw [RV.int] at rd re
        subst rd re
        exact op_mod pins s σ H _ _ v u Q I rx ry ⟨i, j, rfl, rfl, hz, Post.now S p (RV.int.mpr rfl)⟩
      · cases g
    | _ => simp [binD] at g
  | _ => simp [binD] at g
theorem op_bin_div : OpR X (binaryOp .FloorDiv) (r2 X.K fun h => binD h .div) := by
  intro pins s σ H x y v u Q I rx ry ⟨Z, μ, h, d, e, r, S, rd, re, g, p⟩
  cases d with
  | int i =>
    cases e with
    | int j =>
      simp only [binD] at g
      split at g
      · rename_i hz
        cases g
        rw [RV.int] at rd re
        subst rd re
        exact op_fdivW pins s σ H _ _ v u Q I rx ry ⟨i, j, rfl, rfl, wide_div hz.1 hz.2 (by decide) (by decide), Post.now S p (RV.int.mpr rfl)⟩
      · cases g
    | _ => simp [binD] at g
  | _ => simp [binD] at g
theorem op_bin_pow : OpR X (binaryOp .Pow) (r2 X.K fun h => binD h .pow) := by
  intro pins s σ H x y v u Q I rx ry ⟨Z, μ, h, d, e, r, S, rd, re, g, p⟩
  cases d with
  | int i =>
    cases e with
    | int j =>
      simp only [binD] at g
      split at g
      · rename_i hz
        cases g
        rw [RV.int] at rd re
        subst rd re
        refine op_pow pins s σ H _ _ v u Q I rx ry ⟨i, j, rfl, rfl, ⟨hz.1, hz.2.1, ?_⟩, Post.now S p (RV.int.mpr rfl)⟩
        have h1 := hz.2.2.1
        have h2 := hz.2.2.2
        unfold bigI at h1 h2
        show i.natAbs < 18446744073709551616
        omega
      · cases g
    | _ => simp [binD] at g
  | _ => simp [binD] at g
theorem op_bin_mul : OpR X (binaryOp .Mult) (r2 X.K fun h => binD h .mul) := by
  intro pins s σ H x y v u Q I rx ry ⟨Z, μ, h, d, e, r, S, rd, re, g, p⟩
  have lists : ∀ {a : List D}, itemsW h d = some a → wpAny (model X.prog X.w) X.A (binaryOp .Mult v u) (EP X pins σ Q) X.xe s := by
    intro a ha
    obtain ⟨k, rfl, hz, h1, h2, h3, rfl⟩ := binRep g ha
    obtain ⟨l, vs, rfl, q1, q2⟩ := S.itemsM rd ha
    rw [RV.int] at re
    subst re
    exact op_rep pins s σ H _ _ v u Q I rx ry ⟨l, k, vs, rfl, rfl, q1, by omega, by omega, by rw [← q2.len]; exact h3, fun c hc => Post.newL S p (q2.repl _) hc⟩
  cases d with
  | int i =>
    cases e with
    | int j =>
      simp only [binD] at g
      split at g
      · rename_i hz
        cases g
        rw [RV.int] at rd re
        subst rd re
        rcases hz with hz | hz | hz
        · exact op_mul pins s σ H _ _ v u Q I rx ry ⟨i, j, rfl, rfl, .inl hz, Post.now S p (RV.int.mpr rfl)⟩
        · exact op_mul pins s σ H _ _ v u Q I rx ry ⟨i, j, rfl, rfl, .inr hz, Post.now S p (RV.int.mpr rfl)⟩
        · exact op_mulW pins s σ H _ _ v u Q I rx ry ⟨i, j, rfl, rfl, wide_mul hz.1 hz.2 (by decide) (by decide) (by decide), Post.now S p (RV.int.mpr rfl)⟩
      · cases g
    | _ => simp [binD, itemsW, itemsL] at g
  | tup a =>
    cases e with
    | int k =>
      simp only [binD] at g
      split at g
      · rename_i hz
        cases g
        obtain ⟨l, vs, rfl, q1, q2⟩ := RV.tup.mp rd
        rw [RV.int] at re
        subst re
        refine op_repT pins s σ H _ _ v u Q I rx ry ⟨l, k, vs, rfl, rfl, q1.sq, fun e => hz.2.1 (List.eq_nil_of_length_eq_zero (by rw [q2.len, e]; rfl)), hz.2.2.1, hz.2.2.2, by rw [← q2.len]; exact hz.1, fun c hc => Post.newT S p (q2.repl _) hc⟩
      · cases g
    | _ => simp [binD, itemsW, itemsL] at g
  | lst a => exact lists (a := a) rfl
  | ref n =>
    cases ha : itemsW h (.ref n) with
    | some a => exact lists ha
    | none =>
      exfalso
      cases e with
      | int k =>
        have : binD h .mul (.ref n) (.int k) = (match itemsW h (.ref n) with
          | some a => if a.length ≤ 1000000 ∧ -9223372036854775808 ≤ k ∧ k < 1000000 ∧ a.length * k.toNat ≤ big then some (.lst (List.replicate k.toNat a).flatten) else none
          | none => none) := rfl
        replace g : binD h .mul (.ref n) (.int k) = some r := g
        rw [this, ha] at g
        cases g
      | _ => simp [binD] at g
  | str a =>
    cases e with
    | int k =>
      simp only [binD] at g
      split at g
      · rename_i hz
        cases g
        rw [RV.str] at rd
        rw [RV.int] at re
        subst rd re
        obtain ⟨t, rfl⟩ := rx
        obtain ⟨t', rfl⟩ := ry
        refine PySem.SB.mul ⟨by rw [decide_eq_false (by omega), decide_eq_false (by omega)]; rfl, fun h1 h2 => ?_, fun h1 h2 => ?_⟩ fun t'' k' => ⟨.str _, H, I.tok _, ⟨_, rfl⟩, Post.now S p (RV.str.mpr ?_)⟩
        · rw [strLen]
          have a1 : (1000 : Int) ≤ (2 ^ 63 - 1) / k := by
            have : (1000 : Int) * k ≤ 2 ^ 63 - 1 := by omega
            exact Int.le_ediv_of_mul_le (by omega) this
          omega
        · rw [strLen]
          have a1 : a.length * k.toNat ≤ 1000 * 1000 := Nat.mul_le_mul hz.1 (by omega)
          unfold Builtin.Str.tooLong
          rw [sizeLine_eq]
          exact decide_eq_false (by omega)
        · unfold Txt.mul
          by_cases h1 : k < 1
          · have : k = 0 := by omega
            subst this
            rfl
          · rw [if_neg h1]
            by_cases h2 : (k == 1 || (⟨a.toArray⟩ : Str).length == 0) = true
            · rw [if_pos h2]
              rw [Bool.or_eq_true, beq_iff_eq, beq_iff_eq, strLen] at h2
              rcases h2 with h2 | h2
              · subst h2
                simp
              · have : a = [] := List.eq_nil_of_length_eq_zero h2
                subst this
                simp
            · rw [if_neg h2]
              have := foldRepN a k.toNat []
              rw [List.nil_append] at this
              show V.str ⟨List.foldl (fun x1 x2 => x1 ++ x2) #[] (List.replicate k.toNat a.toArray)⟩ = V.str ⟨(List.replicate k.toNat a).flatten.toArray⟩
              rw [← this]
      · cases g
    | _ => simp [binD, itemsW, itemsL] at g
  | rol _ => cases e <;> simp [binD, itemsW, itemsL] at g
  | non => cases e <;> simp [binD, itemsW, itemsL] at g
  | bl _ => cases e <;> simp [binD, itemsW, itemsL] at g
  | dct _ _ => cases e <;> simp [binD, itemsW, itemsL] at g
  | obj _ _ => cases e <;> simp [binD, itemsW, itemsL] at g
  | rot _ => cases e <;> simp [binD, itemsW, itemsL] at g
  | exn _ _ => cases e <;> simp [binD, itemsW, itemsL] at g
theorem op_bin (o : Bo) : OpR X (binaryOp (bop o)) (r2 X.K fun h => binD h o) := by
  cases o
  · exact op_bin_add
  · exact op_bin_sub
  · exact op_bin_mul
  · exact op_bin_div
  · exact op_bin_mod
  · exact op_bin_pow
end
end Ls
/-! Comparisons, items, slices, truth by values. -/
namespace Ls
open PySem PySem.Spec PyProof.Rows L2
def cop : Co → CmpOp
  | .eq => .Eq | .ne => .NotEq | .lt => .Lt | .le => .LtE | .gt => .Gt | .ge => .GtE | .isn => .Is | .notn => .IsNot | .isin => .In | .notin => .NotIn
/-- room for what looks into data -/
def Deep (X : Cx) : Prop := X.A.units + 100 < cLine
section
variable {K : PySem.W.Frag} {Z : Addr → Prop} {μ : List Addr} {h : Hh} {H : Hp}
theorem dp_snap (S : SR K Z μ h H) {d : D} {v : V} {n : Nat} (r : RV K (Fb Z μ h) μ H d v) (f : D.flat n (snap h d) = true) : Dp K H v (snap h d).toP := by
  cases d with
  | ref m =>
    cases q : itemsL h (.ref m) with
    | none =>
      have e : snap h (.ref m) = .ref m := by
        simp only [snap]
        simp only [itemsL] at q
        split at q <;> first | (cases q; done) | rfl
      rw [e] at f
      cases n <;> simp [D.flat] at f
    | some xs =>
      have e : snap h (.ref m) = .lst xs := by
        simp only [snap]
        simp only [itemsL] at q
        split at q
        · cases q; rfl
        · cases q; rfl
        · cases q
      rw [e] at f ⊢
      obtain ⟨a, vs, rfl, q1, q2⟩ := S.items r q
      cases n with
      | zero => simp [D.flat] at f
      | succ n =>
        simp only [D.flat] at f
        rw [D.toP]
        exact .lst q1 (dps_of n xs vs f q2)
  | _ => exact dp_of n _ v f r
end
section
variable {X : Cx} {pins : List (Addr × Obj)} {σ : L2.St} {H : Hp} {s : Shared}
theorem room60 (hd : Deep X) {a b : Nat} (h : a ≤ 60) : X.A.units + min a b < cLine := by
  unfold Deep at hd
  have := Nat.min_le_left a b
  omega
theorem room61 (hd : Deep X) {a b : Nat} (h : a ≤ 60) : X.A.units + 1 + min a b < cLine := by
  unfold Deep at hd
  have := Nat.min_le_left a b
  omega
theorem op_cmp (hd : Deep X) (o : Co) : OpR X (compareOp (cop o)) (r2 X.K fun h d e => (cmpD h o d e).map D.bl) := by
  intro pins s σ H x y v u Q I rx ry ⟨Z, μ, h, d, e, r, S, rd, re, g, p⟩
  obtain ⟨b, g', rfl⟩ : ∃ b, cmpD h o d e = some b ∧ r = .bl b := by
    simp only at g
    cases q : cmpD h o d e with
    | none => rw [q] at g; cases g
    | some b => rw [q] at g; cases g; exact ⟨b, rfl, rfl⟩
  clear g
  have g := g'
  clear g'
  have fin : Q (.bl b) H := Post.now S p (RV.bl.mpr rfl)
  have done : EP X pins σ Q (.bool b) s := ⟨.bl b, H, I, rfl, fin⟩
  cases o with
  | isn =>
    simp only [cmpD] at g
    cases e with
    | non =>
      simp only [Option.some.injEq] at g
      rw [RV.non] at re
      subst re
      refine op_isN pins s σ H _ _ v u Q I rx ry ⟨rfl, ?_⟩
      have : decide (x = V.non) = b := by
        subst g
        cases d with
        | non => rw [RV.non] at rd; subst rd; rfl
        | bl _ => rw [RV.bl] at rd; subst rd; rfl
        | int _ => rw [RV.int] at rd; subst rd; rfl
        | str _ => rw [RV.str] at rd; subst rd; rfl
        | tup _ => obtain ⟨_, _, rfl, _⟩ := RV.tup.mp rd; rfl
        | lst _ => obtain ⟨_, _, rfl, _⟩ := RV.lst.mp rd; rfl
        | rol _ => obtain ⟨_, _, rfl, _⟩ := RV.rol.mp rd; rfl
        | ref _ => obtain ⟨_, rfl, _⟩ := RV.ref.mp rd; rfl
        | dct _ _ => obtain ⟨_, _, rfl, _⟩ := RV.dct.mp rd; rfl
        | obj _ _ => obtain ⟨_, _, rfl, _⟩ := RV.obj.mp rd; rfl
        | rot _ => obtain ⟨_, _, rfl, _⟩ := RV.rot.mp rd; rfl
        | exn _ _ => obtain ⟨_, _, rfl, _⟩ := RV.exn.mp rd; rfl
      rw [this]; exact fin
    | _ => simp at g
  | notn =>
    simp only [cmpD] at g
    cases e with
    | non =>
      simp only [Option.some.injEq] at g
      rw [RV.non] at re
      subst re
      refine op_notN pins s σ H _ _ v u Q I rx ry ⟨rfl, ?_⟩
      have : (!decide (x = V.non)) = b := by
        subst g
        cases d with
        | non => rw [RV.non] at rd; subst rd; rfl
        | bl _ => rw [RV.bl] at rd; subst rd; rfl
        | int _ => rw [RV.int] at rd; subst rd; rfl
        | str _ => rw [RV.str] at rd; subst rd; rfl
        | tup _ => obtain ⟨_, _, rfl, _⟩ := RV.tup.mp rd; rfl
        | lst _ => obtain ⟨_, _, rfl, _⟩ := RV.lst.mp rd; rfl
        | rol _ => obtain ⟨_, _, rfl, _⟩ := RV.rol.mp rd; rfl
        | ref _ => obtain ⟨_, rfl, _⟩ := RV.ref.mp rd; rfl
        | dct _ _ => obtain ⟨_, _, rfl, _⟩ := RV.dct.mp rd; rfl
        | obj _ _ => obtain ⟨_, _, rfl, _⟩ := RV.obj.mp rd; rfl
        | rot _ => obtain ⟨_, _, rfl, _⟩ := RV.rot.mp rd; rfl
        | exn _ _ => obtain ⟨_, _, rfl, _⟩ := RV.exn.mp rd; rfl
      rw [this]; exact fin
    | _ => simp at g
  | eq =>
    simp only [cmpD] at g
    split at g
    · rename_i f
      rw [Bool.and_eq_true] at f
      cases g
      obtain ⟨as, r1⟩ := Dp.reads I _ _ _ (dp_snap S rd f.1) rx
      obtain ⟨bs, r2⟩ := Dp.reads I _ _ _ (dp_snap S re f.2) ry
      refine SeqAt.eq_plain r1 r2 (plain_toP _) (plain_toP _) (room60 hd (depth_toP 60 _ f.1)) ?_
      rw [eqv_toP 60 60 _ _ f.1 f.2]
      exact done
    · cases g
  | ne =>
    simp only [cmpD] at g
    split at g
    · rename_i f
      rw [Bool.and_eq_true] at f
      cases g
      obtain ⟨as, r1⟩ := Dp.reads I _ _ _ (dp_snap S rd f.1) rx
      obtain ⟨bs, r2⟩ := Dp.reads I _ _ _ (dp_snap S re f.2) ry
      refine SeqAt.ne_plain r1 r2 (plain_toP _) (plain_toP _) (room60 hd (depth_toP 60 _ f.1)) ?_
      rw [eqv_toP 60 60 _ _ f.1 f.2]
      exact done
    · cases g
  | lt =>
    simp only [cmpD] at g
    split at g
    · rename_i f
      rw [Bool.and_eq_true, Bool.and_eq_true, Bool.and_eq_true] at f
      cases g
      obtain ⟨as, r1⟩ := Dp.reads I _ _ _ (dp_of 60 _ _ f.1.1.1 rd) rx
      obtain ⟨bs, r2⟩ := Dp.reads I _ _ _ (dp_of 60 _ _ f.1.1.2 re) ry
      refine PySem.W.lt_data r1 r2 (alike_toP _ _ f.1.2) (toP_ne_none f.1.2) (room60 hd (depth_toP 60 _ f.1.1.1)) ?_
      rw [lt_toP 60 60 _ _ f.1.1.1 f.1.1.2 f.1.2]
      exact done
    · cases g
  | gt =>
    simp only [cmpD] at g
    split at g
    · rename_i f
      rw [Bool.and_eq_true, Bool.and_eq_true, Bool.and_eq_true] at f
      cases g
      obtain ⟨as, r1⟩ := Dp.reads I _ _ _ (dp_of 60 _ _ f.1.1.1 rd) rx
      obtain ⟨bs, r2⟩ := Dp.reads I _ _ _ (dp_of 60 _ _ f.1.1.2 re) ry
      refine PySem.W.gt_data r1 r2 (alike_toP _ _ f.1.2) (toP_ne_none f.1.2) (room60 hd (depth_toP 60 _ f.1.1.1)) ?_
      rw [lt_toP 60 60 _ _ f.1.1.2 f.1.1.1 f.2]
      exact done
    · cases g
  | le =>
    simp only [cmpD] at g
    split at g
    · rename_i f
      rw [Bool.and_eq_true, Bool.and_eq_true, Bool.and_eq_true] at f
      cases g
      obtain ⟨as, r1⟩ := Dp.reads I _ _ _ (dp_of 60 _ _ f.1.1.1 rd) rx
      obtain ⟨bs, r2⟩ := Dp.reads I _ _ _ (dp_of 60 _ _ f.1.1.2 re) ry
      refine PySem.W.le_data r1 r2 (alike_toP _ _ f.1.2) (toP_ne_none f.1.2) (room60 hd (depth_toP 60 _ f.1.1.1)) ?_
      rw [lt_toP 60 60 _ _ f.1.1.2 f.1.1.1 f.2]
      exact done
    · cases g
  | ge =>
    simp only [cmpD] at g
    split at g
    · rename_i f
      rw [Bool.and_eq_true, Bool.and_eq_true, Bool.and_eq_true] at f
      cases g
      obtain ⟨as, r1⟩ := Dp.reads I _ _ _ (dp_of 60 _ _ f.1.1.1 rd) rx
      obtain ⟨bs, r2⟩ := Dp.reads I _ _ _ (dp_of 60 _ _ f.1.1.2 re) ry
      refine PySem.W.ge_data r1 r2 (alike_toP _ _ f.1.2) (toP_ne_none f.1.2) (room60 hd (depth_toP 60 _ f.1.1.1)) ?_
      rw [lt_toP 60 60 _ _ f.1.1.1 f.1.1.2 f.1.2]
      exact done
    · cases g
  | isin =>
    simp only [cmpD] at g
    split at g
    · rename_i t
      split at g
      · rename_i c
        cases g
        rw [RV.str] at rd re
        subst rd re
        exact op_in_sign pins s σ H _ _ v u Q I rx ry ⟨c, _, rfl, rfl, fin⟩
      · cases g
    · rename_i hne
      cases q : itemsS h e with
      | none =>
        rw [q] at g
        simp only at g
        cases q2 : lookK h e d with
        | none => rw [q2] at g; cases g
        | some r0 =>
          rw [q2] at g
          cases g
          obtain ⟨a, ov, rfl, dg, orr⟩ := dget_of S re rd q2
          cases ry
          have e3 : r0.isSome = ov.isSome := by rcases orr with ⟨rfl, rfl⟩ | ⟨_, _, rfl, rfl, _⟩ <;> rfl
          refine d_in (by unfold Deep at hd; omega) I dg rx fun s' I' => ⟨.bl (ov.isSome), H, I', rfl, ?_⟩
          rw [← e3]; exact fin
      | some xs =>
        rw [q] at g
        simp only at g
        split at g
        · rename_i f
          rw [Bool.and_eq_true] at f
          cases g
          obtain ⟨as, r1⟩ := Dp.reads I _ _ _ (dp_of 60 _ _ f.1 rd) rx
          obtain ⟨a, vs, rfl, q1, q2⟩ := S.itemsS re q
          have dd := dps_of 60 xs vs f.2 q2
          have key : ((D.toPs xs).any fun y => PyData.eqv y d.toP) = hasE d xs := by
            have : ∀ l : List D, D.flatL 60 l = true → ((D.toPs l).any fun y => PyData.eqv y d.toP) = hasE d l := by
              intro l
              induction l with
              | nil => intro _; simp [D.toPs, hasE]
              | cons z l ih =>
                intro fl
                simp only [D.flatL, Bool.and_eq_true] at fl
                have i1 := ih fl.2
                simp only [hasE] at i1 ⊢
                rw [D.toPs, List.any_cons, List.any_cons, i1, eqv_toP 60 60 z d fl.1 f.1]
            exact this xs f.2
          rcases q1 with q1 | q1
          · obtain ⟨bs, r2⟩ := Dp.reads I (.list (D.toPs xs)) _ _ (.lst q1 dd) ry
            refine SeqAt.in_list_data r2 r1 (plain_toPs _) (plain_toP _) (room61 hd (depth_toPs 60 _ f.2)) ?_
            rw [key]; exact done
          · obtain ⟨bs, r2⟩ := Dp.reads I (.tuple (D.toPs xs)) _ _ (.tup q1 dd) ry
            refine SeqAt.in_tuple_data r2 r1 (plain_toPs _) (plain_toP _) (room61 hd (depth_toPs 60 _ f.2)) ?_
            rw [key]; exact done
        · cases g
  | notin =>
    simp only [cmpD] at g
    split at g
    · rename_i t
      split at g
      · rename_i c
        cases g
        rw [RV.str] at rd re
        subst rd re
        exact op_notIn_sign pins s σ H _ _ v u Q I rx ry ⟨c, _, rfl, rfl, fin⟩
      · cases g
    · rename_i hne
      cases q : itemsS h e with
      | none =>
        rw [q] at g
        simp only at g
        cases q2 : lookK h e d with
        | none => rw [q2] at g; cases g
        | some r0 =>
          rw [q2] at g
          cases g
          obtain ⟨a, ov, rfl, dg, orr⟩ := dget_of S re rd q2
          cases ry
          have e3 : r0.isSome = ov.isSome := by rcases orr with ⟨rfl, rfl⟩ | ⟨_, _, rfl, rfl, _⟩ <;> rfl
          refine d_notIn (by unfold Deep at hd; omega) I dg rx fun s' I' => ⟨.bl (!ov.isSome), H, I', rfl, ?_⟩
          rw [← e3]; exact fin
      | some xs =>
        rw [q] at g
        simp only at g
        split at g
        · rename_i f
          rw [Bool.and_eq_true] at f
          cases g
          obtain ⟨as, r1⟩ := Dp.reads I _ _ _ (dp_of 60 _ _ f.1 rd) rx
          obtain ⟨a, vs, rfl, q1, q2⟩ := S.itemsS re q
          have dd := dps_of 60 xs vs f.2 q2
          have key : ((D.toPs xs).any fun y => PyData.eqv y d.toP) = hasE d xs := by
            have : ∀ l : List D, D.flatL 60 l = true → ((D.toPs l).any fun y => PyData.eqv y d.toP) = hasE d l := by
              intro l
              induction l with
              | nil => intro _; simp [D.toPs, hasE]
              | cons z l ih =>
                intro fl
                simp only [D.flatL, Bool.and_eq_true] at fl
                have i1 := ih fl.2
                simp only [hasE] at i1 ⊢
                rw [D.toPs, List.any_cons, List.any_cons, i1, eqv_toP 60 60 z d fl.1 f.1]
            exact this xs f.2
          rcases q1 with q1 | q1
          · obtain ⟨bs, r2⟩ := Dp.reads I (.list (D.toPs xs)) _ _ (.lst q1 dd) ry
            refine SeqAt.notIn_list_data r2 r1 (plain_toPs _) (plain_toP _) (room61 hd (depth_toPs 60 _ f.2)) ?_
            rw [key]; exact done
          · obtain ⟨bs, r2⟩ := Dp.reads I (.tuple (D.toPs xs)) _ _ (.tup q1 dd) ry
            refine SeqAt.notIn_tuple_data r2 r1 (plain_toPs _) (plain_toP _) (room61 hd (depth_toPs 60 _ f.2)) ?_
            rw [key]; exact done
        · cases g
end
end Ls
/-! Truth, items, slices, stores, built-in functions and methods by values. -/
namespace Ls
open PySem PySem.Spec PyProof.Rows L2
section
variable {K : PySem.W.Frag} {Z : Addr → Prop} {μ : List Addr} {h : Hh} {H : Hp}
theorem truV_of (S : SR K Z μ h H) {d : D} {v : V} {b : Bool} (r : RV K (Fb Z μ h) μ H d v) (e : tru h d = some b) : TruV K v H b := by
  have lists : ∀ {xs : List D}, itemsL h d = some xs → b = !xs.isEmpty → TruV K v H b := by
    intro xs q hb
    obtain ⟨a, vs, rfl, q1, q2⟩ := S.items r q
    refine .inl ⟨vs, q1, ?_⟩
    rw [hb]
    cases xs with
    | nil => rw [RVs.nil] at q2; subst q2; rfl
    | cons x l => obtain ⟨w, ws, rfl, _⟩ := RVs.cons.mp q2; rfl
  cases d with
  | non => rw [RV.non] at r; subst r; simp only [tru, Option.some.injEq] at e; exact e.symm
  | bl _ => rw [RV.bl] at r; subst r; simp only [tru, Option.some.injEq] at e; exact e.symm
  | int _ => rw [RV.int] at r; subst r; simp only [tru, Option.some.injEq] at e; exact e.symm
  | str s =>
    rw [RV.str] at r; subst r
    simp only [tru] at e
    split at e
    · rename_i hz
      cases e
      refine ⟨by rw [strLen]; exact of_decide_eq_true hz, ?_⟩
      rw [strLen]
      cases s with
      | nil => rfl
      | cons c l => simp; omega
    · cases e
  | tup xs =>
    obtain ⟨a, vs, rfl, q1, q2⟩ := RV.tup.mp r
    simp only [tru, Option.some.injEq] at e
    refine .inr (.inl ⟨vs, q1.sq, ?_⟩)
    rw [← e]
    cases xs with
    | nil => rw [RVs.nil] at q2; subst q2; rfl
    | cons x l => obtain ⟨w, ws, rfl, _⟩ := RVs.cons.mp q2; rfl
  | lst xs =>
    simp only [tru, itemsL, Option.some.injEq] at e
    exact lists (xs := xs) rfl e.symm
  | rol xs =>
    simp only [tru, itemsL, Option.some.injEq] at e
    exact lists (xs := xs) rfl e.symm
  | ref n =>
    simp only [tru] at e
    split at e
    · rename_i xs q
      cases e
      exact lists q rfl
    · cases e
  | dct _ _ => simp [tru, itemsL] at e
  | obj _ _ => simp [tru, itemsL] at e
  | rot xs =>
    obtain ⟨a, vs, rfl, q1, q2⟩ := RV.rot.mp r
    simp only [tru, Option.some.injEq] at e
    refine .inr (.inl ⟨vs, q1.sq, ?_⟩)
    rw [← e]
    cases xs with
    | nil => rw [RVs.nil] at q2; subst q2; rfl
    | cons x l => obtain ⟨w, ws, rfl, _⟩ := RVs.cons.mp q2; rfl
  | exn _ _ => simp [tru, itemsL] at e
end
/-- d[i] behind its parts, d a dict -/
theorem tail_dict {P : Program} {w : World} {A : Around} {E : Value → Shared → Prop} {s : Shared} {value slice : Expr} {a : Addr} {i : Value} {Q : Value → Shared → Prop} (ty : s.TypeIs (.ref a) "dict")
    (get : wpAny (model P w) A (getItem (.ref a) i) Q E s) (pl : subscripted slice false (.ref a) i = operate [.ref a, i] (getItem (.ref a) i)) : wpAny (model P w) A (subscriptTail value slice (.ref a) i) Q E s := by
  have last : wpAny (model P w) A (subscripted slice false (.ref a) i) (fun r s1 => wpAny (model P w) A (letTemporaryGo value (.ref a) r >>= fun _ => pure r) Q E s1) E s := by
    rw [pl]
    refine wpAny_operating (wpAny_mono get (fun r s1 q => ?_) fun _ _ z => z)
    exact wpAny_bind (wpAny_letTemporaryGo (wpAny_pure q))
  unfold subscriptTail
  apply wpAny_bind
  rw [getitemInPython_of_ne ty.not_modules]
  apply wpAny_bind
  apply wpAny_specialOf ty PySem.F.slot_dict_getitem.lookup
  first
    | exact wpAny_pure (wpAny_bind last)
    | exact wpAny_bind last
section
variable {X : Cx}
theorem at_ix (n : Nat) (i : Int) : at_ n i = ixN n i := rfl
/-- o[i] -/
theorem ix_all (hd : Deep X) : IxR X (r2 X.K ixD) := by
  intro value slice pins s σ H x y v u Q I rx ry ⟨Z, μ, h, d, e, r, S, rd, re, g, p⟩ hs
  have seqs : ∀ {xs : List D}, itemsS h d = some xs → ixD h d e = (match e with | .int k => (match at_ xs.length k with | some j => xs[j]? | none => none) | _ => none) →
      wpAny (model X.prog X.w) X.A (subscriptTail value slice v u) (EP X pins σ Q) X.xe s := by
    intro xs q g2
    replace g : ixD h d e = some r := g
    rw [g2] at g
    cases e with
    | int k =>
      simp only at g
      split at g
      · rename_i j hj
        obtain ⟨a, vs, rfl, q1, q2⟩ := S.itemsS rd q
        rw [RV.int] at re
        subst re
        obtain ⟨w, e1, e2⟩ := q2.get g
        have hat : atI vs k = some w := by
          show (ixN vs.length k).bind (fun j => vs[j]?) = some w
          rw [← q2.len, ← at_ix, hj]
          exact e1
        rcases q1 with q1 | q1
        · exact ix_list value slice pins s σ H _ _ v u Q I rx ry ⟨a, vs, k, w, rfl, rfl, q1, hat, Post.now S p e2⟩ hs
        · exact ix_tup value slice pins s σ H _ _ v u Q I rx ry ⟨a, vs, k, w, rfl, rfl, q1, hat, Post.now S p e2⟩ hs
      · cases g
    | _ => simp at g
  have dicts : ixD h d e = (lookK h d e).bind id → wpAny (model X.prog X.w) X.A (subscriptTail value slice v u) (EP X pins σ Q) X.xe s := by
    intro g2
    replace g : ixD h d e = some r := g
    rw [g2] at g
    cases q : lookK h d e with
    | none => rw [q] at g; cases g
    | some r0 =>
      rw [q] at g
      cases g
      obtain ⟨a, ov, rfl, dg, orr⟩ := dget_of S rd re q
      rcases orr with ⟨z, _⟩ | ⟨d0, v0, e0, rfl, rv⟩
      · cases z
      · cases e0
        cases rx
        exact tail_dict (dict_typeIs I dg) (d_getItem (by unfold Deep at hd; omega) I dg ry fun w' s' I' rw' => ⟨v0, H, I', rw', Post.now S p rv⟩) hs
  cases d with
  | str a =>
    cases e with
    | int k =>
      simp only [ixD] at g
      split at g
      · rename_i hz
        split at g
        · rename_i j hj
          cases q : a[j]? with
          | none => rw [q] at g; cases g
          | some c =>
            rw [q] at g
            cases g
            rw [RV.str] at rd
            rw [RV.int] at re
            subst rd re
            refine ix_str value slice pins s σ H _ _ v u Q I rx ry ⟨⟨a.toArray⟩, k, c, rfl, rfl, by rw [strLen]; exact of_decide_eq_true hz, ?_, Post.now S p (RV.str.mpr rfl)⟩ hs
            show (ixN a.length k).bind (fun j => a[j]?) = some c
            rw [← at_ix, hj]
            exact q
        · cases g
      · cases g
    | _ => simp [ixD, itemsS, itemsL, lookK, entries] at g
  | tup xs => exact seqs (xs := xs) rfl (by cases e <;> rfl)
  | lst xs => exact seqs (xs := xs) rfl (by cases e <;> rfl)
  | rol xs => exact seqs (xs := xs) rfl (by cases e <;> rfl)
  | ref n =>
    cases q : itemsS h (.ref n) with
    | some xs => exact seqs q (by cases e <;> (simp only [ixD, q]; try rfl))
    | none =>
      exact dicts (by cases e <;> (simp only [ixD, q]; try rfl))
  | non => cases e <;> simp [ixD, itemsS, itemsL, lookK, entries] at g
  | bl _ => cases e <;> simp [ixD, itemsS, itemsL, lookK, entries] at g
  | int _ => cases e <;> simp [ixD, itemsS, itemsL, lookK, entries] at g
  | dct _ _ => exact dicts (by cases e <;> rfl)
  | obj _ _ => cases e <;> simp [ixD, itemsS, itemsL, lookK, entries] at g
  | rot xs => exact seqs (xs := xs) rfl (by cases e <;> rfl)
  | exn _ _ => cases e <;> simp [ixD, itemsS, itemsL, lookK, entries] at g
theorem cut_sIx (n d : Nat) (o : Option Int) : cut n d o = HT.sIx n d o := by cases o <;> rfl
theorem RVs.slice {K : PySem.W.Frag} {F : Addr → Prop} {μ : List Addr} {H : Hp} {xs : List D} {vs : List V} (r : RVs K F μ H xs vs) (lo hi : Option Int) : RVs K F μ H (slice xs lo hi) (cutV vs lo hi) := by
  unfold Ls.slice cutV
  simp only [cut_sIx, r.len]
  exact (r.drop _).take _
def r3 (K : PySem.W.Frag) (g : Hh → D → Option Int → Option Int → Option D) : V → Option Int → Option Int → Hp → VK → Prop := fun x lo hi H Q => ∃ Z μ h d r, SR K Z μ h H ∧ RV K (Fb Z μ h) μ H d x ∧ g h d lo hi = some r ∧ Post K Z μ h H (PV K Z Q) (fun _ _ _ _ => False) (.ok r h)
theorem sl_all : SlR X (r3 X.K slD) := by
  intro pins s σ H x v vl vu lo hi sl Q I rx hs pl pu ⟨Z, μ, h, d, r, S, rd, g, p⟩
  have lists : ∀ {xs : List D}, itemsL h d = some xs → slD h d lo hi = some (.lst (slice xs lo hi)) → ∃ T id, typeLookup (.type T) "__getitem__" = pure (some (.builtin id)) ∧ s.TypeIs v T ∧ wpAny (model X.prog X.w) X.A (getItem v (.ref sl)) (EP X pins σ Q) X.xe s := by
    intro xs q e
    rw [e] at g
    cases g
    obtain ⟨a, vs, rfl, q1, q2⟩ := S.items rd q
    exact sl_list pins s σ H _ v vl vu lo hi sl Q I rx hs pl pu ⟨a, vs, rfl, q1, fun c hc => Post.newL S p (RVs.slice q2 lo hi) hc⟩
  cases d with
  | str a =>
    simp only [slD] at g
    split at g
    · rename_i hz
      cases g
      rw [RV.str] at rd
      subst rd
      refine sl_str pins s σ H _ v vl vu lo hi sl Q I rx hs pl pu ⟨⟨a.toArray⟩, rfl, by rw [strLen]; exact of_decide_eq_true hz, Post.now S p (RV.str.mpr ?_)⟩
      unfold cutS Ls.slice
      simp only [cut_sIx, strLen]
    · cases g
  | tup xs =>
    simp only [slD, Option.some.injEq] at g
    subst g
    obtain ⟨a, vs, rfl, q1, q2⟩ := RV.tup.mp rd
    refine sl_tupA pins s σ H _ v vl vu lo hi sl Q I rx hs pl pu ⟨a, vs, rfl, q1.sq, fun hw => ?_, fun _ c hc => Post.newT S p (RVs.slice q2 lo hi) hc⟩
    have : slice xs lo hi = xs := by
      unfold Ls.slice
      simp only [cut_sIx, q2.len, hw.1, hw.2]
      rw [← q2.len]
      simp
    rw [this] at p
    exact Post.now S p (RV.tup.mpr ⟨a, vs, rfl, q1, q2⟩)
  | lst xs => exact lists (xs := xs) rfl rfl
  | rol xs => exact lists (xs := xs) rfl rfl
  | ref n =>
    cases q : itemsL h (.ref n) with
    | some xs => exact lists q (by simp only [slD, q])
    | none => simp only [slD, q] at g; cases g
  | non => simp [slD, itemsL] at g
  | bl _ => simp [slD, itemsL] at g
  | int _ => simp [slD, itemsL] at g
  | dct _ _ => simp [slD, itemsL] at g
  | obj _ _ => simp [slD, itemsL] at g
  | rot _ => simp [slD, itemsL] at g
  | exn _ _ => simp [slD, itemsL] at g
/-- o[i] = d -/
def rSet (K : PySem.W.Frag) : TSet := fun x y z H Q => ∃ Z μ h d e f h', SR K Z μ h H ∧ RV K (Fb Z μ h) μ H d x ∧ RV K (Fb Z μ h) μ H e y ∧ RV K (Fb Z μ h) μ H f z ∧ setD h d e f = some h' ∧ Post K Z μ h H (fun _ _ _ H' => Q H') (fun _ _ _ _ => False) (.ok () h')
theorem set_all (hd : Deep X) : PSet X (rSet X.K) := by
  intro pins s σ H o i v ov iv u Q I ro ri rv ⟨Z, μ, h, d, e, f, h', S, rd, re, rf, g, p⟩
  cases d with
  | ref n =>
    simp only [setD] at g
    obtain ⟨a, rfl, e2⟩ := RV.ref.mp rd
    split at g
    · rename_i xs k q1
      split at g
      · rename_i j hj
        cases g
        rw [RV.int] at re
        subst re
        obtain ⟨vs, e3, e4⟩ := S.obj n a _ e2 q1
        refine set_list pins s σ H _ _ _ ov iv u Q I ro ri rv ⟨a, vs, k, j, rfl, rfl, e3, by rw [← e4.len]; exact hj, ?_⟩
        exact p μ _ (S.wr e2 q1 (e4.set j rf)) (Stp.wr (K := X.K) (Z := Z) (vs := []) S e2 q1)
      · cases g
    · rename_i t kvs q1
      split at g
      rotate_left
      · cases g
      rename_i k ek
      split at g
      rotate_left
      · cases g
      rename_i ok
      cases g
      obtain ⟨a', H', e1, dp, S', t'⟩ := dput_of S rd q1 re rf ek ok.2 ok.1
      cases e1
      cases ro
      exact d_setItem (by unfold Deep at hd; omega) I dp ri rv fun s' I' => ⟨H', I', p μ H' S' t'⟩
    · cases g
  | _ => simp [setD] at g
end
end Ls
/-! Expressions: the hand layer's rules, read by the interpreter. -/
namespace Ls
open PySem PySem.Spec PyProof.Rows L2
/-- neither starred nor a slice -/
def plainE : Expr → Bool
  | .Starred _ _ => false
  | .Slice _ _ _ _ => false
  | _ => true
theorem star_cons {e : Expr} (h : plainE e = true) (es : List Expr) (env : Env) : starEach (e :: es) env = (false, eval e env) :: starEach es env := by
  cases e <;> first | rfl | (simp [plainE] at h)
theorem plain_ix {b : Expr} (h : plainE b = true) : PlainIx b := by
  intro o i
  cases b <;> first | rfl | (simp [plainE] at h)
theorem star_none {es : List Expr} (h : es.all plainE = true) (pos : Pos) (env : Env) : (backTo pos (starEach es env)).any (·.1) = false := by
  induction es with
  | nil => rfl
  | cons e es ih =>
    rw [List.all_cons, Bool.and_eq_true] at h
    rw [star_cons h.1]
    show (false || (backTo pos (starEach es env)).any (·.1)) = false
    rw [ih h.2]; rfl
theorem star_few {es : List Expr} (h : es.all plainE = true) (pos : Pos) (env : Env) : (backTo pos (starEach es env)).all (fun x => !x.1) = true := by
  induction es with
  | nil => rfl
  | cons e es ih =>
    rw [List.all_cons, Bool.and_eq_true] at h
    rw [star_cons h.1]
    show (true && (backTo pos (starEach es env)).all (fun x => !x.1)) = true
    rw [ih h.2]; rfl
theorem mapbl {o : Option Bool} {b : Bool} (q : o = some b) : o.map D.bl = some (.bl b) := by rw [q]; rfl
section
variable {X : Cx} {cf : Cf} {W : WX} {pos : Pos} {a b c e : Expr} {es : List Expr}
theorem sE_var {i : Nat} {x : Str} (hN : X.N[i]? = some x) (hv : Vis X.env.scope x) (h1 : (x == ("__debug__" : Str)) = false) (h2 : (x == ("__classdict__" : Str)) = false) : PE X (.Name x pos) (rdE X.K cf W (.var i)) := by
  refine PE.imp (pe_var hN hv h1 h2) fun σ H Q ⟨Z, μ, h, ρ, B, p⟩ => ?_
  simp only [ev] at p
  split at p
  · rename_i d e
    obtain ⟨v, q1, q2⟩ := B.er.val i d e
    exact ⟨v, q1, Post.now B.sr p q2⟩
  · exact p.elim
theorem sE_cst {d : D} {v : V} (h : PE X e (tC v)) (r : ∀ Z μ h H, RV X.K (Fb Z μ h) μ H d v) : PE X e (rdE X.K cf W (.cst d)) :=
  PE.imp h fun σ H Q ⟨Z, μ, h, ρ, B, p⟩ => Post.now B.sr p (r Z μ h H)
theorem sE_bin {o : Bo} {ma mb : E} (ha : PE X a (rdE X.K cf W ma)) (hb : PE X b (rdE X.K cf W mb)) : PE X (.BinOp a (bop o) b pos) (rdE X.K cf W (.bin o ma mb)) := by
  refine PE.imp (pe_op (op_bin o) ha hb) fun σ H Q ⟨Z, μ, h, ρ, B, p⟩ => ?_
  simp only [ev] at p
  refine rd1 B p fun d v μ1 h1 H1 B1 t1 r1 p1 => ?_
  refine rd1 B1 p1 fun d2 v2 μ2 h2 H2 B2 t2 r2 p2 => ?_
  cases q : binD h2 o d d2 with
  | none => rw [q] at p2; exact p2.elim
  | some r => rw [q] at p2; exact ⟨Z, μ2, h2, d, d2, r, B2.sr, RV.mono B1.sr t2 _ _ r1, r2, q, p2⟩
theorem sE_neg {ma : E} (ha : PE X a (rdE X.K cf W ma)) : PE X (.UnaryOp .USub a pos) (rdE X.K cf W (.neg ma)) := by
  refine PE.imp (pe_un un_neg ha) fun σ H Q ⟨Z, μ, h, ρ, B, p⟩ => ?_
  simp only [ev] at p
  refine rd1 B p fun d v μ1 h1 H1 B1 t1 r1 p1 => ?_
  cases d with
  | int i =>
    rw [RV.int] at r1
    exact ⟨i, r1, Post.now B1.sr p1 (RV.int.mpr rfl)⟩
  | _ => exact p1.elim
theorem sE_not {ma : E} (ha : PE X a (rdE X.K cf W ma)) : PE X (.UnaryOp .Not a pos) (rdE X.K cf W (.not ma)) := by
  refine PE.imp (pe_notT ha) fun σ H Q ⟨Z, μ, h, ρ, B, p⟩ => ?_
  simp only [ev] at p
  refine rd1 B p fun d v μ1 h1 H1 B1 t1 r1 p1 => ?_
  cases q : tru h1 d with
  | none => rw [q] at p1; exact p1.elim
  | some k =>
    rw [q] at p1
    refine ⟨k, truV_of B1.sr r1 q, ?_⟩
    cases k with
    | true => exact Post.now B1.sr p1 (RV.bl.mpr rfl)
    | false => exact Post.now B1.sr p1 (RV.bl.mpr rfl)
theorem sE_cmp {o : Co} {ma mb : E} (hd : Deep X) (ha : PE X a (rdE X.K cf W ma)) (hb : PE X b (rdE X.K cf W mb)) (hm : behindInMarks (cop o) b = false) : PE X (.Compare a [cop o] [b] pos) (rdE X.K cf W (.cmp o ma mb)) := by
  refine PE.imp (pe_cmpR (op_cmp hd o) ha hb hm) fun σ H Q ⟨Z, μ, h, ρ, B, p⟩ => ?_
  simp only [ev] at p
  refine rd1 B p fun d v μ1 h1 H1 B1 t1 r1 p1 => ?_
  refine rd1 B1 p1 fun d2 v2 μ2 h2 H2 B2 t2 r2 p2 => ?_
  cases q : (cmpD h2 o d d2).map D.bl with
  | none => rw [q] at p2; exact p2.elim
  | some r => rw [q] at p2; exact ⟨Z, μ2, h2, d, d2, r, B2.sr, RV.mono B1.sr t2 _ _ r1, r2, q, p2⟩
theorem sE_chn {o o' : Co} {ma mb mc : E} (hd : Deep X) (ha : PE X a (rdE X.K cf W ma)) (hb : PE X b (rdE X.K cf W mb)) (hc : PE X c (rdE X.K cf W mc))
    (hm : lastMarks [cop o, cop o'] [b, c] = false) : PE X (.Compare a [cop o, cop o'] [b, c] pos) (rdE X.K cf W (.chn o o' ma mb mc)) := by
  refine PE.imp (pe_chain (op_cmp hd o) (op_cmp hd o') ha hb hc hm) fun σ H Q ⟨Z, μ, h, ρ, B, p⟩ => ?_
  simp only [ev] at p
  refine rd1 B p fun d v μ1 h1 H1 B1 t1 r1 p1 => ?_
  refine rd1 B1 p1 fun d2 v2 μ2 h2 H2 B2 t2 r2 p2 => ?_
  cases q : cmpD h2 o d d2 with
  | none => rw [q] at p2; exact p2.elim
  | some k =>
    rw [q] at p2
    refine ⟨Z, μ2, h2, d, d2, .bl k, B2.sr, RV.mono B1.sr t2 _ _ r1, r2, mapbl q, fun μ3 H3 S3 t3 v3 r3 => ?_⟩
    rw [RV.bl] at r3
    refine ⟨k, r3, ?_⟩
    have B3 := B2.mono S3 t3
    cases k with
    | true =>
      rw [if_pos rfl]
      refine rd1 B3 (Post.shift B2.sr t3 p2) fun d4 v4 μ4 h4 H4 B4 t4 r4 p4 => ?_
      cases q4 : (cmpD h4 o' d2 d4).map D.bl with
      | none => rw [q4] at p4; exact p4.elim
      | some r => rw [q4] at p4; exact ⟨Z, μ4, h4, d2, d4, r, B4.sr, RV.mono B3.sr t4 _ _ (RV.mono B2.sr t3 _ _ r2), r4, q4, p4⟩
    | false =>
      rw [if_neg Bool.false_ne_true]
      exact p2 μ3 H3 S3 t3 _ (RV.bl.mpr rfl)
theorem sE_ite {mc ma mb : E} (hc : PT X c (rdT X.K cf W mc)) (ha : PE X a (rdE X.K cf W ma)) (hb : PE X b (rdE X.K cf W mb)) : PE X (.IfExp c a b pos) (rdE X.K cf W (.ite mc ma mb)) := by
  refine PE.imp (pe_ifExp hc ha hb) fun σ H Q ⟨Z, μ, h, ρ, B, p⟩ => ?_
  simp only [ev] at p
  refine rdT1 (a := fun h1 => ev cf ma ρ h1) (b := fun h1 => ev cf mb ρ h1) B p fun k μ1 h1 H1 B1 t1 p1 => ?_
  cases k with
  | true => exact ⟨Z, μ1, h1, ρ, B1, p1⟩
  | false => exact ⟨Z, μ1, h1, ρ, B1, p1⟩
/-- and, or as values -/
def rdB (K : PySem.W.Frag) (cf : Cf) (W : WX) (k : Bool) (es : Es) : TE := fun σ H Q => ∃ Z μ h ρ, Beside K σ H Z μ h ρ ∧ Post K Z μ h H (PV K Z Q) (exc K Z W) (evb cf k es ρ h)
def bo2 : Bool → BoolOp | true => .And | false => .Or
theorem sB_one {k : Bool} {ma : E} (ha : PE X a (rdE X.K cf W ma)) : PE X (.BoolOp (bo2 k) [a] pos) (rdB X.K cf W k (.cons ma .nil)) := by
  refine PE.imp (pe_one ha) fun σ H Q ⟨Z, μ, h, ρ, B, p⟩ => ⟨Z, μ, h, ρ, B, ?_⟩
  rw [evb] at p
  exact p
theorem sB_cons {k : Bool} {ma : E} {ms : Es} {rest : List Expr} (ha : PE X a (rdE X.K cf W ma)) (hr : PE X (.BoolOp (bo2 k) (b :: rest) pos) (rdB X.K cf W k ms)) (hn : ms ≠ .nil) : PE X (.BoolOp (bo2 k) (a :: b :: rest) pos) (rdB X.K cf W k (.cons ma ms)) := by
  have eqn : ∀ ρ h, evb cf k (.cons ma ms) ρ h = (ev cf ma ρ h).bind fun x h1 => br (tru h1 x) (if k then evb cf k ms ρ h1 else .ok x h1) (if k then .ok x h1 else evb cf k ms ρ h1) := by
    intro ρ h
    cases ms with
    | nil => exact absurd rfl hn
    | cons _ _ => rw [evb]; exact fun z => nomatch z
    | star _ _ => rw [evb]; exact fun z => nomatch z
  cases k with
  | true =>
    refine PE.imp (pe_andT ha hr) fun σ H Q ⟨Z, μ, h, ρ, B, p⟩ => ?_
    rw [eqn] at p
    refine rd1 B p fun d v μ1 h1 H1 B1 t1 r1 p1 => ?_
    cases q : tru h1 d with
    | none => rw [q] at p1; exact p1.elim
    | some j =>
      rw [q] at p1
      refine ⟨j, truV_of B1.sr r1 q, ?_⟩
      cases j with
      | true => exact ⟨Z, μ1, h1, ρ, B1, p1⟩
      | false => exact Post.now B1.sr p1 r1
  | false =>
    refine PE.imp (pe_orT ha hr) fun σ H Q ⟨Z, μ, h, ρ, B, p⟩ => ?_
    rw [eqn] at p
    refine rd1 B p fun d v μ1 h1 H1 B1 t1 r1 p1 => ?_
    cases q : tru h1 d with
    | none => rw [q] at p1; exact p1.elim
    | some j =>
      rw [q] at p1
      refine ⟨j, truV_of B1.sr r1 q, ?_⟩
      cases j with
      | true => exact Post.now B1.sr p1 r1
      | false => exact ⟨Z, μ1, h1, ρ, B1, p1⟩
theorem sE_bool {k : Bool} {ms : Es} {vs : List Expr} (h : PE X (.BoolOp (bo2 k) vs pos) (rdB X.K cf W k ms)) : PE X (.BoolOp (bo2 k) vs pos) (rdE X.K cf W (.bool k ms)) :=
  PE.imp h fun σ H Q ⟨Z, μ, h, ρ, B, p⟩ => ⟨Z, μ, h, ρ, B, by rw [ev] at p; exact p⟩
/-! arguments -/
theorem sA_nil : PA X [] (rdA X.K cf W .nil) := PA.imp pa_nil fun σ H Q ⟨Z, μ, h, ρ, B, p⟩ => p μ H B.sr Stp.refl [] (RVs.nil.mpr rfl)
theorem sA_cons {ma : E} {ms : Es} (ha : PE X a (rdE X.K cf W ma)) (hr : PA X es (rdA X.K cf W ms)) (hp : plainE a = true) : PA X (a :: es) (rdA X.K cf W (.cons ma ms)) := by
  refine PA.imp (pa_cons ha hr (star_cons hp es X.env)) fun σ H Q ⟨Z, μ, h, ρ, B, p⟩ => ?_
  simp only [evs] at p
  refine rd1 B p fun d v μ1 h1 H1 B1 t1 r1 p1 => ?_
  refine rdA1 B1 p1 fun xs vs μ2 h2 H2 B2 t2 r2 p2 => ?_
  exact p2 μ2 H2 B2.sr Stp.refl (v :: vs) (RVs.mk (RV.mono B1.sr t2 _ _ r1) r2)
/-! tuples -/
theorem sE_tup {x1 : Nat} {ms : Es} (h : PA X es (rdA X.K cf W ms)) : PE X (.Tuple es x1 pos) (rdE X.K cf W (.tup ms)) := by
  refine PE.imp (pe_tup h) fun σ H Q ⟨Z, μ, h, ρ, B, p⟩ => ?_
  simp only [ev] at p
  refine rdA1 B p fun xs vs μ1 h1 H1 B1 t1 r1 p1 => ?_
  split at p1
  · rename_i hz
    exact ⟨by rw [← r1.len]; exact of_decide_eq_true hz, fun c hc => Post.newT B1.sr p1 r1 hc⟩
  · exact p1.elim
/-! new lists -/
theorem freshL_ok {K : PySem.W.Frag} {Z : Addr → Prop} {μ : List Addr} {h : Hh} {H : Hp} {P : D → List Addr → Hh → Hp → Prop} {Ex : Xn → List Addr → Hh → Hp → Prop} {r : R (List D)} {k : List D → Hh → R D}
    (p : Post K Z μ h H P Ex (freshL r k)) (xs : List D) (h' : Hh) (e : r = .ok xs h') : okLen xs = true := by
  subst e
  simp only [freshL, bind_ok] at p
  split at p
  · assumption
  · exact p.elim
theorem sE_lv {f : F} (h : PE X e (rdF X.K cf W f)) : PE X e (rdE X.K cf W (.lv f)) := by
  refine PE.imp h fun σ H Q ⟨Z, μ, h, ρ, B, p⟩ => ⟨Z, μ, h, ρ, B, by simp only [ev] at p; exact freshL_ok p, ?_⟩
  simp only [ev, freshL] at p
  refine (Post.bind B.sr p).imp fun xs μ1 h1 H1 S1 t1 q => ?_
  split at q
  · rename_i hz
    exact ⟨hz, fun vs c rs hc => Post.newL S1 q rs hc⟩
  · exact q.elim
theorem sE_lr {f : F} (h : PE X e (rdF X.K cf W f)) : PE X e (rdE X.K cf W (.lr f)) := by
  refine PE.imp h fun σ H Q ⟨Z, μ, h, ρ, B, p⟩ => ⟨Z, μ, h, ρ, B, by simp only [ev] at p; exact freshL_ok p, ?_⟩
  simp only [ev, freshL] at p
  refine (Post.bind B.sr p).imp fun xs μ1 h1 H1 S1 t1 q => ?_
  split at q
  rotate_left
  · exact q.elim
  rename_i hz
  refine ⟨hz, fun vs c rs hc => ?_⟩
  refine q (μ1 ++ [c]) _ (S1.newR hc rs) (Stp.newR hc S1.len) _ (RV.ref.mpr ⟨c, rfl, ?_⟩)
  rw [← S1.len]
  simp
/-! tests -/
theorem sT_plain {ma : E} (h : PE X e (rdE X.K cf W ma)) (he : ∀ whole, isTrue e X.env whole = (do let v ← whole; standAt e.pos; holding [v] (truthy v))) : PT X e (rdT X.K cf W ma) := by
  refine PT.imp (pt_truth h he) fun σ H Q ⟨Z, μ, h, ρ, B, p⟩ => ?_
  refine rd1 B p fun d v μ1 h1 H1 B1 t1 r1 p1 => ?_
  obtain ⟨k, e1, e2⟩ := Post.lift B1.sr p1
  exact ⟨k, truV_of B1.sr r1 e1, e2⟩
theorem sT_not {ma : E} (h : PT X a (rdT X.K cf W ma)) : PT X (.UnaryOp .Not a pos) (rdT X.K cf W (.not ma)) := by
  refine PT.imp (pt_not h) fun σ H Q ⟨Z, μ, h, ρ, B, p⟩ => ⟨Z, μ, h, ρ, B, ?_⟩
  simp only [ev] at p
  cases q : ev cf ma ρ h with
  | stuck => rw [q] at p; exact p
  | err x h1 => rw [q] at p; exact p
  | ok d h1 =>
    rw [q] at p
    show Post X.K Z μ h H _ _ (lift (tru h1 d) h1)
    cases q2 : tru h1 d with
    | none => simp only [bind_ok, q2, br_none, bind_stuck] at p; exact p
    | some k =>
      simp only [bind_ok, q2] at p
      cases k with
      | true => exact p
      | false => exact p
theorem sT_cmp {o : Co} {ma mb : E} (hd : Deep X) (ha : PE X a (rdE X.K cf W ma)) (hb : PE X b (rdE X.K cf W mb)) (hm : behindInMarks (cop o) b = false) : PT X (.Compare a [cop o] [b] pos) (rdT X.K cf W (.cmp o ma mb)) := by
  refine PT.imp (pt_cmpR (op_cmp hd o) ha hb hm) fun σ H Q ⟨Z, μ, h, ρ, B, p⟩ => ?_
  have p' : Post X.K Z μ h H (PB Q) (exc X.K Z W) ((ev cf ma ρ h).bind fun x h1 => (ev cf mb ρ h1).bind fun y h2 => (lift ((cmpD h2 o x y).map D.bl) h2).bind fun d h3 => lift (tru h3 d) h3) := by
    simp only [ev] at p
    cases q : ev cf ma ρ h with
    | stuck => rw [q] at p; exact p
    | err x h1 => rw [q] at p; exact p
    | ok d h1 =>
      rw [q] at p
      simp only [bind_ok] at p ⊢
      cases q : ev cf mb ρ h1 with
      | stuck => rw [q] at p; exact p
      | err x h1 => rw [q] at p; exact p
      | ok d2 h2 => rw [q] at p; exact p
  refine rd1 B p' fun d v μ1 h1 H1 B1 t1 r1 p1 => ?_
  refine rd1 B1 p1 fun d2 v2 μ2 h2 H2 B2 t2 r2 p2 => ?_
  cases q : cmpD h2 o d d2 with
  | none => rw [q] at p2; exact p2.elim
  | some r =>
    rw [q] at p2
    refine ⟨Z, μ2, h2, d, d2, .bl r, B2.sr, RV.mono B1.sr t2 _ _ r1, r2, mapbl q, fun μ3 H3 S3 t3 v3 r3 => ?_⟩
    rw [RV.bl] at r3
    exact ⟨r, r3, p2 μ3 H3 S3 t3⟩
theorem sT_chn {o o' : Co} {ma mb mc : E} (hd : Deep X) (ha : PE X a (rdE X.K cf W ma)) (hb : PE X b (rdE X.K cf W mb)) (hc : PE X c (rdE X.K cf W mc))
    (hm : lastMarks [cop o, cop o'] [b, c] = false) : PT X (.Compare a [cop o, cop o'] [b, c] pos) (rdT X.K cf W (.chn o o' ma mb mc)) := by
  refine PT.imp (pt_chain (op_cmp hd o) (op_cmp hd o') ha hb hc hm) fun σ H Q ⟨Z, μ, h, ρ, B, p⟩ => ?_
  have p' : Post X.K Z μ h H (PB Q) (exc X.K Z W) ((ev cf ma ρ h).bind fun x h1 => (ev cf mb ρ h1).bind fun y h2 => (br (cmpD h2 o x y) ((ev cf mc ρ h2).bind fun z h3 => lift ((cmpD h3 o' y z).map D.bl) h3) (.ok (.bl false) h2)).bind fun d h3 => lift (tru h3 d) h3) := by
    simp only [ev] at p
    cases q : ev cf ma ρ h with
    | stuck => rw [q] at p; exact p
    | err x h1 => rw [q] at p; exact p
    | ok d h1 =>
      rw [q] at p
      simp only [bind_ok] at p ⊢
      cases q : ev cf mb ρ h1 with
      | stuck => rw [q] at p; exact p
      | err x h1 => rw [q] at p; exact p
      | ok d2 h2 => rw [q] at p; exact p
  refine rd1 B p' fun d v μ1 h1 H1 B1 t1 r1 p1 => ?_
  refine rd1 B1 p1 fun d2 v2 μ2 h2 H2 B2 t2 r2 p2 => ?_
  cases q : cmpD h2 o d d2 with
  | none => rw [q] at p2; exact p2.elim
  | some k =>
    rw [q] at p2
    refine ⟨Z, μ2, h2, d, d2, .bl k, B2.sr, RV.mono B1.sr t2 _ _ r1, r2, mapbl q, fun μ3 H3 S3 t3 v3 r3 => ?_⟩
    rw [RV.bl] at r3
    refine ⟨k, r3, ?_⟩
    have B3 := B2.mono S3 t3
    cases k with
    | true =>
      rw [if_pos rfl]
      have p3 := Post.shift B2.sr t3 p2
      have p3' : Post X.K Z μ3 h2 H3 (PB Q) (exc X.K Z W) ((ev cf mc ρ h2).bind fun z h3 => (lift ((cmpD h3 o' d2 z).map D.bl) h3).bind fun d h3 => lift (tru h3 d) h3) := by
        simp only [br_true] at p3
        cases q : ev cf mc ρ h2 with
        | stuck => rw [q] at p3; exact p3
        | err x h1 => rw [q] at p3; exact p3
        | ok d h1 => rw [q] at p3; exact p3
      refine rd1 B3 p3' fun d4 v4 μ4 h4 H4 B4 t4 r4 p4 => ?_
      cases q4 : cmpD h4 o' d2 d4 with
      | none => rw [q4] at p4; exact p4.elim
      | some r =>
        rw [q4] at p4
        refine ⟨Z, μ4, h4, d2, d4, .bl r, B4.sr, RV.mono B3.sr t4 _ _ (RV.mono B2.sr t3 _ _ r2), r4, mapbl q4, fun μ5 H5 S5 t5 v5 r5 => ?_⟩
        rw [RV.bl] at r5
        exact ⟨r, r5, p4 μ5 H5 S5 t5⟩
    | false =>
      rw [if_neg Bool.false_ne_true]
      exact ⟨false, rfl, p2 μ3 H3 S3 t3⟩
def rdTB (K : PySem.W.Frag) (cf : Cf) (W : WX) (k : Bool) (es : Es) : TT := fun σ H Q => ∃ Z μ h ρ, Beside K σ H Z μ h ρ ∧ Post K Z μ h H (PB Q) (exc K Z W) ((evb cf k es ρ h).bind fun d h1 => lift (tru h1 d) h1)
theorem PW.imp {X : Cx} {e : Expr} {t t' : TT} (h : PW X e t) (k : ∀ σ H Q, t' σ H Q → t σ H Q) : PW X e t' := ⟨fun wh pins s σ H Q I q => h.run wh pins s σ H Q I (k σ H Q q)⟩
theorem sTB_one {k : Bool} {ma : E} (ha : PT X a (rdT X.K cf W ma)) : PW X (.BoolOp (bo2 k) [a] pos) (rdTB X.K cf W k (.cons ma .nil)) := by
  cases k with
  | true =>
    refine PW.imp (pw_and1 ha) fun σ H Q ⟨Z, μ, h, ρ, B, p⟩ => ⟨Z, μ, h, ρ, B, ?_⟩
    rw [evb] at p
    exact p
  | false =>
    refine PW.imp (pw_or1 ha) fun σ H Q ⟨Z, μ, h, ρ, B, p⟩ => ⟨Z, μ, h, ρ, B, ?_⟩
    rw [evb] at p
    exact p
theorem sTB_cons {k : Bool} {ma : E} {ms : Es} {rest : List Expr} (ha : PT X a (rdT X.K cf W ma)) (hr : PW X (.BoolOp (bo2 k) (b :: rest) pos) (rdTB X.K cf W k ms)) (hn : ms ≠ .nil) : PW X (.BoolOp (bo2 k) (a :: b :: rest) pos) (rdTB X.K cf W k (.cons ma ms)) := by
  have eqn : ∀ ρ h, (evb cf k (.cons ma ms) ρ h).bind (fun d h1 => lift (tru h1 d) h1) = (ev cf ma ρ h).bind fun x h1 => br (tru h1 x) (if k then (evb cf k ms ρ h1).bind (fun d h1 => lift (tru h1 d) h1) else .ok true h1) (if k then .ok false h1 else (evb cf k ms ρ h1).bind (fun d h1 => lift (tru h1 d) h1)) := by
    intro ρ h
    have e1 : evb cf k (.cons ma ms) ρ h = (ev cf ma ρ h).bind fun x h1 => br (tru h1 x) (if k then evb cf k ms ρ h1 else .ok x h1) (if k then .ok x h1 else evb cf k ms ρ h1) := by
      cases ms with
      | nil => exact absurd rfl hn
      | cons _ _ => rw [evb]; exact fun z => nomatch z
      | star _ _ => rw [evb]; exact fun z => nomatch z
    rw [e1]
    cases ev cf ma ρ h with
    | stuck => rfl
    | err x h1 => rfl
    | ok d h1 =>
      simp only [bind_ok]
      cases q : tru h1 d with
      | none => rfl
      | some j => cases j <;> cases k <;> simp [q]
  cases k with
  | true =>
    refine PW.imp (pw_and ha hr) fun σ H Q ⟨Z, μ, h, ρ, B, p⟩ => ?_
    rw [eqn] at p
    refine rdT1 (a := fun h1 => (evb cf true ms ρ h1).bind (fun d h1 => lift (tru h1 d) h1)) (b := fun h1 => .ok false h1) B p fun j μ1 h1 H1 B1 t1 p1 => ?_
    cases j with
    | true => exact ⟨Z, μ1, h1, ρ, B1, p1⟩
    | false => exact p1 μ1 H1 B1.sr Stp.refl
  | false =>
    refine PW.imp (pw_or ha hr) fun σ H Q ⟨Z, μ, h, ρ, B, p⟩ => ?_
    rw [eqn] at p
    refine rdT1 (a := fun h1 => .ok true h1) (b := fun h1 => (evb cf false ms ρ h1).bind (fun d h1 => lift (tru h1 d) h1)) B p fun j μ1 h1 H1 B1 t1 p1 => ?_
    cases j with
    | true => exact p1 μ1 H1 B1.sr Stp.refl
    | false => exact ⟨Z, μ1, h1, ρ, B1, p1⟩
theorem sT_bool {k : Bool} {ms : Es} {vs : List Expr} (h : PW X (.BoolOp (bo2 k) vs pos) (rdTB X.K cf W k ms)) : PT X (.BoolOp (bo2 k) vs pos) (rdT X.K cf W (.bool k ms)) :=
  PT.imp h.pt fun σ H Q ⟨Z, μ, h, ρ, B, p⟩ => ⟨Z, μ, h, ρ, B, by rw [ev] at p; exact p⟩
/-! items, slices -/
theorem sE_ix (hd : Deep X) {ma mb : E} (ha : PE X a (rdE X.K cf W ma)) (hb : PE X b (rdE X.K cf W mb)) (hp : plainE b = true) : PE X (.Subscript a b pos) (rdE X.K cf W (.ix ma mb)) := by
  refine PE.imp (pe_ix (ix_all hd) ha hb (plain_ix hp)) fun σ H Q ⟨Z, μ, h, ρ, B, p⟩ => ?_
  simp only [ev] at p
  refine rd1 B p fun d v μ1 h1 H1 B1 t1 r1 p1 => ?_
  refine rd1 B1 p1 fun d2 v2 μ2 h2 H2 B2 t2 r2 p2 => ?_
  cases q : ixD h2 d d2 with
  | none => rw [q] at p2; exact p2.elim
  | some r => rw [q] at p2; exact ⟨Z, μ2, h2, d, d2, r, B2.sr, RV.mono B1.sr t2 _ _ r1, r2, q, p2⟩
theorem sO_no : PO X none (rdO X.K cf W .no) := PO.imp po_none fun σ H Q ⟨Z, μ, h, ρ, B, p⟩ => p μ H B.sr Stp.refl
theorem sO_so {ma : E} (ha : PE X a (rdE X.K cf W ma)) : PO X (some a) (rdO X.K cf W (.so ma)) := by
  refine PO.imp (po_some ha) fun σ H Q ⟨Z, μ, h, ρ, B, p⟩ => ?_
  simp only [evo] at p
  refine rd1 B p fun d v μ1 h1 H1 B1 t1 r1 p1 => ?_
  cases d with
  | int i =>
    rw [RV.int] at r1
    exact ⟨i, r1, p1 μ1 H1 B1.sr Stp.refl⟩
  | _ => exact p1.elim
theorem sE_sl {p2 : Pos} {lo hi : Option Expr} {ma : E} {ml mh : Oe} (ha : PE X a (rdE X.K cf W ma)) (hl : PO X lo (rdO X.K cf W ml)) (hh : PO X hi (rdO X.K cf W mh)) : PE X (.Subscript a (.Slice lo hi none p2) pos) (rdE X.K cf W (.sl ma ml mh)) := by
  refine PE.imp (pe_slice sl_all ha hl hh) fun σ H Q ⟨Z, μ, h, ρ, B, p⟩ => ?_
  simp only [ev] at p
  refine rd1 B p fun d v μ1 h1 H1 B1 t1 r1 p1 => ?_
  refine rdO1 B1 p1 fun i μ2 h2 H2 B2 t2 p2 => ?_
  refine rdO1 B2 p2 fun j μ3 h3 H3 B3 t3 p3 => ?_
  cases q : slD h3 d i j with
  | none => rw [q] at p3; exact p3.elim
  | some r => rw [q] at p3; exact ⟨Z, μ3, h3, d, r, B3.sr, RV.mono B2.sr t3 _ _ (RV.mono B1.sr t2 _ _ r1), q, p3⟩
/-! freezing -/
theorem Stp.kill {μ : List Addr} {h : Hh} {H : Hp} {n : Nat} {o : O} (q : h[n]? = some o) (w : Wrt o) : Stp μ h H μ (h.set n .dead) H := by
  have hn : n < h.length := (List.getElem?_eq_some_iff.mp q).1
  refine ⟨⟨[], by simp, by simp⟩, by simp, fun m e => ?_, fun m zs e => ?_, fun m t zs e => ?_, fun b o' e => ⟨o', e⟩, fun b o' e _ => e⟩
  · by_cases hm : n = m
    · subst hm; rw [List.getElem?_set_self hn]
    · rw [List.getElem?_set_ne hm]; exact e
  · have : n ≠ m := by rintro rfl; rw [q] at e; cases e; exact w
    rw [List.getElem?_set_ne this]; exact e
  · have : n ≠ m := by rintro rfl; rw [q] at e; cases e; exact w
    rw [List.getElem?_set_ne this]; exact e
theorem SR.killed {K : PySem.W.Frag} {Z : Addr → Prop} {μ : List Addr} {h : Hh} {H : Hp} (S : SR K Z μ h H) {n : Nat} {c : Addr} {o : O} (e1 : μ[n]? = some c) (q : h[n]? = some o) (w : Wrt o) : SR K Z μ (h.set n .dead) H ∧ ¬ Fb Z μ (h.set n .dead) c := by
  have hn : n < h.length := (List.getElem?_eq_some_iff.mp q).1
  have al : Alive o := by cases o <;> first | trivial | exact w.elim
  obtain ⟨u, e2, _⟩ := RO.there (S.obj n c o e1 q) al
  refine ⟨S.put e1 q al (fun c u e _ => e) ⟨_, e2⟩ (Stp.kill q w) trivial, ?_⟩
  rintro (z | ⟨m, o', f1, f2, f3⟩)
  · exact S.nz c ⟨n, _, e1, q, al⟩ z
  · by_cases hm : n = m
    · subst hm
      rw [List.getElem?_set_self hn] at f2
      cases f2
      exact f3
    · rw [List.getElem?_set_ne hm] at f2
      exact hm (S.inj n m c _ _ e1 f1 q f2 al f3)
theorem sE_frz {ma : E} (ha : PE X a (rdE X.K cf W ma)) : PE X a (rdE X.K cf W (.frz ma)) := by
  refine PE.imp ha fun σ H Q ⟨Z, μ, h, ρ, B, p⟩ => ?_
  simp only [ev] at p
  refine rd1 B p fun d v μ1 h1 H1 B1 t1 r1 p1 => ?_
  cases d with
  | ref n =>
    simp only at p1
    obtain ⟨c, rfl, e1⟩ := RV.ref.mp r1
    split at p1
    · rename_i xs q
      obtain ⟨vs, e2, e3⟩ := B1.sr.obj n c _ e1 q
      obtain ⟨S2, nf⟩ := B1.sr.killed e1 q trivial
      exact p1 μ1 H1 S2 (Stp.kill q trivial) _ (RV.lst.mpr ⟨c, vs, rfl, ⟨e2, nf⟩, RVs.mono B1.sr (Stp.kill q trivial) xs vs e3⟩)
    · rename_i t kvs q
      obtain ⟨ws, e2, e3⟩ := B1.sr.obj n c _ e1 q
      obtain ⟨S2, nf⟩ := B1.sr.killed e1 q trivial
      exact p1 μ1 H1 S2 (Stp.kill q trivial) _ (RV.dct.mpr ⟨c, ws, rfl, ⟨e2, nf⟩, RVk.mono B1.sr (Stp.kill q trivial) kvs ws e3⟩)
    · exact p1.elim
  | _ => exact p1.elim
end
end Ls
/-! Built-in functions and methods. -/
namespace Ls
open PySem PySem.Spec PyProof.Rows L2
def rC (K : PySem.W.Frag) (g : Hh → List D → Option D) : List V → Hp → VK → Prop := fun vs H Q => ∃ Z μ h xs r, SR K Z μ h H ∧ RVs K (Fb Z μ h) μ H xs vs ∧ g h xs = some r ∧ Post K Z μ h H (PV K Z Q) (fun _ _ _ _ => False) (.ok r h)
section
variable {K : PySem.W.Frag} {F : Addr → Prop} {μ : List Addr} {H : Hp}
theorem RVs.one {x : D} {vs : List V} (r : RVs K F μ H [x] vs) : ∃ v, vs = [v] ∧ RV K F μ H x v := by
  obtain ⟨v, ws, rfl, p, q⟩ := RVs.cons.mp r
  rw [RVs.nil] at q
  subst q
  exact ⟨v, rfl, p⟩
theorem RVs.two {x y : D} {vs : List V} (r : RVs K F μ H [x, y] vs) : ∃ v w, vs = [v, w] ∧ RV K F μ H x v ∧ RV K F μ H y w := by
  obtain ⟨v, ws, rfl, p, q⟩ := RVs.cons.mp r
  obtain ⟨w, rfl, q'⟩ := RVs.one q
  exact ⟨v, w, rfl, p, q'⟩
theorem RVs.intsD : ∀ {xs : List D} {vs : List V} {ns : List Int}, RVs K F μ H xs vs → intsD xs = some ns → vs = ns.map V.int
  | [], vs, ns, r, e => by simp [Ls.intsD] at e; subst e; rw [RVs.nil] at r; subst r; rfl
  | x :: xs, vs, ns, r, e => by
    obtain ⟨v, ws, rfl, p, q⟩ := RVs.cons.mp r
    cases x with
    | int i =>
      simp only [Ls.intsD, Option.map_eq_some_iff] at e
      obtain ⟨l, e1, rfl⟩ := e
      rw [RV.int] at p
      subst p
      rw [RVs.intsD q e1]; rfl
    | _ => simp [Ls.intsD] at e
theorem RVs.boolsD : ∀ {xs : List D} {vs : List V} {ns : List Bool}, RVs K F μ H xs vs → boolsD xs = some ns → vs = ns.map V.bl
  | [], vs, ns, r, e => by simp [Ls.boolsD] at e; subst e; rw [RVs.nil] at r; subst r; rfl
  | x :: xs, vs, ns, r, e => by
    obtain ⟨v, ws, rfl, p, q⟩ := RVs.cons.mp r
    cases x with
    | bl i =>
      simp only [Ls.boolsD, Option.map_eq_some_iff] at e
      obtain ⟨l, e1, rfl⟩ := e
      rw [RV.bl] at p
      subst p
      rw [RVs.boolsD q e1]; rfl
    | _ => simp [Ls.boolsD] at e
def sV (s : List Nat) : Str := ⟨s.toArray⟩
theorem RVs.strsD : ∀ {xs : List D} {vs : List V} {ns : List (List Nat)}, RVs K F μ H xs vs → strsD xs = some ns → vs = (ns.map sV).map V.str
  | [], vs, ns, r, e => by simp [Ls.strsD] at e; subst e; rw [RVs.nil] at r; subst r; rfl
  | x :: xs, vs, ns, r, e => by
    obtain ⟨v, ws, rfl, p, q⟩ := RVs.cons.mp r
    cases x with
    | str i =>
      simp only [Ls.strsD, Option.map_eq_some_iff] at e
      obtain ⟨l, e1, rfl⟩ := e
      rw [RV.str] at p
      subst p
      rw [RVs.strsD q e1]; rfl
    | _ => simp [Ls.strsD] at e
end
theorem foldMax : ∀ (r : List Int) (x : Int), (r.foldl (fun a b => if a < b then b else a) x ∈ x :: r) ∧ (∀ y ∈ x :: r, y ≤ r.foldl (fun a b => if a < b then b else a) x)
  | [], x => by simp
  | y :: r, x => by
    rw [List.foldl_cons]
    obtain ⟨h1, h2⟩ := foldMax r (if x < y then y else x)
    have hx : x ≤ (if x < y then y else x) := by split <;> omega
    have hy : y ≤ (if x < y then y else x) := by split <;> omega
    refine ⟨?_, fun z hz => ?_⟩
    · rcases List.mem_cons.mp h1 with e | e
      · rw [e]
        split <;> simp
      · simp [e]
    · have h3 := h2 _ (List.mem_cons_self ..)
      rcases List.mem_cons.mp hz with rfl | hz
      · exact Int.le_trans hx h3
      · rcases List.mem_cons.mp hz with rfl | hz
        · exact Int.le_trans hy h3
        · exact h2 z (List.mem_cons_of_mem _ hz)
theorem foldMin : ∀ (r : List Int) (x : Int), (r.foldl (fun a b => if b < a then b else a) x ∈ x :: r) ∧ (∀ y ∈ x :: r, r.foldl (fun a b => if b < a then b else a) x ≤ y)
  | [], x => by simp
  | y :: r, x => by
    rw [List.foldl_cons]
    obtain ⟨h1, h2⟩ := foldMin r (if y < x then y else x)
    have hx : (if y < x then y else x) ≤ x := by split <;> omega
    have hy : (if y < x then y else x) ≤ y := by split <;> omega
    refine ⟨?_, fun z hz => ?_⟩
    · rcases List.mem_cons.mp h1 with e | e
      · rw [e]
        split <;> simp
      · simp [e]
    · have h3 := h2 _ (List.mem_cons_self ..)
      rcases List.mem_cons.mp hz with rfl | hz
      · exact Int.le_trans h3 hx
      · rcases List.mem_cons.mp hz with rfl | hz
        · exact Int.le_trans h3 hy
        · exact h2 z (List.mem_cons_of_mem _ hz)
/-- what a built-in of the small language is in Python -/
def prV : Pr → Value
  | .len => .builtin "len" | .abs => .builtin "abs" | .int => .type "int" | .str => .type "str" | .tuple => .type "tuple" | .sum => .builtin "sum"
  | .mx2 => .builtin "max" | .mn2 => .builtin "min" | .mx => .builtin "max" | .mn => .builtin "min" | .all => .builtin "all" | .any => .builtin "any"
def prN : Pr → Str
  | .len => "len" | .abs => "abs" | .int => "int" | .str => "str" | .tuple => "tuple" | .sum => "sum"
  | .mx2 => "max" | .mn2 => "min" | .mx => "max" | .mn => "min" | .all => "all" | .any => "any"
section
variable {X : Cx}
theorem pr_len : CallR X (.builtin "len") (rC X.K fun h => prD h .len) := by
  intro pins s σ H vs us Q I rv ⟨Z, μ, h, xs, r, S, rs, g, post⟩
  replace g : prD h .len xs = some r := g
  match xs with
  | [] => simp [prD] at g
  | _ :: _ :: _ => simp [prD] at g
  | [d] =>
    obtain ⟨v, rfl, r1⟩ := RVs.one rs
    have seqs : ∀ {ys : List D}, itemsS h d = some ys → r = .int ys.length → wpAny (model X.prog X.w) X.A (call (.builtin "len") us) (EP X pins σ Q) X.xe s := by
      rintro ys q rfl
      obtain ⟨a, ws, rfl, q1, q2⟩ := S.itemsS r1 q
      exact call_len_seq pins s σ H _ us Q I rv ⟨a, ws, rfl, q1, Post.now S post (RV.int.mpr (by rw [q2.len]))⟩
    have dicts : (∃ kvs, Ls.entries h d = some (false, kvs) ∧ r = .int kvs.length) → wpAny (model X.prog X.w) X.A (call (.builtin "len") us) (EP X pins σ Q) X.xe s := by
      rintro ⟨kvs, q, rfl⟩
      obtain ⟨a, ws, rfl, ⟨ks, q1, rfl⟩, q2⟩ := S.entries r1 q
      have ln := q2.len
      rw [List.length_map] at ln
      exact call_lenD pins s σ H _ us Q I rv ⟨a, ks, rfl, q1, Post.now S post (RV.int.mpr (by rw [ln]))⟩
    cases d with
    | str a =>
      simp only [prD] at g
      split at g
      · rename_i hz
        cases g
        rw [RV.str] at r1
        subst r1
        exact call_len_str pins s σ H _ us Q I rv ⟨⟨a.toArray⟩, rfl, by rw [strLen]; exact of_decide_eq_true hz, Post.now S post (RV.int.mpr (by rw [strLen]))⟩
      · cases g
    | tup ys => simp only [prD, itemsS, Option.some.injEq] at g; exact seqs (ys := ys) rfl g.symm
    | lst ys => simp only [prD, itemsS, itemsL, Option.some.injEq] at g; exact seqs (ys := ys) rfl g.symm
    | rol ys => simp only [prD, itemsS, itemsL, Option.some.injEq] at g; exact seqs (ys := ys) rfl g.symm
    | ref n =>
      cases q : itemsS h (.ref n) with
      | none =>
        simp only [prD, q] at g
        exact dicts (by split at g <;> first | (cases g; done) | (rename_i kvs q2; cases g; exact ⟨kvs, q2, rfl⟩))
      | some ys => simp only [prD, q, Option.some.injEq] at g; exact seqs q g.symm
    | non => simp [prD, itemsS, itemsL, Ls.entries] at g
    | bl _ => simp [prD, itemsS, itemsL, Ls.entries] at g
    | int _ => simp [prD, itemsS, itemsL, Ls.entries] at g
    | dct t kvs =>
      simp only [prD, itemsS, itemsL] at g
      exact dicts (by split at g <;> first | (cases g; done) | (rename_i kvs q2; cases g; exact ⟨kvs, q2, rfl⟩))
    | obj _ _ => simp [prD, itemsS, itemsL, Ls.entries] at g
    | rot ys => simp only [prD, itemsS, Option.some.injEq] at g; exact seqs (ys := ys) rfl g.symm
    | exn _ _ => simp [prD, itemsS, itemsL, Ls.entries] at g
theorem pr_abs : CallR X (.builtin "abs") (rC X.K fun h => prD h .abs) := by
  intro pins s σ H vs us Q I rv ⟨Z, μ, h, xs, r, S, rs, g, post⟩
  replace g : prD h .abs xs = some r := g
  match xs with
  | [] => simp [prD] at g
  | _ :: _ :: _ => simp [prD] at g
  | [d] =>
    obtain ⟨v, rfl, r1⟩ := RVs.one rs
    cases d with
    | int i =>
      simp only [prD, Option.some.injEq] at g
      subst g
      rw [RV.int] at r1
      subst r1
      exact call_abs pins s σ H _ us Q I rv ⟨i, rfl, Post.now S post (RV.int.mpr rfl)⟩
    | _ => simp [prD] at g
theorem pr_int : CallR X (.type "int") (rC X.K fun h => prD h .int) := by
  intro pins s σ H vs us Q I rv ⟨Z, μ, h, xs, r, S, rs, g, post⟩
  replace g : prD h .int xs = some r := g
  match xs with
  | [] => simp [prD] at g
  | _ :: _ :: _ => simp [prD] at g
  | [d] =>
    obtain ⟨v, rfl, r1⟩ := RVs.one rs
    cases d with
    | int i =>
      simp only [prD, Option.some.injEq] at g
      subst g
      rw [RV.int] at r1
      subst r1
      exact call_int1 pins s σ H _ us Q I rv (.inl ⟨i, rfl, Post.now S post (RV.int.mpr rfl)⟩)
    | bl b =>
      simp only [prD, Option.some.injEq] at g
      subst g
      rw [RV.bl] at r1
      subst r1
      exact call_int1 pins s σ H _ us Q I rv (.inr ⟨b, rfl, Post.now S post (RV.int.mpr rfl)⟩)
    | str a =>
      simp only [prD] at g
      split at g
      rotate_left
      · cases g
      rename_i q
      cases g
      rw [RV.str] at r1
      subst r1
      refine call_int_str pins s σ H _ us Q I rv ⟨⟨a.toArray⟩, _, rfl, SX.int_S q.2.1 q.1 (by omega), by rw [strLen]; exact q.2.2, Post.now S post (RV.int.mpr rfl)⟩
    | _ => simp [prD] at g
theorem strInt_eq (i : Int) : (Str.ofString (toString i)) = ⟨(strInt i).toArray⟩ := by
  apply str_cps
  show (Str.ofString (toString i)).cps.toList = strInt i
  have key : ∀ n : Nat, (Nat.repr n).toList.map Char.toNat = digs n := fun n => by
    unfold Nat.repr digs
    rw [String.toList_ofList]
  rw [signs_ofString]
  cases i with
  | ofNat m =>
    have e : toString (Int.ofNat m) = Nat.repr m := rfl
    rw [e, key]
    have : ¬ (Int.ofNat m < 0) := by simp
    unfold strInt
    rw [if_neg this]; rfl
  | negSucc m =>
    have e : toString (Int.negSucc m) = "-" ++ Nat.repr (m + 1) := rfl
    rw [e, String.toList_append, List.map_append, key]
    have : (Int.negSucc m < 0) := Int.negSucc_lt_zero m
    unfold strInt
    rw [if_pos this]; rfl
theorem log_ok {n : Nat} (h : n < 2 ^ 1900) : n.log2 < 1920 := by
  by_cases h0 : n = 0
  · subst h0; exact of_decide_eq_true rfl
  · exact (Nat.log2_lt h0).mpr (Nat.lt_of_lt_of_le h (Nat.pow_le_pow_right (Nat.succ_pos 1) (of_decide_eq_true rfl)))
theorem pr_str : CallR X (.type "str") (rC X.K fun h => prD h .str) := by
  intro pins s σ H vs us Q I rv ⟨Z, μ, h, xs, r, S, rs, g, post⟩
  replace g : prD h .str xs = some r := g
  match xs with
  | [] => simp [prD] at g
  | _ :: _ :: _ => simp [prD] at g
  | [d] =>
    obtain ⟨v, rfl, r1⟩ := RVs.one rs
    cases d with
    | int i =>
      simp only [prD] at g
      split at g
      rotate_left
      · cases g
      rename_i q
      cases g
      rw [RV.int] at r1
      subst r1
      exact call_str_int pins s σ H _ us Q I rv ⟨i, rfl, log_ok q, Post.now S post (RV.str.mpr (by rw [show ((toString i : String) : Str) = _ from strInt_eq i]))⟩
    | _ => simp [prD] at g
theorem pr_tuple : CallR X (.type "tuple") (rC X.K fun h => prD h .tuple) := by
  intro pins s σ H vs us Q I rv ⟨Z, μ, h, xs, r, S, rs, g, post⟩
  replace g : prD h .tuple xs = some r := g
  match xs with
  | [] => simp [prD] at g
  | _ :: _ :: _ => simp [prD] at g
  | [d] =>
    obtain ⟨v, rfl, r1⟩ := RVs.one rs
    replace g : tupD h d = some r := g
    by_cases er : ∃ zs, d = .rot zs
    · obtain ⟨zs, rfl⟩ := er
      simp only [tupD, Option.some.injEq] at g
      subst g
      obtain ⟨a, ws, rfl, q1, q2⟩ := RV.rot.mp r1
      exact call_tuple_of pins s σ H _ us Q I rv ⟨a, ws, rfl, .inr ⟨q1.sq, Post.now S post r1⟩⟩
    have g' : (match itemsS h d with | some xs => some (D.tup xs) | none => none) = some r := by
      cases d with
      | rot zs => exact absurd ⟨zs, rfl⟩ er
      | _ => exact g
    clear g
    replace g := g'
    split at g
    · rename_i ys q
      cases g
      cases d with
      | rot zs => exact absurd ⟨zs, rfl⟩ er
      | tup zs =>
        simp only [itemsS, Option.some.injEq] at q
        subst q
        obtain ⟨a, ws, rfl, q1, q2⟩ := RV.tup.mp r1
        exact call_tuple_of pins s σ H _ us Q I rv ⟨a, ws, rfl, .inr ⟨q1.sq, Post.now S post r1⟩⟩
      | lst zs =>
        obtain ⟨a, ws, rfl, q1, q2⟩ := S.items r1 q
        exact call_tuple_of pins s σ H _ us Q I rv ⟨a, ws, rfl, .inl ⟨q1, fun c hc => Post.newT S post q2 hc⟩⟩
      | ref n =>
        obtain ⟨a, ws, rfl, q1, q2⟩ := S.items r1 q
        exact call_tuple_of pins s σ H _ us Q I rv ⟨a, ws, rfl, .inl ⟨q1, fun c hc => Post.newT S post q2 hc⟩⟩
      | rol zs =>
        obtain ⟨a, ws, rfl, q1, q2⟩ := S.items r1 q
        exact call_tuple_of pins s σ H _ us Q I rv ⟨a, ws, rfl, .inl ⟨q1, fun c hc => Post.newT S post q2 hc⟩⟩
      | _ => simp [itemsS, itemsL] at q
    · cases g
/-- of one list -/
def oneL (o : Option (List D)) (f : List D → Option D) : Option D := match o with | some xs => f xs | none => none
theorem one_list {p : Pr} {f : List D → Option D} (hp : ∀ h d, prD h p [d] = oneL (itemsL h d) f) (hp0 : ∀ h, prD h p [] = none) (hp2 : ∀ h a b l, prD h p (a :: b :: l) = none) {Z : Addr → Prop} {μ : List Addr} {h : Hh} {H : Hp} {xs : List D} {vs : List V} {r : D}
    (S : SR X.K Z μ h H) (rs : RVs X.K (Fb Z μ h) μ H xs vs) (g : prD h p xs = some r) : ∃ a ys ws, vs = [.ref a] ∧ SqL X.K H a ws ∧ RVs X.K (Fb Z μ h) μ H ys ws ∧ f ys = some r := by
  match xs with
  | [] => rw [hp0] at g; cases g
  | _ :: _ :: _ => rw [hp2] at g; cases g
  | [d] =>
    obtain ⟨v, rfl, r1⟩ := RVs.one rs
    rw [hp] at g
    cases q : itemsL h d with
    | none => rw [q] at g; cases g
    | some ys =>
      rw [q] at g
      obtain ⟨a, ws, rfl, q1, q2⟩ := S.items r1 q
      exact ⟨a, ys, ws, rfl, q1, q2, g⟩
theorem pr_sum (hc : X.calm = true) : CallR X (.builtin "sum") (rC X.K fun h => prD h .sum) := by
  intro pins s σ H vs us Q I rv ⟨Z, μ, h, xs, r, S, rs, g, post⟩
  obtain ⟨a, ys, ws, rfl, q1, q2, g⟩ := one_list (f := fun xs => (intsD xs).map fun l => .int l.sum) (fun _ _ => rfl) (fun _ => rfl) (fun _ _ _ _ => rfl) S rs g
  obtain ⟨l, e, rfl⟩ := Option.map_eq_some_iff.mp g
  exact cr_sum hc pins s σ H _ us Q I rv ⟨a, l, rfl, by rw [← q2.intsD e]; exact q1, Post.now S post (RV.int.mpr rfl)⟩
theorem pr_all (hc : X.calm = true) : CallR X (.builtin "all") (rC X.K fun h => prD h .all) := by
  intro pins s σ H vs us Q I rv ⟨Z, μ, h, xs, r, S, rs, g, post⟩
  obtain ⟨a, ys, ws, rfl, q1, q2, g⟩ := one_list (f := fun xs => (boolsD xs).map fun l => .bl (l.all id)) (fun _ _ => rfl) (fun _ => rfl) (fun _ _ _ _ => rfl) S rs g
  obtain ⟨l, e, rfl⟩ := Option.map_eq_some_iff.mp g
  exact cr_all hc pins s σ H _ us Q I rv ⟨a, l, rfl, by rw [← q2.boolsD e]; exact q1, Post.now S post (RV.bl.mpr rfl)⟩
theorem pr_any (hc : X.calm = true) : CallR X (.builtin "any") (rC X.K fun h => prD h .any) := by
  intro pins s σ H vs us Q I rv ⟨Z, μ, h, xs, r, S, rs, g, post⟩
  obtain ⟨a, ys, ws, rfl, q1, q2, g⟩ := one_list (f := fun xs => (boolsD xs).map fun l => .bl (l.any id)) (fun _ _ => rfl) (fun _ => rfl) (fun _ _ _ _ => rfl) S rs g
  obtain ⟨l, e, rfl⟩ := Option.map_eq_some_iff.mp g
  exact cr_any hc pins s σ H _ us Q I rv ⟨a, l, rfl, by rw [← q2.boolsD e]; exact q1, Post.now S post (RV.bl.mpr rfl)⟩
theorem pr_mx (hc : X.calm = true) : CallR X (.builtin "max") (rC X.K fun h => prD h .mx) := by
  intro pins s σ H vs us Q I rv ⟨Z, μ, h, xs, r, S, rs, g, post⟩
  obtain ⟨a, ys, ws, rfl, q1, q2, g⟩ := one_list (f := fun xs => ((intsD xs).bind maxI).map D.int) (fun _ _ => rfl) (fun _ => rfl) (fun _ _ _ _ => rfl) S rs g
  obtain ⟨m, e, rfl⟩ := Option.map_eq_some_iff.mp g
  obtain ⟨l, e1, e2⟩ := Option.bind_eq_some_iff.mp e
  cases l with
  | nil => simp [maxI] at e2
  | cons x l =>
    simp only [maxI, Option.some.injEq] at e2
    obtain ⟨h1, h2⟩ := foldMax l x
    rw [e2] at h1 h2
    refine cr_max hc pins s σ H _ us Q I rv ⟨a, x :: l, rfl, by rw [← q2.intsD e1]; exact q1, by simp, fun m' hm hy => ?_⟩
    have e3 : m' = m := Int.le_antisymm (h2 _ hm) (hy _ h1)
    rw [e3]
    exact Post.now S post (RV.int.mpr rfl)
theorem pr_mn (hc : X.calm = true) : CallR X (.builtin "min") (rC X.K fun h => prD h .mn) := by
  intro pins s σ H vs us Q I rv ⟨Z, μ, h, xs, r, S, rs, g, post⟩
  obtain ⟨a, ys, ws, rfl, q1, q2, g⟩ := one_list (f := fun xs => ((intsD xs).bind minI).map D.int) (fun _ _ => rfl) (fun _ => rfl) (fun _ _ _ _ => rfl) S rs g
  obtain ⟨m, e, rfl⟩ := Option.map_eq_some_iff.mp g
  obtain ⟨l, e1, e2⟩ := Option.bind_eq_some_iff.mp e
  cases l with
  | nil => simp [minI] at e2
  | cons x l =>
    simp only [minI, Option.some.injEq] at e2
    obtain ⟨h1, h2⟩ := foldMin l x
    rw [e2] at h1 h2
    refine cr_min hc pins s σ H _ us Q I rv ⟨a, x :: l, rfl, by rw [← q2.intsD e1]; exact q1, by simp, fun m' hm hy => ?_⟩
    have e3 : m' = m := Int.le_antisymm (hy _ h1) (h2 _ hm)
    rw [e3]
    exact Post.now S post (RV.int.mpr rfl)
theorem pr_mx2 (hc : X.calm = true) : CallR X (.builtin "max") (rC X.K fun h => prD h .mx2) := by
  intro pins s σ H vs us Q I rv ⟨Z, μ, h, xs, r, S, rs, g, post⟩
  replace g : prD h .mx2 xs = some r := g
  match xs with
  | [] => simp [prD] at g
  | [_] => simp [prD] at g
  | _ :: _ :: _ :: _ => simp [prD] at g
  | [d, e] =>
    obtain ⟨v, w, rfl, r1, r2⟩ := RVs.two rs
    cases d with
    | int i =>
      cases e with
      | int j =>
        simp only [prD, Option.some.injEq] at g
        subst g
        rw [RV.int] at r1 r2
        subst r1 r2
        exact call_max2 hc pins s σ H _ us Q I rv ⟨i, j, rfl, Post.now S post (RV.int.mpr rfl)⟩
      | _ => simp [prD] at g
    | _ => simp [prD] at g
theorem pr_mn2 (hc : X.calm = true) : CallR X (.builtin "min") (rC X.K fun h => prD h .mn2) := by
  intro pins s σ H vs us Q I rv ⟨Z, μ, h, xs, r, S, rs, g, post⟩
  replace g : prD h .mn2 xs = some r := g
  match xs with
  | [] => simp [prD] at g
  | [_] => simp [prD] at g
  | _ :: _ :: _ :: _ => simp [prD] at g
  | [d, e] =>
    obtain ⟨v, w, rfl, r1, r2⟩ := RVs.two rs
    cases d with
    | int i =>
      cases e with
      | int j =>
        simp only [prD, Option.some.injEq] at g
        subst g
        rw [RV.int] at r1 r2
        subst r1 r2
        exact call_min2 hc pins s σ H _ us Q I rv ⟨i, j, rfl, Post.now S post (RV.int.mpr rfl)⟩
      | _ => simp [prD] at g
    | _ => simp [prD] at g
theorem pr_ok (hc : X.calm = true) (p : Pr) : CallR X (prV p) (rC X.K fun h => prD h p) := by
  cases p with
  | len => exact pr_len
  | abs => exact pr_abs
  | int => exact pr_int
  | str => exact pr_str
  | tuple => exact pr_tuple
  | sum => exact pr_sum hc
  | mx2 => exact pr_mx2 hc
  | mn2 => exact pr_mn2 hc
  | mx => exact pr_mx hc
  | mn => exact pr_mn hc
  | all => exact pr_all hc
  | any => exact pr_any hc
end
section
variable {X : Cx} {cf : Cf} {W : WX} {pos pp : Pos} {e : Expr} {es : List Expr}
theorem boot_pr (p : Pr) : bootBuiltins (prN p) = some (prV p) := by cases p <;> decide +kernel
theorem sE_pr {p : Pr} {ms : Es} (hc : X.calm = true) (hg : Gl X (prN p)) (hm : X.mg (prN p) = none) (ha : PA X (e :: es) (rdA X.K cf W ms)) (hpl : (e :: es).all plainE = true) : PE X (.Call (.Name (prN p) pp) (e :: es) [] pos) (rdE X.K cf W (.pr p ms)) := by
  have hpl' := hpl
  rw [List.all_cons, Bool.and_eq_true] at hpl'
  have key : PE X (.Call (.Name (prN p) pp) (e :: es) [] pos) (tCB (rC X.K fun h => prD h p) (rdA X.K cf W ms)) := by
    have ok := pr_ok (X := X) hc p
    have bt := boot_pr p
    have n1 : prN p ≠ "__name__" := by cases p <;> decide
    have n2 : (prN p == ("__debug__" : Str)) = false := by cases p <;> decide
    cases p with
    | int => exact pe_callTy ok hg hm bt ha n1 n2 (star_cons hpl'.1 es X.env) (star_none hpl'.2 pos X.env)
    | str => exact pe_callTy ok hg hm bt ha n1 n2 (star_cons hpl'.1 es X.env) (star_none hpl'.2 pos X.env)
    | tuple => exact pe_callTy ok hg hm bt ha n1 n2 (star_cons hpl'.1 es X.env) (star_none hpl'.2 pos X.env)
    | _ => exact pe_callB ok hg hm bt ha n1 n2 (star_cons hpl'.1 es X.env) (star_none hpl'.2 pos X.env)
  refine PE.imp key fun σ H Q ⟨Z, μ, h, ρ, B, p⟩ => ?_
  simp only [ev] at p
  refine rdA1 B p fun xs vs μ1 h1 H1 B1 t1 r1 p1 => ?_
  cases q : prD h1 _ xs with
  | none => rw [q] at p1; exact p1.elim
  | some r => rw [q] at p1; exact ⟨Z, μ1, h1, xs, r, B1.sr, r1, q, p1⟩
end
end Ls
/-! Methods, isinstance, new lists. -/
namespace Ls
open PySem PySem.Spec PyProof.Rows L2
def rM (K : PySem.W.Frag) (g : Hh → D → List D → Option (D × Hh)) : V → List V → Hp → VK → Prop := fun x vs H Q => ∃ Z μ h d xs r h', SR K Z μ h H ∧ RV K (Fb Z μ h) μ H d x ∧ RVs K (Fb Z μ h) μ H xs vs ∧ g h d xs = some (r, h') ∧ Post K Z μ h H (PV K Z Q) (fun _ _ _ _ => False) (.ok r h')
section
variable {X : Cx}
theorem mt_append' : MtR X "list.append" (rM X.K fun h => mtD h .append) := by
  intro pins s σ H x vs v us Q I rx rv ⟨Z, μ, h, d, xs, r, h', S, rd, rs, g, post⟩
  replace g : mtD h .append d xs = some (r, h') := g
  match xs with
  | [] => simp [mtD] at g
  | _ :: _ :: _ => simp [mtD] at g
  | [y] =>
    obtain ⟨w, rfl, r1⟩ := RVs.one rs
    cases d with
    | ref n =>
      obtain ⟨a, rfl, e1⟩ := RV.ref.mp rd
      simp only [mtD] at g
      split at g
      · rename_i ys q
        split at g
        · rename_i hz
          cases g
          obtain ⟨ws, e2, e3⟩ := S.obj n a _ e1 q
          refine mt_append pins s σ H _ _ v us Q I rx rv ⟨a, ws, w, rfl, rfl, e2, by rw [← e3.len]; exact hz, ?_⟩
          exact post μ _ (S.wr e1 q (e3.app (RVs.mk r1 (RVs.nil.mpr rfl)))) (Stp.wr (K := X.K) (Z := Z) (vs := []) S e1 q) _ (RV.non.mpr rfl)
        · cases g
      · cases g
    | _ => simp [mtD] at g
theorem mt_pop0' : MtR X "list.pop" (rM X.K fun h => mtD h .pop0) := by
  intro pins s σ H x vs v us Q I rx rv ⟨Z, μ, h, d, xs, r, h', S, rd, rs, g, post⟩
  replace g : mtD h .pop0 d xs = some (r, h') := g
  match xs with
  | _ :: _ => simp [mtD] at g
  | [] =>
    rw [RVs.nil] at rs
    subst rs
    cases d with
    | ref n =>
      obtain ⟨a, rfl, e1⟩ := RV.ref.mp rd
      simp only [mtD] at g
      split at g
      · rename_i ys q
        split at g
        · rename_i y hy
          cases g
          obtain ⟨ws, e2, e3⟩ := S.obj n a _ e1 q
          obtain ⟨w, f1, f2⟩ := e3.get hy
          have t := Stp.wr (K := X.K) (Z := Z) (vs := []) (ys := ys.dropLast) (ws := ws.dropLast) S e1 q
          refine mt_pop pins s σ H _ _ v us Q I rx rv ⟨a, ws, w, rfl, rfl, e2, by rw [← e3.len]; exact f1, ?_⟩
          exact post μ _ (S.wr e1 q e3.dropLast) t _ (RV.mono S t _ _ f2)
        · cases g
      · cases g
    | _ => simp [mtD] at g
theorem mt_popat' : MtR X "list.pop" (rM X.K fun h => mtD h .popat) := by
  intro pins s σ H x vs v us Q I rx rv ⟨Z, μ, h, d, xs, r, h', S, rd, rs, g, post⟩
  replace g : mtD h .popat d xs = some (r, h') := g
  match xs with
  | [] => simp [mtD] at g
  | _ :: _ :: _ => cases d <;> simp [mtD] at g
  | [y] =>
    obtain ⟨w, rfl, r1⟩ := RVs.one rs
    cases y with
    | int i =>
      rw [RV.int] at r1
      subst r1
      cases d with
      | ref n =>
        obtain ⟨a, rfl, e1⟩ := RV.ref.mp rd
        simp only [mtD] at g
        split at g
        · rename_i ys q
          split at g
          · rename_i k hk
            split at g
            · rename_i y hy
              cases g
              obtain ⟨ws, e2, e3⟩ := S.obj n a _ e1 q
              obtain ⟨w, f1, f2⟩ := e3.get hy
              have t := Stp.wr (K := X.K) (Z := Z) (vs := []) (ys := ys.eraseIdx k) (ws := ws.eraseIdx k) S e1 q
              obtain ⟨g1, g2, g3, g4⟩ := ixN_seq (n := ws.length) (i := i) (j := k) (by rw [← e3.len]; exact hk)
              have hz : ws.length ≤ sizeLine := (I.lstM e2).1
              have hz2 := sizeLine_eq
              refine mt_popAt pins s σ H _ _ v us Q I rx rv ⟨a, ws, i, k, w, rfl, rfl, e2, by omega, by omega, g1, f1, ?_⟩
              exact post μ _ (S.wr e1 q (e3.erase k)) t _ (RV.mono S t _ _ f2)
            · cases g
          · cases g
        · cases g
      | _ => simp [mtD] at g
    | _ => cases d <;> simp [mtD] at g
theorem mt_insert' : MtR X "list.insert" (rM X.K fun h => mtD h .insert) := by
  intro pins s σ H x vs v us Q I rx rv ⟨Z, μ, h, d, xs, r, h', S, rd, rs, g, post⟩
  replace g : mtD h .insert d xs = some (r, h') := g
  match xs with
  | [] => simp [mtD] at g
  | [_] => simp [mtD] at g
  | _ :: _ :: _ :: _ => cases d <;> simp [mtD] at g
  | [y, z] =>
    obtain ⟨w, w2, rfl, r1, r2⟩ := RVs.two rs
    cases y with
    | int i =>
      rw [RV.int] at r1
      subst r1
      cases d with
      | ref n =>
        obtain ⟨a, rfl, e1⟩ := RV.ref.mp rd
        simp only [mtD] at g
        split at g
        · rename_i ys q
          split at g
          · rename_i hz
            cases g
            obtain ⟨ws, e2, e3⟩ := S.obj n a _ e1 q
            have hb : (big : Int) < 2 ^ 63 := by decide
            refine mt_insert pins s σ H _ _ v us Q I rx rv ⟨a, ws, i, w2, rfl, rfl, e2, by rw [← e3.len]; exact hz.1, hz.2.1, Int.lt_trans hz.2.2 hb, ?_⟩
            exact post μ _ (S.wr e1 q (((e3.take _).app (RVs.mk r2 (RVs.nil.mpr rfl))).app (e3.drop _))) (Stp.wr (K := X.K) (Z := Z) (vs := []) S e1 q) _ (RV.non.mpr rfl)
          · cases g
        · cases g
      | _ => simp [mtD] at g
    | _ => cases d <;> simp [mtD] at g
end
section
variable {X : Cx} {cf : Cf} {W : WX} {o e : Expr} {es : List Expr} {apos cpos : Pos} {mo : E} {ms : Es} {m : Mt} {id : String} {name : Str}
/-- not a call without arguments (super()) -/
def noCall0 : Expr → Bool
  | .Call (.Name _ _) [] [] _ => false
  | _ => true
theorem attr_base (h : noCall0 o = true) (name : Str) (env : Env) : attributeBase o name env (eval o env) = eval o env := by
  unfold attributeBase
  split
  · simp [noCall0] at h
  · rfl
/-- a list's method with arguments -/
theorem sE_mtL (slot : Slot "list" name id) (hty : typeOf (.builtin id) = pure (.type "method_descriptor")) (hm : MtR X id (rM X.K fun h => mtD h m)) (hpre : ∀ h d, mtPre h m d = (itemsL h d).isSome)
    (ho : PE X o (rdE X.K cf W mo)) (ha : PA X (e :: es) (rdA X.K cf W ms)) (hp : (e :: es).all plainE = true) (hb : noCall0 o = true) (hl : (e :: es).length < 30) (hline : (apos.endLine == cpos.line) = true) :
    PE X (.Call (.Attribute o name apos) (e :: es) [] cpos) (rdE X.K cf W (.mt m mo ms)) := by
  have hp' : plainE e = true ∧ es.all plainE = true := by simpa using hp
  refine PE.imp (pe_bm PySem.F.plainAttrs_list slot hty hm ho ha (attr_base hb _ _) (by rw [star_few hp cpos X.env, decide_eq_true (by simpa using hl)]; rfl) hline (star_cons hp'.1 es X.env) (star_none hp'.2 _ _)) fun σ H Q ⟨Z, μ, h, ρ, B, p⟩ => ?_
  simp only [ev] at p
  refine rd1 B p fun d v μ1 h1 H1 B1 t1 r1 p1 => ?_
  split at p1
  · rename_i hq
    rw [hpre] at hq
    obtain ⟨xs, hq⟩ := Option.isSome_iff_exists.mp hq
    obtain ⟨a, ws, rfl, q1, q2⟩ := B1.sr.items r1 hq
    refine ⟨.inl ⟨rfl, ws, q1⟩, ?_⟩
    refine rdA1 B1 p1 fun ys vs μ2 h2 H2 B2 t2 r2 p2 => ?_
    split at p2
    · rename_i r h3 hg
      exact ⟨Z, μ2, h2, d, ys, r, h3, B2.sr, RV.mono B1.sr t2 _ _ r1, r2, hg, p2⟩
    · exact p2.elim
  · exact p1.elim
theorem sE_mtL0 (slot : Slot "list" name id) (hty : typeOf (.builtin id) = pure (.type "method_descriptor")) (hm : MtR X id (rM X.K fun h => mtD h m)) (hpre : ∀ h d, mtPre h m d = (itemsL h d).isSome)
    (ho : PE X o (rdE X.K cf W mo)) (hb : noCall0 o = true) (hline : (apos.endLine == cpos.line) = true) :
    PE X (.Call (.Attribute o name apos) [] [] cpos) (rdE X.K cf W (.mt m mo .nil)) := by
  refine PE.imp (pe_bm0 PySem.F.plainAttrs_list slot hty hm ho (attr_base hb _ _) hline) fun σ H Q ⟨Z, μ, h, ρ, B, p⟩ => ?_
  simp only [ev] at p
  refine rd1 B p fun d v μ1 h1 H1 B1 t1 r1 p1 => ?_
  split at p1
  · rename_i hq
    rw [hpre] at hq
    obtain ⟨xs, hq⟩ := Option.isSome_iff_exists.mp hq
    obtain ⟨a, ws, rfl, q1, q2⟩ := B1.sr.items r1 hq
    refine ⟨.inl ⟨rfl, ws, q1⟩, ?_⟩
    simp only [evs, bind_ok] at p1
    split at p1
    · rename_i r h3 hg
      exact ⟨Z, μ1, h1, d, [], r, h3, B1.sr, r1, RVs.nil.mpr rfl, hg, p1⟩
    · exact p1.elim
  · exact p1.elim
end
/-! ### isinstance -/
def tyN : Ty → String | .bool => "bool" | .int => "int" | .str => "str" | .list => "list" | .tuple => "tuple"
def tyS : Ty → Str | .bool => "bool" | .int => "int" | .str => "str" | .list => "list" | .tuple => "tuple"
section
variable {X : Cx}
theorem dTy_of {Z : Addr → Prop} {μ : List Addr} {h : Hh} {H : Hp} (S : SR X.K Z μ h H) {d : D} {v : V} {n : String} (r : RV X.K (Fb Z μ h) μ H d v) (e : dTy h d = some n) : TyX X.K H v (.type n) := by
  have lists : ∀ {xs : List D}, itemsL h d = some xs → TyX X.K H v (.type "list") := by
    intro xs q
    obtain ⟨a, vs, rfl, q1, q2⟩ := S.items r q
    rcases q1 with (q1 | ⟨o, q1⟩) | ⟨o, its, n, q1, q3, _⟩
    · exact .base (.lst q1)
    · exact .base (.frz q1)
    · exact .kList q1 q3
  cases d with
  | non => rw [RV.non] at r; subst r; cases e; exact .base .non
  | bl b => rw [RV.bl] at r; subst r; cases e; exact .base (.bl b)
  | int b => rw [RV.int] at r; subst r; cases e; exact .base (.int b)
  | str b => rw [RV.str] at r; subst r; cases e; exact .base (.str _)
  | tup xs =>
    obtain ⟨a, vs, rfl, q1, q2⟩ := RV.tup.mp r
    cases e
    exact .base (.tup q1)
  | lst xs => cases e; exact lists (xs := xs) rfl
  | rol xs => cases e; exact lists (xs := xs) rfl
  | ref n =>
    simp only [dTy] at e
    split at e
    · rename_i xs q; cases e; exact lists q
    · cases e
  | dct _ _ => simp [dTy, itemsL] at e
  | obj _ _ => simp [dTy, itemsL] at e
  | rot xs =>
    obtain ⟨a, vs, rfl, q1, q2⟩ := RV.rot.mp r
    cases e
    rcases q1 with (q1 | ⟨o, q1⟩) | ⟨o, its, n, q1, q2, _⟩
    · cases q1
    · cases q1
    · exact .kTuple q1 q2
  | exn _ _ => simp [dTy, itemsL] at e
theorem isTy_kit (h : Hh) (d : D) (n : String) (t : Ty) (e : dTy h d = some n) : kitB n (tyN t) = some (isTy h d t) := by
  cases d with
  | non => cases e; cases t <;> first | (simp only [isTy, itemsL]; decide +kernel)
  | bl b => cases e; cases t <;> first | (simp only [isTy, itemsL]; decide +kernel)
  | int b => cases e; cases t <;> first | (simp only [isTy, itemsL]; decide +kernel)
  | str b => cases e; cases t <;> first | (simp only [isTy, itemsL]; decide +kernel)
  | tup xs => cases e; cases t <;> first | (simp only [isTy, itemsL]; decide +kernel)
  | lst xs => cases e; cases t <;> first | (simp only [isTy, itemsL, Option.isSome_some]; decide +kernel)
  | rol xs => cases e; cases t <;> first | (simp only [isTy, itemsL, Option.isSome_some]; decide +kernel)
  | ref m =>
    simp only [dTy] at e
    split at e
    · rename_i xs q
      cases e
      cases t <;> first | (simp only [isTy, q, Option.isSome_some]; decide +kernel)
    · cases e
  | dct _ _ => simp [dTy, itemsL] at e
  | obj _ _ => simp [dTy, itemsL] at e
  | rot xs => cases e; cases t <;> first | (simp only [isTy, itemsL]; decide +kernel)
  | exn _ _ => simp [dTy, itemsL] at e
theorem kitAny_of {h : Hh} {d : D} {n : String} (e : dTy h d = some n) : ∀ ts : List Ty, PySem.W.kitAny X.K (.type n) (ts.map fun t => Value.type (tyN t)) = some (ts.any (isTy h d))
  | [] => rfl
  | t :: ts => by
    rw [List.map_cons, List.any_cons]
    refine kitAny_cons (b := isTy h d t) (kit_ty (isTy_kit h d n t e)) (fun q => ?_) (fun q => ?_)
    · rw [q, Bool.false_or]; exact kitAny_of e ts
    · rw [q]; rfl
variable {cf : Cf} {W : WX} {pos pp p2 tp : Pos} {a : Expr} {ma : E}
theorem boot_ty (t : Ty) : bootBuiltins (tyS t) = some (.type (tyN t)) := by cases t <;> decide +kernel
theorem pe_ty (t : Ty) (hg : Gl X (tyS t)) (hm : X.mg (tyS t) = none) : PE X (.Name (tyS t) p2) (tC (.ty (tyN t))) :=
  pe_bltn hg hm (boot_ty t) rfl (by cases t <;> decide) (by cases t <;> decide)
theorem boot_isi : bootBuiltins "isinstance" = some (.builtin "isinstance") := by decide +kernel
/-- what the text says of the classes with slots: they are no built-in types -/
def NoTy (K : PySem.W.Frag) : Prop := ∀ c C, PySem.W.nsIn K mainGlobals (clsN c) = some (some (.ref C)) → SlX.SCls K C ∧ SlX.SIsi K C ∧ ∀ t : Ty, PySem.W.kitOne K (.ref C) (.type (tyN t)) = some false
theorem call_isiO (u : Value) : CallR X (.builtin "isinstance") (fun xs H Q => rIsi X.K xs H Q ∨ SlX.rIsiSl X.K u xs H Q) := fun pins s σ H xs us Q I r h => h.elim (call_isi pins s σ H xs us Q I r) (SlX.call_isiSl u pins s σ H xs us Q I r)
theorem sE_isi1 {t : Ty} (no : NoTy X.K) (hg : Gl X "isinstance") (hm : X.mg "isinstance" = none) (hg2 : Gl X (tyS t)) (hm2 : X.mg (tyS t) = none) (ha : PE X a (rdE X.K cf W ma)) (hp : plainE a = true) :
    PE X (.Call (.Name "isinstance" pp) [a, .Name (tyS t) p2] [] pos) (rdE X.K cf W (.isi ma [t])) := by
  refine PE.imp (pe_callB (call_isiO (.type (tyN t))) hg hm boot_isi (pa_cons ha (pa_cons (pe_ty t hg2 hm2) pa_nil) (star_cons hp _ _)) (by decide) (by decide) (star_cons hp _ _)) fun σ H Q ⟨Z, μ, h, ρ, B, p⟩ => ?_
  simp only [ev] at p
  refine rd1 B p fun d v μ1 h1 H1 B1 t1 r1 p1 => ?_
  by_cases io : isObj d = true
  · rw [if_pos (by rw [io]; rfl)] at p1
    cases d with
    | obj c xs =>
      obtain ⟨b, vs, rfl, o, rs⟩ := RV.obj.mp r1
      obtain ⟨C, dx, g1, g2, g3, _⟩ := o.ex
      obtain ⟨sc, si, kt⟩ := no c C g1
      exact .inr ⟨b, C, dx, _, .ty (tyN t), false, rfl, rfl, fun w z => z, .inr ⟨g2, g3⟩, sc, si, kt t, Post.now B1.sr p1 (RV.bl.mpr rfl)⟩
    | _ => cases io
  rw [if_neg (by rw [show isObj d = false by simpa using io]; simp)] at p1
  split at p1
  · rename_i q
    obtain ⟨n, q⟩ := Option.isSome_iff_exists.mp q
    refine .inl ⟨v, .ty (tyN t), .type n, .type (tyN t), isTy h1 d t, rfl, .ty _, dTy_of B1.sr r1 q, kit_ty (isTy_kit h1 d n t q), ?_⟩
    have : ([t].any (isTy h1 d)) = isTy h1 d t := by simp
    rw [this] at p1
    exact Post.now B1.sr p1 (RV.bl.mpr rfl)
  · exact p1.elim
/-- the names of some types -/
def tyEs : List Ty → List Expr → Bool
  | [], [] => true
  | t :: ts, .Name x _ :: es => decide (x = tyS t) && tyEs ts es
  | _, _ => false
theorem pa_tys (hm : ∀ t, X.mg (tyS t) = none) : ∀ (ts : List Ty) (es : List Expr), (∀ t ∈ ts, Gl X (tyS t)) → tyEs ts es = true → PA X es (fun _ H Q => Q (ts.map fun t => V.ty (tyN t)) H)
  | [], [], _, _ => pa_nil
  | t :: ts, .Name x p :: es, hg, h => by
    simp only [tyEs, Bool.and_eq_true, decide_eq_true_eq] at h
    obtain ⟨rfl, h⟩ := h
    exact PA.imp (pa_cons (pe_ty t (hg t List.mem_cons_self) (hm t)) (pa_tys hm ts es (fun u hu => hg u (List.mem_cons_of_mem _ hu)) h)) fun σ H Q q => q
  | [], _ :: _, _, h => by simp [tyEs] at h
  | _ :: _, [], _, h => by simp [tyEs] at h
  | _ :: _, .BoolOp _ _ _ :: _, _, h => by simp [tyEs] at h
  | _ :: _, .NamedExpr _ _ _ :: _, _, h => by simp [tyEs] at h
  | _ :: _, .BinOp _ _ _ _ :: _, _, h => by simp [tyEs] at h
  | _ :: _, .UnaryOp _ _ _ :: _, _, h => by simp [tyEs] at h
  | _ :: _, .Lambda _ _ _ _ :: _, _, h => by simp [tyEs] at h
  | _ :: _, .IfExp _ _ _ _ :: _, _, h => by simp [tyEs] at h
  | _ :: _, .Dict _ _ _ :: _, _, h => by simp [tyEs] at h
  | _ :: _, .Set _ _ _ :: _, _, h => by simp [tyEs] at h
  | _ :: _, .ListComp _ _ _ _ :: _, _, h => by simp [tyEs] at h
  | _ :: _, .SetComp _ _ _ _ :: _, _, h => by simp [tyEs] at h
  | _ :: _, .DictComp _ _ _ _ _ :: _, _, h => by simp [tyEs] at h
  | _ :: _, .GeneratorExp _ _ _ _ :: _, _, h => by simp [tyEs] at h
  | _ :: _, .Await _ _ :: _, _, h => by simp [tyEs] at h
  | _ :: _, .Yield _ _ :: _, _, h => by simp [tyEs] at h
  | _ :: _, .YieldFrom _ _ :: _, _, h => by simp [tyEs] at h
  | _ :: _, .Compare _ _ _ _ :: _, _, h => by simp [tyEs] at h
  | _ :: _, .Call _ _ _ _ :: _, _, h => by simp [tyEs] at h
  | _ :: _, .FormattedValue _ _ _ _ :: _, _, h => by simp [tyEs] at h
  | _ :: _, .JoinedStr _ _ :: _, _, h => by simp [tyEs] at h
  | _ :: _, .Constant _ _ _ :: _, _, h => by simp [tyEs] at h
  | _ :: _, .Attribute _ _ _ :: _, _, h => by simp [tyEs] at h
  | _ :: _, .Subscript _ _ _ :: _, _, h => by simp [tyEs] at h
  | _ :: _, .Starred _ _ :: _, _, h => by simp [tyEs] at h
  | _ :: _, .List _ _ :: _, _, h => by simp [tyEs] at h
  | _ :: _, .Tuple _ _ _ :: _, _, h => by simp [tyEs] at h
  | _ :: _, .Slice _ _ _ _ :: _, _, h => by simp [tyEs] at h
theorem paired_ty : ∀ ts : List Ty, Paired ClsV (ts.map fun t => V.ty (tyN t)) (ts.map fun t => Value.type (tyN t))
  | [] => .nil
  | t :: ts => .cons (.ty _) (paired_ty ts)
theorem sE_isiT {ts : List Ty} {es : List Expr} {k : Nat} (hg : Gl X "isinstance") (hm : X.mg "isinstance" = none) (hg2 : ∀ t ∈ ts, Gl X (tyS t)) (hm2 : ∀ t, X.mg (tyS t) = none) (he : tyEs ts es = true) (hl : ts.length ≤ sizeLine) (h1' : ts.length ≠ 1) (ha : PE X a (rdE X.K cf W ma)) (hp : plainE a = true) :
    PE X (.Call (.Name "isinstance" pp) [a, .Tuple es k p2] [] pos) (rdE X.K cf W (.isi ma ts)) := by
  refine PE.imp (pe_callB call_isiT hg hm boot_isi (pa_cons ha (pa_cons (pe_tup (pa_tys hm2 ts es hg2 he)) pa_nil) (star_cons hp _ _)) (by decide) (by decide) (star_cons hp _ _)) fun σ H Q ⟨Z, μ, h, ρ, B, p⟩ => ?_
  simp only [ev] at p
  refine rd1 B p fun d v μ1 h1 H1 B1 t1 r1 p1 => ?_
  rw [if_neg (by rw [show (ts.length == 1) = false by simpa using h1']; simp)] at p1
  split at p1
  · rename_i q
    obtain ⟨n, q⟩ := Option.isSome_iff_exists.mp q
    refine ⟨by simpa using hl, fun c hc => ?_⟩
    have S2 := B1.sr.new (o := .tup (ts.map fun t => V.ty (tyN t))) hc
    have t2 : Stp μ1 h1 H1 μ1 h1 (upd H1 c (.tup (ts.map fun t => V.ty (tyN t)))) := Stp.new hc
    exact ⟨v, c, _, .type n, _, _, rfl, upd_same, paired_ty ts, dTy_of S2 (RV.mono B1.sr t2 _ _ r1) q, kitAny_of q ts, p1 μ1 _ S2 t2 _ (RV.bl.mpr rfl)⟩
  · exact p1.elim
/-! ### new lists -/
theorem sF_disp {es : List Expr} {ms : Es} (h : PA X es (rdA X.K cf W ms)) : PE X (.List es pos) (rdF X.K cf W (.disp ms)) := by
  refine PE.imp (pe_lst h) fun σ H Q ⟨Z, μ, h, ρ, B, _, p⟩ => ⟨Z, μ, h, ρ, B, ?_⟩
  simp only [evf] at p
  exact p.imp fun xs μ1 h1 H1 S1 t1 q vs rs => ⟨by rw [← rs.len]; exact of_decide_eq_true q.1, fun c hc => q.2 vs c rs hc⟩
theorem sF_list (hg : Gl X "list") (hm : X.mg "list" = none) (ha : PE X a (rdE X.K cf W ma)) (hp : plainE a = true) : PE X (.Call (.Name "list" pp) [a] [] pos) (rdF X.K cf W (.list ma)) := by
  refine PE.imp (pe_callTy call_list_of hg hm (by decide +kernel) (pa_cons ha pa_nil (star_cons hp _ _)) (by decide) (by decide) (star_cons hp _ _)) fun σ H Q ⟨Z, μ, h, ρ, B, _, p⟩ => ?_
  simp only [evf] at p
  refine rd1 B p fun d v μ1 h1 H1 B1 t1 r1 p1 => ?_
  obtain ⟨xs, e, hz, q⟩ := Post.lift B1.sr p1
  obtain ⟨c, ws, rfl, q1, q2⟩ := B1.sr.itemsS r1 e
  exact ⟨c, ws, rfl, q1, fun l hl => q ws l q2 hl⟩
theorem sF_cat {b : Expr} {mb : E} (ha : PE X a (rdE X.K cf W ma)) (hb : PE X b (rdE X.K cf W mb)) : PE X (.BinOp a .Add b pos) (rdF X.K cf W (.cat ma mb)) := by
  refine PE.imp (pe_op op_cat ha hb) fun σ H Q ⟨Z, μ, h, ρ, B, _, p⟩ => ?_
  simp only [evf] at p
  refine rd1 B p fun d v μ1 h1 H1 B1 t1 r1 p1 => ?_
  refine rd1 B1 p1 fun d2 v2 μ2 h2 H2 B2 t2 r2 p2 => ?_
  split at p2
  · rename_i xs ys e1 e2
    obtain ⟨c, ws, rfl, q1, q2⟩ := B2.sr.itemsM (RV.mono B1.sr t2 _ _ r1) e1
    obtain ⟨c2, ws2, rfl, q3, q4⟩ := B2.sr.itemsM r2 e2
    obtain ⟨hz, q⟩ := Post.here B2.sr p2
    have hz' := of_decide_eq_true hz
    rw [List.length_append] at hz'
    exact ⟨c, c2, ws, ws2, rfl, rfl, q1, q3, by rw [← q2.len, ← q4.len]; exact hz', fun l hl => q _ l (q2.app q4) hl⟩
  · exact p2.elim
theorem sF_sli {p3 : Pos} {lo hi : Option Expr} {ml mh : Oe} (ha : PE X a (rdE X.K cf W ma)) (hl : PO X lo (rdO X.K cf W ml)) (hh : PO X hi (rdO X.K cf W mh)) : PE X (.Subscript a (.Slice lo hi none p3) pos) (rdF X.K cf W (.sli ma ml mh)) := by
  refine PE.imp (pe_slice sl_list ha hl hh) fun σ H Q ⟨Z, μ, h, ρ, B, _, p⟩ => ?_
  simp only [evf] at p
  refine rd1 B p fun d v μ1 h1 H1 B1 t1 r1 p1 => ?_
  refine rdO1 B1 p1 fun i μ2 h2 H2 B2 t2 p2 => ?_
  refine rdO1 B2 p2 fun j μ3 h3 H3 B3 t3 p3 => ?_
  split at p3
  · rename_i xs e1
    obtain ⟨c, ws, rfl, q1, q2⟩ := B3.sr.items (RV.mono B2.sr t3 _ _ (RV.mono B1.sr t2 _ _ r1)) e1
    obtain ⟨hz, q⟩ := Post.here B3.sr p3
    exact ⟨c, ws, rfl, q1, fun l hl => q _ l (RVs.slice q2 i j) hl⟩
  · exact p3.elim
end
end Ls
/-! Any iterator of new tuples (GoesN) as the hand layer's Turn; enumerate over a tuple by it. -/
namespace Ls
open PySem PySem.Spec PyProof.Rows L2
/-- what GoesN tells of an iterator whose own cells are fp, as a Turn: at turn i the new tuple holds ys i; while the thing walked (named by B) stands -/
theorem turn_goesN {P : Program} {w : World} {K : PySem.W.Frag} {tg : Expr} {J : It} {own : List Addr} {I : Addr} {n : Nat → Heap → Prop}
    (mem : I ∈ own) (obj : ∀ i h, n i h → ∀ b ∈ own, ∃ o, h.get? b = some o ∧ ∀ v, o.data ≠ .cell v) (keep : ∀ i h h', n i h → (∀ b ∈ own, ∀ o, h.get? b = some o → h'.get? b = some o) → n i h')
    (walk : ∀ (X : Cx), X.prog = P → X.w = w → X.K = K → X.calm = true → ∀ pins s σ H, Inv X pins σ H s → ∀ i, n i s.heap → (J.go i H ∨ J.stop i H) →
      ∃ (fp : List Addr) (m : Nat) (Y : Nat → Heap → Value → Heap → Prop) (St : Nat → Heap → Prop), GoesN P w X.A tg I fp own m Y St ∧ St i s.heap ∧ (J.go i H → i < m) ∧ (J.stop i H → i = m) ∧ (∀ h, St (i + 1) h → n (i + 1) h) ∧
        ∀ v h', Y i s.heap v h' → ∃ T ys us, v = .ref T ∧ s.heap.objs.size ≤ T ∧ ys.length ≤ sizeLine ∧ Vals ys us ∧ h'.IsTuple T us.toArray ∧ J.yld i H (.ref T) (upd H T (.tup ys)))
    (self : ∀ (A : Around) i (s : Shared) (Q E : Value → Shared → Prop), n i s.heap → Q (.ref I) s → wpAny (model P w) A (pyIter (.ref I)) Q E s) : Turn P w K tg J own I n where
  mem := mem
  obj := obj
  keep := keep
  self := self
  item := fun X eP ew eK cm i pins s σ H E inv fpo st go => by
    obtain ⟨fp, m, Y, St, G, st0, lt, _, nx, tell⟩ := walk X eP ew eK cm pins s σ H inv i st (.inl go)
    refine wpAny_mono (G.goes i s (fun v s' => ∃ x H', Inv X pins σ H' s' ∧ RelV x v ∧ J.yld i H x H' ∧ n (i + 1) s'.heap ∧ ∀ b ∈ own, H' b = none) E (lt go) st0 fun v h' tk y st' kp _ => ?_) (fun r s1 q => q) fun _ _ q => q
    obtain ⟨T, ys, us, rfl, new, sz, rel, tup, yl⟩ := tell v h' y
    subst eP ew
    refine ⟨.ref T, upd H T (.tup ys), inv.turnedNew (ch := own) kp fpo new ⟨sz, us, rel, tup⟩, rfl, yl, nx h' st', fun b hb => ?_⟩
    obtain ⟨o, ob, _⟩ := obj i s.heap st b hb
    rw [upd_ne (Nat.ne_of_lt (Nat.lt_of_lt_of_le (Heap.lt_size ob) new)), (fpo b hb).1]
  done := fun X eP ew eK cm i pins s σ H E inv fpo st stop => by
    obtain ⟨fp, m, Y, St, G, st0, _, eq, _⟩ := walk X eP ew eK cm pins s σ H inv i st (.inr stop)
    rw [eq stop] at st0
    exact G.stops s (fun s1 => Inv X pins σ H s1) E st0 fun h' tk kp _ => inv.turnedL kp fpo
/-- enumerate(v) is a new thing over iter(v) -/
theorem begins_enum {v : Value} {o : Obj} {B : Heap → Prop} (b : Begins v o B) : Meets (Builtin.«enumerate.__new__» ⟨[.type "enumerate", v], []⟩) fun _ R s => B s.heap ∧
    R (.ok (.ret (.ref (s.heap.push o).objs.size))) { s with heap := (s.heap.push o).push { cls := .type "enumerate", data := .fields #[.none, .bool false, .ref s.heap.objs.size, rawInt 0, .none, .none] } } :=
  .of_wp fun prog w A R ⟨hp, g, d, tk, os⟩ ⟨at0, fin⟩ => by
    have sub := sub_enumerate
    have iter : ∀ {A' E Q}, Q (Value.ref hp.objs.size) ⟨hp.push o, g, d, tk, os⟩ → wpAny (model prog w) A' (pyIter v) Q E ⟨hp, g, d, tk, os⟩ := b.iter prog w _ _ _ _ at0
    wp_walk using iter
    apply wpAny_stack_any
    intro st
    apply wpAny_pure
    split
    · rename_i cls _ _ _ _ _
      rcases Bool.eq_false_or_eq_true (cls == Value.type "enumerate") with q | q <;> rw [q] <;> wp_walk using iter <;> exact ⟨_, rfl, fin⟩
    · wp_walk using iter
      exact ⟨_, rfl, fin⟩
/-- the tuple at a, each item in a new pair -/
def IteT (K : PySem.W.Frag) (a : Addr) : It where
  go i H := ∃ xs, SqT K H a xs ∧ i < xs.length
  yld i H v H' := ∃ T x, v = .ref T ∧ H T = none ∧ H' = upd H T (.tup [.int (i : Nat), x]) ∧ ∀ xs, SqT K H a xs → xs[i]? = some x
  stop i H := ∃ xs, SqT K H a xs ∧ xs.length = i
/-- the enumerate at e over the tuple iterator at it, i items gone -/
def EnT (a e it : Addr) (i : Nat) (h : Heap) : Prop := (∃ old, IsEnum h e it (i : Int) old) ∧ h.IsTupleIter it a i ∧ e ≠ it ∧ e ≠ a ∧ a ≠ it
theorem turn_enumT {P : Program} {w : World} {K : PySem.W.Frag} {elts : List Expr} {kk : Nat} {tpos : Pos} (a e it : Addr) : Turn P w K (.Tuple elts kk tpos) (IteT K a) [e, it] e (EnT a e it) := by
  refine turn_goesN (by simp) (fun i h ⟨⟨old, en⟩, ⟨ob, at0, _, dat⟩, _⟩ b hb => ?_) (fun i h h' ⟨⟨old, en⟩, ti, r⟩ k => ⟨⟨old, k e (by simp) _ en⟩, ti.at fun o q => k it (by simp) o q, r⟩) ?_ fun A i s Q E ⟨⟨_, en⟩, _⟩ q => wpAny_pyIter_enum en q
  · rw [List.mem_cons, List.mem_singleton] at hb
    rcases hb with rfl | rfl
    · exact ⟨_, en, fun _ q => nomatch q⟩
    · exact ⟨ob, at0, fun _ q => by rw [dat] at q; cases q⟩
  · rintro X rfl rfl rfl cm pins s σ H inv i ⟨⟨old, en⟩, ti, ne1, ne2, ne3⟩ gs
    obtain ⟨xs, sq⟩ : ∃ xs, SqT X.K H a xs := gs.elim (fun ⟨xs, q, _⟩ => ⟨xs, q⟩) fun ⟨xs, q, _⟩ => ⟨xs, q⟩
    obtain ⟨us, rel, tup, _⟩ := inv.tuple sq
    have same : ∀ {ys}, SqT X.K H a ys → ys = xs := fun q => inv.tuple_inj q sq
    have sz : us.toArray.size = xs.length := by rw [List.size_toArray, rel.length]
    have dr := Draws.tuple (prog := X.prog) (w := X.w) (A := X.A.in1) (inv.ok.hd cm) it a ne3 us.toArray
    have gn := GoesN.enumFrom (elts := elts) (x1 := kk) (pos := tpos) 0 dr e ne1 (by simp [ne1, ne2]) (by simp)
    refine ⟨_, us.toArray.size, _, _, gn, ⟨⟨old, by rw [Int.zero_add]; exact en⟩, ti, tup⟩, fun ⟨ys, q, lt⟩ => by rw [sz, ← same q]; exact lt, fun ⟨ys, q, eq⟩ => by rw [sz, ← same q, eq],
      fun h ⟨⟨old', en'⟩, ti', _⟩ => ⟨⟨old', by rw [← Int.zero_add ((i + 1 : Nat) : Int)]; exact en'⟩, ti', ne1, ne2, ne3⟩, ?_⟩
    rintro v h' ⟨T, t, u, rfl, new, hu, tp⟩
    have hu' : us[i]? = some u := by simpa using hu
    have li : i < xs.length := by rw [rel.length]; exact (List.getElem?_eq_some_iff.mp hu').1
    obtain ⟨u2, e2, r2⟩ := rel.get (List.getElem?_eq_getElem li)
    rw [hu', Option.some.injEq] at e2
    subst e2
    refine ⟨T, [.int (i : Nat), xs[i]], [.int (0 + (i : Int)) t, u], rfl, new, (show 2 ≤ sizeLine by decide), .cons ⟨t, by rw [Int.zero_add]⟩ (.cons r2 .nil), tp, T, xs[i], rfl, inv.hok.fresh new, rfl, fun ys q => ?_⟩
    rw [same q]
    exact List.getElem?_eq_getElem li
/-- for i, x in enumerate(a tuple) -/
def iEnumT (K : PySem.W.Frag) (ta : TA) : TI := fun σ H R => ta σ H fun vs H1 => ∃ a xs, vs = [.ref a] ∧ SqT K H1 a xs ∧ R (IteT K a) H1
theorem pi_enumT {X : Cx} {e : Expr} {ta : TA} {p pos tpos : Pos} {elts : List Expr} {kk : Nat} (hg : Gl X "enumerate") (hm : X.mg "enumerate" = none) (ha : PA X [e] ta) (hs : starEach [e] X.env = [(false, eval e X.env)]) :
    PI X (.Tuple elts kk tpos) (.Call (.Name "enumerate" p) [e] [] pos) (iEnumT X.K ta) where
  run := fun pins s σ H R inv h => by
    refine Call_ (ld_blt inv hg hm boot_enumerate (PyProof.Rows.callWith_type1 (thn (ha.run pos pins s σ H _ inv h) ?_) hs rfl))
    rintro _ s1 ⟨_, H1, inv1, rel, a, xs, rfl, sq, q⟩
    obtain ⟨_, rfl, rfl⟩ := vals1 rel
    obtain ⟨us, _, tup, _⟩ := inv1.tuple sq
    have la : a < s1.heap.objs.size := tup.elim fun _ z => Heap.lt_size z.1
    have sz : (s1.heap.push { cls := .type "tuple_iterator", data := .fields #[.ref a, .int 0 0] }).objs.size = s1.heap.objs.size + 1 := Heap.size_push ..
    refine callType_new F.called_enumerate (by decide) (F.typeCall_enumerate_1 _) (F.newCall_enumerate_1 _) (fun ob => F.args_object_init_2 ob _) F.entry_enumerate_new (begins_enum (begins_tuple a us.toArray)) ⟨tup, ?_⟩
    have en := Heap.get?_push_size (s1.heap.push { cls := .type "tuple_iterator", data := .fields #[.ref a, .int 0 0] }) (o := { cls := .type "enumerate", data := .fields #[.none, .bool false, .ref s1.heap.objs.size, rawInt 0, .none, .none] }) rfl
    have ti : ((s1.heap.push { cls := .type "tuple_iterator", data := .fields #[.ref a, .int 0 0] }).push { cls := .type "enumerate", data := .fields #[.none, .bool false, .ref s1.heap.objs.size, rawInt 0, .none, .none] }).get? s1.heap.objs.size = some { cls := .type "tuple_iterator", data := .fields #[.ref a, .int 0 0] } :=
      Heap.get?_push_of_some _ (Heap.get?_push_size _ rfl)
    show _ ∧ _
    rw [sz] at en ⊢
    refine ⟨⟨_, en, rfl⟩, wpAny_pyIter_enum en ⟨_, [s1.heap.objs.size + 1, s1.heap.objs.size], _, _, H1, rfl, inv1.kept (t' := s1.toks) fun b o z => Heap.get?_push_of_some _ (Heap.get?_push_of_some _ z), turn_enumT a _ s1.heap.objs.size,
      ⟨⟨_, en⟩, ⟨_, ti, rfl, rfl⟩, Nat.succ_ne_self _, Nat.ne_of_gt (Nat.lt_succ_of_lt la), Nat.ne_of_lt la⟩, fun b hb => ?_, q⟩⟩
    have up : s1.heap.objs.size ≤ b := by
      rw [List.mem_cons, List.mem_singleton] at hb
      exact hb.elim (fun z => z ▸ Nat.le_succ _) fun z => Nat.le_of_eq z.symm
    exact inv1.fpOk up (inv1.hok.fresh up)
end Ls
/-! What is walked; locks; targets. -/
namespace Ls
open PySem PySem.Spec PyProof.Rows L2
/-! ### less that may change -/
section
variable {K : PySem.W.Frag} {F F' : Addr → Prop} {μ : List Addr} {H : Hp}
mutual
theorem RV.anti (k : ∀ a, F' a → F a) : ∀ (d : D) (v : V), RV K F μ H d v → RV K F' μ H d v
  | .non, v, x => by simpa only [RV] using x
  | .bl _, v, x => by simpa only [RV] using x
  | .int _, v, x => by simpa only [RV] using x
  | .str _, v, x => by simpa only [RV] using x
  | .tup xs, v, x => by
    rw [RV] at x ⊢
    obtain ⟨a, vs, e, tp, r⟩ := x
    exact ⟨a, vs, e, tp, RVs.anti k xs vs r⟩
  | .lst xs, v, x => by
    rw [RV] at x ⊢
    obtain ⟨a, vs, e, tp, r⟩ := x
    exact ⟨a, vs, e, ⟨tp.1, fun q => tp.2 (k a q)⟩, RVs.anti k xs vs r⟩
  | .rol xs, v, x => by
    rw [RV] at x ⊢
    obtain ⟨a, vs, e, tp, r⟩ := x
    exact ⟨a, vs, e, tp.anti k, RVs.anti k xs vs r⟩
  | .dct _ kvs, v, x => by
    rw [RV] at x ⊢
    obtain ⟨a, ws, e, tp, r⟩ := x
    exact ⟨a, ws, e, ⟨tp.1, fun q => tp.2 (k a q)⟩, RVk.anti k kvs ws r⟩
  | .ref n, v, x => by rw [RV] at x ⊢; exact x
  | .obj _ xs, v, x => by
    rw [RV] at x ⊢
    obtain ⟨a, vs, e, o, r⟩ := x
    exact ⟨a, vs, e, o.anti k, RVs.anti k xs vs r⟩
  | .rot xs, v, x => by
    rw [RV] at x ⊢
    obtain ⟨a, vs, e, o, r⟩ := x
    exact ⟨a, vs, e, o, RVs.anti k xs vs r⟩
  | .exn _ xs, v, x => by
    rw [RV] at x ⊢
    obtain ⟨a, vs, e, o, r⟩ := x
    exact ⟨a, vs, e, o.move fun b u e n _ => ⟨e, fun q => n (k b q)⟩, RVs.anti k xs vs r⟩
theorem RVs.anti (k : ∀ a, F' a → F a) : ∀ (xs : List D) (vs : List V), RVs K F μ H xs vs → RVs K F' μ H xs vs
  | [], vs, x => by simpa only [RVs] using x
  | d :: r, vs, x => by
    rw [RVs] at x ⊢
    obtain ⟨v, ws, e, p, q⟩ := x
    exact ⟨v, ws, e, RV.anti k d v p, RVs.anti k r ws q⟩
theorem RVk.anti (k : ∀ a, F' a → F a) : ∀ (xs : List (Ky × D)) (vs : List (Ky × V)), RVk K F μ H xs vs → RVk K F' μ H xs vs
  | [], vs, x => by simpa only [RVk] using x
  | (j, d) :: r, vs, x => by
    rw [RVk] at x ⊢
    obtain ⟨v, ws, e, p, q⟩ := x
    exact ⟨v, ws, e, RV.anti k d v p, RVk.anti k r ws q⟩
end
theorem XR.anti {x : Xn} {cls : Value} {d : Option Addr} (k : ∀ a, F' a → F a) (e : XR K F μ H x cls d) : XR K F' μ H x cls d := by
  obtain ⟨vs, h1, h2⟩ := e
  exact ⟨vs, h1.move fun b u e n _ => ⟨e, fun q => n (k b q)⟩, RVs.anti k _ _ h2⟩
theorem ER.anti {ρ : Ev} {σ : L2.St} (k : ∀ a, F' a → F a) (e : ER K F μ H ρ σ) : ER K F' μ H ρ σ :=
  ⟨e.len, fun i d q => let ⟨v, q1, q2⟩ := e.val i d q; ⟨v, q1, RV.anti k d v q2⟩⟩
end
/-! ### the same but for locks -/
inductive OEq : O → O → Prop
  | same (o : O) : OEq o o
  | lk (xs : List D) : OEq (.lst xs) (.lck xs)
  | ul (xs : List D) : OEq (.lck xs) (.lst xs)
  | lkd (t : Bool) (kvs : List (Ky × D)) : OEq (.dct t kvs) (.dlk t kvs)
  | uld (t : Bool) (kvs : List (Ky × D)) : OEq (.dlk t kvs) (.dct t kvs)
theorem OEq.symm {o o' : O} (h : OEq o o') : OEq o' o := by cases h <;> constructor
theorem OEq.alive {o o' : O} (h : OEq o o') : Alive o → Alive o' := by cases h <;> exact fun x => x
structure Lk (h h' : Hh) : Prop where
  len : h.length = h'.length
  at_ : ∀ (n : Nat) (o o' : O), h[n]? = some o → h'[n]? = some o' → OEq o o'
theorem Lk.refl (h : Hh) : Lk h h := ⟨rfl, fun n o o' e e' => by rw [e] at e'; cases e'; exact .same _⟩
theorem Lk.symm {h h' : Hh} (x : Lk h h') : Lk h' h := ⟨x.len.symm, fun n o o' e e' => (x.at_ n o' o e' e).symm⟩
theorem Lk.get {h h' : Hh} (x : Lk h h') {n : Nat} {o' : O} (e : h'[n]? = some o') : ∃ o, h[n]? = some o ∧ OEq o o' := by
  have hn : n < h.length := by rw [x.len]; exact (List.getElem?_eq_some_iff.mp e).1
  exact ⟨h[n], List.getElem?_eq_getElem hn, x.at_ n _ _ (List.getElem?_eq_getElem hn) e⟩
theorem Lk.lv {h h' : Hh} (x : Lk h h') {μ : List Addr} {a : Addr} : Lv μ h' a → Lv μ h a := by
  rintro ⟨n, o, q1, q2, q3⟩
  obtain ⟨o0, e0, e1⟩ := x.get q2
  exact ⟨n, o0, q1, e0, e1.symm.alive q3⟩
theorem Lk.fb {h h' : Hh} (x : Lk h h') {Z : Addr → Prop} {μ : List Addr} (a : Addr) : Fb Z μ h' a → Fb Z μ h a := fun q => q.elim .inl fun z => .inr (x.lv z)
section
variable {K : PySem.W.Frag} {Z : Addr → Prop} {μ μ1 μ' : List Addr} {h h1 h' : Hh} {H H1 H' : Hp}
theorem SR.lk (S : SR K Z μ h H) (x : Lk h h') : SR K Z μ h' H := by
  refine ⟨S.len.trans x.len, fun n m a o o' q1 q2 q3 q4 q5 q6 => ?_, fun a q => S.nz a (x.lv q), S.zs, fun n a o q1 q2 => ?_⟩
  · obtain ⟨u, e1, e2⟩ := x.get q3
    obtain ⟨u', e1', e2'⟩ := x.get q4
    exact S.inj n m a u u' q1 q2 e1 e1' (e2.symm.alive q5) (e2'.symm.alive q6)
  · obtain ⟨u, e1, e2⟩ := x.get q2
    have ob := S.obj n a u q1 e1
    cases e2 with
    | same => cases o with
      | dead => trivial
      | lst xs => obtain ⟨vs, f1, f2⟩ := ob; exact ⟨vs, f1, RVs.anti x.fb _ _ f2⟩
      | lck xs => obtain ⟨vs, f1, f2⟩ := ob; exact ⟨vs, f1, RVs.anti x.fb _ _ f2⟩
      | dct _ _ => obtain ⟨ws, f1, f2⟩ := ob; exact ⟨ws, f1, RVk.anti x.fb _ _ f2⟩
      | dlk _ _ => obtain ⟨ws, f1, f2⟩ := ob; exact ⟨ws, f1, RVk.anti x.fb _ _ f2⟩
    | lk xs => obtain ⟨vs, f1, f2⟩ := ob; exact ⟨vs, f1, RVs.anti x.fb _ _ f2⟩
    | ul xs => obtain ⟨vs, f1, f2⟩ := ob; exact ⟨vs, f1, RVs.anti x.fb _ _ f2⟩
    | lkd _ _ => obtain ⟨ws, f1, f2⟩ := ob; exact ⟨ws, f1, RVk.anti x.fb _ _ f2⟩
    | uld _ _ => obtain ⟨ws, f1, f2⟩ := ob; exact ⟨ws, f1, RVk.anti x.fb _ _ f2⟩
theorem exc.lk {W : WX} {x : Xn} (l : Lk h h') (e : exc K Z W x μ h H) : exc K Z W x μ h' H := fun cls d q => e cls d (q.anti l.symm.fb)
theorem lk_lock (h : Hh) : ∀ l : Option Nat, Lk h (lockO h l)
  | none => Lk.refl h
  | some n => by
    cases q : h[n]? with
    | none => simp only [lockO, q]; exact Lk.refl h
    | some o =>
      have hn : n < h.length := (List.getElem?_eq_some_iff.mp q).1
      cases o with
      | lst xs =>
        simp only [lockO, q]
        refine ⟨by simp, fun m o o' e e' => ?_⟩
        by_cases hm : n = m
        · subst hm
          rw [q] at e; cases e
          rw [List.getElem?_set_self hn] at e'; cases e'
          exact .lk _
        · rw [List.getElem?_set_ne hm, e] at e'; cases e'; exact .same _
      | dct t kvs =>
        simp only [lockO, q]
        refine ⟨by simp, fun m o o' e e' => ?_⟩
        by_cases hm : n = m
        · subst hm
          rw [q] at e; cases e
          rw [List.getElem?_set_self hn] at e'; cases e'
          exact .lkd _ _
        · rw [List.getElem?_set_ne hm, e] at e'; cases e'; exact .same _
      | dead => simp only [lockO, q]; exact Lk.refl h
      | lck _ => simp only [lockO, q]; exact Lk.refl h
      | dlk _ _ => simp only [lockO, q]; exact Lk.refl h
/-- behind the walk: unlocked again -/
theorem lk_unlock {l : Option Nat} (S : SR K Z μ h H) (t : Stp μ (lockO h l) H μ' h' H') : Lk h' (unlockO h h' l) ∧ Stp μ h H μ' (unlockO h h' l) H' := by
  have nolv : ∀ a, ¬ Lv μ h a → ¬ Lv μ (lockO h l) a := fun a n q => n ((lk_lock h l).lv q)
  cases l with
  | none => exact ⟨Lk.refl _, t⟩
  | some n =>
    have same : (∀ o, h[n]? = some o → (∀ xs, o ≠ .lst xs) ∧ ∀ b kvs, o ≠ .dct b kvs) → lockO h (some n) = h ∧ unlockO h h' (some n) = h' := by
      intro k
      simp only [lockO, unlockO]
      cases q : h[n]? with
      | none => exact ⟨rfl, rfl⟩
      | some o =>
        obtain ⟨k1, k2⟩ := k o q
        cases o with
        | lst xs => exact absurd rfl (k1 xs)
        | dct t kvs => exact absurd rfl (k2 t kvs)
        | dead => exact ⟨rfl, rfl⟩
        | lck _ => exact ⟨rfl, rfl⟩
        | dlk _ _ => exact ⟨rfl, rfl⟩
    cases q : h[n]? with
    | none =>
      obtain ⟨e1, e2⟩ := same (fun o e => by rw [q] at e; cases e)
      rw [e2]; rw [e1] at t
      exact ⟨Lk.refl _, t⟩
    | some o =>
      have hn : n < h.length := (List.getElem?_eq_some_iff.mp q).1
      cases o with
      | lst xs =>
        have e1 : lockO h (some n) = h.set n (.lck xs) := by simp only [lockO, q]
        have e0 : (lockO h (some n))[n]? = some (.lck xs) := by rw [e1, List.getElem?_set_self hn]
        have e2 := t.lck n xs e0
        have hn' : n < h'.length := (List.getElem?_eq_some_iff.mp e2).1
        have e3 : unlockO h h' (some n) = h'.set n (.lst xs) := by simp only [unlockO, q, e2]
        rw [e3]
        refine ⟨⟨by simp, fun m o o' f f' => ?_⟩, ⟨t.pre, by rw [List.length_set]; have := t.hl; rw [e1, List.length_set] at this; exact this, fun m f => ?_, fun m ys f => ?_, fun m b ys f => ?_, t.dom, fun a o f nl => t.frm a o f (nolv a nl)⟩⟩
        · by_cases hm : n = m
          · subst hm
            rw [e2] at f; cases f
            rw [List.getElem?_set_self hn'] at f'; cases f'
            exact .ul _
          · rw [List.getElem?_set_ne hm, f] at f'; cases f'; exact .same _
        · have hm : n ≠ m := by rintro rfl; rw [q] at f; cases f
          rw [List.getElem?_set_ne hm]
          exact t.dead m (by rw [e1, List.getElem?_set_ne hm]; exact f)
        · have hm : n ≠ m := by rintro rfl; rw [q] at f; cases f
          rw [List.getElem?_set_ne hm]
          exact t.lck m ys (by rw [e1, List.getElem?_set_ne hm]; exact f)
        · have hm : n ≠ m := by rintro rfl; rw [q] at f; cases f
          rw [List.getElem?_set_ne hm]
          exact t.dlk m b ys (by rw [e1, List.getElem?_set_ne hm]; exact f)
      | dct b kvs =>
        have e1 : lockO h (some n) = h.set n (.dlk b kvs) := by simp only [lockO, q]
        have e0 : (lockO h (some n))[n]? = some (.dlk b kvs) := by rw [e1, List.getElem?_set_self hn]
        have e2 := t.dlk n b kvs e0
        have hn' : n < h'.length := (List.getElem?_eq_some_iff.mp e2).1
        have e3 : unlockO h h' (some n) = h'.set n (.dct b kvs) := by simp only [unlockO, q, e2]
        rw [e3]
        refine ⟨⟨by simp, fun m o o' f f' => ?_⟩, ⟨t.pre, by rw [List.length_set]; have := t.hl; rw [e1, List.length_set] at this; exact this, fun m f => ?_, fun m ys f => ?_, fun m b ys f => ?_, t.dom, fun a o f nl => t.frm a o f (nolv a nl)⟩⟩
        · by_cases hm : n = m
          · subst hm
            rw [e2] at f; cases f
            rw [List.getElem?_set_self hn'] at f'; cases f'
            exact .uld _ _
          · rw [List.getElem?_set_ne hm, f] at f'; cases f'; exact .same _
        · have hm : n ≠ m := by rintro rfl; rw [q] at f; cases f
          rw [List.getElem?_set_ne hm]
          exact t.dead m (by rw [e1, List.getElem?_set_ne hm]; exact f)
        · have hm : n ≠ m := by rintro rfl; rw [q] at f; cases f
          rw [List.getElem?_set_ne hm]
          exact t.lck m ys (by rw [e1, List.getElem?_set_ne hm]; exact f)
        · have hm : n ≠ m := by rintro rfl; rw [q] at f; cases f
          rw [List.getElem?_set_ne hm]
          exact t.dlk m b ys (by rw [e1, List.getElem?_set_ne hm]; exact f)
      | dead =>
        obtain ⟨e1, e2⟩ := same (fun o e => by rw [q] at e; cases e; exact ⟨(fun _ z => nomatch z), (fun _ _ z => nomatch z)⟩)
        rw [e2]; rw [e1] at t
        exact ⟨Lk.refl _, t⟩
      | lck xs =>
        obtain ⟨e1, e2⟩ := same (fun o e => by rw [q] at e; cases e; exact ⟨(fun _ z => nomatch z), (fun _ _ z => nomatch z)⟩)
        rw [e2]; rw [e1] at t
        exact ⟨Lk.refl _, t⟩
      | dlk b kvs =>
        obtain ⟨e1, e2⟩ := same (fun o e => by rw [q] at e; cases e; exact ⟨(fun _ z => nomatch z), (fun _ _ z => nomatch z)⟩)
        rw [e2]; rw [e1] at t
        exact ⟨Lk.refl _, t⟩
variable {α : Type} {P : α → List Addr → Hh → Hp → Prop} {Ex : Xn → List Addr → Hh → Hp → Prop} {r : R α} {l : Option Nat}
theorem Post.unlock (S : SR K Z μ h H) (p : Post K Z μ h H P Ex (R.unlock h l r)) : Post K Z μ (lockO h l) H (fun a μ' h' H' => P a μ' (unlockO h h' l) H') (fun x μ' h' H' => Ex x μ' (unlockO h h' l) H') r := by
  cases r with
  | stuck => exact p
  | ok a h' =>
    intro μ' H' S' t'
    obtain ⟨e1, e2⟩ := lk_unlock S t'
    exact p μ' H' (S'.lk e1) e2
  | err a h' =>
    intro μ' H' S' t'
    obtain ⟨e1, e2⟩ := lk_unlock S t'
    exact p μ' H' (S'.lk e1) e2
theorem Post.impB {P' : α → List Addr → Hh → Hp → Prop} {Ex' : Xn → List Addr → Hh → Hp → Prop} (p : Post K Z μ h H P Ex r) (k : ∀ a μ' h' H', SR K Z μ' h' H' → Stp μ h H μ' h' H' → P a μ' h' H' → P' a μ' h' H') (kx : ∀ x μ' h' H', SR K Z μ' h' H' → Stp μ h H μ' h' H' → Ex x μ' h' H' → Ex' x μ' h' H') : Post K Z μ h H P' Ex' r := by
  cases r with
  | stuck => exact p
  | ok a h2 => exact fun μ2 H2 s2 t2 => k a μ2 h2 H2 s2 t2 (p μ2 H2 s2 t2)
  | err x h2 => exact fun μ2 H2 s2 t2 => kx x μ2 h2 H2 s2 t2 (p μ2 H2 s2 t2)
theorem Post.calm (p : Post K Z μ h H P Ex (R.calm r)) : Post K Z μ h H P (fun _ _ _ _ => False) r := by
  cases r with
  | stuck => exact p
  | ok a h2 => exact p
  | err x h2 => exact p.elim
end
/-! ### what is walked -/
/-- a list as it is walked -/
def LL (K : PySem.W.Frag) (Z : Addr → Prop) (μ : List Addr) (h : Hh) (H : Hp) (a : Addr) (xs : List D) : Prop :=
  RV K (Fb Z μ h) μ H (.lst xs) (.ref a) ∨ RV K (Fb Z μ h) μ H (.rol xs) (.ref a) ∨ ∃ n : Nat, μ[n]? = some a ∧ h[n]? = some (O.lck xs)
section
variable {K : PySem.W.Frag} {Z : Addr → Prop} {μ μ1 μ' : List Addr} {h h1 h' : Hh} {H H1 H' : Hp} {a b : Addr} {xs ys : List D}
theorem LL.items (S : SR K Z μ h H) (x : LL K Z μ h H a xs) : ∃ vs, SqL K H a vs ∧ RVs K (Fb Z μ h) μ H xs vs := by
  rcases x with x | x | ⟨n, e1, e2⟩
  · obtain ⟨b, vs, e, f, r⟩ := RV.lst.mp x
    cases e
    exact ⟨vs, f.sq, r⟩
  · obtain ⟨b, vs, e, f, r⟩ := RV.rol.mp x
    cases e
    exact ⟨vs, f.sq, r⟩
  · obtain ⟨vs, f1, f2⟩ := S.obj n a _ e1 e2
    exact ⟨vs, .inl (.inl f1), f2⟩
theorem LL.mono (S : SR K Z μ h H) (t : Stp μ h H μ' h' H') (x : LL K Z μ h H a xs) : LL K Z μ' h' H' a xs := by
  rcases x with x | x | ⟨n, e1, e2⟩
  · exact .inl (RV.mono S t _ _ x)
  · exact .inr (.inl (RV.mono S t _ _ x))
  · exact .inr (.inr ⟨n, t.ix e1, t.lck n xs e2⟩)
/-- the items that come, and the iterator -/
inductive Src (K : PySem.W.Frag) (tp : Bool) (Z : Addr → Prop) (μ : List Addr) (h : Hh) (H : Hp) : List D → It → Prop
  | lst {a : Addr} {xs : List D} : LL K Z μ h H a xs → Src K tp Z μ h H xs (Itl K a)
  | tup {a : Addr} {xs : List D} : RV K (Fb Z μ h) μ H (.tup xs) (.ref a) → Src K tp Z μ h H xs (Itt K a)
  | rng (lo : Int) (n : Nat) : Src K tp Z μ h H ((List.range n).map fun k => .int (lo + (k : Nat))) (Itr lo n)
  | enl {a : Addr} {xs : List D} : tp = true → LL K Z μ h H a xs → Src K tp Z μ h H (enumL 0 xs) (Ite K a)
  | ent {a : Addr} {xs : List D} : tp = true → RV K (Fb Z μ h) μ H (.tup xs) (.ref a) → Src K tp Z μ h H (enumL 0 xs) (IteT K a)
  | zpl {a b : Addr} {xs ys : List D} : tp = true → LL K Z μ h H a xs → LL K Z μ h H b ys → Src K tp Z μ h H (zipL xs ys) (Itz K a b)
  | zpt {a b : Addr} {xs ys : List D} : tp = true → RV K (Fb Z μ h) μ H (.tup xs) (.ref a) → RV K (Fb Z μ h) μ H (.tup ys) (.ref b) → Src K tp Z μ h H (zipL xs ys) (RZ.ItzT K a b)
  | sgn (s : List Nat) : Src K tp Z μ h H (s.map fun c => .str [c]) (Its ⟨s.toArray⟩)
variable {tp : Bool} {J : It}
theorem Src.mono (S : SR K Z μ h H) (t : Stp μ h H μ' h' H') (x : Src K tp Z μ h H xs J) : Src K tp Z μ' h' H' xs J := by
  cases x with
  | lst q => exact .lst (q.mono S t)
  | tup q => exact .tup (RV.mono S t _ _ q)
  | rng lo n => exact .rng lo n
  | enl e q => exact .enl e (q.mono S t)
  | ent e q => exact .ent e (RV.mono S t _ _ q)
  | zpl e q q2 => exact .zpl e (q.mono S t) (q2.mono S t)
  | zpt e q q2 => exact .zpt e (RV.mono S t _ _ q) (RV.mono S t _ _ q2)
  | sgn s => exact .sgn s
/-- what comes at a turn: a value, or a new pair -/
def Yl (K : PySem.W.Frag) (tp : Bool) (Z : Addr → Prop) (μ : List Addr) (h : Hh) (H : Hp) (d : D) (v : V) (H' : Hp) : Prop :=
  (H' = H ∧ RV K (Fb Z μ h) μ H d v) ∨ (tp = true ∧ ∃ T vs ds, v = .ref T ∧ H T = none ∧ H' = upd H T (.tup vs) ∧ d = .tup ds ∧ RVs K (Fb Z μ h) μ H ds vs)
theorem enumL_get : ∀ (xs : List D) (k i : Nat), (enumL k xs)[i]? = (xs[i]?).map fun x => D.tup [.int ((k + i : Nat) : Int), x]
  | [], k, i => by simp [enumL]
  | x :: r, k, 0 => by simp [enumL]
  | x :: r, k, i + 1 => by
    rw [enumL, List.getElem?_cons_succ, List.getElem?_cons_succ, enumL_get r (k + 1) i]
    have : k + 1 + i = k + (i + 1) := by omega
    rw [this]
theorem zipL_get : ∀ (xs ys : List D) (i : Nat) (d : D), (zipL xs ys)[i]? = some d → ∃ x y, xs[i]? = some x ∧ ys[i]? = some y ∧ d = .tup [x, y]
  | [], ys, i, d, e => by simp [zipL] at e
  | x :: r, [], i, d, e => by simp [zipL] at e
  | x :: r, y :: s, 0, d, e => by
    simp [zipL] at e
    exact ⟨x, y, rfl, rfl, e.symm⟩
  | x :: r, y :: s, i + 1, d, e => by
    rw [zipL, List.getElem?_cons_succ] at e
    obtain ⟨x', y', e1, e2, e3⟩ := zipL_get r s i d e
    exact ⟨x', y', e1, e2, e3⟩
theorem zipL_len : ∀ (xs ys : List D), (zipL xs ys).length = min xs.length ys.length
  | [], ys => by simp [zipL]
  | x :: r, [] => by simp [zipL]
  | x :: r, y :: s => by simp only [zipL, List.length_cons, zipL_len r s]; omega
theorem enumL_len : ∀ (xs : List D) (k : Nat), (enumL k xs).length = xs.length
  | [], k => rfl
  | x :: r, k => by rw [enumL, List.length_cons, List.length_cons, enumL_len r]
theorem Src.stop (S : SR K Z μ h H) (x : Src K tp Z μ h H xs J) : J.stop xs.length H := by
  cases x with
  | lst q => obtain ⟨vs, f, r⟩ := q.items S; exact ⟨vs, f, by rw [r.len]; exact Nat.le_refl _⟩
  | tup q => obtain ⟨b, vs, e, f, r⟩ := RV.tup.mp q; cases e; exact ⟨vs, f.sq, by rw [r.len]; exact Nat.le_refl _⟩
  | rng lo n => show n ≤ _; simp
  | enl e q => obtain ⟨vs, f, r⟩ := q.items S; exact ⟨vs, f, by rw [enumL_len, r.len]; exact Nat.le_refl _⟩
  | ent e q => obtain ⟨b, vs, e, f, r⟩ := RV.tup.mp q; cases e; exact ⟨vs, f.sq, by rw [enumL_len, r.len]⟩
  | zpl e q q2 =>
    obtain ⟨vs, f, r⟩ := q.items S
    obtain ⟨vs2, f2, r2⟩ := q2.items S
    refine ⟨vs, vs2, f, f2, ?_⟩
    rw [zipL_len, r.len, r2.len]
    omega
  | zpt e q q2 =>
    obtain ⟨b, vs, e, f, r⟩ := RV.tup.mp q; cases e
    obtain ⟨b, vs2, e, f2, r2⟩ := RV.tup.mp q2; cases e
    refine ⟨vs, vs2, f.sq, f2.sq, ?_⟩
    rw [zipL_len, r.len, r2.len]
    omega
  | sgn s => show (Array.size _) ≤ _; simp
theorem pair2 {F : Addr → Prop} {x y : D} {v w : V} (p : RV K F μ H x v) (q : RV K F μ H y w) : RVs K F μ H [x, y] [v, w] := RVs.mk p (RVs.mk q (RVs.nil.mpr rfl))
theorem Src.turn (S : SR K Z μ h H) (x : Src K tp Z μ h H xs J) {i : Nat} {d : D} (e : xs[i]? = some d) : J.go i H ∧ ∀ v H', J.yld i H v H' → Yl K tp Z μ h H d v H' := by
  cases x with
  | lst q =>
    obtain ⟨vs, f, r⟩ := q.items S
    obtain ⟨v, e1, e2⟩ := r.get e
    refine ⟨⟨vs, v, f, e1⟩, fun v' H' ⟨e3, y⟩ => .inl ⟨e3, ?_⟩⟩
    have := y vs f
    rw [e1] at this; cases this; exact e2
  | tup q =>
    obtain ⟨b, vs, e', f, r⟩ := RV.tup.mp q; cases e'
    obtain ⟨v, e1, e2⟩ := r.get e
    refine ⟨⟨vs, v, f.sq, e1⟩, fun v' H' ⟨e3, y⟩ => .inl ⟨e3, ?_⟩⟩
    have := y vs f.sq
    rw [e1] at this; cases this; exact e2
  | rng lo n =>
    have hi : i < n := by have := (List.getElem?_eq_some_iff.mp e).1; simpa using this
    refine ⟨hi, fun v' H' ⟨e3, y⟩ => .inl ⟨e3, ?_⟩⟩
    subst y
    simp [hi] at e
    subst e
    exact RV.int.mpr rfl
  | enl ht q =>
    obtain ⟨vs, f, r⟩ := q.items S
    rw [enumL_get, Option.map_eq_some_iff] at e
    obtain ⟨d0, e, rfl⟩ := e
    obtain ⟨v, e1, e2⟩ := r.get e
    refine ⟨⟨vs, v, f, e1⟩, fun v' H' ⟨T, x, e3, e4, e5, y⟩ => .inr ⟨ht, T, _, _, e3, e4, e5, rfl, ?_⟩⟩
    have := y vs f
    rw [e1] at this; cases this
    refine pair2 (RV.int.mpr ?_) e2
    simp
  | ent ht q =>
    obtain ⟨b, vs, e', f, r⟩ := RV.tup.mp q; cases e'
    rw [enumL_get, Option.map_eq_some_iff] at e
    obtain ⟨d0, e, rfl⟩ := e
    obtain ⟨v, e1, e2⟩ := r.get e
    refine ⟨⟨vs, f.sq, (List.getElem?_eq_some_iff.mp e1).1⟩, fun v1 H1 ⟨T, x, e3, e4, e5, y⟩ => .inr ⟨ht, T, _, _, e3, e4, e5, rfl, ?_⟩⟩
    have := y vs f.sq
    rw [e1] at this; cases this
    refine pair2 (RV.int.mpr ?_) e2
    simp
  | zpl ht q q2 =>
    obtain ⟨vs, f, r⟩ := q.items S
    obtain ⟨vs2, f2, r2⟩ := q2.items S
    obtain ⟨x, y, e1, e2, rfl⟩ := zipL_get _ _ _ _ e
    obtain ⟨v, g1, g2⟩ := r.get e1
    obtain ⟨v2, g3, g4⟩ := r2.get e2
    refine ⟨⟨vs, vs2, v, v2, f, f2, g1, g3⟩, fun v' H' ⟨T, x, y, e3, e4, e5, y1, y2⟩ => .inr ⟨ht, T, _, _, e3, e4, e5, rfl, ?_⟩⟩
    have k1 := y1 vs f
    rw [g1] at k1; cases k1
    have k2 := y2 vs2 f2
    rw [g3] at k2; cases k2
    exact pair2 g2 g4
  | zpt ht q q2 =>
    obtain ⟨b, vs, e', f, r⟩ := RV.tup.mp q; cases e'
    obtain ⟨b, vs2, e', f2, r2⟩ := RV.tup.mp q2; cases e'
    obtain ⟨x, y, e1, e2, rfl⟩ := zipL_get _ _ _ _ e
    obtain ⟨v, g1, g2⟩ := r.get e1
    obtain ⟨v2, g3, g4⟩ := r2.get e2
    refine ⟨⟨vs, vs2, v, v2, f.sq, f2.sq, g1, g3⟩, fun v' H' ⟨T, x, y, e3, e4, e5, y1, y2⟩ => .inr ⟨ht, T, _, _, e3, e4, e5, rfl, ?_⟩⟩
    have k1 := y1 vs f.sq
    rw [g1] at k1; cases k1
    have k2 := y2 vs2 f2.sq
    rw [g3] at k2; cases k2
    exact pair2 g2 g4
  | sgn s =>
    rw [List.getElem?_map, Option.map_eq_some_iff] at e
    obtain ⟨c, e, rfl⟩ := e
    have hi : i < s.length := (List.getElem?_eq_some_iff.mp e).1
    refine ⟨by show i < Array.size _; simpa using hi, fun v' H' ⟨e3, c', y1, y2⟩ => .inl ⟨e3, ?_⟩⟩
    subst y2
    have : s[i]? = some c' := by simpa using y1
    rw [e] at this; cases this
    exact RV.str.mpr rfl
end
end Ls
/-! Targets and iterables. -/
namespace Ls
open PySem PySem.Spec PyProof.Rows L2
theorem PG.imp {X : Cx} {e : Expr} {t t' : TG} (h : PG X e t) (k : ∀ v σ H Q, t' v σ H Q → t v σ H Q) : PG X e t' := ⟨fun pins s σ H v u Q I r q => h.run pins s σ H v u Q I r (k v σ H Q q)⟩
theorem PGs.imp {X : Cx} {e : List Expr} {t t' : TGs} (h : PGs X e t) (k : ∀ v σ H Q, t' v σ H Q → t v σ H Q) : PGs X e t' := ⟨fun pins s σ H v u Q I r q => h.run pins s σ H v u Q I r (k v σ H Q q)⟩
theorem PG.or {X : Cx} {e : Expr} {t t' : TG} (h : PG X e t) (h' : PG X e t') : PG X e fun v σ H Q => t v σ H Q ∨ t' v σ H Q :=
  ⟨fun pins s σ H v u Q I r q => q.elim (h.run pins s σ H v u Q I r) (h'.run pins s σ H v u Q I r)⟩
theorem PI.imp {X : Cx} {tg e : Expr} {t t' : TI} (h : PI X tg e t) (k : ∀ σ H R, t' σ H R → t σ H R) : PI X tg e t' := ⟨fun pins s σ H R I q => h.run pins s σ H R I (k σ H R q)⟩
theorem PI.or {X : Cx} {tg e : Expr} {t t' : TI} (h : PI X tg e t) (h' : PI X tg e t') : PI X tg e fun σ H R => t σ H R ∨ t' σ H R :=
  ⟨fun pins s σ H R I q => q.elim (h.run pins s σ H R I) (h'.run pins s σ H R I)⟩
/-- only these slots have changed -/
def Only (l : List Nat) (σ σ' : L2.St) : Prop := σ'.length = σ.length ∧ ∀ i, i ∉ l → σ'[i]? = σ[i]?
theorem Only.refl (l : List Nat) (σ : L2.St) : Only l σ σ := ⟨rfl, fun _ _ => rfl⟩
theorem Only.set (i : Nat) (σ : L2.St) (v : Option V) : Only [i] σ (σ.set i v) := ⟨by simp, fun j hj => by rw [List.getElem?_set_ne (fun z => hj (by simp [z]))]⟩
theorem Only.app {l l' : List Nat} {σ σ' σ'' : L2.St} (a : Only l σ σ') (b : Only l' σ' σ'') : Only (l ++ l') σ σ'' :=
  ⟨b.1.trans a.1, fun i hi => (b.2 i (fun z => hi (List.mem_append_right _ z))).trans (a.2 i (fun z => hi (List.mem_append_left _ z)))⟩
theorem wipe_in {σ : L2.St} {i : Nat} : ∀ {vs : List Nat}, i ∈ vs → i < σ.length → (L2.wipe σ vs)[i]? = some none
  | [], h, _ => by simp at h
  | v :: vs, h, hl => by
    unfold L2.wipe
    by_cases hv : v = i
    · subst hv; rw [List.getElem?_set_self (by rw [wipe_length]; exact hl)]
    · rw [List.getElem?_set_ne hv]
      rcases List.mem_cons.mp h with z | z
      · exact absurd z.symm hv
      · exact wipe_in z hl
theorem Only.wipe {l : List Nat} {σ σ' : L2.St} (a : Only l σ σ') : L2.wipe σ' l = L2.wipe σ l := by
  apply List.ext_getElem?
  intro i
  by_cases hi : i ∈ l
  · by_cases hl : i < σ.length
    · rw [wipe_in hi hl, wipe_in hi (by rw [a.1]; exact hl)]
    · rw [List.getElem?_eq_none (by rw [wipe_length, a.1]; omega), List.getElem?_eq_none (by rw [wipe_length]; omega)]
  · rw [wipe_out hi, wipe_out hi, a.2 i hi]
theorem wipe_wipe (σ : L2.St) (l : List Nat) : L2.wipe (L2.wipe σ l) l = L2.wipe σ l := by
  apply List.ext_getElem?
  intro i
  by_cases hi : i ∈ l
  · by_cases hl : i < σ.length
    · rw [wipe_in hi (by rw [wipe_length]; exact hl), wipe_in hi hl]
    · rw [List.getElem?_eq_none (by rw [wipe_length, wipe_length]; omega), List.getElem?_eq_none (by rw [wipe_length]; omega)]
  · rw [wipe_out hi]
def T.tp? : T → Bool
  | .tp _ => true
  | _ => false
/-- an item, or a pair just made -/
def RI (K : PySem.W.Frag) (F : Addr → Prop) (μ : List Addr) (H : Hp) (tp : Bool) (d : D) (v : V) : Prop :=
  RV K F μ H d v ∨ (tp = true ∧ ∃ T vs ds, v = .ref T ∧ H T = some (.tup vs) ∧ d = .tup ds ∧ RVs K F μ H ds vs)
section
variable (K : PySem.W.Frag) (cf : Cf) (W : WX)
def PG1 (Z : Addr → Prop) (σ : L2.St) (l : List Nat) (Q : L2.St → Hp → Prop) (ρ' : Ev) (μ' : List Addr) (h' : Hh) (H' : Hp) : Prop := ∀ σ', ER K (Fb Z μ' h') μ' H' ρ' σ' → Only l σ σ' → Q σ' H'
def rdG (t : T) : TG := fun v σ H Q => ∃ Z μ h ρ d, Beside K σ H Z μ h ρ ∧ RI K (Fb Z μ h) μ H t.tp? d v ∧ Post K Z μ h H (PG1 K Z σ t.slots Q) (exc K Z W) (asgT cf t d ρ h)
def rdGs (t : Ts) : TGs := fun vs σ H Q => ∃ Z μ h ρ ds, Beside K σ H Z μ h ρ ∧ RVs K (Fb Z μ h) μ H ds vs ∧ Post K Z μ h H (PG1 K Z σ t.slots Q) (exc K Z W) (asgTs cf t ds ρ h)
def rdI (tp : Bool) (i : I) : TI := fun σ H R => ∃ Z μ h ρ, Beside K σ H Z μ h ρ ∧ Post K Z μ h H (fun p μ1 h1 H1 => ∀ J, Src K tp Z μ1 (lockO h1 p.2) H1 p.1 J → R J H1) (exc K Z W) (evi cf i ρ h)
end
section
variable {X : Cx} {cf : Cf} {W : WX} {pos : Pos}
theorem sG_nm {i : Nat} {x : Str} (hN : X.N.Nodup) (hi : X.N[i]? = some x) (hx : Loc X.env.scope x) (hf : X.fn x = true ∨ X.env.scope.names.lookup x = some .local) : PG X (.Name x pos) (rdG X.K cf W (.nm i)) := by
  refine PG.imp (pg_name hN hi hx hf) fun v σ H Q ⟨Z, μ, h, ρ, d, B, r, p⟩ => ?_
  rcases r with r | ⟨z, _⟩
  · simp only [asgT] at p
    exact p μ H B.sr Stp.refl _ (B.er.set r i) (by rw [T.slots]; exact Only.set i σ _)
  · cases z
theorem sGs_nil : PGs X [] (rdGs X.K cf W .nil) := by
  refine PGs.imp pgs_nil fun v σ H Q ⟨Z, μ, h, ρ, d, B, r, p⟩ => ?_
  cases d with
  | nil => rw [RVs.nil] at r; simp only [asgTs] at p; exact ⟨r, p μ H B.sr Stp.refl _ B.er (Only.refl _ _)⟩
  | cons a b => simp only [asgTs] at p; exact p.elim
theorem sGs_cons {e : Expr} {es : List Expr} {t : T} {ts : Ts} (h1 : PG X e (rdG X.K cf W t)) (h2 : PGs X es (rdGs X.K cf W ts))
    (hs : (assignEach (e :: es) X.env).map (·.2) = assign e X.env :: (assignEach es X.env).map (·.2)) : PGs X (e :: es) (rdGs X.K cf W (.cons t ts)) := by
  refine PGs.imp (pgs_cons h1 h2 hs) fun v σ H Q ⟨Z, μ, h, ρ, d, B, r, p⟩ => ?_
  cases d with
  | nil => simp only [asgTs] at p; exact p.elim
  | cons a b =>
    obtain ⟨w, ws, rfl, r1, r2⟩ := RVs.cons.mp r
    simp only [asgTs] at p
    refine ⟨w, ws, rfl, Z, μ, h, ρ, a, B, .inl r1, (Post.bind B.sr p).imp fun ρ1 μ1 h1 H1 S1 t1 q σ1 E1 O1 => ?_⟩
    refine ⟨Z, μ1, h1, ρ1, b, ⟨S1, E1⟩, RVs.mono B.sr t1 _ _ r2, q.impB (fun ρ2 μ2 h2 H2 S2 t2 q2 σ2 E2 O2 => q2 σ2 E2 ?_) fun _ _ _ _ _ _ z => z⟩
    rw [Ts.slots]
    exact O1.app O2
theorem sG_tp {es : List Expr} {k : Nat} {ts : Ts} (hc : X.calm = true) (h : PGs X es (rdGs X.K cf W ts))
    (hn : (assignEach es X.env).length = ts.len) (hst : (assignEach es X.env).findIdx? (·.1) = none) : PG X (.Tuple es k pos) (rdG X.K cf W (.tp ts)) := by
  refine PG.imp (PG.or (pg_tup (n := ts.len) hc h hn hst) (pg_lst (n := ts.len) hc h hn hst)) fun v σ H Q ⟨Z, μ, h, ρ, d, B, r, p⟩ => ?_
  simp only [asgT, T.slots] at p
  rcases r with r | ⟨_, a, vs, ds, rfl, e1, rfl, r⟩
  · cases q : itemsS h d with
    | none => rw [q] at p; exact p.elim
    | some xs =>
      rw [q] at p
      simp only at p
      split at p
      · rename_i len
        obtain ⟨a, vs, rfl, f, rs⟩ := B.sr.itemsS r q
        rcases f with f | f
        · exact .inr ⟨a, vs, rfl, f, by rw [← len, rs.len], Z, μ, h, ρ, xs, B, rs, p⟩
        · exact .inl ⟨a, vs, rfl, f, by rw [← len, rs.len], Z, μ, h, ρ, xs, B, rs, p⟩
      · exact p.elim
  · have p' : Post X.K Z μ h H (PG1 X.K Z σ ts.slots Q) (exc X.K Z W) (if ds.length = ts.len then asgTs cf ts ds ρ h else .stuck) := p
    split at p'
    · rename_i len
      exact .inl ⟨a, vs, rfl, .inl (.inl e1), by rw [← len, r.len], Z, μ, h, ρ, ds, B, r, p'⟩
    · exact p'.elim
theorem sG_ix (hd : Deep X) {o i : Expr} {mo mi : E} (ho : PE X o (rdE X.K cf W mo)) (hi : PE X i (rdE X.K cf W mi)) (hp : plainE i = true) : PG X (.Subscript o i pos) (rdG X.K cf W (.ix mo mi)) := by
  have key : PG X (.Subscript o i pos) (gSub (rdE X.K cf W mo) (rdE X.K cf W mi) (rSet X.K)) := by
    cases i <;> first | exact pg_sub ho hi (set_all hd) | (simp [plainE] at hp)
  refine PG.imp key fun v σ H Q ⟨Z, μ, h, ρ, d, B, r, p⟩ => ?_
  rcases r with r | ⟨z, _⟩
  rotate_left
  · cases z
  simp only [asgT] at p
  refine rd1 B p fun d1 v1 μ1 h1 H1 B1 t1 r1 p1 => ?_
  refine rd1 B1 p1 fun d2 v2 μ2 h2 H2 B2 t2 r2 p2 => ?_
  cases q : setD h2 d1 d2 d with
  | none => rw [q] at p2; exact p2.elim
  | some h3 =>
    rw [q] at p2
    refine ⟨Z, μ2, h2, d1, d2, d, h3, B2.sr, RV.mono B1.sr t2 _ _ r1, r2, RV.mono B1.sr t2 _ _ (RV.mono B.sr t1 _ _ r), q, fun μ4 H4 S4 t4 => ?_⟩
    exact p2 μ4 H4 S4 t4 σ (B2.er.mono B2.sr t4) (Only.refl _ _)
/-! ### iterables -/
variable {tg a b : Expr} {ma mb : E} {tp : Bool}
theorem ll_of {Z : Addr → Prop} {μ : List Addr} {h : Hh} {H : Hp} {d : D} {v : V} {xs : List D} (S : SR X.K Z μ h H) (r : RV X.K (Fb Z μ h) μ H d v) (e : itemsL h d = some xs) : ∃ c, v = .ref c ∧ (∃ vs, SqL X.K H c vs) ∧ LL X.K Z μ (lockO h (refOf d)) H c xs := by
  obtain ⟨c, vs, rfl, q1, q2⟩ := S.items r e
  refine ⟨c, rfl, ⟨vs, q1⟩, ?_⟩
  cases d with
  | lst ys => cases e; exact .inl r
  | rol ys => cases e; exact .inr (.inl r)
  | ref n =>
    obtain ⟨c', e1, e2⟩ := RV.ref.mp r
    cases e1
    refine .inr (.inr ⟨n, e2, ?_⟩)
    simp only [itemsL] at e
    cases q : h[n]? with
    | none => rw [q] at e; cases e
    | some o =>
      have hn : n < h.length := (List.getElem?_eq_some_iff.mp q).1
      rw [q] at e
      cases o with
      | lst ys => cases e; simp only [refOf, lockO, q]; exact List.getElem?_set_self hn
      | lck ys => cases e; simp only [refOf, lockO, q]
      | dead => cases e
      | dct _ _ => cases e
      | dlk _ _ => cases e
  | non => simp [itemsL] at e
  | bl _ => simp [itemsL] at e
  | int _ => simp [itemsL] at e
  | str _ => simp [itemsL] at e
  | tup _ => simp [itemsL] at e
  | dct _ _ => simp [itemsL] at e
  | obj _ _ => simp [itemsL] at e
  | rot _ => simp [itemsL] at e
  | exn _ _ => simp [itemsL] at e
def D.isT : D → Bool
  | .tup _ => true
  | _ => false
theorem itemsL_of {h : Hh} {d : D} (e : d.isT = false) : itemsI h d = itemsL h d := by cases d <;> first | rfl | cases e
/-- by cases: a tuple comes or not -/
theorem byT {Z : Addr → Prop} {μ : List Addr} {h : Hh} {H : Hp} {ρ : Ev} {σ : L2.St} {α : Type} {P : α → List Addr → Hh → Hp → Prop} {m : E} {f : D → Hh → R α} (B : Beside X.K σ H Z μ h ρ) (p : Post X.K Z μ h H P (exc X.K Z W) ((ev cf m ρ h).bind f)) (Q Q' : VK)
    (k : ∀ d v μ1 h1 H1, Beside X.K σ H1 Z μ1 h1 ρ → Stp μ h H μ1 h1 H1 → RV X.K (Fb Z μ1 h1) μ1 H1 d v → Post X.K Z μ1 h1 H1 P (exc X.K Z W) (f d h1) → d.isT = false → Q v H1)
    (k' : ∀ d v μ1 h1 H1, Beside X.K σ H1 Z μ1 h1 ρ → Stp μ h H μ1 h1 H1 → RV X.K (Fb Z μ1 h1) μ1 H1 d v → Post X.K Z μ1 h1 H1 P (exc X.K Z W) (f d h1) → d.isT = true → Q' v H1) : rdE X.K cf W m σ H Q ∨ rdE X.K cf W m σ H Q' := by
  cases e : ev cf m ρ h with
  | stuck => rw [e] at p; exact p.elim
  | err x h1 => refine .inl ⟨Z, μ, h, ρ, B, ?_⟩; rw [e] at p ⊢; exact p
  | ok d h1 =>
    rw [e] at p
    cases q : d.isT with
    | false =>
      refine .inl ⟨Z, μ, h, ρ, B, ?_⟩
      rw [e]
      intro μ1 H1 S1 t1 v r
      exact k d v μ1 h1 H1 (B.mono S1 t1) t1 r (Post.shift B.sr t1 p) q
    | true =>
      refine .inr ⟨Z, μ, h, ρ, B, ?_⟩
      rw [e]
      intro μ1 H1 S1 t1 v r
      exact k' d v μ1 h1 H1 (B.mono S1 t1) t1 r (Post.shift B.sr t1 p) q
theorem sI_seq (ha : PE X a (rdE X.K cf W ma)) : PI X tg a (rdI X.K cf W tp (.seq ma)) := by
  refine PI.imp (PI.or (pi_list ha) (pi_tup ha)) fun σ H R ⟨Z, μ, h, ρ, B, p⟩ => ?_
  simp only [evi] at p
  refine byT B p _ _ (fun d v μ1 h1 H1 B1 t1 r1 p1 ht => ?_) fun d v μ1 h1 H1 B1 t1 r1 p1 ht => ?_
  · rw [itemsL_of ht] at p1
    cases q : itemsL h1 d with
    | none => rw [q] at p1; exact p1.elim
    | some xs =>
      rw [q] at p1
      obtain ⟨c, rfl, e1, e2⟩ := ll_of B1.sr r1 q
      exact ⟨c, rfl, e1, p1 μ1 H1 B1.sr Stp.refl _ (.lst e2)⟩
  · cases d with
    | tup xs =>
      obtain ⟨c, vs, rfl, q1, q2⟩ := RV.tup.mp r1
      exact ⟨c, rfl, ⟨vs, q1.sq⟩, p1 μ1 H1 B1.sr Stp.refl _ (.tup r1)⟩
    | _ => cases ht
theorem pa_one {e : Expr} {t : TE} (h : PE X e t) (hp : plainE e = true) : PA X [e] fun σ H Q => t σ H fun v H1 => Q [v] H1 := PA.imp (pa_cons h pa_nil (star_cons hp _ _)) fun σ H Q q => q
theorem star_one {e : Expr} (hp : plainE e = true) (env : Env) : starEach [e] env = [(false, eval e env)] := star_cons hp [] env
theorem sI_enum {es : List Expr} {k : Nat} {p1 p2 p3 : Pos} (hg : Gl X "enumerate") (hm : X.mg "enumerate" = none) (ha : PE X a (rdE X.K cf W ma)) (hp : plainE a = true) : PI X (.Tuple es k p1) (.Call (.Name "enumerate" p2) [a] [] p3) (rdI X.K cf W true (.enum ma)) := by
  refine PI.imp (PI.or (pi_enum hg hm (pa_one ha hp) (star_one hp _)) (pi_enumT hg hm (pa_one ha hp) (star_one hp _))) fun σ H R ⟨Z, μ, h, ρ, B, p⟩ => ?_
  simp only [evi] at p
  refine byT B p _ _ (fun d v μ1 h1 H1 B1 t1 r1 p1 ht => ?_) fun d v μ1 h1 H1 B1 t1 r1 p1 ht => ?_
  · rw [itemsL_of ht] at p1
    cases q : itemsL h1 d with
    | none => rw [q] at p1; exact p1.elim
    | some xs =>
      rw [q] at p1
      obtain ⟨c, rfl, ⟨vs, e1⟩, e2⟩ := ll_of B1.sr r1 q
      exact ⟨c, vs, rfl, e1, p1 μ1 H1 B1.sr Stp.refl _ (.enl rfl e2)⟩
  · cases d with
    | tup xs =>
      obtain ⟨c, vs, rfl, q1, q2⟩ := RV.tup.mp r1
      exact ⟨c, vs, rfl, q1.sq, p1 μ1 H1 B1.sr Stp.refl _ (.ent rfl r1)⟩
    | _ => cases ht
theorem sI_rng1 {p2 p3 : Pos} (hg : Gl X "range") (hm : X.mg "range" = none) (hb : PE X b (rdE X.K cf W mb)) (hp : plainE b = true) : PI X tg (.Call (.Name "range" p2) [b] [] p3) (rdI X.K cf W tp (.rng .no mb)) := by
  refine PI.imp (pi_range1 hg hm (pa_one hb hp) (star_one hp _)) fun σ H R ⟨Z, μ, h, ρ, B, p⟩ => ?_
  simp only [evi, evo, bind_ok] at p
  refine rd1 B p fun d v μ1 h1 H1 B1 t1 r1 p1 => ?_
  cases d with
  | int j =>
    rw [RV.int] at r1
    subst r1
    simp only at p1
    split at p1
    · rename_i q
      simp only [Bool.and_eq_true, okR, decide_eq_true_eq] at q
      refine ⟨j, rfl, q.2.1, q.2.2, p1 μ1 H1 B1.sr Stp.refl _ ?_⟩
      have := Src.rng (K := X.K) (tp := tp) (Z := Z) (μ := μ1) (h := lockO h1 none) (H := H1) 0 j.toNat
      simp only [rngL, Option.getD_none, Int.sub_zero]
      exact this
    · exact p1.elim
  | _ => exact p1.elim
theorem sI_rng2 {p2 p3 : Pos} (hg : Gl X "range") (hm : X.mg "range" = none) (ha : PE X a (rdE X.K cf W ma)) (hpa : plainE a = true) (hb : PE X b (rdE X.K cf W mb)) (hp : plainE b = true) : PI X tg (.Call (.Name "range" p2) [a, b] [] p3) (rdI X.K cf W tp (.rng (.so ma) mb)) := by
  refine PI.imp (pi_range2 hg hm (pa_cons ha (pa_one hb hp) (star_cons hpa _ _)) (by rw [star_cons hpa, star_one hp]) (star_one hp _)) fun σ H R ⟨Z, μ, h, ρ, B, p⟩ => ?_
  have p' : Post X.K Z μ h H (fun p μ1 h1 H1 => ∀ J, Src X.K tp Z μ1 (lockO h1 p.2) H1 p.1 J → R J H1) (exc X.K Z W) ((ev cf ma ρ h).bind fun x h1 => match x with
      | .int i => (ev cf mb ρ h1).bind fun y h2 => match y with
        | .int j => if okR i && okR j then .ok (rngL i j, none) h2 else .stuck
        | _ => .stuck
      | _ => .stuck) := by
    simp only [evi, evo] at p
    cases q : ev cf ma ρ h with
    | stuck => rw [q] at p; exact p
    | err x h1 => rw [q] at p; exact p
    | ok d h1 =>
      rw [q] at p
      cases d <;> exact p
  refine rd1 B p' fun d v μ1 h1 H1 B1 t1 r1 p1 => ?_
  cases d with
  | int i =>
    rw [RV.int] at r1
    subst r1
    refine rd1 B1 p1 fun d2 v2 μ2 h2 H2 B2 t2 r2 p2 => ?_
    cases d2 with
    | int j =>
      rw [RV.int] at r2
      subst r2
      simp only at p2
      split at p2
      · rename_i q
        simp only [Bool.and_eq_true, okR, decide_eq_true_eq] at q
        exact ⟨i, j, rfl, ⟨q.1.1, q.1.2, q.2.1, q.2.2⟩, p2 μ2 H2 B2.sr Stp.refl _ (.rng i _)⟩
      · exact p2.elim
    | _ => exact p2.elim
  | _ => exact p1.elim
theorem sI_zip {es : List Expr} {k : Nat} {p1 p2 p3 : Pos} (hg : Gl X "zip") (hm : X.mg "zip" = none) (ha : PE X a (rdE X.K cf W ma)) (hpa : plainE a = true) (hb : PE X b (rdE X.K cf W mb)) (hp : plainE b = true) : PI X (.Tuple es k p1) (.Call (.Name "zip" p2) [a, b] [] p3) (rdI X.K cf W true (.zip ma mb)) := by
  refine PI.imp (RZ.pi_zipA hg hm (pa_cons ha (pa_one hb hp) (star_cons hpa _ _)) (star_cons hpa _ _) (star_none (es := [b]) (by simp [hp]) _ _)) fun σ H R ⟨Z, μ, h, ρ, B, p⟩ => ?_
  simp only [evi] at p
  refine rd1 B p fun d v μ1 h1 H1 B1 t1 r1 p1 => ?_
  refine rd1 B1 p1 fun d2 v2 μ2 h2 H2 B2 t2 r2 p2 => ?_
  have r1' := RV.mono B1.sr t2 _ _ r1
  cases d with
  | lst xs =>
    cases d2 with
    | lst ys =>
      obtain ⟨c, vs, rfl, q1, q2⟩ := RV.lst.mp r1'
      obtain ⟨c2, vs2, rfl, q3, q4⟩ := RV.lst.mp r2
      exact ⟨c, c2, vs, vs2, rfl, .inl ⟨.inl (.inl q1.1), .inl (.inl q3.1), p2 μ2 H2 B2.sr Stp.refl _ (.zpl rfl (.inl r1') (.inl r2))⟩⟩
    | _ => exact p2.elim
  | tup xs =>
    cases d2 with
    | tup ys =>
      obtain ⟨c, vs, rfl, q1, q2⟩ := RV.tup.mp r1'
      obtain ⟨c2, vs2, rfl, q3, q4⟩ := RV.tup.mp r2
      exact ⟨c, c2, vs, vs2, rfl, .inr ⟨q1.sq, q3.sq, p2 μ2 H2 B2.sr Stp.refl _ (.zpt rfl r1' r2)⟩⟩
    | _ => exact p2.elim
  | _ => exact p2.elim
theorem sI_sgn (ha : PE X a (rdE X.K cf W ma)) : PI X tg a (rdI X.K cf W tp (.sgn ma)) := by
  refine PI.imp (pi_str ha) fun σ H R ⟨Z, μ, h, ρ, B, p⟩ => ?_
  simp only [evi] at p
  refine rd1 B p fun d v μ1 h1 H1 B1 t1 r1 p1 => ?_
  cases d with
  | str s =>
    rw [RV.str] at r1
    exact ⟨_, r1, p1 μ1 H1 B1.sr Stp.refl _ (.sgn s)⟩
  | _ => exact p1.elim
end
end Ls
/-! Statements. -/
namespace Ls
open PySem PySem.Spec PyProof.Rows L2
theorem PS.imp {X : Cx} {e : Stmt} {t t' : TS} (h : PS X e t) (k : ∀ D σ H, t' D σ H → t D σ H) : PS X e t' := ⟨fun pins s σ H D I q => h.run pins s σ H D I (k D σ H q)⟩
theorem PSs.imp {X : Cx} {e : List Stmt} {t t' : TS} (h : PSs X e t) (k : ∀ D σ H, t' D σ H → t D σ H) : PSs X e t' := ⟨fun pins s σ H D I q => h.run pins s σ H D I (k D σ H q)⟩
theorem bind_assoc {α β γ : Type} (r : R α) (f : α → Hh → R β) (g : β → Hh → R γ) : (r.bind f).bind g = r.bind fun a h => (f a h).bind g := by cases r <;> rfl
/-- names on the left, as many values on the right: stored from the right -/
def Swaps (env : Env) (names : List Str) (ts vs : List Expr) : Prop := ∀ k1 p1 k2 p2, swappedStores [.Tuple ts k1 p1] (.Tuple vs k2 p2) env = pure (some names)
def Sole (env : Env) (line : Nat) (ts vs : List Expr) : Prop := ∀ k1 p1 k2 p2, swapsWithSole [.Tuple ts k1 p1] (.Tuple vs k2 p2) line env = pure false
section
variable (K : PySem.W.Frag) (cf : Cf) (W : WX)
def PS1 (Z : Addr → Prop) (D : Ends) : Fl → List Addr → Hh → Hp → Prop
  | .nx ρ', μ', h', H' => ∀ σ', ER K (Fb Z μ' h') μ' H' ρ' σ' → D.nx σ' H'
  | .rt d, μ', h', H' => ∀ v, RV K (Fb Z μ' h') μ' H' d v → D.rt v H'
  | .bk ρ', μ', h', H' => ∀ σ', ER K (Fb Z μ' h') μ' H' ρ' σ' → D.bk σ' H'
  | .ct ρ', μ', h', H' => ∀ σ', ER K (Fb Z μ' h') μ' H' ρ' σ' → D.ct σ' H'
def rdS (m : S) : TS := fun D σ H => ∃ Z μ h ρ, Beside K σ H Z μ h ρ ∧ Post K Z μ h H (PS1 K Z D) (exc K Z W) (ex cf m ρ h)
def rdSs (m : Ss) : TS := fun D σ H => ∃ Z μ h ρ, Beside K σ H Z μ h ρ ∧ Post K Z μ h H (PS1 K Z D) (exc K Z W) (exs cf m ρ h)
end
section
variable {K : PySem.W.Frag} {Z : Addr → Prop} {D : Ends} {f : Fl} {μ : List Addr} {h h' : Hh} {H : Hp}
theorem PS1.lk (x : Lk h h') (p : PS1 K Z D f μ h H) : PS1 K Z D f μ h' H := by
  cases f with
  | nx ρ => exact fun σ' e => p σ' (e.anti x.symm.fb)
  | rt d => exact fun v e => p v (RV.anti x.symm.fb _ _ e)
  | bk ρ => exact fun σ' e => p σ' (e.anti x.symm.fb)
  | ct ρ => exact fun σ' e => p σ' (e.anti x.symm.fb)
end
section
variable {X : Cx} {cf : Cf} {W : WX} {pos : Pos} {e : Expr} {me : E}
theorem sSs_nil : PSs X [] (rdSs X.K cf W .nil) := by
  refine PSs.imp pss_nil fun D σ H ⟨Z, μ, h, ρ, B, p⟩ => ?_
  simp only [exs] at p
  exact p μ H B.sr Stp.refl σ B.er
theorem sSs_cons {st : Stmt} {rest : List Stmt} {m : S} {ms : Ss} (h1 : PS X st (rdS X.K cf W m)) (h2 : PSs X rest (rdSs X.K cf W ms)) : PSs X (st :: rest) (rdSs X.K cf W (.cons m ms)) := by
  refine PSs.imp (pss_cons h1 h2) fun D σ H ⟨Z, μ, h, ρ, B, p⟩ => ⟨Z, μ, h, ρ, B, ?_⟩
  simp only [exs] at p
  refine (Post.bind B.sr p).imp fun f μ1 h1 H1 S1 t1 q => ?_
  cases f with
  | nx ρ1 => exact fun σ1 E1 => ⟨Z, μ1, h1, ρ1, ⟨S1, E1⟩, q.impB (fun _ _ _ _ _ _ z => z) fun _ _ _ _ _ _ z => z⟩
  | rt d => exact fun v r => Post.here S1 q v r
  | bk ρ1 => exact fun σ1 E1 => Post.here S1 q σ1 E1
  | ct ρ1 => exact fun σ1 E1 => Post.here S1 q σ1 E1
theorem sS_expr (he : PE X e (rdE X.K cf W me)) (hs : swapsWith e none pos.line X.env = pure false) : PS X (.Expr e pos) (rdS X.K cf W (.expr me)) := by
  refine PS.imp (ps_expr he hs) fun D σ H ⟨Z, μ, h, ρ, B, p⟩ => ?_
  simp only [ex] at p
  refine rd1 B p fun d v μ1 h1 H1 B1 t1 r1 p1 => ?_
  exact Post.here B1.sr p1 σ B1.er
theorem sS_doc {x : Str} {j : Nat} {pos' : Pos} : PS X (.Expr (.Constant (.str x) j pos) pos') (rdS X.K cf W .pass) := by
  refine PS.imp ps_doc fun D σ H ⟨Z, μ, h, ρ, B, p⟩ => ?_
  simp only [ex] at p
  exact Post.here B.sr p σ B.er
theorem sS_pass : PS X (.Pass pos) (rdS X.K cf W .pass) := by
  refine PS.imp ps_pass fun D σ H ⟨Z, μ, h, ρ, B, p⟩ => ?_
  simp only [ex] at p
  exact Post.here B.sr p σ B.er
theorem sS_brk : PS X (.Break pos) (rdS X.K cf W .brk) := by
  refine PS.imp ps_break fun D σ H ⟨Z, μ, h, ρ, B, p⟩ => ?_
  simp only [ex] at p
  exact Post.here B.sr p σ B.er
theorem sS_cnt : PS X (.Continue pos) (rdS X.K cf W .cnt) := by
  refine PS.imp ps_continue fun D σ H ⟨Z, μ, h, ρ, B, p⟩ => ?_
  simp only [ex] at p
  exact Post.here B.sr p σ B.er
theorem sS_ret (he : PE X e (rdE X.K cf W me)) : PS X (.Return (some e) pos) (rdS X.K cf W (.ret me)) := by
  refine PS.imp (ps_ret he) fun D σ H ⟨Z, μ, h, ρ, B, p⟩ => ?_
  simp only [ex] at p
  refine rd1 B p fun d v μ1 h1 H1 B1 t1 r1 p1 => ?_
  exact Post.here B1.sr p1 v r1
theorem sS_retn : PS X (.Return none pos) (rdS X.K cf W .retn) := by
  refine PS.imp ps_retN fun D σ H ⟨Z, μ, h, ρ, B, p⟩ => ?_
  simp only [ex] at p
  exact Post.here B.sr p .non (RV.non.mpr rfl)
theorem sS_if {c : Expr} {a b : List Stmt} {mc : E} {ma mb : Ss} (hc : PT X c (rdT X.K cf W mc)) (ha : PSs X a (rdSs X.K cf W ma)) (hb : PSs X b (rdSs X.K cf W mb)) : PS X (.If c a b pos) (rdS X.K cf W (.ife mc ma mb)) := by
  refine PS.imp (ps_if hc ha hb) fun D σ H ⟨Z, μ, h, ρ, B, p⟩ => ?_
  simp only [ex] at p
  refine rdT1 (a := fun h1 => exs cf ma ρ h1) (b := fun h1 => exs cf mb ρ h1) B p fun k μ1 h1 H1 B1 t1 p1 => ?_
  cases k with
  | true => exact ⟨Z, μ1, h1, ρ, B1, p1⟩
  | false => exact ⟨Z, μ1, h1, ρ, B1, p1⟩
/-- an assignment, behind its rule -/
theorem tAsg_of {t : T} {D : Ends} {σ : L2.St} {H : Hp} (x : rdS X.K cf W (.asg t me) D σ H) : tAsg (rdE X.K cf W me) (rdG X.K cf W t) D σ H := by
  obtain ⟨Z, μ, h, ρ, B, p⟩ := x
  simp only [ex] at p
  refine rd1 B p fun d v μ1 h1 H1 B1 t1 r1 p1 => ?_
  exact ⟨Z, μ1, h1, ρ, d, B1, .inl r1, (Post.bind B1.sr p1).imp fun ρ2 μ2 h2 H2 S2 t2 q σ2 E2 _ => Post.here S2 q σ2 E2⟩
theorem sS_asg {tg : Expr} {t : T} (he : PE X e (rdE X.K cf W me)) (hg : PG X tg (rdG X.K cf W t)) (hs : swapsWithSole [tg] e pos.line X.env = pure false) (hw : swappedStores [tg] e X.env = pure none)
    (h1 : (assignEach [tg] X.env).map (·.2) = [assign tg X.env]) : PS X (.Assign [tg] e pos) (rdS X.K cf W (.asg t me)) :=
  PS.imp (ps_asg he hg hs hw h1) fun D σ H x => tAsg_of x
theorem gName_of {i : Nat} {Q : L2.St → Hp → Prop} {v : V} {σ : L2.St} {H : Hp} (x : rdG X.K cf W (.nm i) v σ H Q) : gName i v σ H Q := by
  obtain ⟨Z, μ, h, ρ, d, B, r, p⟩ := x
  rcases r with r | ⟨z, _⟩
  · simp only [asgT] at p
    exact p μ H B.sr Stp.refl _ (B.er.set r i) (by rw [T.slots]; exact Only.set i σ _)
  · cases z
theorem tAsgN_of {i : Nat} {D : Ends} {σ : L2.St} {H : Hp} (x : rdS X.K cf W (.asg (.nm i) me) D σ H) : tAsg (rdE X.K cf W me) (gName i) D σ H := by
  obtain ⟨Z, μ, h, ρ, B, p⟩ := x
  simp only [ex] at p
  refine rd1 B p fun d v μ1 h1 H1 B1 t1 r1 p1 => ?_
  simp only [asgT, bind_ok] at p1
  exact Post.here B1.sr p1 _ (B1.er.set r1 i)
theorem sS_set {i : Nat} {x : Str} {pos' : Pos} (hN : X.N.Nodup) (hi : X.N[i]? = some x) (hx : Loc X.env.scope x) (he : PE X e (rdE X.K cf W me)) (hs : swapsWith e (some (.Name x pos')) pos.line X.env = pure false) (hf : X.fn x = true ∨ X.env.scope.names.lookup x = some .local) :
    PS X (.Assign [.Name x pos'] e pos) (rdS X.K cf W (.asg (.nm i) me)) :=
  PS.imp (ps_set hN hi hx he hs hf) fun D σ H x => tAsgN_of x
theorem sS_par2 {i j : Nat} {x y : Str} {a b : Expr} {ms : Es} {px py pt : Pos} {kt k2 : Nat} {pt2 : Pos} (hc : X.calm = true) (hN : X.N.Nodup) (hi : X.N[i]? = some x) (hj : X.N[j]? = some y) (hij : i ≠ j)
    (hx : X.env.scope.names.lookup x = some .local) (hy : X.env.scope.names.lookup y = some .local) (ha : PA X [a, b] (rdA X.K cf W ms))
    (hw : Swaps X.env [x, y] [.Name x px, .Name y py] [a, b]) (hs : Sole X.env pos.line [.Name x px, .Name y py] [a, b]) :
    PS X (.Assign [.Tuple [.Name x px, .Name y py] kt pt] (.Tuple [a, b] k2 pt2) pos) (rdS X.K cf W (.par [i, j] ms)) := by
  refine PS.imp (ps_par hc hN hi hj hij hx hy ha (hw _ _ _ _) (hs _ _ _ _)) fun D σ H ⟨Z, μ, h, ρ, B, p⟩ => ?_
  simp only [ex] at p
  refine rdA1 B p fun xs vs μ1 h1 H1 B1 t1 r1 p1 => ?_
  match xs, r1, p1 with
  | [], _, p1 => exact p1.elim
  | [_], _, p1 => exact p1.elim
  | [d1, d2], r1, p1 =>
    obtain ⟨v, ws, rfl, q1, r2⟩ := RVs.cons.mp r1
    obtain ⟨w, ws, rfl, q2, r3⟩ := RVs.cons.mp r2
    rw [RVs.nil] at r3
    subst r3
    exact ⟨v, w, rfl, Post.here B1.sr p1 _ ((B1.er.set q1 i).set q2 j)⟩
  | _ :: _ :: _ :: _, _, p1 => exact p1.elim
theorem sS_par3 {i j l : Nat} {x y z : Str} {a b c : Expr} {ms : Es} {px py pz pt : Pos} {kt k2 : Nat} {pt2 : Pos} (hc : X.calm = true) (hN : X.N.Nodup) (hi : X.N[i]? = some x) (hj : X.N[j]? = some y) (hl : X.N[l]? = some z) (hij : i ≠ j) (hil : i ≠ l) (hjl : j ≠ l)
    (hx : X.env.scope.names.lookup x = some .local) (hy : X.env.scope.names.lookup y = some .local) (hz : X.env.scope.names.lookup z = some .local) (ha : PA X [a, b, c] (rdA X.K cf W ms))
    (hw : Swaps X.env [x, y, z] [.Name x px, .Name y py, .Name z pz] [a, b, c]) (hs : Sole X.env pos.line [.Name x px, .Name y py, .Name z pz] [a, b, c]) :
    PS X (.Assign [.Tuple [.Name x px, .Name y py, .Name z pz] kt pt] (.Tuple [a, b, c] k2 pt2) pos) (rdS X.K cf W (.par [i, j, l] ms)) := by
  refine PS.imp (ps_par3 hc hN hi hj hl hij hil hjl hx hy hz ha (hw _ _ _ _) (hs _ _ _ _)) fun D σ H ⟨Z, μ, h, ρ, B, p⟩ => ?_
  simp only [ex] at p
  refine rdA1 B p fun xs vs μ1 h1 H1 B1 t1 r1 p1 => ?_
  match xs, r1, p1 with
  | [], _, p1 => exact p1.elim
  | [_], _, p1 => exact p1.elim
  | [_, _], _, p1 => exact p1.elim
  | [d1, d2, d3], r1, p1 =>
    obtain ⟨v, ws, rfl, q1, r2⟩ := RVs.cons.mp r1
    obtain ⟨w, ws, rfl, q2, r3⟩ := RVs.cons.mp r2
    obtain ⟨u, ws, rfl, q3, r4⟩ := RVs.cons.mp r3
    rw [RVs.nil] at r4
    subst r4
    exact ⟨v, w, u, rfl, Post.here B1.sr p1 _ (((B1.er.set q1 i).set q2 j).set q3 l)⟩
  | _ :: _ :: _ :: _ :: _, _, p1 => exact p1.elim
theorem ip_bin : ∀ o : Bo, PIp X (bop o) (fun x y H Q => ∃ Z μ h d1 d2 r, SR X.K Z μ h H ∧ RV X.K (Fb Z μ h) μ H d1 x ∧ RV X.K (Fb Z μ h) μ H d2 y ∧ augD o d1 d2 = some r ∧ ∀ v, RV X.K (Fb Z μ h) μ H r v → Q v H) := by
  intro o pins s σ H x y v u Q I r1 r2 ⟨Z, μ, h, d1, d2, r, S, q1, q2, g, k⟩
  cases d1 with
  | int i => cases d2 with
    | int j =>
      rw [RV.int] at q1 q2
      cases o with
      | add => cases g; exact ip_add pins s σ H x y v u Q I r1 r2 ⟨i, j, q1, q2, k _ (RV.int.mpr rfl)⟩
      | sub => cases g; exact ip_sub pins s σ H x y v u Q I r1 r2 ⟨i, j, q1, q2, k _ (RV.int.mpr rfl)⟩
      | mul => cases g
      | div => cases g
      | mod => cases g
      | pow => cases g
    | _ => cases o <;> cases g
  | _ => cases o <;> cases g
theorem sS_aug {i : Nat} {x : Str} {o : Bo} {pos' : Pos} (hN : X.N.Nodup) (hi : X.N[i]? = some x) (hx : Loc X.env.scope x) (he : PE X e (rdE X.K cf W me)) (hf : X.fn x = true ∨ X.env.scope.names.lookup x = some .local) :
    PS X (.AugAssign (.Name x pos') (bop o) e pos) (rdS X.K cf W (.aug i o me)) := by
  refine PS.imp (ps_aug hN hi hx he (ip_bin o) hf) fun D σ H ⟨Z, μ, h, ρ, B, p⟩ => ?_
  simp only [ex] at p
  split at p
  rotate_left
  · exact p.elim
  rename_i d0 e0
  obtain ⟨v0, f1, f2⟩ := B.er.val i d0 e0
  refine ⟨v0, f1, rd1 B p fun d v μ1 h1 H1 B1 t1 r1 p1 => ?_⟩
  cases q : augD o d0 d with
  | none => rw [q] at p1; exact p1.elim
  | some r =>
    rw [q] at p1
    exact ⟨Z, μ1, h1, d0, d, r, B1.sr, RV.mono B.sr t1 _ _ f2, r1, q, fun v rv => Post.here B1.sr p1 _ (B1.er.set rv i)⟩
/-! ### loops -/
theorem yl_ri {K : PySem.W.Frag} {Z : Addr → Prop} {μ : List Addr} {h : Hh} {H H' : Hp} {ρ : Ev} {σ : L2.St} {tp : Bool} {d : D} {v : V} (B : Beside K σ H Z μ h ρ) (y : Yl K tp Z μ h H d v H') : Beside K σ H' Z μ h ρ ∧ Stp μ h H μ h H' ∧ RI K (Fb Z μ h) μ H' tp d v := by
  rcases y with ⟨rfl, r⟩ | ⟨e, T, vs, ds, rfl, hT, rfl, rfl, r⟩
  · exact ⟨B, Stp.refl, .inl r⟩
  · have t : Stp μ h H μ h (upd H T (.tup vs)) := Stp.new hT
    exact ⟨B.mono (B.sr.new hT) t, t, .inr ⟨e, T, vs, ds, rfl, upd_same, rfl, RVs.mono B.sr t _ _ r⟩⟩
theorem sS_for {tg iter : Expr} {body : List Stmt} {t : T} {i : I} {b : Ss} (hp : PassesOwn (model X.prog X.w) X.A X.env X.xe) (hc : X.calm = true) (hi : PI X tg iter (rdI X.K cf W t.tp? i)) (hg : PG X tg (rdG X.K cf W t)) (hb : PSs X body (rdSs X.K cf W b))
    (hs : ∀ x, foldedSetIterable iter X.env x = pure x) : PS X (.For tg iter body [] pos) (rdS X.K cf W (.for_ t i b)) := by
  refine PS.imp (ps_for hp hc hi hg hb hs) fun D σ H ⟨Z, μ, h, ρ, B, p⟩ => ?_
  simp only [ex] at p
  refine ⟨Z, μ, h, ρ, B, (Post.bind B.sr p).imp fun xs μ1 h1 H1 S1 t1 q J src => ?_⟩
  have q2 : Post X.K Z μ1 (lockO h1 xs.2) H1 (PS1 X.K Z D) (exc X.K Z W) (forL (fun x ρ1 hh => (asgT cf t x ρ1 hh).bind fun ρ2 h2 => exs cf b ρ2 h2) xs.1 ρ (lockO h1 xs.2)) :=
    (Post.unlock S1 q).impB (fun a μ' h' H' S' t' z => z.lk (lk_unlock S1 t').1.symm) fun _ _ _ _ _ t' z => exc.lk (lk_unlock S1 t').1.symm z
  refine ⟨fun i m σ H => ∃ μ h ρ, Beside X.K σ H Z μ h ρ ∧ Src X.K t.tp? Z μ h H xs.1 J ∧ i + m = xs.1.length ∧ Post X.K Z μ h H (PS1 X.K Z D) (exc X.K Z W) (forL (fun x ρ1 hh => (asgT cf t x ρ1 hh).bind fun ρ2 h2 => exs cf b ρ2 h2) (xs.1.drop i) ρ h),
    ⟨xs.1.length, μ1, lockO h1 xs.2, ρ, ⟨S1.lk (lk_lock _ _), (B.er.mono B.sr t1).anti (lk_lock _ _).fb⟩, src, by simp, by simpa using q2⟩, ?_⟩
  rintro i m σ0 H0 ⟨μ0, h0, ρ0, B0, s0, hm, p0⟩
  by_cases hi : i < xs.1.length
  · obtain ⟨d, e⟩ : ∃ d, xs.1[i]? = some d := ⟨xs.1[i], List.getElem?_eq_getElem hi⟩
    obtain ⟨go, yl⟩ := s0.turn B0.sr e
    have ed : xs.1.drop i = d :: xs.1.drop (i + 1) := by
      rw [List.drop_eq_getElem_cons hi]
      congr
      rw [List.getElem?_eq_getElem hi] at e
      exact Option.some.inj e
    rw [ed, forL, bind_assoc] at p0
    refine .inr ⟨go, fun σ' H' => ∃ μ h ρ, Beside X.K σ' H' Z μ h ρ ∧ Src X.K t.tp? Z μ h H' xs.1 J ∧ i + 1 + (m - 1) = xs.1.length ∧ Post X.K Z μ h H' (PS1 X.K Z D) (exc X.K Z W) (forL (fun x ρ1 hh => (asgT cf t x ρ1 hh).bind fun ρ2 h2 => exs cf b ρ2 h2) (xs.1.drop (i + 1)) ρ h),
      fun σ' H' w => ⟨m - 1, by omega, w⟩, fun x H' y => ?_⟩
    obtain ⟨B1, t1, ri⟩ := yl_ri B0 (yl x H' y)
    refine ⟨Z, μ0, h0, ρ0, d, B1, ri, (Post.bind B1.sr (Post.shift B0.sr t1 p0)).imp fun ρ2 μ2 h2 H2 S2 t2 q σ2 E2 O2 => ?_⟩
    refine ⟨Z, μ2, h2, ρ2, ⟨S2, E2⟩, (Post.bind S2 q).impB (fun f μ3 h3 H3 S3 t3 q3 => ?_) fun _ _ _ _ _ _ z => z⟩
    have tt : Stp μ0 h0 H0 μ3 h3 H3 := t1.trans B0.sr.len (t2.trans B1.sr.len t3)
    cases f with
    | nx ρ3 => exact fun σ3 E3 => ⟨μ3, h3, ρ3, ⟨S3, E3⟩, s0.mono B0.sr tt, by omega, q3.impB (fun _ _ _ _ _ _ z => z) fun _ _ _ _ _ _ z => z⟩
    | ct ρ3 => exact fun σ3 E3 => ⟨μ3, h3, ρ3, ⟨S3, E3⟩, s0.mono B0.sr tt, by omega, q3.impB (fun _ _ _ _ _ _ z => z) fun _ _ _ _ _ _ z => z⟩
    | bk ρ3 => exact fun σ3 E3 => Post.here S3 q3 σ3 E3
    | rt d => exact fun v r => Post.here S3 q3 v r
  · have ei : i = xs.1.length := by omega
    subst ei
    rw [List.drop_length, forL] at p0
    exact .inl ⟨s0.stop B0.sr, Post.here B0.sr p0 σ0 B0.er⟩
theorem sS_while {c : Expr} {body : List Stmt} {mc : E} {mb : Ss} (hp : PassesOwn (model X.prog X.w) X.A X.env X.xe) (hc : PT X c (rdT X.K cf W mc)) (hb : PSs X body (rdSs X.K cf W mb)) : PS X (.While c body [] pos) (rdS X.K cf W (.whl mc mb)) := by
  refine PS.imp (ps_while hp hc hb) fun D σ H ⟨Z, μ, h, ρ, B, p⟩ => ?_
  simp only [ex] at p
  refine ⟨fun m σ H => ∃ μ h ρ, Beside X.K σ H Z μ h ρ ∧ Post X.K Z μ h H (PS1 X.K Z D) (exc X.K Z W) (whlL (fun ρ1 hh => ev cf mc ρ1 hh) (fun ρ1 hh => exs cf mb ρ1 hh) m ρ h), ⟨100000, μ, h, ρ, B, p⟩, ?_⟩
  rintro m σ0 H0 ⟨μ0, h0, ρ0, B0, p0⟩
  cases m with
  | zero => rw [whlL] at p0; exact p0.elim
  | succ m =>
    rw [whlL] at p0
    refine rdT1 (a := fun h1 => (exs cf mb ρ0 h1).bind fun f h2 => match f with
      | .nx ρ1 => whlL (fun ρ1 hh => ev cf mc ρ1 hh) (fun ρ1 hh => exs cf mb ρ1 hh) m ρ1 h2
      | .ct ρ1 => whlL (fun ρ1 hh => ev cf mc ρ1 hh) (fun ρ1 hh => exs cf mb ρ1 hh) m ρ1 h2
      | .bk ρ1 => .ok (.nx ρ1) h2
      | .rt d => .ok (.rt d) h2) (b := fun h1 => .ok (.nx ρ0) h1) B0 p0 fun k μ1 h1 H1 B1 t1 p1 => ?_
    cases k with
    | true =>
      rw [if_pos rfl] at p1 ⊢
      refine ⟨fun σ' H' => ∃ μ h ρ, Beside X.K σ' H' Z μ h ρ ∧ Post X.K Z μ h H' (PS1 X.K Z D) (exc X.K Z W) (whlL (fun ρ1 hh => ev cf mc ρ1 hh) (fun ρ1 hh => exs cf mb ρ1 hh) m ρ h), fun σ' H' w => ⟨m, Nat.lt_succ_self m, w⟩, Z, μ1, h1, ρ0, B1, (Post.bind B1.sr p1).imp fun f μ3 h3 H3 S3 t3 q3 => ?_⟩
      cases f with
      | nx ρ3 => exact fun σ3 E3 => ⟨μ3, h3, ρ3, ⟨S3, E3⟩, q3.impB (fun _ _ _ _ _ _ z => z) fun _ _ _ _ _ _ z => z⟩
      | ct ρ3 => exact fun σ3 E3 => ⟨μ3, h3, ρ3, ⟨S3, E3⟩, q3.impB (fun _ _ _ _ _ _ z => z) fun _ _ _ _ _ _ z => z⟩
      | bk ρ3 => exact fun σ3 E3 => Post.here S3 q3 σ3 E3
      | rt d => exact fun v r => Post.here S3 q3 v r
    | false =>
      rw [if_neg Bool.false_ne_true] at p1 ⊢
      exact Post.here B1.sr p1 σ0 B1.er
end
end Ls
/-! Comprehensions. -/
namespace Ls
open PySem PySem.Spec PyProof.Rows L2
def del (H : Hp) (c : Addr) : Hp := fun a => if a = c then none else H a
def ZD (Z : Addr → Prop) (c : Addr) : Addr → Prop := fun a => Z a ∨ a = c
section
variable {K : PySem.W.Frag} {Z : Addr → Prop} {F F' : Addr → Prop} {μ μ1 μ' : List Addr} {h h1 h' : Hh} {H H1 H' : Hp} {c : Addr}
theorem del_same : del H c c = none := by unfold del; simp
theorem del_ne {a : Addr} (e : a ≠ c) : del H c a = H a := by unfold del; simp [e]
theorem del_some {a : Addr} {o : HO} (e : del H c a = some o) : a ≠ c ∧ H a = some o := by
  by_cases ha : a = c
  · subst ha; rw [del_same] at e; cases e
  · rw [del_ne ha] at e; exact ⟨ha, e⟩
theorem upd_del {o : HO} (e : H c = some o) : upd (del H c) c o = H := by
  funext a
  by_cases ha : a = c
  · subst ha; rw [upd_same, e]
  · rw [upd_ne ha, del_ne ha]
theorem del_upd {o : HO} : del (upd H c o) c = del H c := by
  funext a
  by_cases ha : a = c
  · subst ha; rw [del_same, del_same]
  · rw [del_ne ha, del_ne ha, upd_ne ha]
theorem del_none (e : H c = none) : del H c = H := by
  funext a
  by_cases ha : a = c
  · subst ha; rw [del_same, e]
  · rw [del_ne ha]
/-! from a heap without c to one with it -/
mutual
theorem RV.grow (k : ∀ a, F' a → F a ∨ a = c) : ∀ (d : D) (v : V), RV K F μ (del H c) d v → RV K F' μ H d v
  | .non, v, x => by simpa only [RV] using x
  | .bl _, v, x => by simpa only [RV] using x
  | .int _, v, x => by simpa only [RV] using x
  | .str _, v, x => by simpa only [RV] using x
  | .tup xs, v, x => by
    rw [RV] at x ⊢
    obtain ⟨a, vs, e, tp, r⟩ := x
    refine ⟨a, vs, e, ?_, RVs.grow k xs vs r⟩
    exact (del_some tp).2
  | .lst xs, v, x => by
    rw [RV] at x ⊢
    obtain ⟨a, vs, e, tp, r⟩ := x
    refine ⟨a, vs, e, ?_, RVs.grow k xs vs r⟩
    obtain ⟨tp, n⟩ := tp
    exact ⟨(del_some tp).2, fun q => (k a q).elim n (del_some tp).1⟩
  | .rol xs, v, x => by
    rw [RV] at x ⊢
    obtain ⟨a, vs, e, tp, r⟩ := x
    refine ⟨a, vs, e, ?_, RVs.grow k xs vs r⟩
    rcases tp with ⟨e1 | ⟨o, e1⟩, n⟩ | tp
    · exact .inl ⟨.inl (del_some e1).2, fun q => (k a q).elim n (del_some e1).1⟩
    · exact .inl ⟨.inr ⟨o, (del_some e1).2⟩, fun q => (k a q).elim n (del_some e1).1⟩
    · exact .inr tp
  | .dct _ kvs, v, x => by
    rw [RV] at x ⊢
    obtain ⟨a, ws, e, tp, r⟩ := x
    obtain ⟨o, f1, _, f2⟩ := tp.1.at_
    exact ⟨a, ws, e, ⟨f2 _ (del_some f1).2, fun q => (k a q).elim tp.2 (del_some f1).1⟩, RVk.grow k kvs ws r⟩
  | .ref n, v, x => by rw [RV] at x ⊢; exact x
  | .obj _ xs, v, x => by
    rw [RV] at x ⊢
    obtain ⟨a, vs, e, o, r⟩ := x
    obtain ⟨C, dx, h1, h2, h3, h4, h5⟩ := o.ex
    exact ⟨a, vs, e, ⟨C, dx, h1, (del_some h2).2, (del_some h3).2, fun q => (k a q).elim h4 (del_some h2).1, fun q => (k dx q).elim h5 (del_some h3).1⟩, RVs.grow k xs vs r⟩
  | .rot xs, v, x => by
    rw [RV] at x ⊢
    obtain ⟨a, vs, e, o, r⟩ := x
    exact ⟨a, vs, e, o, RVs.grow k xs vs r⟩
  | .exn _ xs, v, x => by
    rw [RV] at x ⊢
    obtain ⟨a, vs, e, o, r⟩ := x
    exact ⟨a, vs, e, o.move fun b u e n _ => ⟨(del_some e).2, fun q => (k b q).elim n (del_some e).1⟩, RVs.grow k xs vs r⟩
theorem RVs.grow (k : ∀ a, F' a → F a ∨ a = c) : ∀ (xs : List D) (vs : List V), RVs K F μ (del H c) xs vs → RVs K F' μ H xs vs
  | [], vs, x => by simpa only [RVs] using x
  | d :: r, vs, x => by
    rw [RVs] at x ⊢
    obtain ⟨v, ws, e, p, q⟩ := x
    exact ⟨v, ws, e, RV.grow k d v p, RVs.grow k r ws q⟩
theorem RVk.grow (k : ∀ a, F' a → F a ∨ a = c) : ∀ (xs : List (Ky × D)) (vs : List (Ky × V)), RVk K F μ (del H c) xs vs → RVk K F' μ H xs vs
  | [], vs, x => by simpa only [RVk] using x
  | (j, d) :: r, vs, x => by
    rw [RVk] at x ⊢
    obtain ⟨v, ws, e, p, q⟩ := x
    exact ⟨v, ws, e, RV.grow k d v p, RVk.grow k r ws q⟩
end
/-! .. and back -/
mutual
theorem RV.shrink {vl : List V} (hc : H c = some (.lst vl)) (k : ∀ a, F' a → F a) (kc : F c) : ∀ (d : D) (v : V), RV K F μ H d v → RV K F' μ (del H c) d v
  | .non, v, x => by simpa only [RV] using x
  | .bl _, v, x => by simpa only [RV] using x
  | .int _, v, x => by simpa only [RV] using x
  | .str _, v, x => by simpa only [RV] using x
  | .tup xs, v, x => by
    rw [RV] at x ⊢
    obtain ⟨a, vs, e, tp, r⟩ := x
    refine ⟨a, vs, e, ?_, RVs.shrink hc k kc xs vs r⟩
    have tp' : H a = some (.tup vs) := tp
    show del H c a = _
    rw [del_ne (by rintro rfl; rw [hc] at tp'; cases tp')]
    exact tp'
  | .lst xs, v, x => by
    rw [RV] at x ⊢
    obtain ⟨a, vs, e, tp, r⟩ := x
    refine ⟨a, vs, e, ?_, RVs.shrink hc k kc xs vs r⟩
    obtain ⟨tp, n⟩ := tp
    have ha : a ≠ c := by rintro rfl; exact n kc
    exact ⟨by rw [del_ne ha]; exact tp, fun q => n (k a q)⟩
  | .rol xs, v, x => by
    rw [RV] at x ⊢
    obtain ⟨a, vs, e, tp, r⟩ := x
    refine ⟨a, vs, e, ?_, RVs.shrink hc k kc xs vs r⟩
    rcases tp with ⟨e1, n⟩ | tp
    · have ha : a ≠ c := by rintro rfl; exact n kc
      refine .inl ⟨?_, fun q => n (k a q)⟩
      rcases e1 with e1 | ⟨o, e1⟩
      · exact .inl (by rw [del_ne ha]; exact e1)
      · exact .inr ⟨o, by rw [del_ne ha]; exact e1⟩
    · exact .inr tp
  | .dct _ kvs, v, x => by
    rw [RV] at x ⊢
    obtain ⟨a, ws, e, tp, r⟩ := x
    obtain ⟨o, f1, _, f2⟩ := tp.1.at_
    have ha : a ≠ c := by rintro rfl; exact tp.2 kc
    exact ⟨a, ws, e, ⟨f2 _ (by rw [del_ne ha]; exact f1), fun q => tp.2 (k a q)⟩, RVk.shrink hc k kc kvs ws r⟩
  | .ref n, v, x => by rw [RV] at x ⊢; exact x
  | .obj _ xs, v, x => by
    rw [RV] at x ⊢
    obtain ⟨a, vs, e, o, r⟩ := x
    obtain ⟨C, dx, h1, h2, h3, h4, h5⟩ := o.ex
    have n1 : a ≠ c := by rintro rfl; exact h4 kc
    have n2 : dx ≠ c := by rintro rfl; exact h5 kc
    exact ⟨a, vs, e, ⟨C, dx, h1, by rw [del_ne n1]; exact h2, by rw [del_ne n2]; exact h3, fun q => h4 (k a q), fun q => h5 (k dx q)⟩, RVs.shrink hc k kc xs vs r⟩
  | .rot xs, v, x => by
    rw [RV] at x ⊢
    obtain ⟨a, vs, e, o, r⟩ := x
    exact ⟨a, vs, e, o, RVs.shrink hc k kc xs vs r⟩
  | .exn _ xs, v, x => by
    rw [RV] at x ⊢
    obtain ⟨a, vs, e, o, r⟩ := x
    exact ⟨a, vs, e, o.move fun b u e n _ => ⟨by rw [del_ne (by rintro rfl; exact n kc)]; exact e, fun q => n (k b q)⟩, RVs.shrink hc k kc xs vs r⟩
theorem RVs.shrink {vl : List V} (hc : H c = some (.lst vl)) (k : ∀ a, F' a → F a) (kc : F c) : ∀ (xs : List D) (vs : List V), RVs K F μ H xs vs → RVs K F' μ (del H c) xs vs
  | [], vs, x => by simpa only [RVs] using x
  | d :: r, vs, x => by
    rw [RVs] at x ⊢
    obtain ⟨v, ws, e, p, q⟩ := x
    exact ⟨v, ws, e, RV.shrink hc k kc d v p, RVs.shrink hc k kc r ws q⟩
theorem RVk.shrink {vl : List V} (hc : H c = some (.lst vl)) (k : ∀ a, F' a → F a) (kc : F c) : ∀ (xs : List (Ky × D)) (vs : List (Ky × V)), RVk K F μ H xs vs → RVk K F' μ (del H c) xs vs
  | [], vs, x => by simpa only [RVk] using x
  | (j, d) :: r, vs, x => by
    rw [RVk] at x ⊢
    obtain ⟨v, ws, e, p, q⟩ := x
    exact ⟨v, ws, e, RV.shrink hc k kc d v p, RVk.shrink hc k kc r ws q⟩
end
theorem fb_grow (a : Addr) : Fb (ZD Z c) μ h a → Fb Z μ h a ∨ a = c := by
  rintro ((q | q) | q)
  · exact .inl (.inl q)
  · exact .inr q
  · exact .inl (.inr q)
theorem fb_shrink (a : Addr) : Fb Z μ h a → Fb (ZD Z c) μ h a := fun q => q.elim (fun z => .inl (.inl z)) .inr
theorem SR.grow {vl : List V} (S : SR K Z μ h (del H c)) (hc : H c = some (.lst vl)) : SR K (ZD Z c) μ h H := by
  have nl : ¬ Lv μ h c := fun q => S.fresh (p := c) del_same (.inr q)
  refine ⟨S.len, S.inj, fun a q z => z.elim (S.nz a q) fun e => nl (e ▸ q), fun a z => ?_, fun n a o q1 q2 => ?_⟩
  · rcases z with z | z
    · obtain ⟨o, e⟩ := S.zs a z
      exact ⟨o, (del_some e).2⟩
    · subst z; exact ⟨_, hc⟩
  · have ob := S.obj n a o q1 q2
    cases o with
    | dead => trivial
    | lst xs => obtain ⟨vs, e1, e2⟩ := ob; exact ⟨vs, (del_some e1).2, RVs.grow fb_grow _ _ e2⟩
    | lck xs => obtain ⟨vs, e1, e2⟩ := ob; exact ⟨vs, (del_some e1).2, RVs.grow fb_grow _ _ e2⟩
    | dct _ _ => obtain ⟨ws, e1, e2⟩ := ob; obtain ⟨u, f1, _, f2⟩ := e1.at_; exact ⟨ws, f2 _ (del_some f1).2, RVk.grow fb_grow _ _ e2⟩
    | dlk _ _ => obtain ⟨ws, e1, e2⟩ := ob; obtain ⟨u, f1, _, f2⟩ := e1.at_; exact ⟨ws, f2 _ (del_some f1).2, RVk.grow fb_grow _ _ e2⟩
theorem SR.shrink {vl : List V} (S : SR K (ZD Z c) μ h H) (hc : H c = some (.lst vl)) (hz : ¬ Z c) : SR K Z μ h (del H c) := by
  have nl : ∀ a, Lv μ h a → a ≠ c := fun a q e => S.nz a q (.inr e)
  refine ⟨S.len, S.inj, fun a q z => S.nz a q (.inl z), fun a z => ?_, fun n a o q1 q2 => ?_⟩
  · obtain ⟨o, e⟩ := S.zs a (.inl z)
    exact ⟨o, by rw [del_ne (fun q : a = c => hz (q ▸ z))]; exact e⟩
  · have ob := S.obj n a o q1 q2
    cases o with
    | dead => trivial
    | lst xs => obtain ⟨vs, e1, e2⟩ := ob; exact ⟨vs, by rw [del_ne (nl a ⟨n, _, q1, q2, trivial⟩)]; exact e1, RVs.shrink hc fb_shrink (.inl (.inr rfl)) _ _ e2⟩
    | lck xs => obtain ⟨vs, e1, e2⟩ := ob; exact ⟨vs, by rw [del_ne (nl a ⟨n, _, q1, q2, trivial⟩)]; exact e1, RVs.shrink hc fb_shrink (.inl (.inr rfl)) _ _ e2⟩
    | dct _ _ => obtain ⟨ws, e1, e2⟩ := ob; obtain ⟨u, f1, _, f2⟩ := e1.at_; exact ⟨ws, f2 _ (by rw [del_ne (nl a ⟨n, _, q1, q2, trivial⟩)]; exact f1), RVk.shrink hc fb_shrink (.inl (.inr rfl)) _ _ e2⟩
    | dlk _ _ => obtain ⟨ws, e1, e2⟩ := ob; obtain ⟨u, f1, _, f2⟩ := e1.at_; exact ⟨ws, f2 _ (by rw [del_ne (nl a ⟨n, _, q1, q2, trivial⟩)]; exact f1), RVk.shrink hc fb_shrink (.inl (.inr rfl)) _ _ e2⟩
theorem Stp.shrink (t : Stp μ h H μ' h' H') : Stp μ h (del H c) μ' h' (del H' c) := by
  refine ⟨?_, t.hl, t.dead, t.lck, t.dlk, fun a o e => ?_, fun a o e n => ?_⟩
  · obtain ⟨ν, e, k⟩ := t.pre
    refine ⟨ν, e, fun a ha => ?_⟩
    by_cases hac : a = c
    · subst hac; exact del_same
    · rw [del_ne hac]; exact k a ha
  · obtain ⟨e1, e2⟩ := del_some e
    obtain ⟨o', e3⟩ := t.dom a o e2
    exact ⟨o', by rw [del_ne e1]; exact e3⟩
  · obtain ⟨e1, e2⟩ := del_some e
    rw [del_ne e1]; exact t.frm a o e2 n
theorem keepD {o : HO} (S : SR K (ZD Z c) μ h H) (t : Stp μ h H μ' h' H') (e : H c = some o) : H' c = some o := t.frm c o e fun q => S.nz c q (.inr rfl)
theorem ER.grow {ρ : Ev} {σ : L2.St} (e : ER K (Fb Z μ h) μ (del H c) ρ σ) : ER K (Fb (ZD Z c) μ h) μ H ρ σ :=
  ⟨e.len, fun i d q => let ⟨v, q1, q2⟩ := e.val i d q; ⟨v, q1, RV.grow fb_grow d v q2⟩⟩
theorem ER.shrink {vl : List V} (hc : H c = some (.lst vl)) {ρ : Ev} {σ : L2.St} (e : ER K (Fb (ZD Z c) μ h) μ H ρ σ) : ER K (Fb Z μ h) μ (del H c) ρ σ :=
  ⟨e.len, fun i d q => let ⟨v, q1, q2⟩ := e.val i d q; ⟨v, q1, RV.shrink hc fb_shrink (.inl (.inr rfl)) d v q2⟩⟩
theorem LL.grow {a : Addr} {xs : List D} (x : LL K Z μ h (del H c) a xs) : LL K (ZD Z c) μ h H a xs := x.elim (fun z => .inl (RV.grow fb_grow _ _ z)) fun y => .inr (y.imp (RV.grow fb_grow _ _) id)
theorem Src.grow {tp : Bool} {xs : List D} {J : It} (x : Src K tp Z μ h (del H c) xs J) : Src K tp (ZD Z c) μ h H xs J := by
  cases x with
  | lst q => exact .lst q.grow
  | tup q => exact .tup (RV.grow fb_grow _ _ q)
  | rng lo n => exact .rng lo n
  | enl e q => exact .enl e q.grow
  | ent e q => exact .ent e (RV.grow fb_grow _ _ q)
  | zpl e q q2 => exact .zpl e q.grow q2.grow
  | zpt e q q2 => exact .zpt e (RV.grow fb_grow _ _ q) (RV.grow fb_grow _ _ q2)
  | sgn s => exact .sgn s
theorem LL.shrink {vl : List V} (hc : H c = some (.lst vl)) {a : Addr} {xs : List D} (x : LL K (ZD Z c) μ h H a xs) : LL K Z μ h (del H c) a xs := x.elim (fun z => .inl (RV.shrink hc fb_shrink (.inl (.inr rfl)) _ _ z)) fun y => .inr (y.imp (RV.shrink hc fb_shrink (.inl (.inr rfl)) _ _) id)
theorem Src.shrink {vl : List V} (hc : H c = some (.lst vl)) {tp : Bool} {xs : List D} {J : It} (x : Src K tp (ZD Z c) μ h H xs J) : Src K tp Z μ h (del H c) xs J := by
  have k : ∀ d v, RV K (Fb (ZD Z c) μ h) μ H d v → RV K (Fb Z μ h) μ (del H c) d v := RV.shrink hc fb_shrink (.inl (.inr rfl))
  cases x with
  | lst q => exact .lst (q.shrink hc)
  | tup q => exact .tup (k _ _ q)
  | rng lo n => exact .rng lo n
  | enl e q => exact .enl e (q.shrink hc)
  | ent e q => exact .ent e (k _ _ q)
  | zpl e q q2 => exact .zpl e (q.shrink hc) (q2.shrink hc)
  | zpt e q q2 => exact .zpt e (k _ _ q) (k _ _ q2)
  | sgn s => exact .sgn s
end
/-- the comprehension's list at c holds what has come; the rest of the heap has gone on from its start -/
def At (K : PySem.W.Frag) (Z : Addr → Prop) (c : Addr) (μs : List Addr) (hs : Hh) (Gs : Hp) (done : List D) (h : Hh) (H : Hp) : Prop :=
  ∃ μ acc, H c = some (.lst acc) ∧ SR K Z μ h (del H c) ∧ Stp μs hs Gs μ h (del H c) ∧ RVs K (Fb Z μ h) μ (del H c) done acc
/-- .. with the slots -/
def AtE (K : PySem.W.Frag) (Z : Addr → Prop) (c : Addr) (μs : List Addr) (hs : Hh) (Gs : Hp) (done : List D) (h : Hh) (H : Hp) (ρ : Ev) (σ : L2.St) : Prop :=
  ∃ μ acc, H c = some (.lst acc) ∧ SR K Z μ h (del H c) ∧ Stp μs hs Gs μ h (del H c) ∧ RVs K (Fb Z μ h) μ (del H c) done acc ∧ ER K (Fb Z μ h) μ (del H c) ρ σ
section
variable {K : PySem.W.Frag} {cf : Cf} {W : WX} {Z : Addr → Prop} {c : Addr} {μs : List Addr} {hs : Hh} {Gs : Hp}
theorem bind_eq_ok {α β : Type} {r : R α} {f : α → Hh → R β} {b : β} {h : Hh} (e : r.bind f = .ok b h) : ∃ a h1, r = .ok a h1 ∧ f a h1 = .ok b h := by
  cases r with
  | stuck => cases e
  | err x h1 => cases e
  | ok a h1 => exact ⟨a, h1, rfl, e⟩
theorem lcLoop {tp : Bool} {t : T} {xs : List D} {J : It} {ρw : Ev} {σw : L2.St} {rest : Ev → Hh → R (List D)} {tot done0 : List D} {hE : Hh} {H0 : Hp} {FinQ : Hp → Prop} {G : L2.St → Hp → (Hp → Prop) → Prop}
    (htp : t.tp? = tp) (hz : ¬ Z c) (Ss : SR K Z μs hs Gs) (es : ER K (Fb Z μs hs) μs Gs ρw σw) (src : Src K tp Z μs hs Gs xs J)
    (eq : mapL (fun x hh => (asgT cf t x ρw hh).bind rest) xs hs = .ok tot hE) (len : done0.length + tot.length ≤ big)
    (hG : ∀ (done ys : List D) (ρ1 : Ev) (h2 h3 : Hh) (σ2 : L2.St) (H2 : Hp) (Nx : Hp → Prop), AtE K Z c μs hs Gs done h2 H2 ρ1 σ2 → rest ρ1 h2 = .ok ys h3 → done.length + ys.length ≤ big → (∀ H', At K Z c μs hs Gs (done ++ ys) h3 H' → Nx H') → G σ2 H2 Nx)
    (a0 : At K Z c μs hs Gs done0 hs H0) (fin : ∀ H, At K Z c μs hs Gs (done0 ++ tot) hE H → FinQ H) :
    ∃ Wv : Nat → Nat → Hp → Prop, (∃ m, Wv 0 m H0) ∧ ∀ i m H, Wv i m H → (J.stop i H ∧ FinQ H) ∨ (J.go i H ∧ ∃ Nx : Hp → Prop, (∀ H', Nx H' → ∃ m', m' < m ∧ Wv (i + 1) m' H') ∧
      ∀ x H', J.yld i H x H' → rdG K cf W t x σw H' fun σ2 H2 => Only t.slots σw σ2 ∧ G σ2 H2 Nx) := by
  refine ⟨fun i m H => ∃ done zs h, i + m = xs.length ∧ At K Z c μs hs Gs done h H ∧ mapL (fun x hh => (asgT cf t x ρw hh).bind rest) (xs.drop i) h = .ok zs hE ∧ done ++ zs = done0 ++ tot, ⟨xs.length, done0, tot, hs, by simp, a0, by simpa using eq, rfl⟩, ?_⟩
  rintro i m H ⟨done, zs, h, him, ⟨μ, acc, e1, S, T, ra⟩, e2, e3⟩
  have SD : SR K (ZD Z c) μ h H := S.grow e1
  have sD : Src K tp (ZD Z c) μ h H xs J := Src.grow (src.mono Ss T)
  have ED : ER K (Fb (ZD Z c) μ h) μ H ρw σw := ER.grow (es.mono Ss T)
  by_cases hi : i < xs.length
  · obtain ⟨d, e⟩ : ∃ d, xs[i]? = some d := ⟨xs[i], List.getElem?_eq_getElem hi⟩
    obtain ⟨go, yl⟩ := sD.turn SD e
    have ed : xs.drop i = d :: xs.drop (i + 1) := by
      rw [List.drop_eq_getElem_cons hi]
      congr
      rw [List.getElem?_eq_getElem hi] at e
      exact Option.some.inj e
    rw [ed, mapL] at e2
    obtain ⟨ys, h1, f1, f2⟩ := bind_eq_ok e2
    obtain ⟨ws, h2, f3, f4⟩ := bind_eq_ok f2
    cases f4
    obtain ⟨ρ1, h1', g1, g2⟩ := bind_eq_ok f1
    refine .inr ⟨go, fun H' => At K Z c μs hs Gs (done ++ ys) h1 H', fun H' a' => ⟨m - 1, by omega, done ++ ys, ws, h1, by omega, a', f3, by rw [List.append_assoc]; exact e3⟩, fun x H' y => ?_⟩
    subst htp
    obtain ⟨B1, t1, ri⟩ := yl_ri (⟨SD, ED⟩ : Beside K σw H (ZD Z c) μ h ρw) (yl x H' y)
    refine ⟨ZD Z c, μ, h, ρw, d, B1, ri, ?_⟩
    rw [g1]
    intro μ2 H2 S2 t2 σ2 E2 O2
    have tt : Stp μ h H μ2 h1' H2 := t1.trans SD.len t2
    have k2 : H2 c = some (.lst acc) := keepD SD tt e1
    have tz : Stp μ h (del H c) μ2 h1' (del H2 c) := tt.shrink
    refine ⟨O2, hG done ys ρ1 h1' h1 σ2 H2 _ ⟨μ2, acc, k2, S2.shrink k2 hz, T.trans Ss.len tz, RVs.mono S tz _ _ ra, E2.shrink k2⟩ g2 ?_ fun H' a' => a'⟩
    have := congrArg List.length e3
    simp only [List.length_append] at this
    omega
  · have ei : i = xs.length := by omega
    subst ei
    rw [List.drop_length, mapL] at e2
    cases e2
    rw [List.append_nil] at e3
    subst e3
    exact .inl ⟨sD.stop SD, fin H ⟨μ, acc, e1, S, T, ra⟩⟩
end
end Ls
/-! Comprehensions as expressions and in assignments. -/
namespace Ls
open PySem PySem.Spec PyProof.Rows L2
theorem PTs.imp {X : Cx} {es : List Expr} {t t' : TT} (h : PTs X es t) (k : ∀ σ H Q, t' σ H Q → t σ H Q) : PTs X es t' := ⟨fun pins s σ H Q I q => h.run pins s σ H Q I (k σ H Q q)⟩
/-- nothing is let out -/
def W0 : WX := fun _ _ _ _ => False
def rdC (K : PySem.W.Frag) (cf : Cf) (W : WX) (c : Es) : TT := fun σ H Q => ∃ Z μ h ρ, Beside K σ H Z μ h ρ ∧ Post K Z μ h H (PB Q) (exc K Z W) (evt cf c ρ h)
section
variable {X : Cx} {cf : Cf} {W : WX}
theorem sC_nil : PTs X [] (rdC X.K cf W .nil) := PTs.imp pts_nil fun σ H Q ⟨Z, μ, h, ρ, B, p⟩ => by
  simp only [evt] at p
  exact Post.here B.sr p
theorem sC_one {c : Expr} {mc : E} (h : PT X c (rdT X.K cf W mc)) : PTs X [c] (rdC X.K cf W (.cons mc .nil)) := PTs.imp (pts_one h) fun σ H Q ⟨Z, μ, h, ρ, B, p⟩ => by
  simp only [evt] at p
  refine rdT1 (a := fun h1 => .ok true h1) (b := fun h1 => .ok false h1) B p fun k μ1 h1 H1 B1 t1 p1 => ?_
  cases k with
  | true => exact Post.here B1.sr p1
  | false => exact Post.here B1.sr p1
end
section
variable {K : PySem.W.Frag} {cf : Cf} {W : WX} {σ : L2.St} {H : Hp} {Q : VK} {f : F}
theorem lv_of (x : rdE K cf W (.lv f) σ H Q) : rdF K cf W f σ H Q := by
  obtain ⟨Z, μ, h, ρ, B, p⟩ := x
  refine ⟨Z, μ, h, ρ, B, by simp only [ev] at p; exact freshL_ok p, ?_⟩
  simp only [ev, freshL] at p
  refine (Post.bind B.sr p).imp fun xs μ1 h1 H1 S1 t1 q => ?_
  split at q
  · rename_i hz
    exact ⟨hz, fun vs c rs hc => Post.newL S1 q rs hc⟩
  · exact q.elim
theorem lr_of (x : rdE K cf W (.lr f) σ H Q) : rdF K cf W f σ H Q := by
  obtain ⟨Z, μ, h, ρ, B, p⟩ := x
  refine ⟨Z, μ, h, ρ, B, by simp only [ev] at p; exact freshL_ok p, ?_⟩
  simp only [ev, freshL] at p
  refine (Post.bind B.sr p).imp fun xs μ1 h1 H1 S1 t1 q => ?_
  split at q
  rotate_left
  · exact q.elim
  rename_i hz
  refine ⟨hz, fun vs c rs hc => ?_⟩
  refine q (μ1 ++ [c]) _ (S1.newR hc rs) (Stp.newR hc S1.len) _ (RV.ref.mpr ⟨c, rfl, ?_⟩)
  rw [← S1.len]
  simp
variable {Z : Addr → Prop} {μ : List Addr} {h : Hh} {α : Type} {P P' : α → List Addr → Hh → Hp → Prop} {Ex : Xn → List Addr → Hh → Hp → Prop} {r : R α}
theorem Post.impQ (p : Post K Z μ h H P Ex r) (k : ∀ a μ' h' H', r = .ok a h' → SR K Z μ' h' H' → Stp μ h H μ' h' H' → P a μ' h' H' → P' a μ' h' H') : Post K Z μ h H P' Ex r := by
  cases r with
  | stuck => exact p
  | ok a h2 => exact fun μ2 H2 s2 t2 => k a μ2 h2 H2 rfl s2 t2 (p μ2 H2 s2 t2)
  | err x h2 => exact p
theorem PF.lk {Z : Addr → Prop} {xs : List D} {μ : List Addr} {h h' : Hh} {H : Hp} (x : Lk h h') (p : PF K Z Q xs μ h H) : PF K Z Q xs μ h' H := ⟨p.1, fun vs c r hc => p.2 vs c (RVs.anti x.symm.fb _ _ r) hc⟩
theorem unlock_ok {α : Type} {h0 : Hh} {l : Option Nat} {r : R α} {a : α} {h' : Hh} (e : r = .ok a h') : R.unlock h0 l r = .ok a (unlockO h0 h' l) := by subst e; rfl
theorem calm_ok {α : Type} {r : R α} {a : α} {h' : Hh} (e : r = .ok a h') : R.calm r = .ok a h' := by subst e; rfl
/-- a calm thing comes, or nothing -/
theorem Post.come {h0 : Hh} {l : Option Nat} (p : Post K Z μ h H P Ex (R.unlock h0 l (R.calm r))) : ∃ a h', r = .ok a h' := by
  cases r with
  | stuck => exact p.elim
  | ok a h2 => exact ⟨a, h2, rfl⟩
  | err x h2 => exact p.elim
/-- one turn's rest: tests, and the element -/
theorem stepOne {Z : Addr → Prop} {c : Addr} {μs : List Addr} {hs : Hh} {Gs : Hp} {ct : Es} {e : E} (hz : ¬ Z c) (Ss : SR K Z μs hs Gs) (done ys : List D) (ρ1 : Ev) (h2 h3 : Hh) (σ2 : L2.St) (H2 : Hp) (Nx : Hp → Prop) (a : AtE K Z c μs hs Gs done h2 H2 ρ1 σ2)
    (eq : ((evt cf ct ρ1 h2).bind fun b h3 => if b then (ev cf e ρ1 h3).bind fun y h4 => .ok [y] h4 else .ok [] h3) = .ok ys h3) (len : done.length + ys.length ≤ big) (k : ∀ H', At K Z c μs hs Gs (done ++ ys) h3 H' → Nx H') :
    rdC K cf W ct σ2 H2 fun b H3 => if b = true then rdE K cf W e σ2 H3 fun y H4 => ∃ acc, H4 c = some (.lst acc) ∧ acc.length < sizeLine ∧ Nx (upd H4 c (.lst (acc ++ [y]))) else Nx H3 := by
  obtain ⟨μ, acc, e1, S, T, ra, E⟩ := a
  have SD : SR K (ZD Z c) μ h2 H2 := S.grow e1
  have BD : Beside K σ2 H2 (ZD Z c) μ h2 ρ1 := ⟨SD, E.grow⟩
  obtain ⟨b, h4, f1, f2⟩ := bind_eq_ok eq
  refine ⟨ZD Z c, μ, h2, ρ1, BD, ?_⟩
  rw [f1]
  intro μ4 H4 S4 t4
  have k4 := keepD SD t4 e1
  have tz : Stp μ h2 (del H2 c) μ4 h4 (del H4 c) := t4.shrink
  cases b with
  | false =>
    show Nx H4
    cases f2
    refine k H4 ?_
    rw [List.append_nil]
    exact ⟨μ4, acc, k4, S4.shrink k4 hz, T.trans Ss.len tz, RVs.mono S tz _ _ ra⟩
  | true =>
    show rdE K cf W e σ2 H4 _
    obtain ⟨y, h5, g1, g2⟩ := bind_eq_ok f2
    cases g2
    have B4 : Beside K σ2 H4 (ZD Z c) μ4 h4 ρ1 := BD.mono S4 t4
    refine ⟨ZD Z c, μ4, h4, ρ1, B4, ?_⟩
    rw [g1]
    intro μ5 H5 S5 t5 v r
    have k5 := keepD S4 t5 k4
    have tz5 : Stp μ4 h4 (del H4 c) μ5 h3 (del H5 c) := t5.shrink
    have S4z := S4.shrink k4 hz
    have la : done.length = acc.length := ra.len
    refine ⟨acc, k5, ?_, k _ ⟨μ5, acc ++ [v], upd_same, by rw [del_upd]; exact S5.shrink k5 hz, by rw [del_upd]; exact T.trans Ss.len (tz.trans S.len tz5), ?_⟩⟩
    · have : done.length + 1 ≤ sizeLine := len
      omega
    · rw [del_upd]
      exact (RVs.mono S4z tz5 _ _ (RVs.mono S tz _ _ ra)).app (RVs.mk (RV.shrink k5 fb_shrink (.inl (.inr rfl)) _ _ r) (RVs.nil.mpr rfl))
theorem lc_of {t : T} {i : I} {ct : Es} {e : E} (x : rdF K cf W (.comp t i ct e) σ H Q) : tLc (rdI K cf W t.tp? i) (rdG K cf W0 t) (rdC K cf W0 ct) (rdE K cf W0 e) t.slots σ H Q := by
  obtain ⟨Z, μ, h, ρ, B, ok, p⟩ := x
  simp only [evf] at p ok
  refine ⟨Z, μ, h, ρ, B, (Post.bind B.sr p).impQ fun xs μ1 h1 H1 er S1 t1 q J src c hc => ?_⟩
  rw [er] at ok
  simp only [bind_ok] at ok
  obtain ⟨tot, hE, eq⟩ := q.come
  have okt := ok tot _ (unlock_ok (calm_ok eq))
  have q2 : Post K Z μ1 (lockO h1 xs.2) H1 (PF K Z Q) (fun _ _ _ _ => False) (.ok tot hE) := by
    have := (Post.unlock S1 q)
    rw [calm_ok eq] at this
    exact fun μ' H' S' t' => PF.lk (lk_unlock S1 t').1.symm (this μ' H' S' t')
  have hz : ¬ Z c := fun z => by obtain ⟨o, e⟩ := S1.zs c z; rw [hc] at e; cases e
  have Ss : SR K Z μ1 (lockO h1 xs.2) H1 := S1.lk (lk_lock _ _)
  have es : ER K (Fb Z μ1 (lockO h1 xs.2)) μ1 H1 (wipe ρ t.slots) (L2.wipe σ t.slots) := ((B.er.mono B.sr t1).anti (lk_lock _ _).fb).wipe _
  have dn : del (upd H1 c (.lst [])) c = H1 := by rw [del_upd, del_none hc]
  obtain ⟨Wv, w0, turn⟩ := lcLoop (W := W0) (done0 := []) (H0 := upd H1 c (.lst [])) (FinQ := fun H => Q (.ref c) H)
    (G := fun σ2 H2 Nx => rdC K cf W0 ct σ2 H2 fun b H3 => if b = true then rdE K cf W0 e σ2 H3 fun y H4 => ∃ acc, H4 c = some (.lst acc) ∧ acc.length < sizeLine ∧ Nx (upd H4 c (.lst (acc ++ [y]))) else Nx H3)
    rfl hz Ss es src eq (by simpa using of_decide_eq_true okt) (stepOne hz Ss) ⟨μ1, [], upd_same, by rw [dn]; exact Ss, by rw [dn]; exact Stp.refl, RVs.nil.mpr rfl⟩ fun H a => by
      obtain ⟨μ', acc, e1, S', T', ra⟩ := a
      have := (q2 μ' (del H c) S' T').2 acc c ra del_same
      rw [upd_del e1] at this
      exact this
  refine ⟨Wv, w0, fun i m H w => (turn i m H w).imp (fun z => z) fun ⟨go, Nx, n1, n2⟩ => ⟨go, Nx, n1, fun x H' y => ?_⟩⟩
  obtain ⟨Z', μ', h', ρ', d', B', r', p'⟩ := n2 x H' y
  exact ⟨Z', μ', h', ρ', d', B', r', p'.imp fun ρ2 μ2 h2 H2 S2 t2 z σ2 E2 O2 => let ⟨z1, z2⟩ := z σ2 E2 O2; ⟨by rw [z1.wipe, wipe_wipe], z2⟩⟩
theorem lc2_of {t u : T} {i j : I} {ct : Es} {e : E} (x : rdF K cf W (.comp2 t i u j ct e) σ H Q) : tLc2 (rdI K cf W t.tp? i) (rdG K cf W0 t) (rdC K cf W0 .nil) (rdI K cf W0 u.tp? j) (rdG K cf W0 u) (rdC K cf W0 ct) (rdE K cf W0 e) (t.slots ++ u.slots) u.slots σ H Q := by
  obtain ⟨Z, μ, h, ρ, B, ok, p⟩ := x
  simp only [evf] at p ok
  refine ⟨Z, μ, h, ρ, B, (Post.bind B.sr p).impQ fun xs μ1 h1 H1 er S1 t1 q J src c hc => ?_⟩
  rw [er] at ok
  simp only [bind_ok] at ok
  obtain ⟨tot, hE, eq⟩ := q.come
  have okt := ok tot _ (unlock_ok (calm_ok eq))
  have q2 : Post K Z μ1 (lockO h1 xs.2) H1 (PF K Z Q) (fun _ _ _ _ => False) (.ok tot hE) := by
    have := (Post.unlock S1 q)
    rw [calm_ok eq] at this
    exact fun μ' H' S' t' => PF.lk (lk_unlock S1 t').1.symm (this μ' H' S' t')
  have hz : ¬ Z c := fun z => by obtain ⟨o, e⟩ := S1.zs c z; rw [hc] at e; cases e
  have Ss : SR K Z μ1 (lockO h1 xs.2) H1 := S1.lk (lk_lock _ _)
  have es : ER K (Fb Z μ1 (lockO h1 xs.2)) μ1 H1 (wipe ρ (t.slots ++ u.slots)) (L2.wipe σ (t.slots ++ u.slots)) := ((B.er.mono B.sr t1).anti (lk_lock _ _).fb).wipe _
  have dn : del (upd H1 c (.lst [])) c = H1 := by rw [del_upd, del_none hc]
  have hG : ∀ (done ys : List D) (ρ1 : Ev) (h2 h3 : Hh) (σ2 : L2.St) (H2 : Hp) (Nx : Hp → Prop), AtE K Z c μ1 (lockO h1 xs.2) H1 done h2 H2 ρ1 σ2 → ((evi cf j ρ1 h2).bind fun ys h3 => R.unlock h3 ys.2 (mapL (fun y hg => (asgT cf u y (wipe ρ1 u.slots) hg).bind fun ρ2 h4 =>
        (evt cf ct ρ2 h4).bind fun b h5 => if b then (ev cf e ρ2 h5).bind fun z h6 => .ok [z] h6 else .ok [] h5) ys.1 (lockO h3 ys.2))) = .ok ys h3 → done.length + ys.length ≤ big → (∀ H', At K Z c μ1 (lockO h1 xs.2) H1 (done ++ ys) h3 H' → Nx H') → rdC K cf W0 .nil σ2 H2 fun b H3 => if b = true then rdI K cf W0 u.tp? j σ2 H3 fun J1 H4 => ∃ W1 : Nat → Nat → Hp → Prop, (∃ m, W1 0 m H4) ∧ ∀ j k H, W1 j k H →
      (J1.stop j H ∧ Nx H) ∨ (J1.go j H ∧ ∃ Nx1 : Hp → Prop, (∀ H', Nx1 H' → ∃ k', k' < k ∧ W1 (j + 1) k' H') ∧ ∀ x H', J1.yld j H x H' → rdG K cf W0 u x (L2.wipe σ2 u.slots) H' fun σ3 H5 => L2.wipe σ3 u.slots = L2.wipe σ2 u.slots ∧ rdC K cf W0 ct σ3 H5 fun b H6 =>
        if b = true then rdE K cf W0 e σ3 H6 fun y H7 => ∃ acc, H7 c = some (.lst acc) ∧ acc.length < sizeLine ∧ Nx1 (upd H7 c (.lst (acc ++ [y]))) else Nx1 H6) else Nx H3 := by
    intro done ys ρ1 h2 h3 σ2 H2 Nx a eq len k
    obtain ⟨μ2, acc, e1, S2, T2, ra, E2⟩ := a
    have SD : SR K (ZD Z c) μ2 h2 H2 := S2.grow e1
    have BD : Beside K σ2 H2 (ZD Z c) μ2 h2 ρ1 := ⟨SD, E2.grow⟩
    obtain ⟨zs, h4, f1, f2⟩ := bind_eq_ok eq
    refine ⟨ZD Z c, μ2, h2, ρ1, BD, ?_⟩
    rw [evt]
    intro μ3 H3 S3 t3
    have k3 := keepD SD t3 e1
    have B3 : Beside K σ2 H3 (ZD Z c) μ3 h2 ρ1 := BD.mono S3 t3
    show rdI K cf W0 u.tp? j σ2 H3 _
    refine ⟨ZD Z c, μ3, h2, ρ1, B3, ?_⟩
    rw [f1]
    intro μ4 H4 S4 t4 J1 src1
    have k4 := keepD S3 t4 k3
    have S4z : SR K Z μ4 h4 (del H4 c) := S4.shrink k4 hz
    have tz : Stp μ2 h2 (del H2 c) μ4 h4 (del H4 c) := (t3.trans SD.len t4).shrink
    have Sl : SR K Z μ4 (lockO h4 zs.2) (del H4 c) := S4z.lk (lk_lock _ _)
    obtain ⟨hF, eqm, eqF⟩ : ∃ hF, mapL (fun y hg => (asgT cf u y (wipe ρ1 u.slots) hg).bind fun ρ2 h4 =>
        (evt cf ct ρ2 h4).bind fun b h5 => if b then (ev cf e ρ2 h5).bind fun z h6 => .ok [z] h6 else .ok [] h5) zs.1 (lockO h4 zs.2) = .ok ys hF ∧ unlockO h4 hF zs.2 = h3 := by
      generalize mapL _ zs.1 (lockO h4 zs.2) = r at f2
      cases r with
      | stuck => cases f2
      | err x hh => cases f2
      | ok a hh => cases f2; exact ⟨hh, rfl, rfl⟩
    have e4 : ER K (Fb Z μ4 (lockO h4 zs.2)) μ4 (del H4 c) (wipe ρ1 u.slots) (L2.wipe σ2 u.slots) := ((E2.mono S2 tz).anti (lk_lock _ _).fb).wipe _
    have src2 : Src K u.tp? Z μ4 (lockO h4 zs.2) (del H4 c) zs.1 J1 := Src.shrink k4 src1
    have ra4 := RVs.mono S2 tz _ _ ra
    obtain ⟨W1, w1, turn1⟩ := lcLoop (W := W0) (done0 := done) (H0 := H4) (FinQ := Nx)
      (G := fun σ2 H2 Nx => rdC K cf W0 ct σ2 H2 fun b H3 => if b = true then rdE K cf W0 e σ2 H3 fun y H4 => ∃ acc, H4 c = some (.lst acc) ∧ acc.length < sizeLine ∧ Nx (upd H4 c (.lst (acc ++ [y]))) else Nx H3)
      rfl hz Sl e4 src2 eqm len (stepOne hz Sl) ⟨μ4, acc, k4, Sl, Stp.refl, RVs.anti (lk_lock _ _).fb _ _ ra4⟩ fun H a => by
        obtain ⟨μ', acc', g1, S', T', ra'⟩ := a
        obtain ⟨l1, l2⟩ := lk_unlock S4z T'
        rw [eqF] at l1 l2
        exact k H ⟨μ', acc', g1, S'.lk l1, T2.trans Ss.len (tz.trans S2.len l2), RVs.anti l1.fb _ _ ra'⟩
    refine ⟨W1, w1, fun i m H w => (turn1 i m H w).imp (fun z => z) fun ⟨go, Nx, n1, n2⟩ => ⟨go, Nx, n1, fun x H' y => ?_⟩⟩
    obtain ⟨Z', μ', h', ρ', d', B', r', p'⟩ := n2 x H' y
    exact ⟨Z', μ', h', ρ', d', B', r', p'.imp fun ρ2 μ2 h2 H2 S2 t2 z σ2 E2 O2 => let ⟨z1, z2⟩ := z σ2 E2 O2; ⟨by rw [z1.wipe, wipe_wipe], z2⟩⟩
  obtain ⟨Wv, w0, turn⟩ := lcLoop (W := W0) (done0 := []) (H0 := upd H1 c (.lst [])) (FinQ := fun H => Q (.ref c) H)
    (rest := fun ρ1 h2 => (evi cf j ρ1 h2).bind fun ys h3 => R.unlock h3 ys.2 (mapL (fun y hg => (asgT cf u y (wipe ρ1 u.slots) hg).bind fun ρ2 h4 =>
        (evt cf ct ρ2 h4).bind fun b h5 => if b then (ev cf e ρ2 h5).bind fun z h6 => .ok [z] h6 else .ok [] h5) ys.1 (lockO h3 ys.2)))
    (G := fun σ2 H2 Nx => rdC K cf W0 .nil σ2 H2 fun b H3 => if b = true then rdI K cf W0 u.tp? j σ2 H3 fun J1 H4 => ∃ W1 : Nat → Nat → Hp → Prop, (∃ m, W1 0 m H4) ∧ ∀ j k H, W1 j k H →
      (J1.stop j H ∧ Nx H) ∨ (J1.go j H ∧ ∃ Nx1 : Hp → Prop, (∀ H', Nx1 H' → ∃ k', k' < k ∧ W1 (j + 1) k' H') ∧ ∀ x H', J1.yld j H x H' → rdG K cf W0 u x (L2.wipe σ2 u.slots) H' fun σ3 H5 => L2.wipe σ3 u.slots = L2.wipe σ2 u.slots ∧ rdC K cf W0 ct σ3 H5 fun b H6 =>
        if b = true then rdE K cf W0 e σ3 H6 fun y H7 => ∃ acc, H7 c = some (.lst acc) ∧ acc.length < sizeLine ∧ Nx1 (upd H7 c (.lst (acc ++ [y]))) else Nx1 H6) else Nx H3)
    rfl hz Ss es src eq (by simpa using of_decide_eq_true okt) hG ⟨μ1, [], upd_same, by rw [dn]; exact Ss, by rw [dn]; exact Stp.refl, RVs.nil.mpr rfl⟩ fun H a => by
      obtain ⟨μ', acc, e1, S', T', ra⟩ := a
      have := (q2 μ' (del H c) S' T').2 acc c ra del_same
      rw [upd_del e1] at this
      exact this
  refine ⟨Wv, w0, fun i m H w => (turn i m H w).imp (fun z => z) fun ⟨go, Nx, n1, n2⟩ => ⟨go, Nx, n1, fun x H' y => ?_⟩⟩
  obtain ⟨Z', μ', h', ρ', d', B', r', p'⟩ := n2 x H' y
  refine ⟨Z', μ', h', ρ', d', B', r', p'.imp fun ρ2 μ2 h2 H2 S2 t2 z σ2 E2 O2 => let ⟨z1, z2⟩ := z σ2 E2 O2; ⟨?_, z2⟩⟩
  have z3 : Only (t.slots ++ u.slots) (L2.wipe σ (t.slots ++ u.slots)) σ2 := ⟨z1.1, fun i hi => z1.2 i fun m => hi (List.mem_append_left _ m)⟩
  rw [z3.wipe, wipe_wipe]
end
end Ls
/-! Comprehensions and ranges as expressions. -/
namespace Ls
open PySem PySem.Spec PyProof.Rows L2
/-- for every block that a comprehension opens in X with this scope -/
def InBlk (X : Cx) (sc : Scope) (P : Cx → Prop) : Prop := ∀ (s : Shared) (H : Hp) (c : Addr) (cl : List (Str × Addr)) (fp : List Addr), P (X.blk s H sc (compEnvC sc cl c X.env) fp)
section
variable {X : Cx} {cf : Cf} {W : WX} {pos spos py : Pos} {elt tg iter tg1 iter1 : Expr} {ifs ifs1 : List Expr} {sc : Scope} {own : List (Str × Nat)} {t u : T} {i j : I} {ct : Es} {e : E} {k : Nat} {y : Str} {me : E}
/-- the premises of a comprehension with one clause -/
structure Lc1 (X : Cx) (cf : Cf) (W : WX) (elt tg iter : Expr) (ifs : List Expr) (sc : Scope) (own : List (Str × Nat)) (t : T) (i : I) (ct : Es) (e : E) : Prop where
  calm : X.calm = true
  nod : X.N.Nodup
  src : PI X tg iter (rdI X.K cf W t.tp? i)
  blk : BlkOk X.N X.env.scope sc own
  own : own.map (·.2) = t.slots
  tgt : InBlk X sc fun B => PG B tg (rdG X.K cf W0 t)
  tst : InBlk X sc fun B => PTs B ifs (rdC X.K cf W0 ct)
  out : InBlk X sc fun B => PE B elt (rdE X.K cf W0 e)
  fold : ∀ x, foldedSetIterable iter X.env x = pure x
/-- .. with two -/
structure Lc2 (X : Cx) (cf : Cf) (W : WX) (elt tg iter tg1 iter1 : Expr) (ifs1 : List Expr) (sc : Scope) (own : List (Str × Nat)) (t : T) (i : I) (u : T) (j : I) (ct : Es) (e : E) : Prop where
  calm : X.calm = true
  nod : X.N.Nodup
  src : PI X tg iter (rdI X.K cf W t.tp? i)
  blk : BlkOk X.N X.env.scope sc own
  own : own.map (·.2) = t.slots ++ u.slots
  tgt : InBlk X sc fun B => PG B tg (rdG X.K cf W0 t)
  src1 : InBlk X sc fun B => PI B tg1 iter1 (rdI X.K cf W0 u.tp? j)
  tgt1 : InBlk X sc fun B => PG B tg1 (rdG X.K cf W0 u)
  tst1 : InBlk X sc fun B => PTs B ifs1 (rdC X.K cf W0 ct)
  out : InBlk X sc fun B => PE B elt (rdE X.K cf W0 e)
  fold : ∀ x, foldedSetIterable iter X.env x = pure x
  fold1 : ∀ env x, foldedSetIterable iter1 env x = pure x
theorem Lc2.in1 (c : Lc2 X cf W elt tg iter tg1 iter1 ifs1 sc own t i u j ct e) : ∀ v ∈ u.slots, v ∈ own.map (·.2) := fun v hv => by rw [c.own]; exact List.mem_append_right _ hv
theorem Lc2.yes (c : Lc2 X cf W elt tg iter tg1 iter1 ifs1 sc own t i u j ct e) : InBlk X sc fun B => PTs B [] (rdC X.K cf W0 .nil) := fun _ _ _ _ _ => sC_nil
theorem sF_comp (c : Lc1 X cf W elt tg iter ifs sc own t i ct e) : PE X (.ListComp elt [⟨tg, iter, ifs, 0⟩] sc pos) (rdF X.K cf W (.comp t i ct e)) :=
  PE.imp (pe_lc c.calm c.nod c.src c.blk c.tgt c.tst c.out c.fold) fun σ H Q x => by rw [c.own]; exact lc_of x
theorem sF_comp2 (c : Lc2 X cf W elt tg iter tg1 iter1 ifs1 sc own t i u j ct e) : PE X (.ListComp elt [⟨tg, iter, [], 0⟩, ⟨tg1, iter1, ifs1, 0⟩] sc pos) (rdF X.K cf W (.comp2 t i u j ct e)) :=
  PE.imp (pe_lc2 c.calm c.nod c.src c.blk c.in1 c.tgt c.yes c.src1 c.tgt1 c.tst1 c.out c.fold c.fold1) fun σ H Q x => by rw [c.own]; exact lc2_of x
/-- name = [..] where the store comes within the comprehension's end -/
theorem sS_lc (c : Lc1 X cf W elt tg iter ifs sc own t i ct e) (hm : me = .lv (.comp t i ct e) ∨ me = .lr (.comp t i ct e)) (hy : X.N[k]? = some y) (hl : X.env.scope.names.lookup y = some .local)
    (hs : swapsWith (.ListComp elt [⟨tg, iter, ifs, 0⟩] sc pos) (some (.Name y py)) spos.line X.env = pure true) : PS X (.Assign [.Name y py] (.ListComp elt [⟨tg, iter, ifs, 0⟩] sc pos) spos) (rdS X.K cf W (.asg (.nm k) me)) := by
  refine PS.imp (ps_setLc c.calm c.nod hy hl hs c.src c.blk c.tgt c.tst c.out c.fold) fun D σ H x => ?_
  have z := tAsgN_of x
  rw [c.own]
  rcases hm with rfl | rfl
  · exact lc_of (lv_of z)
  · exact lc_of (lr_of z)
theorem sS_lc2 (c : Lc2 X cf W elt tg iter tg1 iter1 ifs1 sc own t i u j ct e) (hm : me = .lv (.comp2 t i u j ct e) ∨ me = .lr (.comp2 t i u j ct e)) (hy : X.N[k]? = some y) (hl : X.env.scope.names.lookup y = some .local)
    (hs : swapsWith (.ListComp elt [⟨tg, iter, [], 0⟩, ⟨tg1, iter1, ifs1, 0⟩] sc pos) (some (.Name y py)) spos.line X.env = pure true) :
    PS X (.Assign [.Name y py] (.ListComp elt [⟨tg, iter, [], 0⟩, ⟨tg1, iter1, ifs1, 0⟩] sc pos) spos) (rdS X.K cf W (.asg (.nm k) me)) := by
  refine PS.imp (ps_setLc2 c.calm c.nod hy hl hs c.src c.blk c.in1 c.tgt c.yes c.src1 c.tgt1 c.tst1 c.out c.fold c.fold1) fun D σ H x => ?_
  have z := tAsgN_of x
  rw [c.own]
  rcases hm with rfl | rfl
  · exact lc2_of (lv_of z)
  · exact lc2_of (lr_of z)
end
/-! ### list(range(..)) -/
theorem rgV_rel {K : PySem.W.Frag} {F : Addr → Prop} {μ : List Addr} {H : Hp} (a b : Int) : RVs K F μ H (rngL a b) (rgV a b) := by
  unfold rngL rgV
  generalize List.range (b - a).toNat = l
  induction l with
  | nil => exact RVs.nil.mpr rfl
  | cons k r ih => exact RVs.mk (RV.int.mpr rfl) ih
section
variable {X : Cx} {cf : Cf} {W : WX} {a b : Expr} {ma mb : E} {p1 p2 p3 p4 : Pos}
theorem rng_ok {i j : Int} (q : (okR i && okR j) = true) (z : okLen (rngL i j) = true) : RgOk i j := by
  simp only [Bool.and_eq_true, okR, okLen, decide_eq_true_eq, rngL, List.length_map, List.length_range] at q z
  have := q.1; have := q.2
  exact ⟨by omega, by omega, by omega, by omega, by have : big = 2 ^ 24 := rfl; omega⟩
theorem sF_rng1 (hc : X.calm = true) (hg : Gl X "list") (hm : X.mg "list" = none) (hg2 : Gl X "range") (hm2 : X.mg "range" = none) (hb : PE X b (rdE X.K cf W mb)) (hp : plainE b = true) :
    PE X (.Call (.Name "list" p1) [.Call (.Name "range" p2) [b] [] p3] [] p4) (rdF X.K cf W (.rng .no mb)) := by
  refine PE.imp (pe_listRg hc hg hm (prg_1 hg2 hm2 hb (star_cons hp _ _))) fun σ H Q ⟨Z, μ, h, ρ, B, ok, p⟩ => ?_
  simp only [evf, evo, bind_ok] at p
  refine rd1 B p fun d v μ1 h1 H1 B1 t1 r1 p1 => ?_
  cases d with
  | int j =>
    rw [RV.int] at r1
    simp only [Option.getD_none] at p1
    split at p1
    · rename_i q
      obtain ⟨z, f⟩ := Post.here B1.sr p1
      exact ⟨j, r1, rng_ok q z, fun c hc => f _ c (rgV_rel 0 j) hc⟩
    · exact p1.elim
  | _ => exact p1.elim
theorem sF_rng2 (hc : X.calm = true) (hg : Gl X "list") (hm : X.mg "list" = none) (hg2 : Gl X "range") (hm2 : X.mg "range" = none) (ha : PE X a (rdE X.K cf W ma)) (hpa : plainE a = true) (hb : PE X b (rdE X.K cf W mb)) (hp : plainE b = true) :
    PE X (.Call (.Name "list" p1) [.Call (.Name "range" p2) [a, b] [] p3] [] p4) (rdF X.K cf W (.rng (.so ma) mb)) := by
  refine PE.imp (pe_listRg hc hg hm (prg_2 hg2 hm2 ha hb (star_cons hpa _ _) (star_cons hp _ _) (star_none (es := [b]) (by simp [hp]) _ _))) fun σ H Q ⟨Z, μ, h, ρ, B, ok, p⟩ => ?_
  have p' : Post X.K Z μ h H (PF X.K Z Q) (exc X.K Z W) ((ev cf ma ρ h).bind fun x h1 => match x with
      | .int i => (ev cf mb ρ h1).bind fun y h2 => match y with
        | .int j => if okR i && okR j then .ok (rngL i j) h2 else .stuck
        | _ => .stuck
      | _ => .stuck) := by
    simp only [evf, evo] at p
    cases q : ev cf ma ρ h with
    | stuck => rw [q] at p; exact p
    | err x h1 => rw [q] at p; exact p
    | ok d h1 => rw [q] at p; cases d <;> exact p
  refine rd1 B p' fun d v μ1 h1 H1 B1 t1 r1 p1 => ?_
  cases d with
  | int i =>
    rw [RV.int] at r1
    refine rd1 B1 p1 fun d2 v2 μ2 h2 H2 B2 t2 r2 p2 => ?_
    cases d2 with
    | int j =>
      rw [RV.int] at r2
      simp only at p2
      split at p2
      · rename_i q
        obtain ⟨z, f⟩ := Post.here B2.sr p2
        exact ⟨i, j, r1, r2, rng_ok q z, fun c hc => f _ c (rgV_rel i j) hc⟩
      · exact p2.elim
    | _ => exact p2.elim
  | _ => exact p1.elim
end
end Ls
/-! sorted(a list of data). -/
namespace Ls
open PySem PySem.Spec PyProof.Rows L2
/-! ### sorting by putting in, beside mergeSort -/
section
variable {β : Type} {le : β → β → Bool}
def insG (le : β → β → Bool) (x : β) : List β → List β
  | [] => [x]
  | y :: r => if le x y then x :: y :: r else y :: insG le x r
def sortG (le : β → β → Bool) : List β → List β
  | [] => []
  | x :: r => insG le x (sortG le r)
theorem insG_mem {x z : β} : ∀ {l : List β}, z ∈ insG le x l → z = x ∨ z ∈ l
  | [], h => by simpa [insG] using h
  | y :: r, h => by
    rw [insG] at h
    split at h
    · exact List.mem_cons.mp h
    · rcases List.mem_cons.mp h with rfl | h
      · exact .inr List.mem_cons_self
      · exact (insG_mem h).imp id (List.mem_cons_of_mem _)
theorem insG_up (T : PySem.W.TotalLe le) (x : β) : ∀ {l : List β}, l.Pairwise (fun a b => le a b = true) → (insG le x l).Pairwise (fun a b => le a b = true)
  | [], _ => List.pairwise_singleton _ _
  | y :: r, h => by
    obtain ⟨h1, h2⟩ := List.pairwise_cons.mp h
    rw [insG]
    split
    · rename_i q
      exact List.pairwise_cons.mpr ⟨fun z hz => (List.mem_cons.mp hz).elim (fun e => e ▸ q) fun m => T.trans _ _ _ q (h1 z m), h⟩
    · rename_i q
      exact List.pairwise_cons.mpr ⟨fun z hz => (insG_mem hz).elim (fun e => e ▸ (T.total x y).elim (fun w => absurd w q) id) fun m => h1 z m, insG_up T x h2⟩
theorem insG_keeps (T : PySem.W.TotalLe le) (c x : β) : ∀ l : List β, (insG le x l).filter (PySem.W.sameRank le c) = (x :: l).filter (PySem.W.sameRank le c)
  | [] => rfl
  | y :: r => by
    rw [insG]
    split
    · rfl
    · rename_i q
      have ih := insG_keeps T c x r
      rw [List.filter_cons, ih, List.filter_cons, List.filter_cons, List.filter_cons]
      by_cases hx : PySem.W.sameRank le c x = true
      · have hy : ¬ PySem.W.sameRank le c y = true := fun hy => by
          simp only [PySem.W.sameRank, Bool.and_eq_true] at hx hy
          exact q (T.trans _ _ _ hx.2 hy.1)
        simp [hx, hy]
      · simp [hx]
theorem sortG_eq (T : PySem.W.TotalLe le) (l : List β) : sortG le l = l.mergeSort le := by
  refine PySem.W.sort_unique T ?_ fun c => ?_
  · induction l with
    | nil => exact List.Pairwise.nil
    | cons x r ih => exact insG_up T x ih
  · induction l with
    | nil => rfl
    | cons x r ih => rw [sortG, insG_keeps T, List.filter_cons, List.filter_cons, ih]
theorem sortG_mem {z : β} : ∀ {l : List β}, z ∈ sortG le l → z ∈ l
  | [], h => by simp [sortG] at h
  | x :: r, h => (insG_mem h).elim (fun e => e ▸ List.mem_cons_self) fun m => List.mem_cons_of_mem _ (sortG_mem m)
end
/-- the data among values that go with them -/
theorem insD_fst {V' : Type} {le : D × V' → D × V' → Bool} {b : D × V'} : ∀ {l : List (D × V')}, (∀ y ∈ l, D.lt y.1 b.1 = !le b y) → (insG le b l).map Prod.fst = insD b.1 (l.map Prod.fst)
  | [], _ => rfl
  | y :: r, h => by
    have hy := h y List.mem_cons_self
    rw [insG, List.map_cons, insD, hy]
    by_cases q : le b y = true
    · simp [q]
    · simp only [Bool.not_eq_true] at q
      simp only [q, Bool.false_eq_true, if_false, List.map_cons, Bool.not_false, if_true]
      rw [insD_fst fun z hz => h z (List.mem_cons_of_mem _ hz)]
theorem sortD_fst {V' : Type} {le : D × V' → D × V' → Bool} : ∀ {l : List (D × V')}, (∀ x ∈ l, ∀ y ∈ l, D.lt y.1 x.1 = !le x y) → (sortG le l).map Prod.fst = sortD (l.map Prod.fst)
  | [], _ => rfl
  | x :: r, h => by
    rw [sortG, insD_fst fun y hy => h x List.mem_cons_self y (List.mem_cons_of_mem _ (sortG_mem hy)), sortD_fst fun a ha b hb => h a (List.mem_cons_of_mem _ ha) b (List.mem_cons_of_mem _ hb)]
    rfl
/-! ### the rule -/
theorem flat_mem {n : Nat} {d : D} : ∀ {xs : List D}, D.flatL n xs = true → d ∈ xs → D.flat n d = true
  | [], _, m => by cases m
  | x :: r, h, m => by
    rw [D.flatL, Bool.and_eq_true] at h
    rcases List.mem_cons.mp m with e | m
    · rw [e]; exact h.1
    · exact flat_mem h.2 m
theorem zip_fst {K : PySem.W.Frag} {F : Addr → Prop} {μ : List Addr} {H : Hp} : ∀ {xs : List D} {ws : List V}, RVs K F μ H xs ws → (xs.zip ws).map Prod.fst = xs
  | [], ws, r => by rw [RVs.nil] at r; subst r; rfl
  | x :: xs, ws, r => by
    obtain ⟨v, us, rfl, _, q⟩ := RVs.cons.mp r
    simp [zip_fst q]
theorem rel_zip {K : PySem.W.Frag} {F : Addr → Prop} {μ : List Addr} {H : Hp} : ∀ {l : List (D × V)}, (∀ p ∈ l, RV K F μ H p.1 p.2) → RVs K F μ H (l.map Prod.fst) (l.map Prod.snd)
  | [], _ => RVs.nil.mpr rfl
  | p :: l, h => RVs.mk (h p List.mem_cons_self) (rel_zip fun q hq => h q (List.mem_cons_of_mem _ hq))
theorem zip_rel {K : PySem.W.Frag} {F : Addr → Prop} {μ : List Addr} {H : Hp} : ∀ {xs : List D} {ws : List V}, RVs K F μ H xs ws → ∀ p ∈ xs.zip ws, RV K F μ H p.1 p.2
  | [], ws, r, p, m => by simp at m
  | x :: xs, ws, r, p, m => by
    obtain ⟨v, us, rfl, q1, q⟩ := RVs.cons.mp r
    rcases List.mem_cons.mp m with e | m
    · rw [e]; exact q1
    · exact zip_rel q p m
theorem each_zip {R : Value → D × V → Prop} : ∀ {xs : List D} {ws : List V} {us : List Value}, xs.length = ws.length → Vals ws us → (∀ p ∈ xs.zip ws, ∀ u, RelV p.2 u → R u p) → PySem.W.EachIs R us (xs.zip ws)
  | [], [], _, _, .nil, _ => .nil
  | x :: xs, v :: ws, _, hl, .cons r t, k => .cons (k _ List.mem_cons_self _ r) (each_zip (by simpa using hl) t fun p m u q => k p (List.mem_cons_of_mem _ m) u q)
theorem vals_each : ∀ {us : List Value} {l : List (D × V)}, PySem.W.EachIs (fun u p => RelV p.2 u) us l → Vals (l.map Prod.snd) us
  | _, _, .nil => .nil
  | _, _, .cons h t => .cons h (vals_each t)
section
variable {X : Cx}
def rSrt (K : PySem.W.Frag) : List V → Hp → VK → Prop := fun vs H Q => ∃ Z μ h d xs v, SR K Z μ h H ∧ RV K (Fb Z μ h) μ H d v ∧ vs = [v] ∧ itemsW h d = some xs ∧ D.flatL 60 xs = true ∧ alikeEach xs xs = true ∧ sortable xs = true ∧
  ∀ ws c, RVs K (Fb Z μ h) μ H (sortD xs) ws → H c = none → Q (.ref c) (upd H c (.lst ws))
theorem cr_srt (hd : Deep X) : CallR X (.builtin "sorted") (rSrt X.K) := by
  rintro pins s σ H vs us Q I rv ⟨Z, μ, h, d, xs, v, S, r1, rfl, hx, fl, al, so, q⟩
  obtain ⟨u, rfl, ru⟩ := vals1 rv
  obtain ⟨a, ws, rfl, e1, rs⟩ := S.itemsM r1 hx
  cases ru
  obtain ⟨sz, its, n, rel, hl, at0⟩ := I.lstM e1
  have lz : xs.length = ws.length := rs.len
  have alk : ∀ x ∈ xs, ∀ y ∈ xs, D.alike x y = true := fun x hx y hy => List.all_eq_true.mp (List.all_eq_true.mp al x hx) y hy
  have mem : ∀ p ∈ xs.zip ws, p.1 ∈ xs := fun p m => (List.of_mem_zip m).1
  have enc : (xs.zip ws).map (fun p => p.1.toP) = xs.map D.toP := by
    have := congrArg (List.map D.toP) (zip_fst rs)
    rw [List.map_map] at this
    exact this
  have er : PySem.W.EachIs (fun v (b : D × V) => ∃ as, Reads s.heap v b.1.toP as) its (xs.zip ws) :=
    each_zip lz rel fun p m u ru => Dp.reads I p.1.toP p.2 u (dp_of 60 p.1 p.2 (flat_mem fl (mem p m)) (zip_rel rs p m)) ru
  have sb : PySem.W.Sortable ((xs.zip ws).map fun p => p.1.toP) := by
    rw [enc]
    unfold sortable at so
    rw [Bool.or_eq_true] at so
    rcases so with so | so
    · refine .inl fun d hd => ?_
      obtain ⟨x, hx, rfl⟩ := List.mem_map.mp hd
      have := List.all_eq_true.mp so x hx
      split at this
      · rename_i y ys
        exact ⟨y.toP, D.toPs ys, by simp [D.toP, D.toPs]⟩
      · cases this
    · refine .inr fun d hd => ?_
      obtain ⟨x, hx, rfl⟩ := List.mem_map.mp hd
      have := List.all_eq_true.mp so x hx
      refine ⟨toP_ne_none (alk x hx x hx), fun ys z => ?_⟩
      cases x <;> first | (cases this; done) | (simp [D.toP] at z)
  have hal : PySem.W.AllAlike ((xs.zip ws).map fun p => p.1.toP) := by
    rw [enc]
    intro d hd d' hd'
    obtain ⟨x, hx, rfl⟩ := List.mem_map.mp hd
    obtain ⟨y, hy, rfl⟩ := List.mem_map.mp hd'
    exact alike_toP x y (alk x hx y hy)
  refine PySem.W.sorted_data (bs := xs.zip ws) (R := fun u p => RelV p.2 u) (enc := fun p => p.1.toP) (vs := its) ⟨_, at0, rfl, n, rfl⟩ (each_zip lz rel fun p _ u ru => ru) er hal sb (by rw [List.length_zip, lz, Nat.min_self]; exact sz) (fun p m => ?_) fun out ol eo => ?_
  · have := depth_toP 60 p.1 (flat_mem fl (mem p m))
    unfold Deep at hd
    omega
  · have T : PySem.W.TotalLe (PySem.W.dataLe false fun p : D × V => p.1.toP) := PySem.W.sortLe_total (listOrd itemOrd) false fun p : D × V => PySem.W.keyToks p.1.toP
    have eo' : PySem.W.EachIs (fun u (p : D × V) => RelV p.2 u) out (sortG (PySem.W.dataLe false fun p : D × V => p.1.toP) (xs.zip ws)) := by rw [sortG_eq T]; exact eo
    have lt : ∀ x ∈ xs.zip ws, ∀ y ∈ xs.zip ws, D.lt y.1 x.1 = !PySem.W.dataLe false (fun p : D × V => p.1.toP) x y := fun x hx y hy => by
      rw [PySem.W.dataLe_eq]
      simp only [cond_false, Bool.not_not]
      exact (lt_toP 60 60 y.1 x.1 (flat_mem fl (mem y hy)) (flat_mem fl (mem x hx)) (alk _ (mem y hy) _ (mem x hx))).symm
    have sd := sortD_fst lt
    rw [zip_fst rs] at sd
    obtain ⟨ep, he⟩ := PyProof.Rows.sortedAll_at s.heap its out.toArray
    have fr : H (s.heap.objs.size + 1) = none := I.hok.fresh (Nat.le_succ _)
    have rr := rel_zip (K := X.K) (F := Fb Z μ h) (μ := μ) (H := H) (l := sortG (PySem.W.dataLe false fun p : D × V => p.1.toP) (xs.zip ws)) fun p hp => zip_rel rs p (sortG_mem hp)
    rw [sd] at rr
    have ln : ((sortG (PySem.W.dataLe false fun p : D × V => p.1.toP) (xs.zip ws)).map Prod.snd).length ≤ sizeLine := by
      rw [(vals_each eo').length, ol, List.length_zip, lz, Nat.min_self]
      exact sz
    have new : ObjOk X.prog X.w (upd H (s.heap.objs.size + 1) (.lst ((sortG (PySem.W.dataLe false fun p : D × V => p.1.toP) (xs.zip ws)).map Prod.snd))) (sortedAll s.heap its out.toArray) (s.heap.objs.size + 1) (.lst ((sortG (PySem.W.dataLe false fun p : D × V => p.1.toP) (xs.zip ws)).map Prod.snd)) :=
      ⟨ln, out, ep, vals_each eo', he⟩
    exact ⟨.ref _, _, I.laid (t' := s.toks) (fun _ _ => PyProof.Rows.sortedAll_old) (Nat.le_succ _) new, rfl, q _ _ rr fr⟩
variable {cf : Cf} {W : WX} {a : Expr} {ma : E} {p1 p2 : Pos}
theorem sF_sorted (hd : Deep X) (hg : Gl X "sorted") (hm : X.mg "sorted" = none) (ha : PE X a (rdE X.K cf W ma)) (hp : plainE a = true) : PE X (.Call (.Name "sorted" p1) [a] [] p2) (rdF X.K cf W (.sorted ma)) := by
  refine PE.imp (pe_callB (cr_srt hd) hg hm (by decide +kernel) (pa_one ha hp) (by decide) (by decide) (star_cons hp _ _)) fun σ H Q ⟨Z, μ, h, ρ, B, _, p⟩ => ?_
  simp only [evf] at p
  refine rd1 B p fun d v μ1 h1 H1 B1 t1 r1 p1 => ?_
  cases e : itemsW h1 d with
  | none => rw [e] at p1; exact p1.elim
  | some xs =>
    rw [e] at p1
    simp only at p1
    split at p1
    · rename_i q
      simp only [Bool.and_eq_true] at q
      obtain ⟨_, f⟩ := Post.here B1.sr p1
      exact ⟨Z, μ1, h1, d, xs, v, B1.sr, r1, rfl, e, q.1, q.2.1, q.2.2, fun ws c rw hc => f ws c rw hc⟩
    · exact p1.elim
end
end Ls
/-! Global constants; instances of classes with slots: their fields, isinstance. -/
namespace Ls
open PySem PySem.Spec PyProof.Rows L2
/-- a constant as it lies in the module -/
def RelC : D → Value → Prop
  | .str s, u => ∃ t, u = Value.str ⟨s.toArray⟩ t
  | .int i, u => ∃ t, u = Value.int i t
  | _, _ => False
section
variable {X : Cx} {cf : Cf} {W : WX} {e a : Expr} {me ma : E} {pos pp p2 : Pos}
theorem sE_glb {x : Str} {y : String} {d : D} {u : Value} (hg : Gl X x) (hm : X.mg x = some u) (r : RelC d u) (hd : (x == ("__debug__" : Str)) = false) : PE X (.Name x pos) (rdE X.K cf W (.glb y d)) := by
  cases d with
  | str s =>
    refine PE.imp (pe_glob (v := .str ⟨s.toArray⟩) hg hm r hd) fun σ H Q ⟨Z, μ, h, ρ, B, p⟩ => ?_
    simp only [ev] at p
    exact Post.now B.sr p (RV.str.mpr rfl)
  | int i =>
    refine PE.imp (pe_glob (v := .int i) hg hm r hd) fun σ H Q ⟨Z, μ, h, ρ, B, p⟩ => ?_
    simp only [ev] at p
    exact Post.now B.sr p (RV.int.mpr rfl)
  | _ => exact r.elim
/-- what the text says of the class with this number -/
structure ClsOk (K : PySem.W.Frag) (c : Nat) : Prop where
  sc : ∀ C, PySem.W.nsIn K mainGlobals (clsN c) = some (some (.ref C)) → SlX.SCls K C
  si : ∀ C, PySem.W.nsIn K mainGlobals (clsN c) = some (some (.ref C)) → SlX.SIsi K C
theorem Ob.slt {K : PySem.W.Frag} {F : Addr → Prop} {H : Hp} {b : Addr} {c : Nat} {vs : List V} (x : Ob K F H b c vs) : ∃ C dx, PySem.W.nsIn K mainGlobals (clsN c) = some (some (.ref C)) ∧ SlX.Slt H b C dx (vs.map some) := by
  obtain ⟨C, dx, h1, h2, h3, _⟩ := x.ex
  exact ⟨C, dx, h1, .inr ⟨h2, h3⟩⟩
theorem sE_att {f : Str} {k : Nat} (he : PE X e (rdE X.K cf W me)) (hc : ∀ c C, PySem.W.nsIn X.K mainGlobals (clsN c) = some (some (.ref C)) → SlX.SCls X.K C ∧ ∃ p, SlX.Slot1 X.K C f p k) (hb : noCall0 e = true) :
    PE X (.Attribute e f pos) (rdE X.K cf W (.att me k)) := by
  refine PE.imp (SlX.pe_sl he (attr_base hb f X.env)) fun σ H Q ⟨Z, μ, h, ρ, B, p⟩ => ?_
  simp only [ev] at p
  refine rd1 B p fun d v μ1 h1 H1 B1 t1 r1 p1 => ?_
  cases d with
  | obj c xs =>
    simp only at p1
    obtain ⟨d, e1, q⟩ := Post.lift B1.sr p1
    obtain ⟨b, vs, rfl, o, rs⟩ := RV.obj.mp r1
    obtain ⟨C, dx, g1, g2⟩ := o.slt
    obtain ⟨sc, pq, s1⟩ := hc c C g1
    obtain ⟨w, e2, r2⟩ := rs.get e1
    exact ⟨b, C, dx, pq, _, k, w, rfl, g2, sc, s1, by rw [List.getElem?_map, e2]; rfl, q w r2⟩
  | _ => exact p1.elim
end
end Ls
namespace Ls
open PySem PySem.Spec PyProof.Rows L2
section
variable {X : Cx} {cf : Cf} {W : WX} {a : Expr} {ma : E} {pos pp p2 : Pos}
/-- what the text says of the class Program beside others -/
structure IsC (K : PySem.W.Frag) (C : Addr) : Prop where
  at_ : PySem.W.nsIn K mainGlobals (clsN 0) = some (some (.ref C))
  one : ∀ c D, PySem.W.nsIn K mainGlobals (clsN c) = some (some (.ref D)) → c = 0
  yes : PySem.W.kitOne K (.ref C) (.ref C) = some true
  no : ∀ h d n, dTy h d = some n → PySem.W.kitOne K (.type n) (.ref C) = some false
theorem sE_isc {C : Addr} (no : NoTy X.K) (ic : IsC X.K C) (hg : Gl X "isinstance") (hm : X.mg "isinstance" = none) (hg2 : Gl X "Program") (hm2 : X.mg "Program" = some (.ref C)) (ha : PE X a (rdE X.K cf W ma)) (hp : plainE a = true) :
    PE X (.Call (.Name "isinstance" pp) [a, .Name "Program" p2] [] pos) (rdE X.K cf W (.isc ma)) := by
  refine PE.imp (pe_callB (call_isiO (.ref C)) hg hm boot_isi (pa_cons ha (pa_cons (pe_glob (v := .ref C) hg2 hm2 rfl (by decide)) pa_nil) (star_cons hp _ _)) (by decide) (by decide) (star_cons hp _ _)) fun σ H Q ⟨Z, μ, h, ρ, B, p⟩ => ?_
  simp only [ev] at p
  refine rd1 B p fun d v μ1 h1 H1 B1 t1 r1 p1 => ?_
  by_cases io : isObj d = true
  · cases d with
    | obj c xs =>
      simp only at p1
      obtain ⟨b, vs, rfl, o, rs⟩ := RV.obj.mp r1
      obtain ⟨C', dx, g1, g2, g3, _⟩ := o.ex
      obtain rfl := ic.one c C' g1
      have e := g1.symm.trans ic.at_
      cases e
      obtain ⟨sc, si, _⟩ := no 0 _ g1
      exact .inr ⟨b, _, dx, _, .ref _, true, rfl, rfl, fun w z => z, .inr ⟨g2, g3⟩, sc, si, ic.yes, Post.now B1.sr p1 (RV.bl.mpr rfl)⟩
    | _ => cases io
  have p2 : Post X.K Z μ1 h1 H1 (PV X.K Z Q) (exc X.K Z W) (if (dTy h1 d).isSome then .ok (.bl false) h1 else .stuck) := by
    cases d with
    | obj c xs => exact absurd rfl io
    | _ => exact p1
  split at p2
  · rename_i q
    obtain ⟨n, q⟩ := Option.isSome_iff_exists.mp q
    exact .inl ⟨v, .ref C, .type n, .ref C, false, rfl, .own C, dTy_of B1.sr r1 q, ic.no h1 d n q, Post.now B1.sr p2 (RV.bl.mpr rfl)⟩
  · exact p2.elim
end
end Ls
/-! sep.join(texts) -/
namespace Ls
open PySem PySem.Spec PyProof.Rows L2
theorem joinL_tl (sep : List Nat) : ∀ l : List (List Nat), TL.joinL sep l = joinL sep l
  | [] => rfl
  | [_] => rfl
  | x :: y :: r => by
    have := joinL_tl sep (y :: r)
    simp only [TL.joinL, joinL] at this ⊢
    rw [this, List.append_assoc]
theorem mt_join' {X : Cx} : MtR X "str.join" (rM X.K fun h => mtD h .join) := by
  intro pins s σ H x vs v us Q I rx rv ⟨Z, μ, h, d, xs, r, h', S, rd, rs, g, post⟩
  replace g : mtD h .join d xs = some (r, h') := g
  match xs with
  | [] => simp [mtD] at g
  | _ :: _ :: _ => simp [mtD] at g
  | [y] =>
    obtain ⟨w, rfl, r1⟩ := RVs.one rs
    cases d with
    | str sep =>
      rw [RV.str] at rd
      subst rd
      simp only [mtD] at g
      cases hi : itemsS h y with
      | none => rw [hi] at g; cases g
      | some ys =>
        rw [hi] at g
        simp only [] at g
        cases hl : strsD ys with
        | none => rw [hl] at g; cases g
        | some l =>
          rw [hl] at g
          simp only [] at g
          by_cases hz : (l.map (·.length)).sum + l.length * sep.length ≤ big
          · rw [if_pos hz] at g
            cases g
            obtain ⟨a, ws, rfl, q1, q2⟩ := S.itemsS r1 hi
            have ev := RVs.strsD q2 hl
            subst ev
            refine mt_join pins s σ H _ _ v us Q I rx rv ⟨_, a, l.map SX.S, rfl, rfl, q1, ?_, ?_⟩
            · rw [SX.lens, List.length_map, SX.S_len]; exact hz
            · rw [SX.join_S, joinL_tl]
              exact post μ H S Stp.refl _ (RV.str.mpr rfl)
          · rw [if_neg hz] at g; cases g
    | _ => simp [mtD] at g
/-- a text's method -/
theorem sE_mtS {X : Cx} {cf : Cf} {W : WX} {o e : Expr} {es : List Expr} {apos cpos : Pos} {mo : E} {ms : Es} {m : Mt} {id : String} {name : Str} (slot : Slot "str" name id) (hty : typeOf (.builtin id) = pure (.type "method_descriptor")) (hm : MtR X id (rM X.K fun h => mtD h m)) (hpre : ∀ h d, mtPre h m d = true → ∃ s, d = .str s)
    (ho : PE X o (rdE X.K cf W mo)) (ha : PA X (e :: es) (rdA X.K cf W ms)) (hp : (e :: es).all plainE = true) (hb : noCall0 o = true) (hl : (e :: es).length < 30) (hline : (apos.endLine == cpos.line) = true) :
    PE X (.Call (.Attribute o name apos) (e :: es) [] cpos) (rdE X.K cf W (.mt m mo ms)) := by
  have hp' : plainE e = true ∧ es.all plainE = true := by simpa using hp
  refine PE.imp (pe_bm PySem.F.plainAttrs_str slot hty hm ho ha (attr_base hb _ _) (by rw [star_few hp cpos X.env, decide_eq_true (by simpa using hl)]; rfl) hline (star_cons hp'.1 es X.env) (star_none hp'.2 _ _)) fun σ H Q ⟨Z, μ, h, ρ, B, p⟩ => ?_
  simp only [ev] at p
  refine rd1 B p fun d v μ1 h1 H1 B1 t1 r1 p1 => ?_
  split at p1
  · rename_i hq
    obtain ⟨s, rfl⟩ := hpre _ _ hq
    have r1' := r1
    rw [RV.str] at r1'
    subst r1'
    refine ⟨rfl, ?_⟩
    refine rdA1 B1 p1 fun ys vs μ2 h2 H2 B2 t2 r2 p2 => ?_
    split at p2
    · rename_i r h3 hg
      exact ⟨Z, μ2, h2, _, ys, r, h3, B2.sr, RV.mono B1.sr t2 _ _ r1, r2, hg, p2⟩
    · exact p2.elim
  · exact p1.elim
theorem pre_join (h : Hh) (d : D) (e : mtPre h .join d = true) : ∃ s, d = .str s := by
  cases d with
  | str s => exact ⟨s, rfl⟩
  | _ => simp [mtPre] at e
end Ls
/-! sorted(set(texts)): the set as the model keeps it, its making, its sorting. -/
namespace Ls
open PySem PySem.Spec PyProof.Rows L2 PySem.Froz
/-- at a stands a set of just the texts l -/
def TxS (P : Program) (w : World) (h : Heap) (a : Addr) (l : List Str) : Prop :=
  ∃ D : SD, h.get? a = some (sObj "set" D) ∧ TxOk P w D l ∧ l.Nodup ∧ Ris D.2.2.place.toList ∧ (w.params.followText "set-order" = true ∨ D.2.2.led = true)
theorem TxS.stay {P : Program} {w : World} {h h' : Heap} {a : Addr} {l : List Str} (R : TxS P w h a l) (k : ∀ o, h.get? a = some o → h'.get? a = some o) : TxS P w h' a l := by
  obtain ⟨D, e, r⟩ := R
  exact ⟨D, k _ e, r⟩
theorem offRis (b : Bool) (t : SetTable) : (if b = true then { t with plain := false } else t).place = t.place ∧ (if b = true then { t with plain := false } else t).led = t.led := by
  cases b <;> exact ⟨rfl, rfl⟩
theorem tailTx_ris (ep : Nat) (es : Array (Int × Value)) (t : SetTable) (b : Bool) (r : Ris t.place.toList) : Ris (tailTx ep es t b).2.2.place.toList ∧ (tailTx ep es t b).2.2.led = t.led := by
  unfold tailTx
  by_cases c : (!b && t.tooFull) = true
  · rw [if_pos c]; exact ⟨relayAll_ris t es _, relayAll_led t es _⟩
  · rw [if_neg c]; exact ⟨r, rfl⟩
theorem addTx_ris (hh : Int) (v : Value) (D : SD) (r : Ris D.2.2.place.toList) : Ris (addTx hh v D).2.2.place.toList ∧ (addTx hh v D).2.2.led = D.2.2.led := by
  obtain ⟨o1, o2⟩ := offRis (layNew D.2.2 D.1 hh v).2.1.plain (layNew D.2.2 D.1 hh v).2.1
  have q := tailTx_ris D.2.1 (layNew D.2.2 D.1 hh v).1 (if (layNew D.2.2 D.1 hh v).2.1.plain = true then { (layNew D.2.2 D.1 hh v).2.1 with plain := false } else (layNew D.2.2 D.1 hh v).2.1) (layNew D.2.2 D.1 hh v).2.2.1 (by rw [o1]; exact layNew_ris D.2.2 D.1 hh v r)
  exact ⟨q.1, q.2.trans (o2.trans (layNew_led D.2.2 D.1 hh v))⟩
section
variable {P : Program} {w : World} {A : Around} {E : Value → Shared → Prop} {s : Shared} {a : Addr} {l : List Str} {k : Str} {u : Tok} {Q : Bool → Shared → Prop}
/-- a text that is in the set already -/
theorem add_old {D : SD} (ho : s.heap.get? a = some (sObj "set" D)) (F : TxOk P w D l) (hk : k ∈ l) (hb : l.length + 1 < scanBound) (h : Q false s) : wpAny (model P w) A (setAddHashed a (.str k u) (hashStr w k)) Q E s := by
  obtain ⟨es, ep, t⟩ := D
  have sz : es.size = l.length := F.sz
  unfold setAddHashed; unfold setAddHashedIn; refine wpAny_holding (wpAny_bind (wpAny_setState_of ho (o := sObj "set" (es, ep, t)) rfl F.fit ?_))
  dsimp only
  have small : es.size < scanBound := sz ▸ Nat.lt_of_succ_lt hb
  rw [byScan_of (knd := strKind P w) rfl small F.el, if_pos rfl]
  unfold setAddByScan
  refine wpAny_bind (wpAny_bind (wpAny_rule (wpAny_bind (wpAny_setScan_of (knd := strKind P w) (k := k) (is_str k u) ho rfl F.fit F.el ?_))))
  cases q : List.findIdx? (fun e => (strKind P w).is k e.2) es.toList with
  | none =>
    obtain ⟨e, he, z⟩ := (F.mem k).mp hk
    have := List.findIdx?_eq_none_iff.mp q e he
    rw [z] at this
    cases this
  | some j => exact wpAny_pure (wpAny_pure h)
theorem txs_add (R : TxS P w s.heap a l) (hb : l.length + 1 < scanBound)
    (h : ∀ (b : Bool) (h' : Heap) (l' : List Str), TxS P w h' a l' → Heap.SameBut a s.heap h' → (∀ x, x ∈ l' ↔ x = k ∨ x ∈ l) → l'.length ≤ l.length + 1 → Q b { s with heap := h' }) :
    wpAny (model P w) A (setAddHashed a (.str k u) (hashStr w k)) Q E s := by
  obtain ⟨D, e, F, nd, ri, le⟩ := R
  rcases Classical.em (k ∈ l) with hk | hk
  · refine add_old e F hk hb ?_
    exact h false s.heap l ⟨D, e, F, nd, ri, le⟩ (Heap.SameBut.refl _ _) (fun x => ⟨.inr, fun z => z.elim (fun y => by rw [y]; exact hk) id⟩) (Nat.le_succ _)
  · refine add_x e F hk hb ?_
    obtain ⟨r1, r2⟩ := addTx_ris (hashStr w k) (.str k u) D ri
    refine h true _ (k :: l) ⟨_, get_upd _ e rfl, add_ok u F, List.nodup_cons.mpr ⟨hk, nd⟩, r1, ?_⟩ (Heap.SameBut.update _ _ _) (fun x => List.mem_cons) (Nat.le_refl _)
    rw [r2]; exact le
end
section
variable {P : Program} {w : World} {A : Around} {I : Addr} {fp wr : List Addr} {G : Array GenState → Array GenState → Prop} {n : Nat} {Pv : Nat → Value → Prop} {St : Nat → Shared → Prop} {R : Result → Shared → Prop}
/-- the turns of set(..) over texts -/
theorem set_turns (W : WalksS P w A.in1 I fp wr G n Pv St) (a : Addr) (af : a ∉ fp) (xs : List Str) (nx : n = xs.length) (few : xs.length + 1 < scanBound) (val : ∀ i v, Pv i v → ∃ x t, xs[i]? = some x ∧ v = .str x t) :
    ∀ (k i : Nat) (s : Shared) (l : List Str), n - i = k → i ≤ n → St i s → TxS P w s.heap a l → (∀ x, x ∈ l ↔ x ∈ xs.take i) → l.length ≤ i →
      (∀ s' l', Moved (a :: wr) G s s' → TxS P w s'.heap a l' → (∀ x, x ∈ l' ↔ x ∈ xs) → l'.length ≤ n → R (.ok (.ret .none)) s') →
      codeAny (model P w) A (.builtin "set.update.loop" ⟨[.ref a, .ref I], []⟩) R s := by
  have aw : a ∉ wr := fun z => af (W.sub a z)
  have up : ∀ b ∈ wr, b ∈ a :: wr := fun b z => List.mem_cons_of_mem a z
  intro k
  induction k with
  | zero =>
    intro i s l hk hi st T mem len fin
    obtain rfl : i = n := by omega
    refine codeAny_builtin PyProof.Rows.F.entry_set_update_loop ?_; rw [Around.under_plainId PyProof.Rows.F.plain_set_update_loop]
    refine wpAny_bind (W.done s _ _ st fun s' m => wpAny_pure ?_)
    exact fin s' l (m.mono up) (T.stay fun o e => m.heap a o aw e) (fun x => by rw [mem x, nx, List.take_length]) len
  | succ k ih =>
    intro i s l hk hi st T mem len fin
    have lt : i < n := by omega
    refine codeAny_builtin PyProof.Rows.F.entry_set_update_loop ?_; rw [Around.under_plainId PyProof.Rows.F.plain_set_update_loop]
    refine wpAny_bind (W.item i s _ _ lt st fun v s' pv st' m => ?_)
    obtain ⟨x, t, ex, rfl⟩ := val i v pv
    unfold setAdd
    refine wpAny_bind (wpAny_holding (wpAny_holding (wpAny_bind ((strKind P w).pyHash (k := x) (is_str x t) ?_))))
    refine txs_add (s := { s' with toks := s'.toks + 1 }) (T.stay fun o e => m.heap a o aw e) (by omega) fun b h' l' T' sb mem' len' => ?_
    refine wpAny_pure ⟨plainId_quiet PyProof.Rows.F.plain_set_update_loop _, ih (i + 1) _ l' (by omega) lt (W.frame _ s' _ _ st' (Nat.le_succ _) fun c hc o e => ?_) T' (fun y => ?_) (by omega) fun s2 l2 m2 T2 mem2 len2 => ?_⟩
    · rw [sb.2 c fun z => af (z ▸ hc)]; exact e
    · rw [mem' y, mem y, List.take_add_one, ex, List.mem_append]
      simp only [Option.toList_some, List.mem_singleton]
      exact Or.comm
    · refine fin s2 l2 (Moved.trans W.gtrans ((m.mono up).then_heap (Nat.le_succ _) fun c o hc e => ?_) m2) T2 mem2 len2
      rw [sb.2 c fun z => hc (z ▸ List.mem_cons_self)]; exact e
end
end Ls
/-! set(..) of a list or tuple of texts; sorted of such a set. -/
namespace Ls
open PySem PySem.Spec PyProof.Rows L2 PySem.Froz
/-- a set that holds nothing -/
abbrev nilSet (w : World) : Obj := { cls := .type "set", dict := none, data := .set #[] 0 (.fresh 0 0 (!w.params.followText "set-order")) }
theorem nilSet_tx {P : Program} {w : World} {h : Heap} {a : Addr} (e : h.get? a = some (nilSet w)) : TxS P w h a [] := by
  refine ⟨(#[], 0, .fresh 0 0 (!w.params.followText "set-order")), e, TxOk.nil rfl, List.nodup_nil, List.Pairwise.nil, (?_ : _ ∨ (!w.params.followText "set-order") = true)⟩
  cases w.params.followText "set-order" with
  | true => exact .inl rfl
  | false => exact .inr rfl
/-- what the set's making leaves -/
structure Made (P : Program) (w : World) (s : Shared) (xs : List Str) (h : Heap) : Prop where
  tx : ∃ l, TxS P w h s.heap.objs.size l ∧ (∀ x, x ∈ l ↔ x ∈ xs) ∧ l.length ≤ xs.length
  old : ∀ b o, s.heap.get? b = some o → h.get? b = some o
section
variable {P : Program} {w : World} {s : Shared} {A : Around} {E : Value → Shared → Prop}
/-- how a thing is walked: by which iterator, from where -/
structure Itr (P : Program) (w : World) (l : Addr) (o itO : Obj) (T : String) (items : Array Value) : Prop where
  cls : o.cls = .type T
  ns : isSubtype (.type T) (.type "set") = pure false
  nf : isSubtype (.type T) (.type "frozenset") = pure false
  nd : (Value.type T == Value.type "dict") = false
  start : ∀ (A : Around) (E : Value → Shared → Prop) (s : Shared) (Q : Value → Shared → Prop), s.heap.get? l = some o → Q (.ref s.heap.objs.size) { s with heap := s.heap.push itO } → wpAny (model P w) A (pyIter (.ref l)) Q E s
  fit : ∀ h : Heap, (h.push itO).get? h.objs.size = some itO
  walk : ∀ (A : Around) (I : Addr), A.handled = none → l ≠ I → ∃ St : Nat → Shared → Prop, WalksS P w A I [I, l] [I] (fun a b => b = a) items.size (fun i v => items[i]? = some v) St ∧ ∀ s : Shared, s.heap.get? I = some itO → s.heap.get? l = some o → St 0 s
set_option maxHeartbeats 3200000 in
theorem set_call {l : Addr} {o itO : Obj} {T : String} {items : Array Value} {xs : List Str} {Q : Value → Shared → Prop} (hh : A.handled = none) (ho : s.heap.get? l = some o) (J : Itr P w l o itO T items)
    (hx : ∀ (i : Nat) (v : Value), items[i]? = some v → ∃ x t, xs[i]? = some x ∧ v = Value.str x t) (hn : items.size = xs.length) (few : xs.length + 1 < scanBound)
    (h : ∀ h tk, Made P w s xs h → Q (.ref s.heap.objs.size) { s with heap := h, toks := tk }) : wpAny (model P w) A (call (.type "set") [.ref l]) Q E s := by
  obtain ⟨c0, t0, m0⟩ := F.called_set.mro
  have m1 := F.called_set.made; have m2 := F.called_set.sub; have m3 := F.called_set.notType; have m4 := F.called_set.canCreate; have m5 := F.typeCall_set_1 (.ref l)
  refine wpAny_call (codeAny_of_tree (show wpAny _ _ (callAny (.type "set") _) _ _ _ from wpAny_pure ⟨Code.quiet_builtin _ (by decide +kernel), codeAny_builtin F.entry_type_call ?_⟩))
  rw [Around.under_plain (weight_type_call_type "set" [.ref l] []) rfl]; repeat any_goals first | assumption | wp_step
  refine codeAny_mono (code_set_led1 (.ref l) (E := E) (Q₁ := fun v s1 => v = .ref s.heap.objs.size ∧ s1 = { s with heap := s.heap.push (nilSet w) }) ⟨rfl, rfl⟩) fun r s1 q => ?_
  rcases r with e | f
  · exact q
  rcases f with _ | v | _ | _
  all_goals try exact q.elim
  obtain ⟨rfl, rfl⟩ := q
  have g1 : (s.heap.push (nilSet w)).get? s.heap.objs.size = some (nilSet w) := Heap.get?_push_size _ rfl
  have ty : Shared.TypeIs { s with heap := s.heap.push (nilSet w) } (.ref s.heap.objs.size) "set" := ⟨_, g1, rfl⟩
  have m6 := F.called_set.init.lookup; have m7 := F.called_set.init.bind (.ref s.heap.objs.size)
  repeat any_goals first | assumption | wp_step
  refine codeAny_mono (codeAny_call_builtin (R := wants (fun r s2 => r = .none ∧ ∃ h tk, s2 = { s with heap := h, toks := tk } ∧ Made P w s xs h) E) F.called_set.init.plain F.entry_set_init (check_set_init_1 ty ?_)) fun r s2 q => ?_
  rotate_left
  · rcases r with e | f
    · exact q
    rcases f with _ | v | _ | _
    all_goals try exact q.elim
    obtain ⟨rfl, h', tk, rfl, md⟩ := q
    repeat any_goals first | assumption | wp_step
    exact h h' tk md
  · have g2 : (s.heap.push (nilSet w)).get? l = some o := Heap.get?_push_of_some _ ho
    have m8 := J.ns; have m9 := J.nf; have m10 := J.nd
    obtain ⟨oc, od, oo, os⟩ := o
    obtain rfl : oc = .type T := J.cls
    unfold Builtin.«set.__init__» noKeywords Builtin.Frozenset.updateFrom; generalize pi : pyIter = PI
    wp_walk
    subst pi
    have ll : l < s.heap.objs.size := Heap.lt_size ho
    have z1 : (s.heap.push (nilSet w)).objs.size = s.heap.objs.size + 1 := Heap.size_push ..
    refine J.start _ _ _ _ g2 (wpAny_bind (wpAny_runValue ?_))
    have i1 : l ≠ (s.heap.push (nilSet w)).objs.size := by rw [z1]; exact Nat.ne_of_lt (Nat.lt_succ_of_lt ll)
    obtain ⟨St, W, st0⟩ := J.walk A.in1.in1.in1 (s.heap.push (nilSet w)).objs.size (by simp [hh]) i1
    have g3 : ((s.heap.push (nilSet w)).push itO).get? s.heap.objs.size = some (nilSet w) := Heap.get?_push_of_some _ g1
    refine set_turns W s.heap.objs.size ?_ xs hn few hx (items.size - 0) 0 _ [] rfl (Nat.zero_le _) (st0 _ ?_ (Heap.get?_push_of_some _ g2)) (nilSet_tx g3) (fun x => by simp) (Nat.le_refl _) fun s' l' mv T' mem len => ?_
    · simp only [List.mem_cons, List.not_mem_nil, or_false, not_or]
      exact ⟨by rw [z1]; exact Nat.ne_of_lt (Nat.lt_succ_self _), Nat.ne_of_gt ll⟩
    · exact J.fit _
    · obtain ⟨h', ge, dr, tk, os'⟩ := s'
      obtain rfl : ge = s.gens := mv.gens
      obtain rfl : dr = s.drawn := mv.drawn
      obtain rfl : os' = s.os := mv.os
      refine wpAny_pure (wpAny_pure ⟨rfl, h', tk, rfl, ⟨l', T', mem, by omega⟩, fun b ob e => ?_⟩)
      have lb := Heap.lt_size e
      refine mv.heap b ob ?_ (Heap.get?_push_of_some _ (Heap.get?_push_of_some _ e))
      simp only [List.mem_cons, List.not_mem_nil, or_false, not_or]
      exact ⟨Nat.ne_of_lt lb, by rw [z1]; exact Nat.ne_of_lt (Nat.lt_succ_of_lt lb)⟩
theorem itr_list {l : Addr} {o : Obj} {items : Array Value} {n : Nat} (hc : o.cls = .type "list") (hd : o.data = .seq items n) : Itr P w l o { cls := .type "list_iterator", data := .fields #[.ref l, .int 0 0] } "list" items where
  cls := hc
  ns := F.sub_list_set
  nf := F.sub_list_frozenset
  nd := by decide
  start := fun A E s Q e k => wpAny_pyIter_list ⟨o, e, hc, n, hd⟩ k
  fit := fun h => Heap.get?_push_size _ rfl
  walk := fun A I hh ne => ⟨_, (Walks.list hh I l ne items).toS, fun s e1 e2 => ⟨⟨_, e1, rfl, rfl⟩, ⟨o, e2, hc, n, hd⟩⟩⟩
theorem itr_tuple {l : Addr} {o : Obj} {items : Array Value} {n : Nat} (hc : o.cls = .type "tuple") (hd : o.data = .seq items n) : Itr P w l o { cls := .type "tuple_iterator", data := .fields #[.ref l, .int 0 0] } "tuple" items where
  cls := hc
  ns := F.sub_tuple_set
  nf := F.sub_tuple_frozenset
  nd := by decide
  start := fun A E s Q e k => wpAny_pyIter_tuple ⟨o, e, hc, n, hd⟩ k
  fit := fun h => Heap.get?_push_size _ rfl
  walk := fun A I hh ne => ⟨_, (Walks.tuple hh I l ne items).toS, fun s e1 e2 => ⟨⟨_, e1, rfl, rfl⟩, ⟨o, e2, hc, n, hd⟩⟩⟩
end
end Ls
/-! sorted of a set of texts. -/
namespace Ls
open PySem PySem.Spec PyProof.Rows L2 PySem.Froz
section
variable {P : Program} {w : World} {s : Shared} {A : Around} {E : Value → Shared → Prop}
theorem perm_of_sub {α : Type} [DecidableEq α] : ∀ (l xs : List α), l.Nodup → (∀ x ∈ l, x ∈ xs) → xs.length ≤ l.length → xs.Perm l
  | [], xs, _, _, h => by rw [List.eq_nil_of_length_eq_zero (Nat.le_zero.mp h)]
  | y :: l, xs, n, h, len => by
    obtain ⟨n1, n2⟩ := List.nodup_cons.mp n
    have my : y ∈ xs := h y List.mem_cons_self
    have p := List.perm_cons_erase my
    refine p.trans ((perm_of_sub l (xs.erase y) n2 (fun x hx => ?_) ?_).cons y)
    · exact (List.mem_erase_of_ne (by rintro rfl; exact n1 hx)).mpr (h x (List.mem_cons_of_mem _ hx))
    · rw [List.length_erase_of_mem my]
      simp only [List.length_cons] at len
      omega
theorem strs_each : ∀ {vs : List Value}, (∀ v ∈ vs, ∃ x t, v = Value.str x t) → ∃ xs : List Str, PySem.W.EachIs (fun v x => ∃ t, v = Value.str x t) vs xs
  | [], _ => ⟨[], .nil⟩
  | v :: vs, h => by
    obtain ⟨x, t, e⟩ := h v List.mem_cons_self
    obtain ⟨xs, r⟩ := strs_each fun u hu => h u (List.mem_cons_of_mem _ hu)
    exact ⟨x :: xs, .cons ⟨t, e⟩ r⟩
theorem each_mem_of {vs : List Value} {xs : List Str} (e : PySem.W.EachIs (fun v x => ∃ t, v = Value.str x t) vs xs) : ∀ x t, Value.str x t ∈ vs → x ∈ xs := by
  induction e with
  | nil => intro x t m; cases m
  | cons h _ ih =>
    intro x t m
    rcases List.mem_cons.mp m with q | q
    · obtain ⟨t', q'⟩ := h
      rw [q'] at q
      injection q with q1
      rw [q1]; exact List.mem_cons_self
    · exact List.mem_cons_of_mem _ (ih x t q)
theorem each_imp {R S : Value → Str → Prop} (k : ∀ v x, R v x → S v x) {vs : List Value} {xs : List Str} (e : PySem.W.EachIs R vs xs) : PySem.W.EachIs S vs xs := by
  induction e with
  | nil => exact .nil
  | cons h _ ih => exact .cons (k _ _ h) ih
theorem sorted_tx {a : Addr} {l : List Str} {Q : Value → Shared → Prop} (R : TxS P w s.heap a l) (hh : A.handled = none) (few : l.length + 1 < scanBound) (lz : l.length ≤ sizeLine) (hu : A.units + 10 < cLine)
    (k : ∀ s' p (out : Array Value) (c : Nat) (ys : List Str), (∀ b o, s.heap.get? b = some o → s'.heap.get? b = some o) → s'.gens = s.gens → s'.os = s.os → s.heap.objs.size ≤ p →
      s'.heap.get? p = some (seqObj "list" out c) → PySem.W.EachIs (fun v x => ∃ t, v = Value.str x t) out.toList ys → ys.Perm l → ys.Pairwise (fun x y => x.cps.toList ≤ y.cps.toList) → Q (.ref p) s') : wpAny (model P w) A (call (.builtin "sorted") [.ref a]) Q E s := by
  obtain ⟨D, e, F, nd, ri, le⟩ := R
  have sz : D.1.size = l.length := F.sz
  refine Calls.call_function_entry kind_sorted plain_sorted entry_sorted (args_sorted1 _) ?_; unfold Builtin.«sorted»
  refine wpAny_bind (m := checkCount "sorted" 1 1 _) (wpAny_pure (wpAny_bind (collect_set (es := D.1) (ep := D.2.1) (t := D.2.2) (A := A.in1) hh ⟨_, e, rfl, rfl⟩ F.fit (by omega) ri le fun s1 vs k1 z1 g1 o1 pm => ?_)))
  have sh : ∀ v ∈ vs, ∃ x t, v = Value.str x t := fun v hv => by
    obtain ⟨q, hq, rfl⟩ := List.mem_map.mp (pm.mem_iff.mp hv)
    obtain ⟨⟨x, hx, _⟩, _⟩ := F.el q hq
    obtain ⟨t, z⟩ := Value.isStrOf_shape hx
    exact ⟨x, t, z⟩
  obtain ⟨xs, ea⟩ := strs_each sh
  have vl : vs.length = l.length := by rw [pm.length_eq, List.length_map, Array.length_toList, sz]
  have xp : xs.Perm l := by
    refine perm_of_sub l xs nd (fun x hx => ?_) (by rw [← ea.length, vl]; exact Nat.le_refl _)
    obtain ⟨q, hq, z⟩ := (F.mem x).mp hx
    obtain ⟨t, z'⟩ := Value.isStrOf_shape z
    exact each_mem_of ea x t (pm.mem_iff.mpr (List.mem_map.mpr ⟨q, hq, z'⟩))
  refine wpAny_bind (wpAny_newList ?_ (by rw [vl]; exact lz))
  have ol : (s1.heap.push (seqObj "list" vs.toArray 0)).get? s1.heap.objs.size = some (seqObj "list" vs.toArray 0) := Heap.get?_push_size _ rfl
  refine wpAny_bind (wpAny_holding (PySem.W.list_sort_data (s := { s1 with heap := s1.heap.push (seqObj "list" vs.toArray 0) }) (bs := xs) (R := fun v x => ∃ t, v = Value.str x t) (enc := fun x : Str => PyData.str x) ol ea (each_imp (fun v x ⟨t, z⟩ => ⟨[], by subst z; constructor, by simp⟩) ea)
    (PySem.W.AllAlike.of fun _ _ => rfl) (PySem.W.Sortable.others fun x => ⟨nofun, nofun⟩) (by rw [xp.length_eq]; exact lz) (fun _ _ => ?_) fun out ln eo => ?_))
  · show A.in1.units + 1 + 0 < cLine
    simp
    omega
  · obtain ⟨c, hc⟩ := sortedHeap_at (vs := vs) (out := out.toArray) ol
    refine wpAny_pure ⟨_, rfl, k _ s1.heap.objs.size out.toArray c (xs.mergeSort (PySem.W.dataLe false fun x : Str => PyData.str x)) (fun b u q => ?_) g1 o1 z1 hc (by simpa using eo) ((List.mergeSort_perm xs _).trans xp) ?_⟩
    · have q' := k1 b u q
      have lt := Heap.lt_size q'
      show (sortedHeap (s1.heap.push (seqObj "list" vs.toArray 0)) s1.heap.objs.size vs out.toArray).get? b = some u
      rw [sortedHeap_old (Nat.ne_of_lt lt) (by rw [size_push']; exact Nat.lt_succ_of_lt lt)]
      exact Heap.get?_push_of_some _ q'
    · have T : PySem.W.TotalLe (PySem.W.dataLe false fun x : Str => PyData.str x) := PySem.W.sortLe_total (listOrd itemOrd) false fun x : Str => PySem.W.keyToks (PyData.str x)
      have pw := List.pairwise_mergeSort (le := PySem.W.dataLe false fun x : Str => PyData.str x) T.trans (fun x y => by have := T.total x y; simpa using this) xs
      rw [PySem.W.dataLe_str] at pw ⊢
      exact pw.imp fun z => of_decide_eq_true z
end
end Ls
/-! sorted(set(..)) as an expression. -/
namespace Ls
open PySem PySem.Spec PyProof.Rows L2 PySem.Froz
def TxO (P : Program) (w : World) (a : Addr) (l : List Str) : HO := .ext fun h => TxS P w h a l
theorem TxO.ok {P : Program} {w : World} {H : Hp} {h : Heap} {a : Addr} {l : List Str} (R : TxS P w h a l) : ObjOk P w H h a (TxO P w a l) := by
  obtain ⟨D, e, r⟩ := id R
  exact ⟨R, ⟨_, e⟩, fun h1 h2 p k => TxS.stay p k⟩
/-- the words of texts -/
def tS (x : List Nat) : Str := ⟨x.toArray⟩
section
variable {X : Cx}
theorem tx_vals {K : PySem.W.Frag} {F : Addr → Prop} {μ : List Addr} {H : Hp} : ∀ {xs : List (List Nat)} {ws : List V} {us : List Value}, RVs K F μ H (xs.map D.str) ws → Vals ws us → ∀ (i : Nat) (v : Value), us[i]? = some v → ∃ x t, (xs.map tS)[i]? = some x ∧ v = Value.str x t
  | [], ws, us, r, vv, i, v, e => by
    rw [List.map_nil, RVs.nil] at r; subst r; cases vv; simp at e
  | x :: xs, ws, us, r, vv, i, v, e => by
    obtain ⟨u, ws', rfl, r1, r2⟩ := RVs.cons.mp r
    cases vv with
    | cons h t =>
      rw [RV.str] at r1; subst r1
      obtain ⟨tk, rfl⟩ := h
      cases i with
      | zero => simp at e; exact ⟨_, tk, rfl, e.symm⟩
      | succ i => exact tx_vals r2 t i v (by simpa using e)
/-- set(x), x a list or tuple of texts -/
def rSetTx (K : PySem.W.Frag) (P : Program) (w : World) : List V → Hp → VK → Prop := fun vs H Q => ∃ Z μ h d v, ∃ xs : List (List Nat), SR K Z μ h H ∧ RV K (Fb Z μ h) μ H d v ∧ vs = [v] ∧ itemsS h d = some (xs.map D.str) ∧ xs.length ≤ 4000 ∧
  ∀ (a : Addr) (l : List Str), H a = none → (∀ x, x ∈ l ↔ x ∈ xs.map tS) → l.length ≤ xs.length → Q (.ref a) (upd H a (TxO P w a l))
theorem cr_setTx (hc : X.calm = true) : CallR X (.type "set") (rSetTx X.K X.prog X.w) := by
  rintro pins s σ H vs us Q I rv ⟨Z, μ, h, d, v, xs, S, r1, rfl, hx, few, q⟩
  obtain ⟨u, rfl, ru⟩ := vals1 rv
  obtain ⟨a, ws, rfl, e1, rs⟩ := S.itemsS r1 hx
  cases ru
  have new : H s.heap.objs.size = none := I.hok.fresh (Nat.le_refl _)
  have fin : ∀ (h' : Heap) (tk : Nat), Made X.prog X.w s (xs.map tS) h' → ∃ v' H', Inv X pins σ H' { s with heap := h', toks := tk } ∧ RelV v' (Value.ref s.heap.objs.size) ∧ Q v' H' := by
    rintro h' tk ⟨⟨l, T, mem, len⟩, old⟩
    exact ⟨.ref s.heap.objs.size, _, I.laid (t' := tk) old (Nat.le_refl _) (TxO.ok T), rfl, q _ l new mem (by simpa using len)⟩
  have lw : ws.length = xs.length := by have := rs.len; simpa using this.symm
  have fw : (xs.map tS).length + 1 < scanBound := by rw [List.length_map]; unfold scanBound; omega
  rcases e1 with e1 | e1
  · obtain ⟨its, rel, pl, sz⟩ := I.list e1
    obtain ⟨o, ho, hcl, n, hd⟩ := pl.isList
    refine set_call (I.ok.hd hc) ho (itr_list hcl hd) (fun i v e => tx_vals rs rel i v (by simpa using e)) ?_ fw fin
    have := rel.length
    simp only [List.size_toArray, List.length_map]
    omega
  · obtain ⟨its, rel, tp, sz⟩ := I.tuple e1
    obtain ⟨o, ho, hcl, n, hd⟩ := tp
    refine set_call (I.ok.hd hc) ho (itr_tuple hcl hd) (fun i v e => tx_vals rs rel i v (by simpa using e)) ?_ fw fin
    have := rel.length
    simp only [List.size_toArray, List.length_map]
    omega
def rSrtTx (P : Program) (w : World) : List V → Hp → VK → Prop := fun vs H Q => ∃ (a : Addr) (l : List Str), vs = [V.ref a] ∧ H a = some (TxO P w a l) ∧ l.length ≤ 4000 ∧
  ∀ c (ys : List Str), H c = none → ys.Perm l → ys.Pairwise (fun x y => x.cps.toList ≤ y.cps.toList) → ys.Nodup → Q (.ref c) (upd H c (.lst (ys.map V.str)))
theorem each_vals : ∀ {us : List Value} {ys : List Str}, PySem.W.EachIs (fun v x => ∃ t, v = Value.str x t) us ys → Vals (ys.map V.str) us
  | _, _, .nil => .nil
  | _, _, .cons ⟨t, e⟩ r => .cons ⟨t, e⟩ (each_vals r)
theorem cr_srtTx (hc : X.calm = true) (hd : Deep X) : CallR X (.builtin "sorted") (rSrtTx X.prog X.w) := by
  rintro pins s σ H vs us Q I rv ⟨a, l, rfl, ha, few, q⟩
  have R : TxS X.prog X.w s.heap a l := (I.hok a _ ha).1
  rw [Vals.ref1 rv]
  have sl : (4000 : Nat) ≤ sizeLine := by rw [sizeLine_eq]; decide
  refine sorted_tx R (I.ok.hd hc) (by unfold scanBound; omega) (by omega) (by unfold Deep at hd; omega) fun s' p out c ys k g o hp hg eo pm pw => ?_
  obtain ⟨D, _, _, nd, _⟩ := R
  have new : H p = none := I.hok.fresh hp
  have J : Inv X pins σ (upd H p (.lst (ys.map V.str))) { s with heap := s'.heap, gens := s'.gens, drawn := s'.drawn, toks := s'.toks } :=
    I.call (ch := []) (Un.laid k hp new) (I.hok.laid k hp ⟨by rw [List.length_map, pm.length_eq]; omega, out.toList, c, each_vals eo, hg⟩) (by rw [g]; exact I.bare) (fun _ z => nomatch z)
  obtain ⟨h1, h2, h3, h4, h5⟩ := s'
  obtain rfl : h5 = s.os := o
  exact ⟨.ref p, _, J, rfl, q p ys new pm pw (pm.nodup_iff.mpr nd)⟩
end
end Ls
namespace Ls
open PySem PySem.Spec PyProof.Rows L2 PySem.Froz
theorem ltL_iff : ∀ a b : List Nat, ltL a b = true ↔ a < b
  | [], [] => by simp [ltL]
  | [], _ :: _ => by simp [ltL]
  | _ :: _, [] => by simp [ltL]
  | x :: a, y :: b => by
    rw [List.cons_lt_cons_iff, ← ltL_iff a b]
    simp only [ltL]
    by_cases e : x = y
    · subst e; simp
    · simp [e]
theorem sset_of {l : List (List Nat)} {m ys : List Str} (mem : ∀ x, x ∈ m ↔ x ∈ l.map tS) (pm : ys.Perm m) (pw : ys.Pairwise (fun x y => x.cps.toList ≤ y.cps.toList)) (nd : ys.Nodup) : ys = (ssetS l).map tS := by
  have bk : ∀ y : Str, tS y.cps.toList = y := fun y => by obtain ⟨c⟩ := y; simp [tS]
  have fw : ∀ x : List Nat, (tS x).cps.toList = x := fun x => by simp [tS]
  have z : ys.map (fun y => y.cps.toList) = ssetS l := by
    refine sorted_eq linL ?_ (sset_sorted l) fun x => ?_
    · rw [List.pairwise_map]
      refine (pw.and nd).imp fun {a b} ⟨h1, h2⟩ => ?_
      cases q : ltL a.cps.toList b.cps.toList with
      | true => rfl
      | false =>
        have := ltL_total _ _ (fun e => h2 (by rw [← bk a, ← bk b, e])) q
        exact absurd ((ltL_iff _ _).mp this) (List.not_lt.mpr h1)
    · rw [mem_sset, List.mem_map]
      constructor
      · rintro ⟨y, hy, rfl⟩
        obtain ⟨x, hx, e⟩ := List.mem_map.mp ((mem y).mp (pm.mem_iff.mp hy))
        rw [← e, fw]; exact hx
      · intro hx
        exact ⟨tS x, pm.mem_iff.mpr ((mem _).mpr (List.mem_map.mpr ⟨x, hx, rfl⟩)), fw x⟩
  rw [← z, List.map_map]
  conv => lhs; rw [← List.map_id ys]
  exact List.map_congr_left fun y _ => (bk y).symm
theorem strsD_inv : ∀ {xs : List D} {l : List (List Nat)}, strsD xs = some l → xs = l.map D.str
  | [], l, e => by simp [strsD] at e; subst e; rfl
  | .str x :: r, l, e => by
    simp only [strsD, Option.map_eq_some_iff] at e
    obtain ⟨l', e1, rfl⟩ := e
    rw [strsD_inv e1]; rfl
  | .non :: r, l, e => by simp [strsD] at e
  | .bl _ :: r, l, e => by simp [strsD] at e
  | .int _ :: r, l, e => by simp [strsD] at e
  | .tup _ :: r, l, e => by simp [strsD] at e
  | .lst _ :: r, l, e => by simp [strsD] at e
  | .rol _ :: r, l, e => by simp [strsD] at e
  | .dct _ _ :: r, l, e => by simp [strsD] at e
  | .ref _ :: r, l, e => by simp [strsD] at e
  | .obj _ _ :: r, l, e => by simp [strsD] at e
  | .rot _ :: r, l, e => by simp [strsD] at e
  | .exn _ _ :: r, l, e => by simp [strsD] at e
theorem strs_rel {K : PySem.W.Frag} {F : Addr → Prop} {μ : List Addr} {H : Hp} : ∀ l : List (List Nat), RVs K F μ H (l.map D.str) ((l.map tS).map V.str)
  | [] => RVs.nil.mpr rfl
  | n :: r => RVs.mk (RV.str.mpr rfl) (strs_rel r)
section
variable {X : Cx} {cf : Cf} {W : WX} {a : Expr} {ma : E} {p1 p2 p3 p4 : Pos}
theorem sF_sset (hc : X.calm = true) (hd : Deep X) (hg : Gl X "sorted") (hm : X.mg "sorted" = none) (hg2 : Gl X "set") (hm2 : X.mg "set" = none) (ha : PE X a (rdE X.K cf W ma)) (hp : plainE a = true) :
    PE X (.Call (.Name "sorted" p1) [.Call (.Name "set" p3) [a] [] p4] [] p2) (rdF X.K cf W (.sset ma)) := by
  refine PE.imp (pe_callB (cr_srtTx hc hd) hg hm (by decide +kernel) (pa_one (pe_callTy (cr_setTx hc) hg2 hm2 (by decide +kernel) (pa_one ha hp) (by decide) (by decide) (star_cons hp _ _)) rfl) (by decide) (by decide) (star_cons rfl _ _)) fun σ H Q ⟨Z, μ, h, ρ, B, _, p⟩ => ?_
  simp only [evf] at p
  refine rd1 B p fun d v μ1 h1 H1 B1 t1 r1 p1 => ?_
  cases e : itemsS h1 d with
  | none => rw [e] at p1; exact p1.elim
  | some xs =>
    rw [e] at p1
    simp only at p1
    cases e2 : strsD xs with
    | none => rw [e2] at p1; exact p1.elim
    | some l =>
      rw [e2] at p1
      simp only at p1
      by_cases hl : l.length ≤ 4000
      · rw [if_pos hl] at p1
        cases strsD_inv e2
        refine ⟨Z, μ1, h1, d, v, l, B1.sr, r1, rfl, e, hl, fun a l' ha mem len => ?_⟩
        refine ⟨a, l', rfl, upd_same, by omega, fun c ys hc' pm pw nd => ?_⟩
        obtain ⟨_, f⟩ := p1 μ1 (upd H1 a (TxO X.prog X.w a l')) (B1.sr.new ha) (Stp.new ha)
        cases sset_of mem pm pw nd
        exact f _ c (strs_rel _) hc'
      · rw [if_neg hl] at p1; exact p1.elim
end
end Ls
/-! A call sees only the things that its arguments name. -/
namespace Ls
open PySem PySem.Spec PyProof.Rows L2
section
variable {K : PySem.W.Frag} {F : Addr → Prop} {μ ν : List Addr} {H : Hp}
mutual
theorem RV.freeR : ∀ (d : D) (v : V), d.free = true → RV K F μ H d v → RV K F ν H d v
  | .non, v, _, x => by simpa only [RV] using x
  | .bl _, v, _, x => by simpa only [RV] using x
  | .int _, v, _, x => by simpa only [RV] using x
  | .str _, v, _, x => by simpa only [RV] using x
  | .tup xs, v, f, x => by
    rw [RV] at x ⊢
    exact x.imp fun a ⟨vs, e, p, r⟩ => ⟨vs, e, p, RVs.freeR xs vs (by simpa only [D.free] using f) r⟩
  | .lst xs, v, f, x => by
    rw [RV] at x ⊢
    exact x.imp fun a ⟨vs, e, p, r⟩ => ⟨vs, e, p, RVs.freeR xs vs (by simpa only [D.free] using f) r⟩
  | .rol xs, v, f, x => by
    rw [RV] at x ⊢
    exact x.imp fun a ⟨vs, e, p, r⟩ => ⟨vs, e, p, RVs.freeR xs vs (by simpa only [D.free] using f) r⟩
  | .dct _ kvs, v, f, x => by
    rw [RV] at x ⊢
    exact x.imp fun a ⟨ws, e, p, r⟩ => ⟨ws, e, p, RVk.freeR kvs ws (by simpa only [D.free] using f) r⟩
  | .ref n, v, f, _ => by simp [D.free] at f
  | .obj _ xs, v, f, x => by
    rw [RV] at x ⊢
    exact x.imp fun a ⟨vs, e, p, r⟩ => ⟨vs, e, p, RVs.freeR xs vs (by simpa only [D.free] using f) r⟩
  | .rot xs, v, f, x => by
    rw [RV] at x ⊢
    exact x.imp fun a ⟨vs, e, p, r⟩ => ⟨vs, e, p, RVs.freeR xs vs (by simpa only [D.free] using f) r⟩
  | .exn _ xs, v, f, x => by
    rw [RV] at x ⊢
    exact x.imp fun a ⟨vs, e, p, r⟩ => ⟨vs, e, p, RVs.freeR xs vs (by simpa only [D.free] using f) r⟩
theorem RVs.freeR : ∀ (xs : List D) (vs : List V), D.freeL xs = true → RVs K F μ H xs vs → RVs K F ν H xs vs
  | [], vs, _, x => by simpa only [RVs] using x
  | d :: r, vs, f, x => by
    rw [RVs] at x ⊢
    rw [D.freeL, Bool.and_eq_true] at f
    obtain ⟨v, ws, e, p, q⟩ := x
    exact ⟨v, ws, e, RV.freeR d v f.1 p, RVs.freeR r ws f.2 q⟩
theorem RVk.freeR : ∀ (xs : List (Ky × D)) (vs : List (Ky × V)), D.freeK xs = true → RVk K F μ H xs vs → RVk K F ν H xs vs
  | [], vs, _, x => by simpa only [RVk] using x
  | (k, d) :: r, vs, f, x => by
    rw [RVk] at x ⊢
    rw [D.freeK, Bool.and_eq_true] at f
    obtain ⟨v, ws, e, p, q⟩ := x
    exact ⟨v, ws, e, RV.freeR d v f.1 p, RVk.freeR r ws f.2 q⟩
end
theorem RO.freeR {F' : Addr → Prop} {a : Addr} {o : O} (k : ∀ a, F' a → F a) (f : freeO o = true) (x : RO K F μ H a o) : RO K F' ν H a o := by
  cases o with
  | dead => trivial
  | lst xs => exact x.imp fun vs q => ⟨q.1, RVs.freeR xs vs f (RVs.anti k _ _ q.2)⟩
  | lck xs => exact x.imp fun vs q => ⟨q.1, RVs.freeR xs vs f (RVs.anti k _ _ q.2)⟩
  | dct _ kvs => exact x.imp fun ws q => ⟨q.1, RVk.freeR kvs ws f (RVk.anti k _ _ q.2)⟩
  | dlk _ kvs => exact x.imp fun ws q => ⟨q.1, RVk.freeR kvs ws f (RVk.anti k _ _ q.2)⟩
theorem XR.freeR {F' : Addr → Prop} {x : Xn} {cls : Value} {d : Option Addr} (k : ∀ a, F' a → F a) (f : D.freeL x.fs = true) (e : XR K F μ H x cls d) : XR K F' ν H x cls d := by
  obtain ⟨vs, h1, h2⟩ := e.anti k
  exact ⟨vs, h1, RVs.freeR _ _ f h2⟩
end
/-! ### picking and putting back -/
theorem pick_spec {h : Hh} : ∀ {ns : List Nat} {hl : Hh}, pick h ns = some hl → hl.length = ns.length ∧ ∀ (k n : Nat), ns[k]? = some n → ∃ o, h[n]? = some o ∧ hl[k]? = some o
  | [], hl, e => by
    simp [pick] at e
    subst e
    exact ⟨rfl, fun k n q => by simp at q⟩
  | m :: r, hl, e => by
    unfold pick at e
    rw [List.mapM_cons] at e
    cases q : h[m]? with
    | none => rw [q] at e; simp at e
    | some o =>
      cases q2 : r.mapM fun n => h[n]? with
      | none => rw [q, q2] at e; simp at e
      | some t =>
        rw [q, q2] at e
        simp at e
        subst e
        obtain ⟨l, g⟩ := pick_spec (ns := r) (hl := t) q2
        refine ⟨by simp [l], fun k n z => ?_⟩
        cases k with
        | zero => simp at z; subst z; exact ⟨o, q, rfl⟩
        | succ k => simp at z; obtain ⟨u, z1, z2⟩ := g k n z; exact ⟨u, z1, by simpa using z2⟩
theorem nodup_of : ∀ {l : List Nat}, nodupN l = true → l.Nodup
  | [], _ => List.nodup_nil
  | x :: r, e => by
    simp only [nodupN, Bool.and_eq_true, Bool.not_eq_true', List.contains_eq_mem, decide_eq_false_iff_not] at e
    exact List.nodup_cons.mpr ⟨e.1, nodup_of e.2⟩
theorem putBack_len : ∀ (ns : List Nat) (h os : Hh), (putBack h ns os).length = h.length
  | [], h, os => by simp [putBack]
  | n :: r, h, [] => by simp [putBack]
  | n :: r, h, o :: os => by rw [putBack, putBack_len r, List.length_set]
theorem putBack_out : ∀ (ns : List Nat) (h os : Hh) (m : Nat), m ∉ ns → (putBack h ns os)[m]? = h[m]?
  | [], h, os, m, _ => by simp [putBack]
  | n :: r, h, [], m, _ => by simp [putBack]
  | n :: r, h, o :: os, m, e => by
    rw [List.mem_cons, not_or] at e
    rw [putBack, putBack_out r _ os m e.2, List.getElem?_set_ne (Ne.symm e.1)]
theorem putBack_in : ∀ (ns : List Nat) (h os : Hh) (k n : Nat), ns.Nodup → ns.length ≤ os.length → ns[k]? = some n → n < h.length → (putBack h ns os)[n]? = os[k]?
  | [], h, os, k, n, _, _, e, _ => by simp at e
  | m :: r, h, [], k, n, _, l, _, _ => by simp at l
  | m :: r, h, o :: os, k, n, nd, l, e, hn => by
    obtain ⟨nd1, nd2⟩ := List.nodup_cons.mp nd
    rw [putBack]
    cases k with
    | zero =>
      simp at e; subst e
      rw [putBack_out r _ os m nd1, List.getElem?_set_self hn]
      simp
    | succ k =>
      simp at e
      rw [putBack_in r _ os k n nd2 (by simpa using l) e (by simpa using hn)]
      simp
/-! ### into the call -/
def sel (μ : List Addr) (ns : List Nat) : List Addr := ns.map fun n => (μ[n]?).getD 0
/-- what may change, seen from within: also what lives outside -/
def ZL (Z : Addr → Prop) (μ : List Addr) (h : Hh) (ns : List Nat) : Addr → Prop := fun a => Z a ∨ ∃ (n : Nat) (o : O), μ[n]? = some a ∧ h[n]? = some o ∧ Alive o ∧ n ∉ ns
section
variable {K : PySem.W.Frag} {Z : Addr → Prop} {μ : List Addr} {h hl : Hh} {H : Hp} {ns : List Nat}
theorem sel_get (S : SR K Z μ h H) (p : pick h ns = some hl) {k : Nat} {a : Addr} (e : (sel μ ns)[k]? = some a) : ∃ n, ns[k]? = some n ∧ μ[n]? = some a := by
  unfold sel at e
  rw [List.getElem?_map, Option.map_eq_some_iff] at e
  obtain ⟨n, e1, e2⟩ := e
  obtain ⟨o, q, _⟩ := (pick_spec p).2 k n e1
  have hn : n < μ.length := by rw [S.len]; exact (List.getElem?_eq_some_iff.mp q).1
  rw [List.getElem?_eq_getElem hn, Option.getD_some] at e2
  exact ⟨n, e1, by rw [List.getElem?_eq_getElem hn, e2]⟩
theorem get_sel (S : SR K Z μ h H) (p : pick h ns = some hl) {k n : Nat} (e : ns[k]? = some n) : ∃ a, μ[n]? = some a ∧ (sel μ ns)[k]? = some a := by
  obtain ⟨o, q, _⟩ := (pick_spec p).2 k n e
  have hn : n < μ.length := by rw [S.len]; exact (List.getElem?_eq_some_iff.mp q).1
  refine ⟨μ[n], List.getElem?_eq_getElem hn, ?_⟩
  unfold sel
  rw [List.getElem?_map, e, Option.map_some, List.getElem?_eq_getElem hn, Option.getD_some]
theorem lv_sel (S : SR K Z μ h H) (p : pick h ns = some hl) {a : Addr} (x : Lv (sel μ ns) hl a) : ∃ (k n : Nat) (o : O), ns[k]? = some n ∧ μ[n]? = some a ∧ h[n]? = some o ∧ hl[k]? = some o ∧ Alive o := by
  obtain ⟨k, o, e1, e2, al⟩ := x
  obtain ⟨n, e3, e4⟩ := sel_get S p e1
  obtain ⟨o', q1, q2⟩ := (pick_spec p).2 k n e3
  rw [e2] at q2
  cases q2
  exact ⟨k, n, o, e3, e4, q1, e2, al⟩
theorem fb_in (S : SR K Z μ h H) (p : pick h ns = some hl) (a : Addr) : Fb (ZL Z μ h ns) (sel μ ns) hl a → Fb Z μ h a := by
  rintro ((z | ⟨n, o, e1, e2, e3, _⟩) | x)
  · exact .inl z
  · exact .inr ⟨n, o, e1, e2, e3⟩
  · obtain ⟨k, n, o, _, e1, e2, _, e3⟩ := lv_sel S p x
    exact .inr ⟨n, o, e1, e2, e3⟩
theorem SR.intoL (S : SR K Z μ h H) (p : pick h ns = some hl) (nd : ns.Nodup) (fr : hl.all freeO = true) : SR K (ZL Z μ h ns) (sel μ ns) hl H := by
  refine ⟨by rw [(pick_spec p).1]; simp [sel], fun k m a o o' e1 e2 e3 e4 a1 a2 => ?_, fun a x z => ?_, fun a z => ?_, fun k a o e1 e2 => ?_⟩
  · obtain ⟨n, f1, f2⟩ := sel_get S p e1
    obtain ⟨n', g1, g2⟩ := sel_get S p e2
    obtain ⟨u, q1, q2⟩ := (pick_spec p).2 k n f1
    obtain ⟨u', q3, q4⟩ := (pick_spec p).2 m n' g1
    rw [e3] at q2; cases q2
    rw [e4] at q4; cases q4
    have := S.inj n n' a _ _ f2 g2 q1 q3 a1 a2
    subst this
    exact (List.getElem?_inj (List.getElem?_eq_some_iff.mp f1).1 nd).mp (f1.trans g1.symm)
  · obtain ⟨k, n, o, f1, f2, f3, _, f4⟩ := lv_sel S p x
    rcases z with z | ⟨n', o', g1, g2, g3, g4⟩
    · exact S.nz a ⟨n, o, f2, f3, f4⟩ z
    · have := S.inj n n' a _ _ f2 g1 f3 g2 f4 g3
      subst this
      exact g4 (List.mem_of_getElem? f1)
  · rcases z with z | ⟨n, o, g1, g2, g3, _⟩
    · exact S.zs a z
    · obtain ⟨u, e, _⟩ := RO.there (S.obj n a o g1 g2) g3
      exact ⟨u, e⟩
  · obtain ⟨n, f1, f2⟩ := sel_get S p e1
    obtain ⟨u, q1, q2⟩ := (pick_spec p).2 k n f1
    rw [e2] at q2; cases q2
    exact (S.obj n a o f2 q1).freeR (fb_in S p) (List.all_eq_true.mp fr o (List.mem_of_getElem? e2))
theorem renum_rel (S : SR K Z μ h H) (p : pick h ns = some hl) : ∀ (ds es : List D) (vs : List V) (pre : List Nat), ns = pre ++ refsOf ds → renum pre.length ds = some es → RVs K (Fb Z μ h) μ H ds vs → RVs K (Fb (ZL Z μ h ns) (sel μ ns) hl) (sel μ ns) H es vs
  | [], es, vs, pre, _, e, r => by
    simp [renum] at e
    subst e
    rw [RVs.nil] at r ⊢
    exact r
  | d :: ds, es, vs, pre, en, e, r => by
    obtain ⟨v, ws, rfl, r1, r2⟩ := RVs.cons.mp r
    have plain : (∀ n, d ≠ .ref n) → RVs K (Fb (ZL Z μ h ns) (sel μ ns) hl) (sel μ ns) H es (v :: ws) := by
      intro nr
      have e1 : refsOf (d :: ds) = refsOf ds := by cases d <;> first | rfl | exact absurd rfl (nr _)
      have e2 : renum pre.length (d :: ds) = if d.free then (renum pre.length ds).map (d :: ·) else none := by cases d <;> first | rfl | exact absurd rfl (nr _)
      rw [e2] at e
      split at e
      · rename_i fd
        obtain ⟨es', q1, rfl⟩ := Option.map_eq_some_iff.mp e
        rw [e1] at en
        exact RVs.mk (RV.freeR d v fd (RV.anti (fb_in S p) d v r1)) (renum_rel S p ds es' ws pre en q1 r2)
      · cases e
    cases d with
    | ref n =>
      simp only [renum] at e
      obtain ⟨es', q1, rfl⟩ := Option.map_eq_some_iff.mp e
      have en' : ns = (pre ++ [n]) ++ refsOf ds := by rw [en]; simp [refsOf]
      have at0 : ns[pre.length]? = some n := by rw [en]; simp [refsOf]
      obtain ⟨a, rfl, q2⟩ := RV.ref.mp r1
      obtain ⟨a', q3, q4⟩ := get_sel S p at0
      rw [q2] at q3; cases q3
      exact RVs.mk (RV.ref.mpr ⟨a, rfl, q4⟩) (renum_rel S p ds es' ws (pre ++ [n]) en' (by simpa using q1) r2)
    | _ => exact plain (fun _ z => nomatch z)
/-! ### and back -/
variable {μ' : List Addr} {hl' : Hh} {H' : Hp}
theorem comeBack (S : SR K Z μ h H) (p : pick h ns = some hl) (nd : ns.Nodup) (S' : SR K (ZL Z μ h ns) μ' hl' H') (t : Stp (sel μ ns) hl H μ' hl' H') (fr : (hl'.take ns.length).all freeO = true) :
    SR K Z μ (putBack h ns hl') H' ∧ Stp μ h H μ (putBack h ns hl') H' ∧ ∀ a, Fb Z μ (putBack h ns hl') a → Fb (ZL Z μ h ns) μ' hl' a := by
  have ll : ns.length ≤ hl'.length := by rw [← (pick_spec p).1]; exact t.hl
  have hin : ∀ {k n : Nat}, ns[k]? = some n → ∃ o o', h[n]? = some o ∧ hl[k]? = some o ∧ hl'[k]? = some o' ∧ (putBack h ns hl')[n]? = some o' ∧ freeO o' = true := by
    intro k n e
    obtain ⟨o, q1, q2⟩ := (pick_spec p).2 k n e
    have hk : k < ns.length := (List.getElem?_eq_some_iff.mp e).1
    have hk' : k < hl'.length := Nat.lt_of_lt_of_le hk ll
    have hn : n < h.length := (List.getElem?_eq_some_iff.mp q1).1
    refine ⟨o, hl'[k], q1, q2, List.getElem?_eq_getElem hk', by rw [putBack_in ns h hl' k n nd ll e hn, List.getElem?_eq_getElem hk'], List.all_eq_true.mp fr _ ?_⟩
    exact List.mem_of_getElem? (i := k) (by rw [List.getElem?_take_of_lt hk, List.getElem?_eq_getElem hk'])
  have alive : ∀ {k : Nat} {o o' : O}, hl[k]? = some o → hl'[k]? = some o' → Alive o' → Alive o := by
    intro k o o' e e' al
    refine Alive.of_not_dead ?_
    rintro rfl
    have := t.dead k e
    rw [e'] at this; cases this
    exact al
  have old : ∀ {n : Nat} {o' : O}, (putBack h ns hl')[n]? = some o' → (n ∉ ns ∧ h[n]? = some o') ∨ ∃ (k : Nat) (o : O), ns[k]? = some n ∧ h[n]? = some o ∧ hl[k]? = some o ∧ hl'[k]? = some o' ∧ freeO o' = true := by
    intro n o' e
    by_cases hm : n ∈ ns
    · obtain ⟨k, hk⟩ := List.getElem?_of_mem hm
      obtain ⟨o, o2, q1, q2, q3, q4, q5⟩ := hin hk
      rw [e] at q4; cases q4
      exact .inr ⟨k, o, hk, q1, q2, q3, q5⟩
    · rw [putBack_out ns h hl' n hm] at e
      exact .inl ⟨hm, e⟩
  have was : ∀ {n : Nat} {o' : O}, (putBack h ns hl')[n]? = some o' → Alive o' → ∃ o, h[n]? = some o ∧ Alive o := by
    intro n o' e al
    rcases old e with ⟨_, q⟩ | ⟨k, o, _, q1, q2, q3, _⟩
    · exact ⟨o', q, al⟩
    · exact ⟨o, q1, alive q2 q3 al⟩
  have tt : Stp μ h H μ (putBack h ns hl') H' := by
    refine ⟨⟨[], by simp, by simp⟩, by rw [putBack_len]; exact Nat.le_refl _, fun n e => ?_, fun n xs e => ?_, fun n b xs e => ?_, t.dom, fun a o e nl => t.frm a o e fun x => ?_⟩
    · by_cases hm : n ∈ ns
      · obtain ⟨k, hk⟩ := List.getElem?_of_mem hm
        obtain ⟨o, o2, q1, q2, q3, q4, _⟩ := hin hk
        rw [e] at q1; cases q1
        rw [q4, ← q3]; exact t.dead k q2
      · rw [putBack_out ns h hl' n hm]; exact e
    · by_cases hm : n ∈ ns
      · obtain ⟨k, hk⟩ := List.getElem?_of_mem hm
        obtain ⟨o, o2, q1, q2, q3, q4, _⟩ := hin hk
        rw [e] at q1; cases q1
        rw [q4, ← q3]; exact t.lck k xs q2
      · rw [putBack_out ns h hl' n hm]; exact e
    · by_cases hm : n ∈ ns
      · obtain ⟨k, hk⟩ := List.getElem?_of_mem hm
        obtain ⟨o, o2, q1, q2, q3, q4, _⟩ := hin hk
        rw [e] at q1; cases q1
        rw [q4, ← q3]; exact t.dlk k b xs q2
      · rw [putBack_out ns h hl' n hm]; exact e
    · obtain ⟨k, n, o, _, f2, f3, _, f4⟩ := lv_sel S p x
      exact nl ⟨n, o, f2, f3, f4⟩
  have fbb : ∀ a, Fb Z μ (putBack h ns hl') a → Fb (ZL Z μ h ns) μ' hl' a := by
    rintro a (z | ⟨n, o', e1, e2, al⟩)
    · exact .inl (.inl z)
    · rcases old e2 with ⟨hm, q⟩ | ⟨k, o, hk, q1, q2, q3, _⟩
      · exact .inl (.inr ⟨n, o', e1, q, al, hm⟩)
      · obtain ⟨a', g1, g2⟩ := get_sel S p hk
        rw [e1] at g1; cases g1
        exact .inr ⟨k, o', t.ix g2, q3, al⟩
  refine ⟨⟨by rw [putBack_len]; exact S.len, fun n m a o o' e1 e2 e3 e4 a1 a2 => ?_, fun a x => ?_, fun a z => ?_, fun n a o' e1 e2 => ?_⟩, tt, fbb⟩
  · obtain ⟨u, f1, f2⟩ := was e3 a1
    obtain ⟨u', g1, g2⟩ := was e4 a2
    exact S.inj n m a u u' e1 e2 f1 g1 f2 g2
  · obtain ⟨n, o', e1, e2, al⟩ := x
    obtain ⟨u, f1, f2⟩ := was e2 al
    exact S.nz a ⟨n, u, e1, f1, f2⟩
  · obtain ⟨o, e⟩ := S.zs a z
    exact t.dom a o e
  · rcases old e2 with ⟨hm, q⟩ | ⟨k, o, hk, q1, q2, q3, fo⟩
    · by_cases al : Alive o'
      · refine RO.move S tt (fun u e => t.frm a _ e fun x => ?_) (S.obj n a o' e1 q)
        obtain ⟨k', n', u, f1, f2, f3, _, f4⟩ := lv_sel S p x
        have := S.inj n n' a _ _ e1 f2 q f3 al f4
        subst this
        exact hm (List.mem_of_getElem? f1)
      · cases o' with
        | dead => trivial
        | _ => exact absurd trivial al
    · obtain ⟨a', g1, g2⟩ := get_sel S p hk
      rw [e1] at g1; cases g1
      exact (S'.obj k a o' (t.ix g2) q3).freeR fbb fo
end
end Ls
/-! Calls of defs, and a def's promise. -/
namespace Ls
open PySem PySem.Spec PyProof.Rows L2
/-- a def's promise: it runs as the small one -/
def spR (K : PySem.W.Frag) (run : List D → Hh → R D) : Sp := fun vs H Q E => ∃ Z μ h ds, SR K Z μ h H ∧ RVs K (Fb Z μ h) μ H ds vs ∧ Post K Z μ h H (PV K Z Q) (excE K Z E) (run ds h)
section
variable {K : PySem.W.Frag} {Z : Addr → Prop} {μ : List Addr} {h : Hh} {H : Hp} {ds : List D} {vs : List V} {Q : VK} {run : List D → Hh → R D} {E : XK}
theorem spR_local (S : SR K Z μ h H) (r : RVs K (Fb Z μ h) μ H ds vs) (p : Post K Z μ h H (PV K Z Q) (excE K Z E) (localCall run ds h)) : spR K run vs H Q E := by
  unfold localCall at p
  split at p
  rotate_left
  · exact p.elim
  rename_i nd
  split at p
  rotate_left
  · exact p.elim
  rename_i es hl re pk
  split at p
  rotate_left
  · exact p.elim
  rename_i fr
  have nod := nodup_of nd
  refine ⟨ZL Z μ h (refsOf ds), sel μ (refsOf ds), hl, es, S.intoL pk nod fr, renum_rel S pk ds es vs [] rfl re r, ?_⟩
  cases e : run es hl with
  | stuck => rw [e] at p; exact p
  | err x hl' =>
    rw [e] at p
    simp only at p
    split at p
    · rename_i z
      rw [Bool.and_eq_true] at z
      intro μ' H' S' t
      obtain ⟨g1, g2, g3⟩ := comeBack S pk nod S' t z.2
      exact fun cls d xr => p μ H' g1 g2 cls d (xr.freeR g3 z.1)
    · exact p.elim
  | ok d hl' =>
    rw [e] at p
    simp only [handBack] at p
    split at p
    rotate_left
    · exact p.elim
    rename_i fr'
    intro μ' H' S' t v rv
    obtain ⟨g1, g2, g3⟩ := comeBack S pk nod S' t fr'
    have plain : (∀ j, d ≠ .ref j) → Post K Z μ h H (PV K Z Q) (excE K Z E) (if d.free then .ok d (putBack h (refsOf ds) hl') else .stuck) → Q v H' := by
      intro _ p
      split at p
      · rename_i fd
        exact p μ H' g1 g2 v (RV.freeR d v fd (RV.anti g3 d v rv))
      · exact p.elim
    cases d with
    | ref j =>
      simp only at p
      obtain ⟨a, rfl, ea⟩ := RV.ref.mp rv
      cases q : (refsOf ds)[j]? with
      | some n =>
        rw [q] at p
        obtain ⟨a', q1, q2⟩ := get_sel S pk q
        have := t.ix q2
        rw [ea] at this; cases this
        exact p μ H' g1 g2 _ (RV.ref.mpr ⟨a, rfl, q1⟩)
      | none =>
        rw [q] at p
        simp only at p
        cases q3 : hl'[j]? with
        | none => rw [q3] at p; exact p.elim
        | some o =>
          rw [q3] at p
          simp only at p
          split at p
          rotate_left
          · exact p.elim
          rename_i fo
          -- a new thing comes back
          have hj : (sel μ (refsOf ds)).length ≤ j := by
            have := List.getElem?_eq_none_iff.mp q
            simpa [sel] using this
          have new : H a = none := by
            obtain ⟨ν, en, hν⟩ := t.pre
            rw [en, List.getElem?_append_right hj] at ea
            exact hν a (List.mem_of_getElem? ea)
          have nlv : ∀ {n : Nat} {u : O}, μ[n]? = some a → (putBack h (refsOf ds) hl')[n]? = some u → ¬ Alive u := by
            intro n u e1 e2 al
            have nl : ¬ Lv μ h a := fun x => S.fresh new (.inr x)
            obtain ⟨u0, e3⟩ : ∃ u0, h[n]? = some u0 := ⟨_, List.getElem?_eq_getElem (by rw [← putBack_len (refsOf ds) h hl']; exact (List.getElem?_eq_some_iff.mp e2).1)⟩
            have du : u0 = .dead := by
              cases u0 with
              | dead => rfl
              | _ => exact (nl ⟨n, _, e1, e3, trivial⟩).elim
            subst du
            have := g2.dead n e3
            rw [e2] at this; cases this
            exact al
          have zn : ¬ Z a := fun z => by obtain ⟨u, e⟩ := S.zs a z; rw [new] at e; cases e
          have low : ∀ {n : Nat} {b : Addr} {u : O}, (μ ++ [a])[n]? = some b → (putBack h (refsOf ds) hl' ++ [o])[n]? = some u → (n < μ.length ∧ μ[n]? = some b ∧ (putBack h (refsOf ds) hl')[n]? = some u) ∨ (n = μ.length ∧ b = a ∧ u = o) := by
            intro n b u e1 e2
            by_cases hn : n < μ.length
            · rw [List.getElem?_append_left hn] at e1
              rw [List.getElem?_append_left (by rw [← g1.len]; exact hn)] at e2
              exact .inl ⟨hn, e1, e2⟩
            · have hn' : n = μ.length := by
                have := (List.getElem?_eq_some_iff.mp e1).1
                rw [List.length_append, List.length_singleton] at this
                omega
              subst hn'
              rw [List.getElem?_append_right (Nat.le_refl _), Nat.sub_self] at e1
              rw [g1.len, List.getElem?_append_right (Nat.le_refl _), Nat.sub_self] at e2
              cases e1; cases e2
              exact .inr ⟨rfl, rfl, rfl⟩
          have fb4 : ∀ b, Fb Z (μ ++ [a]) (putBack h (refsOf ds) hl' ++ [o]) b → Fb Z μ (putBack h (refsOf ds) hl') b ∨ (b = a ∧ Alive o) := by
            rintro b (z | ⟨n, u, e1, e2, al⟩)
            · exact .inl (.inl z)
            · rcases low e1 e2 with ⟨_, f1, f2⟩ | ⟨_, rfl, rfl⟩
              · exact .inl (.inr ⟨n, u, f1, f2, al⟩)
              · exact .inr ⟨rfl, al⟩
          have t4 : Stp μ h H (μ ++ [a]) (putBack h (refsOf ds) hl' ++ [o]) H' := by
            refine ⟨⟨[a], rfl, fun b hb => by rw [List.mem_singleton] at hb; rw [hb]; exact new⟩, by rw [List.length_append, putBack_len]; exact Nat.le_add_right _ _, fun n e => ?_, fun n xs e => ?_, fun n b xs e => ?_, g2.dom, g2.frm⟩
            · have := g2.dead n e
              rw [List.getElem?_append_left (List.getElem?_eq_some_iff.mp this).1]; exact this
            · have := g2.lck n xs e
              rw [List.getElem?_append_left (List.getElem?_eq_some_iff.mp this).1]; exact this
            · have := g2.dlk n b xs e
              rw [List.getElem?_append_left (List.getElem?_eq_some_iff.mp this).1]; exact this
          have fb5 : ∀ b, Fb Z (μ ++ [a]) (putBack h (refsOf ds) hl' ++ [o]) b → Fb (ZL Z μ h (refsOf ds)) μ' hl' b := by
            intro b x
            rcases fb4 b x with x | ⟨rfl, al⟩
            · exact g3 b x
            · exact .inr ⟨j, o, ea, q3, al⟩
          refine p (μ ++ [a]) H' ⟨by rw [List.length_append, List.length_append, g1.len]; rfl, fun n m b u u' e1 e2 e3 e4 a1 a2 => ?_, fun b x z => ?_, g1.zs, fun n b u e1 e2 => ?_⟩ t4 _ (RV.ref.mpr ⟨a, rfl, by rw [← g1.len]; simp⟩)
          · rcases low e1 e3 with ⟨_, f1, f2⟩ | ⟨f0, f1, f2⟩
            · rcases low e2 e4 with ⟨_, k1, k2⟩ | ⟨k0, k1, k2⟩
              · exact g1.inj n m b u u' f1 k1 f2 k2 a1 a2
              · subst k1; exact (nlv f1 f2 a1).elim
            · rcases low e2 e4 with ⟨_, k1, k2⟩ | ⟨k0, k1, k2⟩
              · subst f1; exact (nlv k1 k2 a2).elim
              · rw [f0, k0]
          · obtain ⟨n, u, e1, e2, al⟩ := x
            rcases low e1 e2 with ⟨_, f1, f2⟩ | ⟨f0, f1, f2⟩
            · exact g1.nz b ⟨n, u, f1, f2, al⟩ z
            · exact zn (f1 ▸ z)
          · rcases low e1 e2 with ⟨_, f1, f2⟩ | ⟨f0, f1, f2⟩
            · by_cases hm : n ∈ refsOf ds
              · obtain ⟨k, hk⟩ := List.getElem?_of_mem hm
                have hkl : k < hl'.length := by
                  have h1 := (List.getElem?_eq_some_iff.mp hk).1
                  have h2 := t.hl
                  rw [(pick_spec pk).1] at h2
                  omega
                obtain ⟨b', k1, k2⟩ := get_sel S pk hk
                rw [f1] at k1; cases k1
                have hn : n < h.length := by rw [← S.len]; exact (List.getElem?_eq_some_iff.mp f1).1
                have h2 := t.hl
                rw [(pick_spec pk).1] at h2
                rw [putBack_in (refsOf ds) h hl' k n nod h2 hk hn] at f2
                refine (S'.obj k b u (t.ix k2) f2).freeR fb5 (List.all_eq_true.mp fr' u (List.mem_of_getElem? (i := k) ?_))
                rw [List.getElem?_take_of_lt (List.getElem?_eq_some_iff.mp hk).1]
                exact f2
              · rw [putBack_out _ _ _ _ hm] at f2
                by_cases al : Alive u
                · refine RO.move S t4 (fun w e => t.frm b _ e fun x => ?_) (S.obj n b u f1 f2)
                  obtain ⟨k', n', u', y1, y2, y3, _, y4⟩ := lv_sel S pk x
                  have := S.inj n n' b _ _ f1 y2 f2 y3 al y4
                  subst this
                  exact hm (List.mem_of_getElem? y1)
                · cases u with
                  | dead => trivial
                  | _ => exact absurd trivial al
            · subst f1 f2
              exact (S'.obj j b u ea q3).freeR fb5 fo
    | _ => exact plain (fun _ z => nomatch z) p
end
/-! ### calls -/
/-- what is known of the def with this name: its promise covers the small call i -/
structure Known (X : Cx) (cf : Cf) (i : Nat) (x : Str) (ps : List Str) (f : Addr) (fd : FuncData) (k : Nat) (sp : Sp) : Prop where
  ok : FnOk X.prog X.w X.K X.mg X.base (L2.CX X.prog X.w) k f fd ps sp
  room : Room k X.A
  glob : X.mg x = some (.ref f)
  keep : PySem.W.keepIn X.K (.ref f) = true
  bind : Binds X.K fd ps []
  cov : ∀ Z μ h H ds vs Q E, SR X.K Z μ h H → RVs X.K (Fb Z μ h) μ H ds vs → Post X.K Z μ h H (PV X.K Z Q) (excE X.K Z E) (cf i ds h) → sp vs H Q E
section
variable {X : Cx} {cf : Cf} {W : WX} {i : Nat} {x : Str} {ps : List Str} {f : Addr} {fd : FuncData} {k : Nat} {sp : Sp} {p pos : Pos} {e : Expr} {es : List Expr} {ms : Es}
theorem sE_call (th : Thr X W) (kn : Known X cf i x ps f fd k sp) (hg : Gl X x) (ha : PA X (e :: es) (rdA X.K cf W ms)) (hp : (e :: es).all plainE = true) (hd : (x == ("__debug__" : Str)) = false) : PE X (.Call (.Name x p) (e :: es) [] pos) (rdE X.K cf W (.call i ms [])) := by
  have hp' : plainE e = true ∧ es.all plainE = true := by simpa using hp
  refine PE.imp (pe_call (dvs := []) (E := EW W) kn.ok kn.room hg kn.glob kn.keep kn.bind .nil th ha hd (star_cons hp'.1 es X.env) (star_none hp'.2 _ _)) fun σ H Q ⟨Z, μ, h, ρ, B, q⟩ => ?_
  simp only [ev, permD] at q
  refine rdA1 B q fun xs vs μ1 h1 H1 B1 t1 r1 p1 => ?_
  rw [List.append_nil]
  exact kn.cov Z μ1 h1 H1 xs vs Q _ B1.sr r1 p1
theorem sE_call0 (th : Thr X W) (kn : Known X cf i x ps f fd k sp) (hg : Gl X x) (hd : (x == ("__debug__" : Str)) = false) : PE X (.Call (.Name x p) [] [] pos) (rdE X.K cf W (.call i .nil [])) := by
  refine PE.imp (pe_call0 (dvs := []) (E := EW W) kn.ok kn.room hg kn.glob kn.keep kn.bind .nil th hd) fun σ H Q ⟨Z, μ, h, ρ, B, q⟩ => ?_
  simp only [ev, evs, bind_ok, permD] at q
  exact kn.cov Z μ h H [] [] Q _ B.sr (RVs.nil.mpr rfl) q
end
/-! ### a def's body -/
section
variable {P : Program} {w : World} {K : PySem.W.Frag} {mg : Str → Option Value} {base : Heap} {x qual : Str} {st : Stmt} {f : Addr} {fd : FuncData} {N ps : List Str} {k : Nat} {cf : Cf} {fn : Fn}
theorem ok_of (F : Fun K x qual st f fd) (S : FnScope N ps (defScope st)) (np : fn.np = ps.length) (nn : fn.ns = N.length)
    (body : ∀ cdv A outer s H E, Room k (A.deeper (envOfC qual (defScope st) s.heap.objs.size f cdv)) → PSs (cxOf (L2.CX P w) P w K mg base N qual (defScope st) f cdv A outer s H E) (defBody st) (rdSs K cf (fun cls d _ H => E cls d H) fn.body)) :
    FnOk P w K mg base (L2.CX P w) (k + 1) f fd ps (spR K (runFn cf fn)) := by
  refine F.okX S (fun vs H Q E ⟨Z, μ, h, ds, _, r, q⟩ => ?_) fun cdv A outer s H vs Q E room ⟨Z, μ, h, ds, sr, r, q⟩ => ?_
  · unfold runFn at q
    split at q
    · rename_i z; rw [← r.len, z.1, np]
    · exact q.elim
  · unfold runFn at q
    split at q
    rotate_left
    · exact q.elim
    rename_i z
    refine ⟨_, body cdv A outer s H E room, Z, μ, h, ds.map some ++ List.replicate (fn.ns - fn.np) none, ⟨sr, ?_⟩, ?_⟩
    · have lv := r.len
      refine ⟨by simp [L2.start, z.1, nn, ← lv], fun i d e => ?_⟩
      by_cases hi : i < ds.length
      · rw [List.getElem?_append_left (by simpa using hi), List.getElem?_map, Option.map_eq_some_iff] at e
        obtain ⟨d', e1, e2⟩ := e
        cases e2
        obtain ⟨v, g1, g2⟩ := r.get e1
        exact ⟨v, by unfold L2.start; rw [List.getElem?_append_left (by rw [List.length_map, ← lv]; exact hi), List.getElem?_map, g1]; rfl, g2⟩
      · rw [List.getElem?_append_right (by simpa using hi)] at e
        have := List.mem_of_getElem? e
        rw [List.mem_replicate] at this
        cases this.2
    · generalize hr : exs cf fn.body (ds.map some ++ List.replicate (fn.ns - fn.np) none) h = r0 at q
      cases r0 with
      | stuck => exact q
      | err y h1 => exact fun μ1 H1 S1 t1 cls d xr σ => q μ1 H1 S1 t1 cls d xr
      | ok fl h1 => cases fl with
        | nx ρ => exact fun μ1 H1 S1 t1 σ1 _ => q μ1 H1 S1 t1 _ (RV.non.mpr rfl)
        | rt d => exact q
        | bk ρ => exact q.elim
        | ct ρ => exact q.elim
end
end Ls
/-! Calls of defs with keywords. -/
namespace Ls
open PySem PySem.Spec PyProof.Rows L2
theorem PK.imp {X : Cx} {ks : List Keyword} {t t' : TA} (h : PK X ks t) (k : ∀ σ H Q, t' σ H Q → t σ H Q) : PK X ks t' := ⟨fun pos pins s σ H Q I q => h.run pos pins s σ H Q I (k σ H Q q)⟩
/-- the values in the parameters' order -/
def permVs {α : Type} (z : α) (kn : Nat) (p : List Nat) (us ws : List α) : List α := if us.length + kn = p.length ∧ ws.length = kn then p.map fun j => (us ++ ws).getD j z else []
/-- just n, none with a star -/
def Es.is : Nat → Es → Bool
  | 0, .nil => true
  | n + 1, .cons _ r => Es.is n r
  | _, _ => false
theorem evs_is {cf : Cf} {ρ : Ev} : ∀ {n : Nat} {es : Es} {h h' : Hh} {xs : List D}, Es.is n es = true → evs cf es ρ h = .ok xs h' → xs.length = n
  | 0, .nil, h, h', xs, _, e => by simp only [evs] at e; cases e; rfl
  | n + 1, .cons a r, h, h', xs, i, e => by
    simp only [evs] at e
    cases q : ev cf a ρ h with
    | stuck => rw [q] at e; cases e
    | err x h1 => rw [q] at e; cases e
    | ok d h1 =>
      rw [q] at e
      simp only [bind_ok] at e
      cases q2 : evs cf r ρ h1 with
      | stuck => rw [q2] at e; cases e
      | err x h2 => rw [q2] at e; cases e
      | ok ys h2 =>
        rw [q2] at e
        simp only [bind_ok] at e
        cases e
        rw [List.length_cons, evs_is (n := n) i q2]
  | 0, .cons _ _, h, h', xs, i, e => by simp [Es.is] at i
  | 0, .star _ _, h, h', xs, i, e => by simp [Es.is] at i
  | n + 1, .nil, h, h', xs, i, e => by simp [Es.is] at i
  | n + 1, .star _ _, h, h', xs, i, e => by simp [Es.is] at i
def Es.take : Nat → Es → Es
  | 0, _ => .nil
  | n + 1, .cons e r => .cons e (Es.take n r)
  | _ + 1, e => e
def Es.drop : Nat → Es → Es
  | 0, e => e
  | n + 1, .cons _ r => Es.drop n r
  | _ + 1, _ => .nil
theorem is_take : ∀ {a b : Nat} {es : Es}, Es.is (a + b) es = true → Es.is a (es.take a) = true ∧ Es.is b (es.drop a) = true
  | 0, b, es, h => by rw [Nat.zero_add] at h; exact ⟨rfl, by simpa [Es.drop] using h⟩
  | a + 1, b, .cons e r, h => by
    rw [show a + 1 + b = a + b + 1 by omega] at h
    have := is_take (a := a) (b := b) (es := r) h
    exact ⟨this.1, this.2⟩
  | a + 1, b, .nil, h => by rw [show a + 1 + b = a + b + 1 by omega] at h; simp [Es.is] at h
  | a + 1, b, .star _ _, h => by rw [show a + 1 + b = a + b + 1 by omega] at h; simp [Es.is] at h
theorem evs_split {cf : Cf} {ρ : Ev} : ∀ (n : Nat) (es : Es) (h : Hh), evs cf es ρ h = (evs cf (es.take n) ρ h).bind fun xs h1 => (evs cf (es.drop n) ρ h1).bind fun ys h2 => .ok (xs ++ ys) h2
  | 0, es, h => by
    simp only [Es.take, Es.drop, evs, bind_ok, List.nil_append]
    cases evs cf es ρ h <;> rfl
  | n + 1, .cons e r, h => by
    simp only [Es.take, Es.drop, evs]
    cases ev cf e ρ h with
    | stuck => rfl
    | err x h1 => rfl
    | ok d h1 =>
      simp only [bind_ok]
      rw [evs_split n r h1]
      cases evs cf (r.take n) ρ h1 with
      | stuck => rfl
      | err x h2 => rfl
      | ok xs h2 =>
        simp only [bind_ok]
        cases evs cf (r.drop n) ρ h2 <;> rfl
  | n + 1, .nil, h => by simp [Es.take, Es.drop, evs]
  | n + 1, .star e r, h => by
    simp only [Es.take, Es.drop]
    cases q : evs cf (.star e r) ρ h with
    | stuck => rfl
    | err x h2 => rfl
    | ok xs h2 => simp [evs]
section
variable {K : PySem.W.Frag} {F : Addr → Prop} {μ : List Addr} {H : Hp}
theorem permD_rel : ∀ {p : List Nat} {xs zs : List D} {vs : List V}, p.mapM (fun j => xs[j]?) = some zs → RVs K F μ H xs vs → RVs K F μ H zs (p.map fun j => vs.getD j V.non)
  | [], xs, zs, vs, e, r => by
    simp at e
    subst e
    exact RVs.nil.mpr rfl
  | j :: p, xs, zs, vs, e, r => by
    rw [List.mapM_cons] at e
    cases q : xs[j]? with
    | none => rw [q] at e; simp at e
    | some d =>
      cases q2 : p.mapM fun j => xs[j]? with
      | none => rw [q, q2] at e; simp at e
      | some t =>
        rw [q, q2] at e
        simp at e
        subst e
        obtain ⟨v, e1, e2⟩ := r.get q
        rw [List.map_cons, List.getD_eq_getElem?_getD, e1]
        exact RVs.mk e2 (permD_rel q2 r)
end
section
variable {X : Cx} {cf : Cf} {W : WX}
theorem sK_nil : PK X [] (rdA X.K cf W .nil) := PK.imp pk_nil fun σ H Q ⟨Z, μ, h, ρ, B, p⟩ => by
  simp only [evs] at p
  exact p μ H B.sr Stp.refl [] (RVs.nil.mpr rfl)
theorem sK_cons {e : Expr} {nm : Option Str} {kp : Pos} {ks : List Keyword} {a : E} {r : Es} (ha : PE X e (rdE X.K cf W a)) (hr : PK X ks (rdA X.K cf W r)) : PK X (⟨nm, e, kp⟩ :: ks) (rdA X.K cf W (.cons a r)) := by
  refine PK.imp (pk_cons ha hr) fun σ H Q ⟨Z, μ, h, ρ, B, p⟩ => ?_
  simp only [evs] at p
  refine rd1 B p fun d v μ1 h1 H1 B1 t1 r1 p1 => ?_
  refine rdA1 B1 p1 fun xs vs μ2 h2 H2 B2 t2 r2 p2 => ?_
  exact p2 μ2 H2 B2.sr Stp.refl (v :: vs) (RVs.mk (RV.mono B1.sr t2 _ _ r1) r2)
theorem kw_names {ks : List Keyword} {names : List Str} {env : Env} {pos : Pos} (h : ks.map (fun k => k.arg) = names.map some) : (backToKw pos (keywordEach ks env)).all (·.1.isSome) = true ∧ (backToKw pos (keywordEach ks env)).filterMap (·.1) = names ∧ (backToKw pos (keywordEach ks env)).any (·.1.isNone) = false := by
  induction ks generalizing names with
  | nil => cases names with
    | nil => exact ⟨rfl, rfl, rfl⟩
    | cons _ _ => cases h
  | cons k r ih => cases names with
    | nil => cases h
    | cons x xs =>
      obtain ⟨nm, v, p⟩ := k
      simp only [List.map_cons, List.cons.injEq] at h
      obtain ⟨rfl, h⟩ := h
      obtain ⟨i1, i2, i3⟩ := ih h
      refine ⟨?_, ?_, ?_⟩
      · show (true && (backToKw pos (keywordEach r env)).all (·.1.isSome)) = true
        rw [i1]; rfl
      · show x :: (backToKw pos (keywordEach r env)).filterMap (·.1) = _
        rw [i2]
      · show (false || (backToKw pos (keywordEach r env)).any (·.1.isNone)) = false
        rw [i3]; rfl
variable {i : Nat} {x : Str} {ps : List Str} {f : Addr} {fd : FuncData} {k : Nat} {sp : Sp} {p pos : Pos} {e : Expr} {es : List Expr} {ks : List Keyword} {ms : Es} {perm : List Nat} {names : List Str}
/-- .. and its arguments bind by these names -/
abbrev KwB (X : Cx) (fd : FuncData) (ps names : List Str) (perm : List Nat) : Prop := KBinds X.K fd ps names (permVs Value.none names.length perm) (permVs V.non names.length perm)
/-- .. knowing what was evaluated -/
theorem rdA1e {α : Type} {P : α → List Addr → Hh → Hp → Prop} {σ : L2.St} {H : Hp} {Z : Addr → Prop} {μ : List Addr} {h : Hh} {ρ : Ev} {es : Es} {f : List D → Hh → R α} {Q : List V → Hp → Prop} (B : Beside X.K σ H Z μ h ρ) (p : Post X.K Z μ h H P (exc X.K Z W) ((evs cf es ρ h).bind f))
    (k : ∀ xs vs μ1 h1 H1, evs cf es ρ h = .ok xs h1 → Beside X.K σ H1 Z μ1 h1 ρ → Stp μ h H μ1 h1 H1 → RVs X.K (Fb Z μ1 h1) μ1 H1 xs vs → Post X.K Z μ1 h1 H1 P (exc X.K Z W) (f xs h1) → Q vs H1) : rdA X.K cf W es σ H Q := by
  refine ⟨Z, μ, h, ρ, B, ?_⟩
  have p' := Post.bind B.sr p
  cases e : evs cf es ρ h with
  | stuck => rw [e] at p'; exact p'
  | err x h1 => rw [e] at p'; exact p'
  | ok xs h1 =>
    rw [e] at p'
    exact fun μ1 H1 S1 t1 vs r => k xs vs μ1 h1 H1 e (B.mono S1 t1) t1 r (p' μ1 H1 S1 t1)
theorem cov_perm (kn : Known X cf i x ps f fd k sp) (hp : perm ≠ []) {Z : Addr → Prop} {μ : List Addr} {h : Hh} {H : Hp} {xs : List D} {vs : List V} {Q : VK} (S : SR X.K Z μ h H) (r : RVs X.K (Fb Z μ h) μ H xs vs)
    (q : Post X.K Z μ h H (PV X.K Z Q) (exc X.K Z W) (match permD perm xs with | some ys => cf i ys h | none => .stuck)) : sp (perm.map fun j => vs.getD j V.non) H Q (EW W) := by
  have ep : permD perm xs = perm.mapM fun j => xs[j]? := by cases perm with
    | nil => exact absurd rfl hp
    | cons _ _ => rfl
  rw [ep] at q
  cases e : perm.mapM fun j => xs[j]? with
  | none => rw [e] at q; exact q.elim
  | some ys =>
    rw [e] at q
    exact kn.cov Z μ h H ys _ Q _ S (permD_rel e r) q
/-- f(k = v, ..): no positional ones -/
theorem sE_callK0 (th : Thr X W) (kn : Known X cf i x ps f fd k sp) (hg : Gl X x) (kb : KwB X fd ps names perm) (hp : perm ≠ []) (hk : PK X ks (rdA X.K cf W ms)) (hn : ks.map (fun k => k.arg) = names.map some) (hd : (x == ("__debug__" : Str)) = false) (his : Es.is names.length ms = true) (hpn : names.length = perm.length) :
    PE X (.Call (.Name x p) [] ks pos) (rdE X.K cf W (.call i ms perm)) := by
  refine ⟨fun pins s σ H Q I ⟨Z, μ, h, ρ, B, q⟩ => ?_⟩
  obtain ⟨n1, n2, n3⟩ := kw_names (env := X.env) (pos := pos) hn
  simp only [ev] at q
  have q' : rdA X.K cf W ms σ H fun zs H2 => sp (permVs V.non names.length perm [] zs) H2 Q (EW W) := rdA1e B q fun xs vs μ1 h1 H1 e1 B1 t1 r1 p1 => by
    have l1 := evs_is his e1
    have l2 := r1.len
    unfold permVs
    rw [if_pos ⟨by simpa using hpn, by omega⟩, List.nil_append]
    exact cov_perm kn hp B1.sr r1 p1
  refine wpAny_Call_Name_kw (ld_glob I hg kn.glob (PySem.W.callWith_KW0 (first := []) (h₀ := X.base) I.ok.mod.kin kn.keep n1 (thn (hk.run pos pins s σ H _ I q') ?_) (by rw [n3]; rfl)) hd)
  rintro ws s2 ⟨zs, H2, I2, rz, q2⟩
  rw [n2]
  exact ⟨I2.kIn, run_fnk (us := []) (vs := []) kn.ok kn.room kb th I2 .nil rz q2⟩
/-- f(e, .., k = v, ..) -/
theorem sE_callK (th : Thr X W) (kn : Known X cf i x ps f fd k sp) (hg : Gl X x) (kb : KwB X fd ps names perm) (hp : perm ≠ []) (ha : PA X (e :: es) (rdA X.K cf W (ms.take (e :: es).length))) (hpl : (e :: es).all plainE = true)
    (hk : PK X ks (rdA X.K cf W (ms.drop (e :: es).length))) (hn : ks.map (fun k => k.arg) = names.map some) (hd : (x == ("__debug__" : Str)) = false) (his : Es.is ((e :: es).length + names.length) ms = true) (hpn : (e :: es).length + names.length = perm.length) : PE X (.Call (.Name x p) (e :: es) ks pos) (rdE X.K cf W (.call i ms perm)) := by
  obtain ⟨n1, n2, n3⟩ := kw_names (env := X.env) (pos := pos) hn
  have hp' : plainE e = true ∧ es.all plainE = true := by simpa using hpl
  refine PE.imp (pe_callK kn.ok kn.room hg kn.glob kn.keep kb th ha hk n1 n2 hd (star_cons hp'.1 es X.env) (by rw [star_none hpl, n3]; rfl)) fun σ H Q ⟨Z, μ, h, ρ, B, q⟩ => ?_
  simp only [ev] at q
  rw [evs_split (e :: es).length ms h, bind_assoc] at q
  obtain ⟨i1, i2⟩ := is_take his
  refine rdA1e B q fun xs vs μ1 h1 H1 e1 B1 t1 r1 p1 => ?_
  rw [bind_assoc] at p1
  refine rdA1e B1 p1 fun ys ws μ2 h2 H2 e2 B2 t2 r2 p2 => ?_
  have l1 := evs_is i1 e1
  have l2 := evs_is i2 e2
  have l3 := r1.len
  have l4 := r2.len
  show sp (permVs V.non names.length perm vs ws) H2 Q (EW W)
  unfold permVs
  rw [if_pos ⟨by omega, by omega⟩]
  exact cov_perm kn hp B2.sr ((RVs.mono B1.sr t2 _ _ r1).app r2) p2
end
end Ls
/-! Properties of an instance; Program(e). -/
namespace Ls
open PySem PySem.Spec PyProof.Rows L2
section
variable {K : PySem.W.Frag} {F : Addr → Prop} {μ : List Addr} {H H' : Hp} {x dx C : Addr}
/-- the instance in the making is none of the data -/
structure Apart (H H' : Hp) (x dx C : Addr) : Prop where
  ix : H x = some (.ins C dx [])
  ow : H dx = some (.own x)
  eq : ∀ b, b ≠ x → b ≠ dx → H' b = H b
theorem Apart.at_ (p : Apart H H' x dx C) {b : Addr} {o : HO} (e : H b = some o) (n1 : o ≠ .ins C dx []) (n2 : o ≠ .own x) : H' b = some o := by
  rw [p.eq b ?_ ?_]
  · exact e
  · rintro rfl; rw [p.ix] at e; exact n1 (Option.some.inj e).symm
  · rintro rfl; rw [p.ow] at e; exact n2 (Option.some.inj e).symm
theorem Xo.over {a : Addr} {c : Nat} {vs : List V} (p : Apart H H' x dx C) (o : Xo K F H a c vs) : Xo K F H' a c vs := by
  obtain ⟨cls, d, h1, h2, h3⟩ := o.ex
  refine ⟨cls, d, ⟨h1.at0, ?_⟩, p.at_ h2 (fun z => nomatch z) (fun z => nomatch z), h3⟩
  rcases h1.dx with q | ⟨dd, f, e, q1, q2, q3⟩
  · exact .inl q
  · exact .inr ⟨dd, f, e, p.at_ q1 (fun z => nomatch z) (fun z => nomatch z), q2, q3⟩
mutual
theorem RV.over (p : Apart H H' x dx C) : ∀ (d : D) (v : V), RV K F μ H d v → RV K F μ H' d v
  | .non, v, r => by simpa only [RV] using r
  | .bl _, v, r => by simpa only [RV] using r
  | .int _, v, r => by simpa only [RV] using r
  | .str _, v, r => by simpa only [RV] using r
  | .tup xs, v, r => by
    rw [RV] at r ⊢
    obtain ⟨a, vs, e, tp, r⟩ := r
    exact ⟨a, vs, e, p.at_ tp (fun z => nomatch z) (fun z => nomatch z), RVs.over p xs vs r⟩
  | .lst xs, v, r => by
    rw [RV] at r ⊢
    obtain ⟨a, vs, e, tp, r⟩ := r
    exact ⟨a, vs, e, ⟨p.at_ tp.1 (fun z => nomatch z) (fun z => nomatch z), tp.2⟩, RVs.over p xs vs r⟩
  | .rol xs, v, r => by
    rw [RV] at r ⊢
    obtain ⟨a, vs, e, tp, r⟩ := r
    refine ⟨a, vs, e, ?_, RVs.over p xs vs r⟩
    rcases tp with ⟨e1 | ⟨o, e1⟩, n⟩ | tp
    · exact .inl ⟨.inl (p.at_ e1 (fun z => nomatch z) (fun z => nomatch z)), n⟩
    · exact .inl ⟨.inr ⟨o, p.at_ e1 (fun z => nomatch z) (fun z => nomatch z)⟩, n⟩
    · exact .inr tp
  | .dct _ kvs, v, r => by
    rw [RV] at r ⊢
    obtain ⟨a, ws, e, tp, r⟩ := r
    obtain ⟨o, f1, f2, f3⟩ := tp.1.at_
    exact ⟨a, ws, e, ⟨f3 _ (p.at_ f1 (fun z => by rw [z] at f2; exact f2) (fun z => by rw [z] at f2; exact f2)), tp.2⟩, RVk.over p kvs ws r⟩
  | .ref n, v, r => by rw [RV] at r ⊢; exact r
  | .obj _ xs, v, r => by
    rw [RV] at r ⊢
    obtain ⟨a, vs, e, o, r⟩ := r
    obtain ⟨C', dx', h1, h2, h3, h4, h5⟩ := o.ex
    exact ⟨a, vs, e, ⟨C', dx', h1, p.at_ h2 (fun z => nomatch z) (fun z => nomatch z), p.at_ h3 (fun z => nomatch z) (fun z => nomatch z), h4, h5⟩, RVs.over p xs vs r⟩
  | .rot xs, v, r => by
    rw [RV] at r ⊢
    obtain ⟨a, vs, e, o, r⟩ := r
    exact ⟨a, vs, e, o, RVs.over p xs vs r⟩
  | .exn _ xs, v, r => by
    rw [RV] at r ⊢
    obtain ⟨a, vs, e, o, r⟩ := r
    exact ⟨a, vs, e, o.over p, RVs.over p xs vs r⟩
theorem RVs.over (p : Apart H H' x dx C) : ∀ (xs : List D) (vs : List V), RVs K F μ H xs vs → RVs K F μ H' xs vs
  | [], vs, r => by simpa only [RVs] using r
  | d :: l, vs, r => by
    rw [RVs] at r ⊢
    obtain ⟨v, ws, e, q1, q2⟩ := r
    exact ⟨v, ws, e, RV.over p d v q1, RVs.over p l ws q2⟩
theorem RVk.over (p : Apart H H' x dx C) : ∀ (xs : List (Ky × D)) (vs : List (Ky × V)), RVk K F μ H xs vs → RVk K F μ H' xs vs
  | [], vs, r => by simpa only [RVk] using r
  | (k, d) :: l, vs, r => by
    rw [RVk] at r ⊢
    obtain ⟨v, ws, e, q1, q2⟩ := r
    exact ⟨v, ws, e, RV.over p d v q1, RVk.over p l ws q2⟩
end
theorem SR.over {Z : Addr → Prop} {h : Hh} (p : Apart H H' x dx C) (hx : ∃ o, H' x = some o) (hd : ∃ o, H' dx = some o) (S : SR K Z μ h H) : SR K Z μ h H' where
  len := S.len
  inj := S.inj
  nz := S.nz
  zs := fun a z => by
    by_cases e1 : a = x
    · subst e1; exact hx
    · by_cases e2 : a = dx
      · subst e2; exact hd
      · rw [p.eq a e1 e2]; exact S.zs a z
  obj := fun n a o q1 q2 => by
    have ob := S.obj n a o q1 q2
    cases o with
    | dead => trivial
    | lst xs => obtain ⟨vs, e, r⟩ := ob; exact ⟨vs, p.at_ e (fun z => nomatch z) (fun z => nomatch z), RVs.over p xs vs r⟩
    | lck xs => obtain ⟨vs, e, r⟩ := ob; exact ⟨vs, p.at_ e (fun z => nomatch z) (fun z => nomatch z), RVs.over p xs vs r⟩
    | dct _ _ => obtain ⟨ws, e, r⟩ := ob; obtain ⟨o, f1, f2, f3⟩ := e.at_; exact ⟨ws, f3 _ (p.at_ f1 (fun z => by rw [z] at f2; exact f2) (fun z => by rw [z] at f2; exact f2)), RVk.over p _ ws r⟩
    | dlk _ _ => obtain ⟨ws, e, r⟩ := ob; obtain ⟨o, f1, f2, f3⟩ := e.at_; exact ⟨ws, f3 _ (p.at_ f1 (fun z => by rw [z] at f2; exact f2) (fun z => by rw [z] at f2; exact f2)), RVk.over p _ ws r⟩
end
theorem cx_none {P : Program} {w : World} {outer : List Env} {H : Hp} {s s' : Shared} {e : Value} (h : L2.CX P w outer H s E0 e s') : False := by
  obtain ⟨_, _, _, _, _, _, _, _, _, _, _, _, z⟩ := h
  exact z
theorem Post.uncalm {α : Type} {K : PySem.W.Frag} {Z : Addr → Prop} {μ : List Addr} {h : Hh} {H : Hp} {P : α → List Addr → Hh → Hp → Prop} {Ex Ex' : Xn → List Addr → Hh → Hp → Prop} {r : R α} (p : Post K Z μ h H P Ex r.calm) : Post K Z μ h H P Ex' r := by
  cases r with
  | stuck => exact p
  | ok a h1 => exact p
  | err x h1 => exact p.elim
section
variable {X : Cx} {cf : Cf} {W : WX} {e a : Expr} {me ma : E} {pos pp : Pos} {i k : Nat} {sp : Sp}
/-- e.f, a property: def i -/
theorem sE_prop {f : Str} {C p g : Addr} (at0 : PySem.W.nsIn X.K mainGlobals (clsN 0) = some (some (.ref C))) (one : ∀ c D, PySem.W.nsIn X.K mainGlobals (clsN c) = some (some (.ref D)) → c = 0)
    (c : SlX.SCls X.K C) (at_ : PySem.W.findIn X.K (.ref C) f = some (some (.ref p))) (get : PySem.W.specialIn X.K (.ref p) "__get__" = some (some (.builtin "property.__get__"))) (tk : PySem.W.takesIn X.K (.ref p) = some true)
    (rc : ∃ rest, PySem.W.recIn X.K p "property" = some (.ref g :: rest)) (F : FnR X.prog X.w X.K X.mg X.base (L2.CX X.prog X.w) k g sp) (hr : Room (k + 1) X.A)
    (cov : ∀ Z μ h H ds vs Q E, SR X.K Z μ h H → RVs X.K (Fb Z μ h) μ H ds vs → Post X.K Z μ h H (PV X.K Z Q) (excE X.K Z E) (cf i ds h) → sp vs H Q E)
    (he : PE X e (rdE X.K cf W me)) (hb : noCall0 e = true) : PE X (.Attribute e f pos) (rdE X.K cf W (.prop i me)) := by
  refine PE.imp (SlX.pe_propSl (E := E0) he c at_ get tk rc F hr (fun _ _ _ _ z => cx_none z) (attr_base hb f X.env)) fun σ H Q ⟨Z, μ, h, ρ, B, p⟩ => ?_
  simp only [ev] at p
  refine rd1 B p fun d v μ1 h1 H1 B1 t1 r1 p1 => ?_
  cases d with
  | obj n xs =>
    simp only at p1
    obtain ⟨b, vs, rfl, o, rs⟩ := RV.obj.mp r1
    obtain ⟨C', dx, g1, g2⟩ := o.slt
    obtain rfl := one n C' g1
    cases g1.symm.trans at0
    exact ⟨b, dx, _, rfl, g2, cov Z μ1 h1 H1 [.obj 0 xs] [.ref b] Q E0 B1.sr (RVs.mk r1 (RVs.nil.mpr rfl)) p1.uncalm⟩
  | _ => exact p1.elim
/-- what Program.__init__ promises, beside tupled -/
def spI (C : Addr) (spT : Sp) : Sp := fun vs H Q _ => ∃ b dx v, vs = [.ref b, v] ∧ H b = some (.ins C dx []) ∧ dx ≠ b ∧ spT [v] H (fun w H2 => H2 b = some (.ins C dx []) ∧ Q .non (SlX.slH H2 b C dx [some w])) E0
theorem sE_newp {C fI : Addr} {fd : FuncData} {spT : Sp} (at0 : PySem.W.nsIn X.K mainGlobals (clsN 0) = some (some (.ref C))) (M : Mk X.K C fI) (FI : FnOk X.prog X.w X.K X.mg X.base CX0 k fI fd ["self", "deeds"] (spI C spT)) (hr : Room (k + 1) X.A)
    (hg : Gl X "Program") (hm : X.mg "Program" = some (.ref C)) (hb : Binds X.K fd ["self", "deeds"] [])
    (cov : ∀ Z μ h H ds vs Q E, SR X.K Z μ h H → RVs X.K (Fb Z μ h) μ H ds vs → Post X.K Z μ h H (PV X.K Z Q) (excE X.K Z E) (cf i ds h) → spT vs H Q E)
    (ha : PE X a (rdE X.K cf W ma)) (hp : plainE a = true) : PE X (.Call (.Name "Program" pp) [a] [] pos) (rdE X.K cf W (.newp i ma)) := by
  refine PE.imp (pe_make (E := E0) M FI hr hg hm hb .nil pass0 (pa_one ha hp) (by decide) (star_cons hp _ _)) fun σ H Q ⟨Z, μ, h, ρ, B, p⟩ => ?_
  simp only [ev] at p
  refine rd1 B p fun d v μ1 h1 H1 B1 t1 r1 p1 => ?_
  intro x dx hx hdx ne
  have n1 : upd H1 dx (.own x) x = none := by rw [upd_ne (Ne.symm ne)]; exact hx
  have S3 : SR X.K Z μ1 h1 (upd (upd H1 dx (.own x)) x (.ins C dx [])) := (B1.sr.new hdx).new n1
  have t3 : Stp μ1 h1 H1 μ1 h1 (upd (upd H1 dx (.own x)) x (.ins C dx [])) := Stp.trans B1.sr.len (Stp.new hdx) (Stp.new n1)
  refine ⟨x, dx, v, rfl, upd_same, ne, ?_⟩
  refine cov Z μ1 h1 _ [d] [v] _ E0 S3 (RVs.mk (RV.mono B1.sr t3 d v r1) (RVs.nil.mpr rfl)) ?_
  have q := Post.bind S3 (Post.shift B1.sr t3 p1)
  cases er : cf i [d] h1 with
  | stuck => rw [er] at q; exact q.elim
  | err z h2 => rw [er] at q; exact q.elim
  | ok y h2 =>
    rw [er] at p1
    intro μ2 H2 S2 t2 w rw2
    simp only [R.calm, bind_ok] at p1
    split at p1
    rotate_left
    · exact p1.elim
    have fx : ¬ Lv μ1 h1 x := fun z => B1.sr.fresh hx (.inr z)
    have fd : ¬ Lv μ1 h1 dx := fun z => B1.sr.fresh hdx (.inr z)
    have e1 : H2 x = some (.ins C dx []) := t2.frm x _ upd_same fx
    have e2 : H2 dx = some (.own x) := t2.frm dx _ (by rw [upd_ne ne, upd_same]) fd
    refine ⟨e1, rfl, ?_⟩
    have ap : Apart H2 (SlX.slH H2 x C dx [some w]) x dx C := ⟨e1, e2, fun b b1 b2 => SlX.slH_ne b1 b2⟩
    have s1 : SlX.slH H2 x C dx [some w] x = some (SlX.SlO x C dx [some w]) := upd_same
    have s2 : SlX.slH H2 x C dx [some w] dx = some (.xd []) := by unfold SlX.slH; rw [upd_ne ne, upd_same]
    have S4 := S2.over ap ⟨_, s1⟩ ⟨_, s2⟩
    have t4 : Stp μ1 h1 H1 μ2 h2 (SlX.slH H2 x C dx [some w]) := by
      have t := t3.trans B1.sr.len t2
      have nn : ∀ b o, H1 b = some o → b ≠ x ∧ b ≠ dx := fun b o e => ⟨(by rintro rfl; rw [hx] at e; cases e), (by rintro rfl; rw [hdx] at e; cases e)⟩
      refine ⟨t.pre, t.hl, t.dead, t.lck, t.dlk, fun b o e => ?_, fun b o e nl => ?_⟩
      · obtain ⟨o', e'⟩ := t.dom b o e
        exact ⟨o', by rw [ap.eq b (nn b o e).1 (nn b o e).2]; exact e'⟩
      · rw [ap.eq b (nn b o e).1 (nn b o e).2]; exact t.frm b o e nl
    have nf : ∀ b, H1 b = none → ¬ Lv μ1 h1 b → (∀ u, H2 b = some u → ¬ Chg u) → ¬ Fb Z μ2 h2 b := by
      rintro b hb _ nl (z | ⟨n, o, q1, q2, q3⟩)
      · obtain ⟨o, eo⟩ := B1.sr.zs b z; rw [hb] at eo; cases eo
      · have ob := S2.obj n b o q1 q2
        cases o with
        | dead => exact q3
        | lst xs => obtain ⟨vs, e, _⟩ := ob; exact nl _ e trivial
        | lck xs => obtain ⟨vs, e, _⟩ := ob; exact nl _ e trivial
        | dct _ _ => obtain ⟨ws, e, _⟩ := ob; obtain ⟨u, f1, f2, _⟩ := e.at_; exact nl u f1 f2
        | dlk _ _ => obtain ⟨ws, e, _⟩ := ob; obtain ⟨u, f1, f2, _⟩ := e.at_; exact nl u f1 f2
    refine p1 μ2 _ S4 t4 (.ref x) (RV.obj.mpr ⟨x, [w], rfl, ⟨C, dx, at0, s1, s2, ?_, ?_⟩, RVs.mk (RV.over ap y w rw2) (RVs.nil.mpr rfl)⟩)
    · exact nf x hx fx fun u z => by rw [e1] at z; cases z; exact fun q => q
    · exact nf dx hdx fd fun u z => by rw [e2] at z; cases z; exact fun q => q
end
end Ls
/-! Program.__init__ keeps its promise. -/
namespace Ls
open PySem PySem.Spec PyProof.Rows L2
/-- the text of __init__ -/
def initB (st : Stmt) : Bool :=
  match C8.fnBody st with
  | [.Assign [.Attribute (.Name x _) f _] (.Call (.Name t _) [.Name y _] [] _) _] => decide (x = "self") && decide (f = "own_deeds") && decide (t = "tupled") && decide (y = "deeds")
  | _ => false
def initS (st : Stmt) : Bool := C8.scC ["self", "deeds"] ["self", "deeds"] (C8.fnScope st) && decide ((C8.fnScope st).names.lookup ("self" : Str) = some NameKind.local) && decide ((C8.fnScope st).names.lookup ("deeds" : Str) = some NameKind.local) && decide ((C8.fnScope st).names.lookup ("tupled" : Str) = some NameKind.globalImplicit)
theorem ok_init {P : Program} {w : World} {K : PySem.W.Frag} {mg : Str → Option Value} {base : Heap} {st : Stmt} {f fT C q : Addr} {fd fdT : FuncData} {k : Nat} {spT : Sp} (F : C8.Fun K "__init__" "Program.__init__" st f fd) (hb : initB st = true) (hs : initS st = true)
    (T : FnOk P w K mg base (L2.CX P w) k fT fdT ["value"] spT) (gT : mg "tupled" = some (.ref fT)) (kT : PySem.W.keepIn K (.ref fT) = true) (bT : Binds K fdT ["value"] []) (sc : SlX.SCls K C) (s1 : SlX.Slot1 K C "own_deeds" q 0)
    (mono : ∀ vs H (Q Q' : VK) E, (∀ v H, Q v H → Q' v H) → spT vs H Q E → spT vs H Q' E) :
    FnOk P w K mg base CX0 (k + 1) f fd ["self", "deeds"] (spI C spT) := by
  simp only [initS, Bool.and_eq_true, decide_eq_true_eq] at hs
  obtain ⟨⟨⟨h1, h2⟩, h3⟩, h4⟩ := hs
  refine C8.fn0 F (C8.fnScope_by h1) (fun vs H Q E h => ?_) fun cdv A outer s H vs Q E hr h => ?_
  · obtain ⟨b, dx, v, rfl, _⟩ := h; rfl
  · unfold initB at hb
    split at hb
    · rename_i x p1 fn p2 t p3 y p4 p5 p6 e
      simp only [Bool.and_eq_true, decide_eq_true_eq] at hb
      obtain ⟨⟨⟨rfl, rfl⟩, rfl⟩, rfl⟩ := hb
      rw [e]
      refine ⟨_, pss_one (SlX.ps_sl (pv 0 rfl (.inl h2)) (pe_call (E := E0) T hr h4 gT kT bT .nil passL (pa_cons (pv 1 rfl (.inl h3)) pa_nil) (by decide) rfl rfl) rfl), ?_⟩
      obtain ⟨b, dx, v, rfl, hi, ne, q'⟩ := h
      refine ⟨v, rfl, ?_⟩
      refine mono [v] H _ _ E0 (fun w H2 hq => ?_) q'
      exact ⟨.ref b, rfl, b, C, dx, q, [], 0, rfl, .inl ⟨hq.1, rfl⟩, sc, s1, hq.2⟩
    · cases hb
end Ls
/-! Exceptions: what was caught is tracked behind its suite. -/
namespace Ls
open PySem PySem.Spec PyProof.Rows L2
section
variable {X : Cx} {pins : List (Addr × Obj)} {σ : L2.St} {H : Hp} {s : Shared} {a : Addr} {oe : Obj} {cls : Value} {d : Option Addr}
theorem xO_ok {P : Program} {w : World} {h : Heap} {vs : Array Value} (ha : h.get? a = some oe) (hz : Zc cls d oe) (hd : oe.data = .fields vs) : ObjOk P w H h a (xO a cls d) :=
  ⟨⟨oe, ha, hz, vs, hd⟩, ⟨oe, ha⟩, fun h1 h2 ⟨o, e1, e2⟩ k => ⟨o, k o e1, e2⟩⟩
theorem xO_at {P : Program} {w : World} {h : Heap} (hok : HOk P w H h) (e : H a = some (xO a cls d)) : ∃ oe, h.get? a = some oe ∧ Zc cls d oe ∧ ∃ vs, oe.data = .fields vs := (show ObjOk P w H h a (xO a cls d) from hok a _ e).1
/-- what is not tracked as yet, and new since the def began -/
theorem Inv.track {vs : Array Value} (I : L2.Inv X pins σ H s) (na : H a = none) (ha : s.heap.get? a = some oe) (hz : Zc cls d oe) (hd : oe.data = .fields vs) (nl : a ≠ X.env.locals)
    (new : ∀ o, X.s_0.heap.get? a = some o → X.H_0 a = none → a ∉ X.ex → False) (np : ∀ p ∈ X.pn ++ pins, p.1 ≠ a) : L2.Inv X pins σ (upd H a (xO a cls d)) s := by
  have off : ∀ {b : Addr} {o : HO}, H b = some o → b ≠ a := fun e q => by rw [q, na] at e; cases e
  have un : Un X.fs X.ex X.H_0 (upd H a (xO a cls d)) X.s_0.heap s.heap := {
    keep := I.base.keep
    slot := I.base.slot
    free := fun b o e n hx => by
      by_cases hb : b = a
      · subst hb; exact (new o e n hx).elim
      · rw [upd_ne hb]; exact I.base.free b o e n hx
    there := I.base.there
    tups := fun b xs e => by have := I.base.tups b xs e; rw [upd_ne (off this)]; exact this
    frzs := fun b o u e => by have := I.base.frzs b o u e; rw [upd_ne (off this)]; exact this
    tbls := fun b ps e => by obtain ⟨m, q⟩ := I.base.tbls b ps e; exact ⟨m, by rw [upd_ne (off q)]; exact q⟩ }
  refine { I with base := un, free := ?_, freeC := ?_, pin := ?_, hok := ?_ }
  · rw [upd_ne (Ne.symm nl)]; exact I.free
  · intro x c e
    have hc : c ≠ a := by
      rintro rfl
      obtain ⟨v, o, e1, e2⟩ := I.cell x c e
      rw [ha] at e1; cases e1
      rw [hd] at e2; cases e2
    rw [upd_ne hc]; exact I.freeC x c e
  · intro p hp
    obtain ⟨q1, q2, q3⟩ := I.pin p hp
    exact ⟨q1, by rw [upd_ne (np p hp)]; exact q2, q3⟩
  · intro b o e
    by_cases hb : b = a
    · subst hb
      rw [upd_same] at e; cases e
      exact xO_ok ha hz hd
    · rw [upd_ne hb] at e
      exact (I.hok b o e).stay (fun _ _ _ z => z) (fun c z => by rw [upd_ne (off z)]; exact z) fun c xs z => by rw [upd_ne (off z)]; exact z
end
/-- what 'except x as n: v = n' wishes of an exception of the body; slot i is n's, slot j is v's -/
def wKeep (K : PySem.W.Frag) (c : Value) (i j m : Nat) (Wout : WX) (D : Ends) : WX := fun cls d σ H =>
  ∃ b, PySem.W.exmOne K cls c = some b ∧ (b = true → σ.length = m → ∀ a, H a = none → D.nx (((σ.set i (some (.ref a))).set j (some (.ref a))).set i none) (upd H a (xO a cls d))) ∧ (b = false → Wout cls d σ H)
section
variable {X : Cx} {x n v : Str} {c : Value} {i j : Nat} {body : List Stmt} {np vp vp' pa pos pos' : Pos} {tb : WX → TS} {Wout : WX}
theorem ps_tryK (hs : X.stack = X.env :: X.outer) (hf : X.env.frame = some X.env.locals) (hN : X.N.Nodup) (hi : X.N[i]? = some n) (hj : X.N[j]? = some v) (hln : X.env.kindOf n = some .local) (hlv : X.env.kindOf v = some .local) (hdn : (n == ("__debug__" : Str)) = false) (hcn : (n == ("__classdict__" : Str)) = false) (hc : Names X x c) (tk : Takes X Wout)
    (hb : ∀ (W : WX) (pn : List (Addr × Obj)) (xe : Value → Shared → Prop), Takes (X.tr pn xe) W → PassesOwn (model X.prog X.w) X.A X.env xe → PSs (X.tr pn xe) body (tb W)) :
    PS X (.Try body [.ExceptHandler (some (.Name x np)) (some n) [.Assign [.Name v vp] (.Name n vp') pa] pos'] [] [] pos) (fun D σ H => tb (wKeep X.K c i j σ.length Wout D) D σ H) := by
  refine ⟨fun pins s σ H D I h => ?_⟩
  have okX := I.ok
  have len0 := I.len
  have frm : X.A.frames = some (X.env :: X.outer) := by rw [okX.frames, hs]
  -- how an exception of the body is taken
  have took : ∀ u s', XE (X.tr (X.pn ++ pins) fun _ _ => False) (wKeep X.K c i j σ.length Wout D) u s' → wpAny (model X.prog X.w) X.A (noteFrame u X.env) (fun _ s2 => wpAny (model X.prog X.w) X.A (setFlight u none)
      (fun _ s3 => wpAny (model X.prog X.w) X.A (handleBy u X.env [.ExceptHandler (some (.Name x np)) (some n) [.Assign [.Name v vp] (.Name n vp') pa] pos']) (SP X pins D) X.xe s3) X.xe s2) X.xe s' := by
    rintro u s' ⟨a, B, sI, pins', σ1, H1, cls, d, rfl, J0, gnd, up, sky, na, os, ag, b, eb, yes, no⟩
    have J : L2.Inv X pins σ1 H1 sI := J0.ofTry okX
    have len1 : σ1.length = σ.length := by rw [len0]; exact J.len
    rw [show (X.tr (X.pn ++ pins) fun _ _ => False).stack = X.env :: X.outer from hs] at sky
    refine Sky.land Zc.steady frm hf sky fun h3 fl3 up3 => ?_
    have J3 : L2.Inv X pins σ1 H1 { s' with heap := h3 } := J.landed gnd fl3.1 (up.trans up3) os ag
    obtain ⟨o3, f3, get3, z3, d3⟩ := fl3.there
    have offFr : a ∉ frs (X.env :: X.outer) := fun m => by
      obtain ⟨_, o', e', q⟩ := fl3.2.2.1.mem m
      rw [get3] at e'; cases e'
      exact q _ d3
    have offL : a ≠ X.env.locals := by
      rintro rfl
      exact offFr (List.mem_filterMap.mpr ⟨X.env, List.mem_cons_self, hf⟩)
    have offF : a ∉ X.fs := fun m => by
      obtain ⟨e, he, q⟩ := List.mem_filterMap.mp m
      exact offFr (List.mem_filterMap.mpr ⟨e, List.mem_cons_of_mem _ he, q⟩)
    have ground : B.get? a = none := fl3.2.1
    have notOld : ∀ o, sI.heap.get? a ≠ some o := fun o e => by
      have := gnd a o e (by rw [show (X.tr (X.pn ++ pins) fun _ _ => False).stack = X.env :: X.outer from hs]; exact offFr)
      rw [ground] at this; cases this
    have newA : ∀ o, X.s_0.heap.get? a = some o → X.H_0 a = none → a ∉ X.ex → False := fun o e _ hx => by
      obtain ⟨o', q⟩ := J.base.there a o e hx
      exact notOld o' q
    have offP : ∀ p ∈ X.pn ++ pins, p.1 ≠ a := fun p hp e => notOld p.2 (by rw [← e]; exact (J.pin p hp).1)
    refine wpAny_handleBy_cons (codeAny_handlers_test ?_) (by intro q; cases q)
    have S3 := J3.suite get3 d3 na offL offF
    have look : ∀ {Q : Value → Shared → Prop} {E : Value → Shared → Prop}, Q c { s' with heap := h3 } → wpAny (model X.prog X.w) (X.A.mark (some (.ref a))) (eval (.Name x np) X.env) Q E { s' with heap := h3 } := by
      intro Q E q
      obtain ⟨hg, hdb, w1 | ⟨w1, w2, w3⟩⟩ := hc
      · exact ld_glob S3 hg w1 q hdb
      · exact ld_blt S3 hg w1 w2 q w3 hdb
    have isOf := PySem.W.exm_one (M := model X.prog X.w) J3.kIn (fun A Q E s k q => wpAny_typeOf_ref (k _ _ get3) (by rw [z3.1]; exact q) : PySem.W.Looks (model X.prog X.w) h3 (typeOf (.ref a)) cls) eb
    refine look (isOf.here ?_)
    cases b with
    | false =>
      -- another one: on
      show wpAny _ X.A (handleBy (.ref a) X.env []) _ _ _
      apply wpAny_handleBy_nil
      obtain ⟨_, _, _, o4, v4, T4, oT4, t4, get4, _, data4, at4, _⟩ := id fl3
      have onward : wpAny (model X.prog X.w) X.A (setFlight (.ref a) X.env.frame) (fun _ s4 => wpAny (model X.prog X.w) X.A (throw (.ref a) : Sem Flow) (SP X pins D) X.xe s4) X.xe { s' with heap := h3 } := by
        rw [hf]
        apply HandSPX.setFlight_upZ fl3
        intro h4 held up4
        apply wpAny_throw
        apply tk
        exact ⟨a, B, sI, pins, σ1, H1, cls, d, rfl, J, gnd, (up.trans up3).trans up4, .inr (.inr (by rw [hs]; exact held)), na, os, ag, no rfl⟩
      unfold PySem.passOn
      apply wpAny_bind
      apply wpAny_field get4 data4 at4
      rw [if_neg (by simp)]
      first
        | exact wpAny_bind (wpAny_pure (wpAny_bind onward))
        | exact wpAny_bind onward
    | true =>
      apply codeAny_handlers_suite_as
      apply HandSPX.lands_againZ fl3
      intro h4 fl4 up4
      have J4 : L2.Inv X pins σ1 H1 { s' with heap := h4 } := J.landed gnd fl4.1 ((up.trans up3).trans up4) os ag
      obtain ⟨o4, f4, get4, z4, d4⟩ := fl4.there
      have S4 := J4.suite get4 d4 na offL offF
      refine store_ok (X := X.suite a ((a, o4) :: (X.pn ++ pins))) (v := .ref a) S4 hN hi (.inl hln) rfl (fun s5 S5 => ?_) (.inr hln)
      have hilt : i < σ1.length := by rw [J.len]; exact (List.getElem?_eq_some_iff.mp hi).1
      have one : PSs (X.suite a ((a, o4) :: (X.pn ++ pins))) [.Assign [.Name v vp] (.Name n vp') pa] _ := pss_one (ps_set hN hj (.inl hlv) (pe_var hi (.inl hln) hdn hcn) rfl (.inr hlv))
      refine wpAny_mono (one.run [] s5 _ H1 { nx := fun σ6 H6 => σ6 = (σ1.set i (some (.ref a))).set j (some (.ref a)) ∧ H6 = H1, rt := fun _ _ => False } S5 ⟨.ref a, by rw [List.getElem?_set_self hilt], rfl, rfl⟩) (fun f s6 sp => ?_) (fun _ _ z => False.elim z)
      cases f with
      | next =>
        obtain ⟨σ6, H6, S6, rfl, rfl⟩ := sp
        refine gone_ok (X := X.suite a ((a, o4) :: (X.pn ++ pins))) S6 hN hi hln fun s7 S7 => ?_
        have at7 := (S7.pin (a, o4) (List.mem_append_left _ List.mem_cons_self)).1
        exact ⟨_, _, Inv.track (S7.unsuite okX) na at7 z4 d4 offL newA offP, yes rfl len1 a na⟩
      | brk => obtain ⟨_, _, _, z⟩ := sp; exact z.elim
      | cont => obtain ⟨_, _, _, z⟩ := sp; exact z.elim
      | ret _ => obtain ⟨_, _, _, _, _, z⟩ := sp; exact z.elim
  apply wpAny_Try_except
  refine wpAny_mono ((hb (wKeep X.K c i j σ.length Wout D) (X.pn ++ pins) (fun e s1 => wpAny (model X.prog X.w) X.A (noteFrame e X.env) (fun _ s2 => wpAny (model X.prog X.w) X.A (setFlight e none)
      (fun _ s3 => wpAny (model X.prog X.w) X.A (handleBy e X.env [.ExceptHandler (some (.Name x np)) (some n) [.Assign [.Name v vp] (.Name n vp') pa] pos']) (SP X pins D) X.xe s3) X.xe s2) X.xe s1) ?_ PassesOwn.looking).run [] s σ H D (I.toTry _) h) (fun f s1 sp => ?_) (fun _ _ z => z)
  · rintro u s' ⟨a, B, sI, pins', σ1, H1, cls, d, e0, J0, rest⟩
    exact took u s' ⟨a, B, sI, pins', σ1, H1, cls, d, e0, ⟨J0.ok.ofTry.toTry _ _, J0.os, J0.bare, J0.base, J0.loc, J0.cell, J0.free, J0.freeC, J0.pin, J0.hok, J0.len⟩, rest⟩
  · cases f with
    | next => obtain ⟨σ2, H2, J2, q⟩ := sp; exact wpAny_execs_nil ⟨σ2, H2, J2.ofTry okX, q⟩
    | brk => obtain ⟨σ2, H2, J2, q⟩ := sp; exact ⟨σ2, H2, J2.ofTry okX, q⟩
    | cont => obtain ⟨σ2, H2, J2, q⟩ := sp; exact ⟨σ2, H2, J2.ofTry okX, q⟩
    | ret _ => obtain ⟨w2, σ2, H2, J2, r2, q⟩ := sp; exact ⟨w2, σ2, H2, J2.ofTry okX, r2, q⟩
end
end Ls
/-! raise, try, isinstance and fields of exceptions in the small language. -/
namespace Ls
open PySem PySem.Spec PyProof.Rows L2
/-- the built-in class above a class, by number -/
def exU (b : Bool) : String := if b then "LookupError" else "ValueError"
def exUS : Bool → Str
  | true => "LookupError"
  | false => "ValueError"
def exM (b : Bool) : List Value := [.type (exU b), .type "Exception", .type "BaseException", .type "object"]
def exI : Bool → String
  | true => "LookupError.__new__"
  | false => "ValueError.__new__"
def exJ : Bool → String
  | true => "LookupError.__init__"
  | false => "ValueError.__init__"
theorem exBase (b : Bool) : ExcBaseFacts (exU b) (exI b) (exJ b) (exM b) := by
  cases b with
  | true => exact PySem.F.excBase_LookupError
  | false => exact PySem.F.excBase_ValueError
/-- what the text says of an exception class -/
structure XCl (K : PySem.W.Frag) (mg : Str → Option Value) (c : Nat) (C : Addr) : Prop where
  at0 : PySem.W.nsIn K mainGlobals (exS c) = some (some (.ref C))
  mg : mg (exS c) = some (.ref C)
  kp : PySem.W.keepIn K (.ref C) = true
  sub : PySem.W.subIn K (.ref C) (.type "BaseException") = some true
  ty : PySem.W.typeIn K (.ref C) = some (.type "type")
  cl : (PySem.W.clsIn K C).isSome = true
  hd : PySem.W.hasDictIn K C = true
  ga : PySem.W.findIn K (.ref C) "__getattribute__" = some (some (.builtin "BaseException.__getattribute__"))
  gt : PySem.W.findIn K (.ref C) "__getattr__" = some none
  ca : PySem.W.findIn K (.ref C) "__class__" = some (some (.builtin "object.__class__"))
  gg : PySem.W.specialIn K (.builtin "object.__class__") "__get__" = some (some (.builtin "getset_descriptor.__get__"))
  tk : PySem.W.takesIn K (.builtin "object.__class__") = some true
  mo : PySem.W.mroIn K C (.type "object") = some true
  ki : ∀ b, PySem.W.kitOne K (.ref C) (.type (exU b)) = some (exB c == b)
  new : exF c = [] → PySem.W.excIn K C (exM (exB c)) (exI (exB c)) = true
  fld : ∀ f ∈ exF c, PySem.W.findIn K (.ref C) (sgS f) = some none
/-- the exception classes of the text are these -/
structure XTxt (K : PySem.W.Frag) (mg : Str → Option Value) (xl : List Nat) : Prop where
  cls : ∀ c ∈ xl, ∃ C, XCl K mg c C
  only : ∀ c C, PySem.W.nsIn K mainGlobals (exS c) = some (some (.ref C)) → c ∈ xl
  exm : ∀ c ∈ xl, ∀ c' ∈ xl, ∀ C C', XCl K mg c C → XCl K mg c' C' → PySem.W.exmOne K (.ref C) (.ref C') = some (decide (c = c'))
section
variable {X : Cx} {cf : Cf} {W : WX} {c : Nat} {C : Addr} {e a : Expr} {me ma : E} {p p2 pp pos pos' np vp vp' pa : Pos}
theorem pmk_own0 {x : Str} {b : Bool} (q : PySem.W.excIn X.K C (exM b) (exI b) = true) (gC : X.mg x = some (.ref C)) (kC : PySem.W.keepIn X.K (.ref C) = true) (r : Raises X (.ref C)) (hg : Gl X x) (hdb : (x == ("__debug__" : Str)) = false) :
    PMk X (.Call (.Name x p) [] [] pos) (fun _ H Q => Q (.ref C) none H) := by
  intro pins s σ H Q I h
  apply wpAny_Call_Name_kw
  refine ld_glob I hg gC ?_ hdb
  apply PySem.W.callWith_K0 I.kIn kC
  obtain ⟨bm, N, nm, qn, bs, hdct, sn, sub, ab, col, dd, k0, k1, k2, k3, k5, mN, hC, hN, hni, T⟩ := exc_obj I.kIn q
  apply wpAny_call_exc_subT (exBase b) T hC hN hni
  · intro h' e hm
    exact mk_of I hm r h (I.hok.gone hm.new)
theorem dbg_ne (c : Nat) : (exS c == ("__debug__" : Str)) = false := by
  unfold exS
  split <;> decide
theorem sS_raise0 (tk : Takes X W) (hc : X.calm = true) (T : XCl X.K X.mg c C) (ef : exF c = []) (hg : Gl X (exS c)) : PS X (.Raise (some (.Call (.Name (exS c) p) [] [] p2)) none pos) (rdS X.K cf W (.raise_ c .nil)) := by
  refine PS.imp (ps_raise hc tk (pmk_own0 (T.new ef) T.mg T.kp (raises_own T.sub T.ty) hg (dbg_ne c))) fun D σ H ⟨Z, μ, h, ρ, B, q⟩ => ?_
  simp only [ex, evs, bind_ok, ef, List.length_nil, if_true] at q
  exact q μ H B.sr Stp.refl (.ref C) none ⟨[], ⟨⟨C, T.at0, rfl⟩, .inl ⟨ef, rfl, rfl⟩⟩, RVs.nil.mpr rfl⟩ σ
/-- a statement that is never reached -/
theorem sS_never {st : Stmt} : PS X st (rdS X.K cf W .never) := by
  refine PS.imp ps_never fun D σ H ⟨Z, μ, h, ρ, B, q⟩ => ?_
  simp only [ex] at q
  exact q
theorem names_of (T : XCl X.K X.mg c C) (hg : Gl X (exS c)) : Names X (exS c) (.ref C) := ⟨hg, dbg_ne c, .inl T.mg⟩
/-- whether the clause takes it -/
theorem exm_of' {xl : List Nat} (TX : XTxt X.K X.mg xl) (hc : c ∈ xl) (T : XCl X.K X.mg c C) {F : Addr → Prop} {μ : List Addr} {H : Hp} {x : Xn} {cls : Value} {d : Option Addr} (xr : XR X.K F μ H x cls d) : PySem.W.exmOne X.K cls (.ref C) = some (decide (x.cls = c)) := by
  obtain ⟨vs, ⟨⟨D, h1, rfl⟩, _⟩, _⟩ := xr
  have m := TX.only _ _ h1
  obtain ⟨D', T'⟩ := TX.cls _ m
  have := T'.at0.symm.trans h1
  cases this
  exact TX.exm _ m _ hc _ _ T' T
theorem sS_tryK {xl : List Nat} {body : List Stmt} {b : Ss} {n v : Str} {i j : Nat} (TX : XTxt X.K X.mg xl) (hc : c ∈ xl) (T : XCl X.K X.mg c C) (hg : Gl X (exS c)) (hs : X.stack = X.env :: X.outer) (hf : X.env.frame = some X.env.locals) (hN : X.N.Nodup)
    (hi : X.N[i]? = some n) (hj : X.N[j]? = some v) (hln : X.env.kindOf n = some .local) (hlv : X.env.kindOf v = some .local) (hdn : (n == ("__debug__" : Str)) = false) (hcn : (n == ("__classdict__" : Str)) = false) (hij : i ≠ j) (tk : Takes X W)
    (hb : ∀ (W' : WX) (pn : List (Addr × Obj)) (xe : Value → Shared → Prop), Takes (X.tr pn xe) W' → PassesOwn (model X.prog X.w) X.A X.env xe → PSs (X.tr pn xe) body (rdSs X.K cf W' b)) :
    PS X (.Try body [.ExceptHandler (some (.Name (exS c) np)) (some n) [.Assign [.Name v vp] (.Name n vp') pa] pos'] [] [] pos) (rdS X.K cf W (.tryK b c i j)) := by
  refine PS.imp (ps_tryK hs hf hN hi hj hln hlv hdn hcn (names_of T hg) tk hb) fun D σ H ⟨Z, μ, h, ρ, B, q⟩ => ⟨Z, μ, h, ρ, B, ?_⟩
  simp only [ex] at q
  cases er : exs cf b ρ h with
  | stuck => rw [er] at q; exact q
  | ok f h1 => rw [er] at q; exact q
  | err x h1 =>
    rw [er] at q
    simp only [catchK] at q
    intro μ1 H1 S1 t1 cls d xr σ1
    refine ⟨decide (x.cls = c), exm_of' TX hc T xr, fun hy len a ha => ?_, fun hn => ?_⟩
    · have ey : x.cls = c := of_decide_eq_true hy
      rw [if_pos ey] at q
      have na : ¬ Fb Z μ1 h1 a := S1.fresh ha
      have S2 : SR X.K Z μ1 h1 (upd H1 a (xO a cls d)) := S1.new ha
      have t2 : Stp μ1 h1 H1 μ1 h1 (upd H1 a (xO a cls d)) := Stp.new ha
      refine q μ1 _ S2 (t1.trans B.sr.len t2) _ ?_
      obtain ⟨vs, xc, rs⟩ := xr
      have rv : RV X.K (Fb Z μ1 h1) μ1 (upd H1 a (xO a cls d)) (.exn x.cls x.fs) (.ref a) :=
        RV.exn.mpr ⟨a, vs, rfl, ⟨cls, d, xc.move fun b o e n _ => ⟨by rw [upd_ne (ne_of_none e ha)]; exact e, n⟩, upd_same, na⟩, RVs.mono S1 t2 _ _ rs⟩
      refine ⟨by simp [len, B.er.len], fun k d' e => ?_⟩
      by_cases hk : j = k
      · subst hk
        have hl : j < ρ.length := by
          by_cases hl : j < ρ.length
          · exact hl
          · rw [List.getElem?_eq_none (by simpa using hl)] at e; cases e
        rw [List.getElem?_set_self (by simpa using hl)] at e
        cases e
        refine ⟨.ref a, ?_, rv⟩
        rw [List.getElem?_set_ne hij, List.getElem?_set_self (by rw [List.length_set, len, ← B.er.len]; exact hl)]
      · rw [List.getElem?_set_ne hk, List.getElem?_map] at e
        cases q2 : ρ[k]? with
        | none => rw [q2] at e; cases e
        | some z => rw [q2] at e; cases e
    · have ey : ¬ x.cls = c := of_decide_eq_false hn
      rw [if_neg ey] at q
      exact q μ1 H1 S1 t1 cls d xr σ1
/-- a written constant -/
def cstV : D → Option V
  | .non => some .non
  | .bl b => some (.bl b)
  | .int i => some (.int i)
  | .str s => some (.str ⟨s.toArray⟩)
  | _ => none
theorem cst_rv {K : PySem.W.Frag} {F : Addr → Prop} {μ : List Addr} {H : Hp} {d : D} {v : V} (h : cstV d = some v) : RV K F μ H d v := by
  cases d <;> cases h
  · exact RV.non.mpr rfl
  · exact RV.bl.mpr rfl
  · exact RV.int.mpr rfl
  · exact RV.str.mpr rfl
theorem sS_tryR {xl : List Nat} {body : List Stmt} {b : Ss} {d0 : D} {v0 : V} {k : Const} {kj : Nat} {kp rp : Pos} (TX : XTxt X.K X.mg xl) (hc : c ∈ xl) (T : XCl X.K X.mg c C) (hg : Gl X (exS c)) (hs : X.stack = X.env :: X.outer) (hf : X.env.frame = some X.env.locals) (tk : Takes X W)
    (hv : cstV d0 = some v0) (hk : ∀ Y : Cx, PE Y (.Constant k kj kp) (tC v0))
    (hb : ∀ (W' : WX) (pn : List (Addr × Obj)) (xe : Value → Shared → Prop), Takes (X.tr pn xe) W' → PassesOwn (model X.prog X.w) X.A X.env xe → PSs (X.tr pn xe) body (rdSs X.K cf W' b)) :
    PS X (.Try body [.ExceptHandler (some (.Name (exS c) np)) none [.Return (some (.Constant k kj kp)) rp] pos'] [] [] pos) (rdS X.K cf W (.tryR b c d0)) := by
  refine PS.imp (ps_try_only hs hf (names_of T hg) tk hb fun a oe cls d pn _ _ => pss_one (ps_ret (hk _))) fun D σ H ⟨Z, μ, h, ρ, B, q⟩ => ⟨Z, μ, h, ρ, B, ?_⟩
  simp only [ex] at q
  cases er : exs cf b ρ h with
  | stuck => rw [er] at q; exact q
  | ok f h1 => rw [er] at q; exact q
  | err x h1 =>
    rw [er] at q
    simp only [catchR] at q
    intro μ1 H1 S1 t1 cls d xr σ1
    refine ⟨decide (x.cls = c), exm_of' TX hc T xr, fun hy a ha => ?_, fun hn => ?_⟩
    · rw [if_pos (of_decide_eq_true hy)] at q
      exact q μ1 H1 S1 t1 v0 (cst_rv hv)
    · rw [if_neg (of_decide_eq_false hn)] at q
      exact q μ1 H1 S1 t1 cls d xr σ1
/-- isinstance(e, LookupError), e a caught exception -/
theorem call_isX (b : Bool) : CallR X (.builtin "isinstance") (fun xs H Q => ∃ (a C : Addr) (d : Option Addr) (c : Nat) (fs : List (Str × V)), xs = [.ref a, .ty (exU b)] ∧ XCl X.K X.mg c C ∧ H a = some (xO a (.ref C) d) ∧ (∀ dd, d = some dd → ∃ fs, H dd = some (.xd fs)) ∧ Q (.bl (exB c == b)) H) := by
  intro pins s σ H xs us Q I r hh
  obtain ⟨a, C, d, c, fs, ex, T, ha, hd, q⟩ := hh
  subst ex
  obtain ⟨u1, u2, rfl, r1, r2⟩ := vals2 r
  cases r1
  cases (show u2 = Value.type (exU b) from r2)
  obtain ⟨oe, get, hz, vs, hv⟩ := xO_at I.hok ha
  have nc : PySem.W.notCls oe = true := by unfold PySem.W.notCls; rw [hv]
  have J : ∃ od, PySem.W.InstAt s.heap a oe C od := by
    cases d with
    | none => exact ⟨none, get, hz.1, nc, by rw [hz.2]; trivial⟩
    | some dd =>
      obtain ⟨fs, e⟩ := hd dd rfl
      obtain ⟨mA, hns, _⟩ := (show ObjOk X.prog X.w H s.heap dd (.xd fs) from I.hok dd _ e)
      obtain ⟨od, ho, _⟩ := lookIn_ns hns
      exact ⟨some od, get, hz.1, nc, by rw [hz.2]; exact ho⟩
  obtain ⟨od, J⟩ := J
  exact PySem.W.kia_one (PySem.W.kitx_exc T.cl T.ga T.gt T.sub T.ca T.gg T.tk T.mo) I.kIn J (T.ki b) (fun z => nomatch z) fun t => ⟨.bl (exB c == b), H, I.tok t, rfl, q⟩
theorem boot_ex (b : Bool) : bootBuiltins (exUS b) = some (.type (exU b)) := by cases b <;> decide +kernel
theorem sE_isx {xl : List Nat} {b : Bool} (TX : XTxt X.K X.mg xl) (hg : Gl X "isinstance") (hm : X.mg "isinstance" = none) (hg2 : Gl X (exUS b)) (hm2 : X.mg (exUS b) = none) (ha : PE X a (rdE X.K cf W ma)) (hp : plainE a = true) :
    PE X (.Call (.Name "isinstance" pp) [a, .Name (exUS b) p2] [] pos) (rdE X.K cf W (.isx ma b)) := by
  refine PE.imp (pe_callB (call_isX b) hg hm boot_isi (pa_cons ha (pa_cons (pe_bltn (v := .ty (exU b)) hg2 hm2 (boot_ex b) rfl (by cases b <;> decide) (by cases b <;> decide)) pa_nil) (star_cons hp _ _)) (by decide) (by decide) (star_cons hp _ _)) fun σ H Q ⟨Z, μ, h, ρ, B, p⟩ => ?_
  simp only [ev] at p
  refine rd1 B p fun d v μ1 h1 H1 B1 t1 r1 p1 => ?_
  cases d with
  | exn c xs =>
    obtain ⟨y, vs, rfl, xo, rs⟩ := RV.exn.mp r1
    obtain ⟨cls, d, xc, h2, h3⟩ := xo.ex
    obtain ⟨D, h4, rfl⟩ := xc.at0
    obtain ⟨D', T⟩ := TX.cls _ (TX.only _ _ h4)
    cases T.at0.symm.trans h4
    refine ⟨y, D, d, c, [], rfl, T, h2, fun dd e => ?_, Post.now B1.sr p1 (RV.bl.mpr rfl)⟩
    rcases xc.dx with ⟨_, z, _⟩ | ⟨dd', _, z, q1, _⟩
    · rw [z] at e; cases e
    · rw [z] at e; cases e; exact ⟨_, q1⟩
  | _ => exact p1.elim
theorem sgS_inj {a b : List Nat} (h : sgS a = sgS b) : a = b := by
  have := congrArg (fun s : Str => s.cps.toList) h
  simpa [sgS] using this
theorem field_of {K : PySem.W.Frag} {F : Addr → Prop} {μ : List Addr} {H : Hp} {f : List Nat} {d : D} : ∀ {fs : List (List Nat)} {xs : List D} {vs : List V}, RVs K F μ H xs vs → (fs.zip xs).lookup f = some d → ∃ v, ((fs.map sgS).zip vs).lookup (sgS f) = some v ∧ RV K F μ H d v ∧ f ∈ fs
  | [], xs, vs, r, e => by simp at e
  | g :: fs, [], vs, r, e => by simp at e
  | g :: fs, x :: xs, vs, r, e => by
    obtain ⟨v, ws, rfl, p, q⟩ := RVs.cons.mp r
    simp only [List.zip_cons_cons, List.lookup_cons, List.map_cons] at e ⊢
    by_cases h : f = g
    · subst h
      simp only [BEq.rfl, Option.some.injEq] at e ⊢
      subst e
      exact ⟨v, rfl, p, List.mem_cons_self⟩
    · have h1 : (f == g) = false := by simpa using h
      have h2 : (sgS f == sgS g) = false := by simpa using fun z => h (sgS_inj z)
      rw [h1] at e
      rw [h2]
      obtain ⟨v', e1, e2, e3⟩ := field_of q e
      exact ⟨v', e1, e2, List.mem_cons_of_mem _ e3⟩
theorem sE_xat {xl : List Nat} {f : List Nat} (TX : XTxt X.K X.mg xl) (he : PE X e (rdE X.K cf W me)) (hb : noCall0 e = true) : PE X (.Attribute e (sgS f) pos) (rdE X.K cf W (.xat me f)) := by
  refine ⟨fun pins s σ H Q I ⟨Z, μ, h, ρ, B, p⟩ => ?_⟩
  simp only [ev] at p
  have st : rdE X.K cf W me σ H fun x H1 => ∃ (a C : Addr) (dd : Addr) (c : Nat) (fs : List (Str × V)) (v : V), x = .ref a ∧ XCl X.K X.mg c C ∧ f ∈ exF c ∧ H1 a = some (xO a (.ref C) (some dd)) ∧ H1 dd = some (.xd fs) ∧ fs.lookup (sgS f) = some v ∧ Q v H1 := by
    refine rd1 B p fun d v μ1 h1 H1 B1 t1 r1 p1 => ?_
    cases d with
    | exn c xs =>
      obtain ⟨y, vs, rfl, xo, rs⟩ := RV.exn.mp r1
      obtain ⟨cls, d, xc, h2, h3⟩ := xo.ex
      obtain ⟨D, h4, rfl⟩ := xc.at0
      obtain ⟨D', T⟩ := TX.cls _ (TX.only _ _ h4)
      cases T.at0.symm.trans h4
      simp only at p1
      cases q : ((exF c).zip xs).lookup f with
      | none => rw [q] at p1; exact p1.elim
      | some d0 =>
        rw [q] at p1
        obtain ⟨v0, e1, e2, e3⟩ := field_of rs q
        rcases xc.dx with ⟨z, _⟩ | ⟨dd, _, rfl, q1, _⟩
        · rw [z] at e3; cases e3
        · exact ⟨y, D, dd, c, _, v0, rfl, T, e3, h2, q1, e1, Post.now B1.sr p1 e2⟩
    | _ => exact p1.elim
  refine attr_of (attr_base hb (sgS f) X.env) (thn (he.run pins s σ H _ I st) fun u s1 ⟨x, H1, I1, rx, a, C, dd, c, fs, v, ex, T, hf, ha, hd, l, q⟩ => ?_)
  subst ex
  cases rx
  obtain ⟨oe, get, hz, vs, hv⟩ := xO_at I1.hok ha
  obtain ⟨mA, hns, hr⟩ := (show ObjOk X.prog X.w H1 s1.heap dd (.xd fs) from I1.hok dd _ hd)
  obtain ⟨od, ho, hl⟩ := lookIn_ns hns
  obtain ⟨u, hu, ru⟩ := RelO.some_of (v := v) (o := mA (sgS f)) (by rw [← l]; exact hr (sgS f))
  have J : PySem.W.InstAt s1.heap a oe C (some od) := ⟨get, hz.1, by unfold PySem.W.notCls; rw [hv], by rw [hz.2]; exact ho⟩
  exact HandSPX.exc_get I1.kIn J T.ga T.gt T.sub (PySem.W.findObj_own T.hd (T.fld f hf) rfl (by rw [hl, hu])) (handed_of ru) ⟨v, H1, I1.tok _, ru, q⟩
end
end Ls
/-! C.m(..), m a staticmethod; len, ==, in by own defs; split. -/
namespace Ls
open PySem PySem.Spec PyProof.Rows L2
/-- a method call that may be taken as one -/
theorem mtree {o : Expr} {m : Str} {apos pos : Pos} {args : List Expr} {kws : List Keyword} {env : Env} (hb : attributeBase o m env (eval o env) = eval o env)
    (hf : methodCallForm (args.length + kws.length) (backTo pos (starEach args env)) (backToKw pos (keywordEach kws env)) = true) (hl : (apos.endLine == pos.line) = true) :
    eval (.Call (.Attribute o m apos) args kws pos) env = (do
      let ov ← eval o env
      standAt apos.atName
      let (f, first) ← holding [ov] (getMethod ov m (do return (← importBound o env).getD true))
      callWith pos f first (backTo pos (starEach args env)) (backToKw pos (keywordEach kws env))) := by
  refine mcall_of hb fun ov => ?_
  have hp : methodCallPos true o env apos pos = pure pos := by unfold methodCallPos; simp [hl]
  unfold methodCall
  rw [hf, hp]
  rfl
/-- C.m is a staticmethod: its record at p, its def at g -/
structure SMet (K : PySem.W.Frag) (C : Addr) (m : Str) (p g : Addr) : Prop where
  rd : PySem.W.readsIn K C (.type "type") = true
  ga : PySem.W.specialIn K (.ref C) "__getattribute__" = some (some (.builtin "type.__getattribute__"))
  at_ : PySem.W.findCls K (.ref C) (.type "type") m = some (.get (.builtin "staticmethod.__get__") (.ref p) .none (.ref C))
  rc : ∃ rest, PySem.W.recIn K p "staticmethod" = some (.ref g :: rest)
/-- what is known of a def, however it is reached -/
structure KnownS (X : Cx) (cf : Cf) (i : Nat) (ps : List Str) (f : Addr) (fd : FuncData) (k : Nat) (sp : Sp) : Prop where
  ok : FnOk X.prog X.w X.K X.mg X.base (L2.CX X.prog X.w) k f fd ps sp
  room : Room k X.A
  keep : PySem.W.keepIn X.K (.ref f) = true
  bind : Binds X.K fd ps []
  cov : ∀ Z μ h H ds vs Q E, SR X.K Z μ h H → RVs X.K (Fb Z μ h) μ H ds vs → Post X.K Z μ h H (PV X.K Z Q) (excE X.K Z E) (cf i ds h) → sp vs H Q E
section
variable {X : Cx} {cf : Cf} {W : WX} {i : Nat} {x m : Str} {ps names : List Str} {perm : List Nat} {f C p0 : Addr} {fd : FuncData} {k : Nat} {sp : Sp} {p pos apos : Pos} {e : Expr} {es : List Expr} {ks : List Keyword} {ms : Es} {pins : List (Addr × Obj)} {σ : L2.St} {H : Hp} {s : Shared}
theorem getsm_ok {pl : Sem Bool} {A : Around} {E : Value → Shared → Prop} {Q : Value × List Value → Shared → Prop} (I : Inv X pins σ H s) (c : SMet X.K C m p0 f) (h : ∀ s', Inv X pins σ H s' → Q (.ref f, []) s') : wpAny (model X.prog X.w) A (getMethod (.ref C) m pl) Q E s := by
  obtain ⟨rest, hp⟩ := c.rc
  refine PySem.W.method_cls I.kIn c.ga ?_
  refine PySem.W.cls_bind I.kIn c.rd c.at_ ?_
  refine wpAny_call (PySem.W.sm_get (s := { s with toks := s.toks + 1 }) I.kIn hp (PySem.W.handed_on rfl ?_))
  exact h _ (I.tok _)
theorem kwe_some {ks : List Keyword} {env : Env} {pos : Pos} {names : List Str} (hn : ks.map (fun k => k.arg) = names.map some) : (backToKw pos (keywordEach ks env)).all (·.1.isSome) = true := (kw_names (env := env) (pos := pos) hn).1
theorem form_pos (hp : es.all plainE = true) (hl : es.length < 30) {env : Env} : methodCallForm (es.length + ([] : List Keyword).length) (backTo pos (starEach es env)) (backToKw pos (keywordEach [] env)) = true := by
  have := star_few hp pos env
  have e0 : backToKw pos (keywordEach [] env) = [] := rfl
  unfold methodCallForm
  rw [this, e0]
  simpa using hl
/-- C.m(e, ..) -/
theorem sE_scall (th : Thr X W) (kn : KnownS X cf i ps f fd k sp) (c : SMet X.K C m p0 f) (hg : Gl X x) (hm : X.mg x = some (.ref C)) (hd : (x == ("__debug__" : Str)) = false) (hb : attributeBase (.Name x p) m X.env (eval (.Name x p) X.env) = eval (.Name x p) X.env)
    (ha : PA X (e :: es) (rdA X.K cf W ms)) (hp : (e :: es).all plainE = true) (hl : (e :: es).length < 30) (hline : (apos.endLine == pos.line) = true) : PE X (.Call (.Attribute (.Name x p) m apos) (e :: es) [] pos) (rdE X.K cf W (.scall i ms [])) := by
  refine ⟨fun pins s σ H Q I ⟨Z, μ, h, ρ, B, q⟩ => ?_⟩
  have hp' : plainE e = true ∧ es.all plainE = true := by simpa using hp
  have q' : rdA X.K cf W ms σ H fun vs H1 => sp (vs ++ []) H1 Q (EW W) := by
    simp only [ev, permD] at q
    refine rdA1 B q fun xs vs μ1 h1 H1 B1 t1 r1 p1 => ?_
    rw [List.append_nil]
    exact kn.cov Z μ1 h1 H1 xs vs Q _ B1.sr r1 p1
  refine PySem.W.methodCall_KW ?_ (mtree hb (form_pos hp hl) hline)
  refine ld_glob I hg hm ?_ hd
  refine getsm_ok I c fun s2 I2 => ?_
  refine PySem.W.callWith_K (h₀ := X.base) I2.ok.mod.kin kn.keep (thn (ha.run pos pins s2 σ H _ I2 q') fun us s1 ⟨vs, H1, I1, r, q⟩ => ⟨I1.kIn, ?_⟩) (star_cons hp'.1 es X.env) (star_none hp'.2 _ _)
  exact run_fn kn.ok kn.room kn.bind .nil th I1 r q
theorem form_kw {names : List Str} {env : Env} (hn : ks.map (fun k => k.arg) = names.map some) (hl : ks.length < 28) : methodCallForm (([] : List Expr).length + ks.length) (backTo pos (starEach [] env)) (backToKw pos (keywordEach ks env)) = true := by
  have h1 := (kw_names (env := env) (pos := pos) hn).1
  unfold methodCallForm
  rw [h1, star_few (es := []) rfl pos env]
  simp only [List.length_nil, Nat.zero_add, Bool.true_and, decide_eq_true_eq]
  split <;> omega
theorem cov_permS (kn : KnownS X cf i ps f fd k sp) (hp : perm ≠ []) {Z : Addr → Prop} {μ : List Addr} {h : Hh} {H : Hp} {xs : List D} {vs : List V} {Q : VK} (S : SR X.K Z μ h H) (r : RVs X.K (Fb Z μ h) μ H xs vs)
    (q : Post X.K Z μ h H (PV X.K Z Q) (exc X.K Z W) (match permD perm xs with | some ys => cf i ys h | none => .stuck)) : sp (perm.map fun j => vs.getD j V.non) H Q (EW W) := by
  have ep : permD perm xs = perm.mapM fun j => xs[j]? := by cases perm with
    | nil => exact absurd rfl hp
    | cons _ _ => rfl
  rw [ep] at q
  cases e : perm.mapM fun j => xs[j]? with
  | none => rw [e] at q; exact q.elim
  | some ys =>
    rw [e] at q
    exact kn.cov Z μ h H ys _ Q _ S (permD_rel e r) q
/-- C.m(k = v, ..) -/
theorem sE_scallK0 (th : Thr X W) (kn : KnownS X cf i ps f fd k sp) (c : SMet X.K C m p0 f) (hg : Gl X x) (hm : X.mg x = some (.ref C)) (hd : (x == ("__debug__" : Str)) = false) (hb : attributeBase (.Name x p) m X.env (eval (.Name x p) X.env) = eval (.Name x p) X.env)
    (kb : KwB X fd ps names perm) (hp : perm ≠ []) (hk : PK X ks (rdA X.K cf W ms)) (hn : ks.map (fun k => k.arg) = names.map some) (hl : ks.length < 28) (hline : (apos.endLine == pos.line) = true) (his : Es.is names.length ms = true) (hpn : names.length = perm.length) :
    PE X (.Call (.Attribute (.Name x p) m apos) [] ks pos) (rdE X.K cf W (.scall i ms perm)) := by
  refine ⟨fun pins s σ H Q I ⟨Z, μ, h, ρ, B, q⟩ => ?_⟩
  obtain ⟨n1, n2, n3⟩ := kw_names (env := X.env) (pos := pos) hn
  simp only [ev] at q
  have q' : rdA X.K cf W ms σ H fun zs H2 => sp (permVs V.non names.length perm [] zs) H2 Q (EW W) := rdA1e B q fun xs vs μ1 h1 H1 e1 B1 t1 r1 p1 => by
    have l1 := evs_is his e1
    have l2 := r1.len
    unfold permVs
    rw [if_pos ⟨by simpa using hpn, by omega⟩, List.nil_append]
    exact cov_permS kn hp B1.sr r1 p1
  refine PySem.W.methodCall_KW ?_ (mtree hb (form_kw hn hl) hline)
  refine ld_glob I hg hm ?_ hd
  refine getsm_ok I c fun s2 I2 => ?_
  refine PySem.W.callWith_KW0 (first := []) (h₀ := X.base) I2.ok.mod.kin kn.keep n1 (thn (hk.run pos pins s2 σ H _ I2 q') ?_) (by rw [n3]; rfl)
  rintro ws s3 ⟨zs, H2, I3, rz, q2⟩
  rw [n2]
  exact ⟨I3.kIn, run_fnk (us := []) (vs := []) kn.ok kn.room kb th I3 .nil rz q2⟩
end
/-! ### own len, ==, in of instances of the class at C -/
/-- the class's def x, def i of the text -/
structure SpecAt (X : Cx) (cf : Cf) (C : Addr) (i : Nat) (x : Str) (g : Addr) (k : Nat) (sp : Sp) : Prop where
  at_ : PySem.W.findIn X.K (.ref C) x = some (some (.ref g))
  fn : PySem.W.isFn X.K (.ref g) = true
  ok : FnR X.prog X.w X.K X.mg X.base (L2.CX X.prog X.w) k g sp
  room : Room (k + 1) X.A
  cov : ∀ Z μ h H ds vs Q E, SR X.K Z μ h H → RVs X.K (Fb Z μ h) μ H ds vs → Post X.K Z μ h H (PV X.K Z Q) (excE X.K Z E) (cf i ds h) → sp vs H Q E
section
variable {X : Cx} {cf : Cf} {W : WX} {i k : Nat} {C g : Addr} {sp : Sp} {a b : Expr} {ma mb : E} {pp pos : Pos} {E : XK}
theorem call_lenOwn (hs : PySem.W.findIn X.K (.ref C) "__len__" = some (some (.ref g))) (hf : PySem.W.isFn X.K (.ref g) = true) (F : FnR X.prog X.w X.K X.mg X.base (L2.CX X.prog X.w) k g sp) (hr : Room (k + 1) X.A) (hx : Passes (L2.CX X.prog X.w) X E) :
    CallR X (.builtin "len") (fun xs H Q => ∃ a dx vs, xs = [V.ref a] ∧ SlX.Slt H a C dx vs ∧ sp [.ref a] H (fun z H' => ∃ n : Int, z = .int n ∧ (0 ≤ n ∧ n < 2 ^ 63) ∧ Q z H') E) := by
  intro pins s σ H xs us Q I r h
  obtain ⟨a, dx, vs, rfl, hsl, q⟩ := h
  obtain ⟨u, rfl, ru⟩ := r.one
  cases (show u = Value.ref a from ru)
  obtain ⟨sl, od, _, J, _⟩ := SlX.slt_inst I hsl
  obtain ⟨m, hF⟩ := I.fr
  refine PySem.W.len_K hF I.ok.mod.kin J hs hf (wpAny_mono (wpAny_call (SlX.run_at (us := [.ref a]) (ws := [.ref a]) F hr.in1 I.env0.in1 hx I (.cons rfl .nil) q)) (fun w s' z => ?_) fun _ _ x => x)
  obtain ⟨z', H', I', rz, n, en, hn, qz⟩ := z
  subst en
  obtain ⟨t, e⟩ := (show ∃ t, w = Value.int n t from rz)
  cases e
  exact ⟨hn, .int n, H', I'.tok _, ⟨_, rfl⟩, qz⟩
theorem sE_olen (at0 : PySem.W.nsIn X.K mainGlobals (clsN 0) = some (some (.ref C))) (one : ∀ c D, PySem.W.nsIn X.K mainGlobals (clsN c) = some (some (.ref D)) → c = 0) (th : Thr X W) (S : SpecAt X cf C i "__len__" g k sp) (hg : Gl X "len") (hm : X.mg "len" = none)
    (ha : PE X a (rdE X.K cf W ma)) (hp : plainE a = true) : PE X (.Call (.Name "len" pp) [a] [] pos) (rdE X.K cf W (.olen i ma)) := by
  refine PE.imp (pe_callB (call_lenOwn (E := EW W) S.at_ S.fn S.ok S.room th) hg hm (by decide +kernel) (pa_one ha hp) (by decide) (by decide) (star_cons hp _ _)) fun σ H Q ⟨Z, μ, h, ρ, B, p⟩ => ?_
  simp only [ev] at p
  refine rd1 B p fun d v μ1 h1 H1 B1 t1 r1 p1 => ?_
  cases d with
  | obj n xs =>
    simp only at p1
    obtain ⟨b, vs, rfl, o, rs⟩ := RV.obj.mp r1
    obtain ⟨C', dx, g1, g2⟩ := o.slt
    obtain rfl := one n C' g1
    cases g1.symm.trans at0
    refine ⟨b, dx, _, rfl, g2, S.cov Z μ1 h1 H1 [.obj 0 xs] [.ref b] _ _ B1.sr (RVs.mk r1 (RVs.nil.mpr rfl)) ?_⟩
    refine (Post.bind B1.sr p1).imp fun y μ2 h2 H2 S2 t2 q w rw => ?_
    cases y with
    | int n =>
      simp only at q
      split at q
      · rename_i hn
        rw [RV.int] at rw
        subst rw
        exact ⟨n, rfl, ⟨hn.1, by omega⟩, Post.now S2 q (RV.int.mpr rfl)⟩
      · exact q.elim
    | _ => exact q.elim
  | _ => exact p1.elim
theorem sE_oeq (at0 : PySem.W.nsIn X.K mainGlobals (clsN 0) = some (some (.ref C))) (one : ∀ c D, PySem.W.nsIn X.K mainGlobals (clsN c) = some (some (.ref D)) → c = 0) (th : Thr X W) (S : SpecAt X cf C i "__eq__" g k sp)
    (ha : PE X a (rdE X.K cf W ma)) (hb : PE X b (rdE X.K cf W mb)) (hm : behindInMarks .Eq b = false) : PE X (.Compare a [.Eq] [b] pos) (rdE X.K cf W (.oop 0 i ma mb)) := by
  refine PE.imp (pe_cmpR (SlX.op_own (op := .Eq) (E := EW W) (C := C) (fun _ _ => rfl) S.at_ S.fn S.ok (S.room.mono (Nat.le_succ _)) th) ha hb hm) fun σ H Q ⟨Z, μ, h, ρ, B, p⟩ => ?_
  simp only [ev] at p
  refine rd1 B p fun d v μ1 h1 H1 B1 t1 r1 p1 => ?_
  refine rd1 B1 p1 fun d2 v2 μ2 h2 H2 B2 t2 r2 p2 => ?_
  have r1' := RV.mono B1.sr t2 _ _ r1
  cases d with
  | obj n xs =>
    cases d2 with
    | obj n2 ys =>
      simp only at p2
      obtain ⟨b1, vs, rfl, o, rs⟩ := RV.obj.mp r1'
      obtain ⟨C1, dx, g1, g2⟩ := o.slt
      obtain rfl := one n C1 g1
      cases g1.symm.trans at0
      obtain ⟨b2, vs2, rfl, o2, rs2⟩ := RV.obj.mp r2
      obtain ⟨C2, dx2, f1, f2⟩ := o2.slt
      obtain rfl := one n2 C2 f1
      cases f1.symm.trans at0
      exact ⟨b1, dx, _, b2, _, dx2, _, rfl, rfl, g2, f2, by unfold PySem.W.notFirst; rw [beq_self_eq_true]; rfl, S.cov Z μ2 h2 H2 [.obj 0 xs, .obj 0 ys] [.ref b1, .ref b2] Q _ B2.sr (RVs.mk r1' (RVs.mk r2 (RVs.nil.mpr rfl))) p2⟩
    | _ => exact p2.elim
  | _ => exact p2.elim
theorem op_inOwn (hs : PySem.W.findIn X.K (.ref C) "__contains__" = some (some (.ref g))) (hf : PySem.W.isFn X.K (.ref g) = true) (F : FnR X.prog X.w X.K X.mg X.base (L2.CX X.prog X.w) k g sp) (hr : Room k X.A) (hx : Passes (L2.CX X.prog X.w) X E) :
    OpR X (compareOp .In) (fun x y H Q => ∃ a dx vs, y = V.ref a ∧ SlX.Slt H a C dx vs ∧ sp [.ref a, x] H (fun z H' => ∃ b : Bool, z = .bl b ∧ Q z H') E) := by
  intro pins s σ H x y v u Q I rx ry h
  obtain ⟨a, dx, vs, rfl, hsl, q⟩ := h
  cases (show u = Value.ref a from ry)
  obtain ⟨sl, od, _, J, _⟩ := SlX.slt_inst I hsl
  obtain ⟨m, hF⟩ := I.fr
  refine PySem.W.in_K hF I.ok.mod.kin J hs hf (wpAny_mono (wpAny_call (run_fnR (us := [.ref a, v]) (vs := [.ref a, x]) F hr hx I (.cons rfl (.cons rx .nil)) q)) (fun w s' z => ?_) fun _ _ x => x)
  obtain ⟨z', H', I', rz, b, eb, qz⟩ := z
  subst eb
  cases (show w = Value.bool b from rz)
  exact wpAny_truthy_bool ⟨.bl b, H', I', rfl, qz⟩
theorem sE_oin (at0 : PySem.W.nsIn X.K mainGlobals (clsN 0) = some (some (.ref C))) (one : ∀ c D, PySem.W.nsIn X.K mainGlobals (clsN c) = some (some (.ref D)) → c = 0) (th : Thr X W) (S : SpecAt X cf C i "__contains__" g k sp)
    (ha : PE X a (rdE X.K cf W ma)) (hb : PE X b (rdE X.K cf W mb)) (hm : behindInMarks .In b = false) : PE X (.Compare a [.In] [b] pos) (rdE X.K cf W (.oop 1 i ma mb)) := by
  refine PE.imp (pe_cmpR (op_inOwn (E := EW W) (C := C) S.at_ S.fn S.ok (S.room.mono (Nat.le_succ _)) th) ha hb hm) fun σ H Q ⟨Z, μ, h, ρ, B, p⟩ => ?_
  simp only [ev] at p
  refine rd1 B p fun d v μ1 h1 H1 B1 t1 r1 p1 => ?_
  refine rd1 B1 p1 fun d2 v2 μ2 h2 H2 B2 t2 r2 p2 => ?_
  have r1' := RV.mono B1.sr t2 _ _ r1
  cases d2 with
  | obj n xs =>
    simp only at p2
    obtain ⟨b1, vs, rfl, o, rs⟩ := RV.obj.mp r2
    obtain ⟨C1, dx, g1, g2⟩ := o.slt
    obtain rfl := one n C1 g1
    cases g1.symm.trans at0
    refine ⟨b1, dx, _, rfl, g2, S.cov Z μ2 h2 H2 [.obj 0 xs, d] [.ref b1, v] _ _ B2.sr (RVs.mk r2 (RVs.mk r1' (RVs.nil.mpr rfl))) ?_⟩
    refine (Post.bind B2.sr p2).imp fun y μ3 h3 H3 S3 t3 q w rw => ?_
    cases y with
    | bl b =>
      rw [RV.bl] at rw
      subst rw
      exact ⟨b, rfl, Post.now S3 q (RV.bl.mpr rfl)⟩
    | _ => exact q.elim
  | _ => exact p2.elim
/-! ### split by one sign -/
theorem spl_tl (b : Nat) : ∀ (acc s : List Nat), TL.spl [b] 0 acc s = spl1 b acc s
  | acc, [] => rfl
  | acc, c :: r => by
    have h1 := spl_tl b [] r
    have h2 := spl_tl b (acc ++ [c]) r
    have e : TL.pre [b] (c :: r) = decide (c = b) := by
      unfold TL.pre
      by_cases z : c = b <;> simp [z]
    simp only [TL.spl, spl1, e, List.length_singleton, Nat.sub_self, decide_eq_true_eq]
    rw [h1, h2]
theorem sF_split {apos : Pos} (ha : PE X a (rdE X.K cf W ma)) (hb : PE X b (rdE X.K cf W mb)) (hp : plainE b = true) (hn : noCall0 a = true) (hline : (apos.endLine == pos.line) = true) : PE X (.Call (.Attribute a "split" apos) [b] [] pos) (rdF X.K cf W (.split ma mb)) := by
  refine PE.imp (pe_split ha hb (star_one hp _) (attr_base hn _ _) hline) fun σ H Q ⟨Z, μ, h, ρ, B, ol, p⟩ => ?_
  simp only [evf] at p
  refine rd1 B p fun d v μ1 h1 H1 B1 t1 r1 p1 => ?_
  cases d with
  | str s =>
    rw [RV.str] at r1
    subst r1
    refine ⟨⟨_, rfl⟩, ?_⟩
    refine rd1 B1 p1 fun d2 v2 μ2 h2 H2 B2 t2 r2 p2 => ?_
    split at p2
    · rename_i c
      split at p2
      · rename_i q
        rw [RV.str] at r2
        subst r2
        obtain ⟨_, f⟩ := Post.here B2.sr p2
        refine ⟨_, _, rfl, rfl, rfl, by rw [SX.S_len]; exact q.2, fun c' hc => ?_⟩
        rw [show Txt.split (⟨s.toArray⟩ : Str) ⟨[c].toArray⟩ = _ from SX.split_S (a := s) (b := [c]) (by simp) (by simpa using q.1), spl_tl]
        exact f _ c' (strs_rel _) hc
      · exact p2.elim
    · exact p2.elim
  | _ => exact p1.elim
end
end Ls
/-! The checker: a def of the text is this term of the small language. -/
namespace Ls
open PySem PySem.Spec PyProof.Rows L2
/-! ### taking expressions apart -/
def dName : Expr → Option (Str × Pos) | .Name x p => some (x, p) | _ => none
def dConst : Expr → Option (Const × Nat × Pos) | .Constant c k p => some (c, k, p) | _ => none
def dBin : Expr → Option (Expr × Operator × Expr × Pos) | .BinOp a o b p => some (a, o, b, p) | _ => none
def dUn : Expr → Option (UnaryOp × Expr × Pos) | .UnaryOp o a p => some (o, a, p) | _ => none
def dCmp : Expr → Option (Expr × List CmpOp × List Expr × Pos) | .Compare a os bs p => some (a, os, bs, p) | _ => none
def dBool : Expr → Option (BoolOp × List Expr × Pos) | .BoolOp o vs p => some (o, vs, p) | _ => none
def dIf : Expr → Option (Expr × Expr × Expr × Pos) | .IfExp c a b p => some (c, a, b, p) | _ => none
def dTup : Expr → Option (List Expr × Nat × Pos) | .Tuple es k p => some (es, k, p) | _ => none
def dLst : Expr → Option (List Expr × Pos) | .List es p => some (es, p) | _ => none
def dCall : Expr → Option (Expr × List Expr × List Keyword × Pos) | .Call f es ks p => some (f, es, ks, p) | _ => none
def dAttr : Expr → Option (Expr × Str × Pos) | .Attribute o x p => some (o, x, p) | _ => none
def dSub : Expr → Option (Expr × Expr × Pos) | .Subscript a b p => some (a, b, p) | _ => none
def dSli : Expr → Option (Option Expr × Option Expr × Option Expr × Pos) | .Slice a b c p => some (a, b, c, p) | _ => none
def dLC : Expr → Option (Expr × List Comprehension × Scope × Pos) | .ListComp e gs s p => some (e, gs, s, p) | _ => none
section
variable {e : Expr}
theorem dName_eq {r : Str × Pos} (h : dName e = some r) : e = .Name r.1 r.2 := by cases e <;> first | (cases h; rfl) | (cases h)
theorem dConst_eq {r : Const × Nat × Pos} (h : dConst e = some r) : e = .Constant r.1 r.2.1 r.2.2 := by cases e <;> first | (cases h; rfl) | (cases h)
theorem dBin_eq {r : Expr × Operator × Expr × Pos} (h : dBin e = some r) : e = .BinOp r.1 r.2.1 r.2.2.1 r.2.2.2 := by cases e <;> first | (cases h; rfl) | (cases h)
theorem dUn_eq {r : UnaryOp × Expr × Pos} (h : dUn e = some r) : e = .UnaryOp r.1 r.2.1 r.2.2 := by cases e <;> first | (cases h; rfl) | (cases h)
theorem dCmp_eq {r : Expr × List CmpOp × List Expr × Pos} (h : dCmp e = some r) : e = .Compare r.1 r.2.1 r.2.2.1 r.2.2.2 := by cases e <;> first | (cases h; rfl) | (cases h)
theorem dBool_eq {r : BoolOp × List Expr × Pos} (h : dBool e = some r) : e = .BoolOp r.1 r.2.1 r.2.2 := by cases e <;> first | (cases h; rfl) | (cases h)
theorem dIf_eq {r : Expr × Expr × Expr × Pos} (h : dIf e = some r) : e = .IfExp r.1 r.2.1 r.2.2.1 r.2.2.2 := by cases e <;> first | (cases h; rfl) | (cases h)
theorem dTup_eq {r : List Expr × Nat × Pos} (h : dTup e = some r) : e = .Tuple r.1 r.2.1 r.2.2 := by cases e <;> first | (cases h; rfl) | (cases h)
theorem dLst_eq {r : List Expr × Pos} (h : dLst e = some r) : e = .List r.1 r.2 := by cases e <;> first | (cases h; rfl) | (cases h)
theorem dCall_eq {r : Expr × List Expr × List Keyword × Pos} (h : dCall e = some r) : e = .Call r.1 r.2.1 r.2.2.1 r.2.2.2 := by cases e <;> first | (cases h; rfl) | (cases h)
theorem dAttr_eq {r : Expr × Str × Pos} (h : dAttr e = some r) : e = .Attribute r.1 r.2.1 r.2.2 := by cases e <;> first | (cases h; rfl) | (cases h)
theorem dSub_eq {r : Expr × Expr × Pos} (h : dSub e = some r) : e = .Subscript r.1 r.2.1 r.2.2 := by cases e <;> first | (cases h; rfl) | (cases h)
theorem dSli_eq {r : Option Expr × Option Expr × Option Expr × Pos} (h : dSli e = some r) : e = .Slice r.1 r.2.1 r.2.2.1 r.2.2.2 := by cases e <;> first | (cases h; rfl) | (cases h)
theorem dLC_eq {r : Expr × List Comprehension × Scope × Pos} (h : dLC e = some r) : e = .ListComp r.1 r.2.1 r.2.2.1 r.2.2.2 := by cases e <;> first | (cases h; rfl) | (cases h)
end
/-- with what was found, or no -/
def wth {α : Type} (o : Option α) (k : α → Bool) : Bool := match o with | some a => k a | none => false
theorem wth_of {α : Type} {o : Option α} {k : α → Bool} (h : wth o k = true) : ∃ a, o = some a ∧ k a = true := by
  cases o with
  | none => cases h
  | some a => exact ⟨a, rfl, h⟩
/-- truth is asked of its value alone -/
def plainT : Expr → Bool
  | .UnaryOp .Not _ _ => false
  | .BoolOp _ _ _ => false
  | .IfExp _ _ _ _ => false
  | .Compare _ _ _ _ => false
  | _ => true
theorem isT_plain {e : Expr} (h : plainT e = true) (env : Env) (whole : Sem Value) : isTrue e env whole = (do let v ← whole; standAt e.pos; holding [v] (truthy v)) := by
  cases e <;> first | rfl | (cases h) | (rename_i o _ _; cases o <;> first | rfl | (cases h))
def notSet : Expr → Bool | .Set _ _ _ => false | _ => true
theorem fold_plain {e : Expr} (h : notSet e = true) (env : Env) (x : Value) : foldedSetIterable e env x = pure x := by cases e <;> first | rfl | (cases h)
theorem marks_plain {e : Expr} (h : notSet e = true) (o : CmpOp) : behindInMarks o e = false := by cases e <;> first | rfl | (cases h)
/-! ### the checker -/
structure Ck where
  N : List Str
  sc : Scope
  cl : List Str
  tb : Nat → Option (Str × List Str × List (List Str × List Nat))
  gc : List (Str × Const)
  ob : Bool
  pb : Nat → Option Str
  nw : Option Nat
  xl : List Nat
  sb : Nat → Option Str
  sm : Nat → Option (Str × List Str × List (List Str × List Nat))
def Ck.kind (c : Ck) (x : Str) : Option NameKind := c.sc.names.lookup x
def Ck.vis (c : Ck) (x : Str) : Bool := decide (c.kind x = some .local) || decide (c.kind x = some .cell) || decide (c.kind x = some .free)
def Ck.gl (c : Ck) (x : Str) : Bool := decide (c.kind x = some .globalImplicit)
def Ck.put (c : Ck) (i : Nat) (x : Str) : Bool := decide (c.N[i]? = some x) && (decide (c.kind x = some .local) || (decide (c.kind x = some .cell) && c.cl.contains x))
def Ck.blk (c : Ck) (s : Scope) : Ck := { c with sc := relS s c.sc, cl := (s.names.filter fun y => decide (s.names.lookup y.1 = some .cell)).map (·.1) }
def Ck.own (c : Ck) (l : List Nat) : List (Str × Nat) := l.map fun i => ((c.N[i]?).getD "", i)
def bltN : List Str := ["isinstance", "list", "range", "enumerate", "zip", "bool", "int", "str", "tuple", "len", "abs", "sum", "max", "min", "all", "any", "sorted", "set", "LookupError", "ValueError"]
def mtN : Mt → Option (Str × String)
  | .append => some ("append", "list.append") | .pop0 => some ("pop", "list.pop") | .popat => some ("pop", "list.pop") | .insert => some ("insert", "list.insert") | .join => some ("join", "str.join") | _ => none
def oeNo : Oe → Bool | .no => true | _ => false
def isPop0 : Mt → Bool | .pop0 => true | _ => false
def chK (d : D) (k : Const) : Bool :=
  match d, k with
  | .non, .none => true
  | .bl b, .bool b' => b == b'
  | .int i, .int j => decide (i = j)
  | .str s, .str x => decide (x = ⟨s.toArray⟩)
  | _, _ => false
def chG0 (d : D) (k : Const) : Bool :=
  match d, k with
  | .int i, .int j => decide (i = j)
  | .str s, .str x => decide (x = ⟨s.toArray⟩)
  | _, _ => false
/-- a constant of the module -/
def RelK : Const → Value → Prop
  | .str x, u => ∃ t, u = Value.str x t
  | .int i, u => ∃ t, u = Value.int i t
  | _, _ => False
theorem relC_of {d : D} {k : Const} {u : Value} (h : chG0 d k = true) (r : RelK k u) : RelC d u := by
  unfold chG0 at h
  split at h
  · rw [of_decide_eq_true h]; exact r
  · rw [of_decide_eq_true h] at r; exact r
  · cases h
mutual
def chE : E → Ck → Expr → Bool
  | .var i, c, e => wth (dName e) fun r => decide (c.N[i]? = some r.1) && c.vis r.1 && !(r.1 == ("__debug__" : Str)) && !(r.1 == ("__classdict__" : Str))
  | .cst d, _, e => wth (dConst e) fun r => chK d r.1
  | .bin o a b, c, e => wth (dBin e) fun r => decide (r.2.1 = bop o) && chE a c r.1 && chE b c r.2.2.1
  | .neg a, c, e => wth (dUn e) fun r => decide (r.1 = .USub) && chE a c r.2.1
  | .not a, c, e => wth (dUn e) fun r => decide (r.1 = .Not) && chE a c r.2.1
  | .cmp o a b, c, e => wth (dCmp e) fun r => decide (r.2.1 = [cop o]) && chE a c r.1 && (match r.2.2.1 with | [x] => notSet x && chE b c x | _ => false)
  | .chn o p a b d, c, e => wth (dCmp e) fun r => decide (r.2.1 = [cop o, cop p]) && chE a c r.1 && (match r.2.2.1 with | [x, y] => notSet y && chE b c x && chE d c y | _ => false)
  | .bool k es, c, e => wth (dBool e) fun r => decide (r.1 = bo2 k) && chB es c r.2.1
  | .ite t a b, c, e => wth (dIf e) fun r => chE t c r.1 && tst t r.1 && chE a c r.2.1 && chE b c r.2.2.1
  | .tup es, c, e => wth (dTup e) fun r => chA es c r.1
  | .lv f, c, e => chF f c e
  | .lr f, c, e => chF f c e
  | .call i es p, c, e => wth (dCall e) fun r => wth (dName r.1) fun n => c.gl n.1 && !(n.1 == ("__debug__" : Str)) && wth (c.tb i) fun d => decide (d.1 = n.1) &&
      (if p = [] then decide (r.2.2.1 = []) && chA es c r.2.1 else (d.2.2.any fun q => decide (q.2 = p) && decide (r.2.2.1.map (fun k => k.arg) = q.1.map some)) && (decide (r.2.1.length + r.2.2.1.length = p.length) && chAK es c r.2.1 r.2.2.1))
  | .scall i es p, c, e => c.ob && wth (dCall e) fun r => wth (dAttr r.1) fun a => wth (dName a.1) fun n => decide (n.1 = "Program") && c.gl n.1 && (a.2.2.endLine == r.2.2.2.line) && decide (r.2.1.length + r.2.2.1.length < 28) && wth (c.sm i) fun d => decide (d.1 = a.2.1) &&
      (if p = [] then decide (r.2.2.1 = []) && (!r.2.1.isEmpty && chA es c r.2.1) else decide (r.2.1 = []) && ((d.2.2.any fun q => decide (q.2 = p) && decide (r.2.2.1.map (fun k => k.arg) = q.1.map some)) && (decide (r.2.2.1.length = p.length) && chAK es c [] r.2.2.1)))
  | .olen i a, c, e => c.ob && wth (dCall e) fun r => decide (r.2.2.1 = []) && wth (dName r.1) fun n => decide (n.1 = "len") && c.gl "len" && decide (c.sb i = some "__len__") && (match r.2.1 with | [x] => plainE x && chE a c x | _ => false)
  | .oop k i a b, c, e => c.ob && wth (dCmp e) fun r => (match k with | 0 => decide (r.2.1 = [.Eq]) && decide (c.sb i = some "__eq__") | 1 => decide (r.2.1 = [.In]) && decide (c.sb i = some "__contains__") | _ => false) && chE a c r.1 && (match r.2.2.1 with | [x] => notSet x && chE b c x | _ => false)
  | .pr p es, c, e => wth (dCall e) fun r => decide (r.2.2.1 = []) && (match r.2.1 with | [] => false | _ => true) && wth (dName r.1) fun n => decide (n.1 = prN p) && c.gl n.1 && bltN.contains n.1 && chA es c r.2.1
  | .mt m o es, c, e => wth (dCall e) fun r => decide (r.2.2.1 = []) && wth (dAttr r.1) fun a => wth (mtN m) fun n => decide (a.2.1 = n.1) && noCall0 a.1 && (a.2.2.endLine == r.2.2.2.line) && chE o c a.1 && decide (r.2.1.length < 30) && (r.2.1.isEmpty == isPop0 m) && chA es c r.2.1
  | .ix o i, c, e => wth (dSub e) fun r => plainE r.2.1 && chE o c r.1 && chE i c r.2.1
  | .sl o lo hi, c, e => wth (dSub e) fun r => wth (dSli r.2.1) fun s => decide (s.2.2.1.isNone) && chE o c r.1 && chO lo c s.1 && chO hi c s.2.1
  | .isi a ts, c, e => wth (dCall e) fun r => decide (r.2.2.1 = []) && wth (dName r.1) fun n => decide (n.1 = "isinstance") && c.gl "isinstance" && (ts.all fun t => c.gl (tyS t)) &&
      (match r.2.1 with | [x, y] => plainE x && chE a c x && (match ts with | [t] => wth (dName y) fun z => decide (z.1 = tyS t) | ts => decide (ts.length ≤ 1000) && wth (dTup y) fun z => tyEs ts z.1) | _ => false)
  | .frz a, c, e => chE a c e
  | .glb _ d, c, e => wth (dName e) fun r => c.gl r.1 && !(r.1 == ("__debug__" : Str)) && wth (c.gc.lookup r.1) fun k => chG0 d k
  | .att a k, c, e => c.ob && wth (dAttr e) fun r => decide (r.2.1 = "own_deeds") && decide (k = 0) && noCall0 r.1 && chE a c r.1
  | .prop i a, c, e => c.ob && wth (dAttr e) fun r => wth (c.pb i) fun x => decide (x = r.2.1) && noCall0 r.1 && chE a c r.1
  | .newp i a, c, e => c.ob && wth (dCall e) fun r => decide (r.2.2.1 = []) && wth (dName r.1) fun n => decide (n.1 = "Program") && c.gl n.1 && decide (c.nw = some i) && (match r.2.1 with | [x] => plainE x && chE a c x | _ => false)
  | .isc a, c, e => c.ob && wth (dCall e) fun r => decide (r.2.2.1 = []) && wth (dName r.1) fun n => decide (n.1 = "isinstance") && c.gl "isinstance" && c.gl "Program" && (match r.2.1 with | [x, y] => plainE x && chE a c x && (wth (dName y) fun z => decide (z.1 = "Program")) | _ => false)
  | .xat a f, c, e => wth (dAttr e) fun r => decide (r.2.1 = sgS f) && noCall0 r.1 && chE a c r.1
  | .isx a b, c, e => wth (dCall e) fun r => decide (r.2.2.1 = []) && wth (dName r.1) fun n => decide (n.1 = "isinstance") && c.gl "isinstance" && c.gl (exUS b) && (match r.2.1 with | [x, y] => plainE x && chE a c x && (wth (dName y) fun z => decide (z.1 = exUS b)) | _ => false)
/-- and, or: one at least -/
def chB : Es → Ck → List Expr → Bool
  | .cons a .nil, c, [x] => chE a c x
  | .cons a r, c, x :: y :: xs => chE a c x && chB r c (y :: xs)
  | _, _, _ => false
def chA : Es → Ck → List Expr → Bool
  | .nil, _, [] => true
  | .cons a r, c, x :: xs => plainE x && chE a c x && chA r c xs
  | _, _, _ => false
/-- arguments, then keywords -/
def chAK : Es → Ck → List Expr → List Keyword → Bool
  | .nil, _, [], [] => true
  | .cons a r, c, x :: xs, ks => plainE x && chE a c x && chAK r c xs ks
  | .cons a r, c, [], k :: ks => chE a c k.value && chAK r c [] ks
  | _, _, _, _ => false
def chO : Oe → Ck → Option Expr → Bool
  | .no, _, none => true
  | .so a, c, some x => chE a c x
  | _, _, _ => false
/-- may stand as a test -/
def tst : E → Expr → Bool
  | .not a, e => wth (dUn e) fun r => tst a r.2.1
  | .bool _ es, e => wth (dBool e) fun r => tstS es r.2.1
  | .cmp _ _ _, _ => true
  | .chn _ _ _ _ _, _ => true
  | _, e => plainT e
def tstS : Es → List Expr → Bool
  | .nil, _ => true
  | .cons a r, x :: xs => tst a x && tstS r xs
  | _, _ => false
def chF : F → Ck → Expr → Bool
  | .disp es, c, e => wth (dLst e) fun r => chA es c r.1
  | .comp t i ct a, c, e => wth (dLC e) fun r => match r.2.1 with
    | [⟨tg, it, ifs, 0⟩] => blkC c.N c.sc r.2.2.1 (c.own t.slots) && notSet it && chI i c t.tp? tg it && chG t (c.blk r.2.2.1) tg && chC ct (c.blk r.2.2.1) ifs && chE a (c.blk r.2.2.1) r.1
    | _ => false
  | .comp2 t i u j ct a, c, e => wth (dLC e) fun r => match r.2.1 with
    | [⟨tg, it, [], 0⟩, ⟨tg1, it1, ifs, 0⟩] => blkC c.N c.sc r.2.2.1 (c.own (t.slots ++ u.slots)) && notSet it && notSet it1 && chI i c t.tp? tg it && chG t (c.blk r.2.2.1) tg && chI j (c.blk r.2.2.1) u.tp? tg1 it1 && chG u (c.blk r.2.2.1) tg1 &&
        chC ct (c.blk r.2.2.1) ifs && chE a (c.blk r.2.2.1) r.1
    | _ => false
  | .list a, c, e => wth (dCall e) fun r => decide (r.2.2.1 = []) && wth (dName r.1) fun n => decide (n.1 = "list") && c.gl "list" && (match r.2.1 with | [x] => plainE x && chE a c x | _ => false)
  | .rng a b, c, e => wth (dCall e) fun r => decide (r.2.2.1 = []) && wth (dName r.1) fun n => decide (n.1 = "list") && c.gl "list" && c.gl "range" && (match r.2.1 with
    | [y] => wth (dCall y) fun s => decide (s.2.2.1 = []) && wth (dName s.1) fun z => decide (z.1 = "range") && (match s.2.1 with
      | [x] => oeNo a && plainE x && chE b c x
      | [x, x2] => plainE x && plainE x2 && chO a c (some x) && chE b c x2
      | _ => false)
    | _ => false)
  | .sli o lo hi, c, e => wth (dSub e) fun r => wth (dSli r.2.1) fun s => decide (s.2.2.1.isNone) && chE o c r.1 && chO lo c s.1 && chO hi c s.2.1
  | .cat a b, c, e => wth (dBin e) fun r => decide (r.2.1 = .Add) && chE a c r.1 && chE b c r.2.2.1
  | .sorted a, c, e => wth (dCall e) fun r => decide (r.2.2.1 = []) && wth (dName r.1) fun n => decide (n.1 = "sorted") && c.gl "sorted" && (match r.2.1 with | [x] => plainE x && chE a c x | _ => false)
  | .sset a, c, e => wth (dCall e) fun r => decide (r.2.2.1 = []) && wth (dName r.1) fun n => decide (n.1 = "sorted") && c.gl "sorted" && (match r.2.1 with
    | [y] => wth (dCall y) fun s => decide (s.2.2.1 = []) && wth (dName s.1) fun z => decide (z.1 = "set") && c.gl "set" && (match s.2.1 with | [x] => plainE x && chE a c x | _ => false)
    | _ => false)
  | .split o s, c, e => wth (dCall e) fun r => decide (r.2.2.1 = []) && wth (dAttr r.1) fun a => decide (a.2.1 = "split") && noCall0 a.1 && (a.2.2.endLine == r.2.2.2.line) && (match r.2.1 with | [x] => plainE x && chE s c x && chE o c a.1 | _ => false)
  | _, _, _ => false
def chI : I → Ck → Bool → Expr → Expr → Bool
  | .seq a, c, _, _, e => chE a c e
  | .sgn a, c, _, _, e => chE a c e
  | .rng a b, c, _, _, e => wth (dCall e) fun s => decide (s.2.2.1 = []) && wth (dName s.1) fun z => decide (z.1 = "range") && c.gl "range" && (match s.2.1 with
      | [x] => oeNo a && plainE x && chE b c x
      | [x, x2] => plainE x && plainE x2 && chO a c (some x) && chE b c x2
      | _ => false)
  | .enum a, c, tp, tg, e => tp && (dTup tg).isSome && wth (dCall e) fun s => decide (s.2.2.1 = []) && wth (dName s.1) fun z => decide (z.1 = "enumerate") && c.gl "enumerate" && (match s.2.1 with | [x] => plainE x && chE a c x | _ => false)
  | .zip a b, c, tp, tg, e => tp && (dTup tg).isSome && wth (dCall e) fun s => decide (s.2.2.1 = []) && wth (dName s.1) fun z => decide (z.1 = "zip") && c.gl "zip" && (match s.2.1 with | [x, y] => plainE x && plainE y && chE a c x && chE b c y | _ => false)
  | .items _, _, _, _, _ => false
def chG : T → Ck → Expr → Bool
  | .nm i, c, e => wth (dName e) fun r => c.put i r.1
  | .tp ts, c, e => wth (dTup e) fun r => r.1.all plainE && chGs ts c r.1
  | .ix o i, c, e => wth (dSub e) fun r => plainE r.2.1 && chE o c r.1 && chE i c r.2.1
def chGs : Ts → Ck → List Expr → Bool
  | .nil, _, [] => true
  | .cons t r, c, x :: xs => chG t c x && chGs r c xs
  | _, _, _ => false
def chC : Es → Ck → List Expr → Bool
  | .nil, _, [] => true
  | .cons a .nil, c, [x] => chE a c x && tst a x
  | _, _, _ => false
end
/-! ### what is known of a context -/
/-- the class Program in the text -/
structure PCls (X : Cx) (C : Addr) : Prop where
  at0 : PySem.W.nsIn X.K mainGlobals (clsN 0) = some (some (.ref C))
  one : ∀ c D, PySem.W.nsIn X.K mainGlobals (clsN c) = some (some (.ref D)) → c = 0
  sc : SlX.SCls X.K C
  s1 : ∃ p, SlX.Slot1 X.K C "own_deeds" p 0
  ic : IsC X.K C
  mg : X.mg "Program" = some (.ref C)
abbrev Cov (X : Cx) (cf : Cf) (i : Nat) (sp : Sp) : Prop := ∀ Z μ h H ds vs Q E, SR X.K Z μ h H → RVs X.K (Fb Z μ h) μ H ds vs → Post X.K Z μ h H (PV X.K Z Q) (excE X.K Z E) (cf i ds h) → sp vs H Q E
/-- a property x of it, def i -/
structure PropAt (X : Cx) (cf : Cf) (C : Addr) (i : Nat) (x : Str) (p g : Addr) (k : Nat) (sp : Sp) : Prop where
  at_ : PySem.W.findIn X.K (.ref C) x = some (some (.ref p))
  get : PySem.W.specialIn X.K (.ref p) "__get__" = some (some (.builtin "property.__get__"))
  tk : PySem.W.takesIn X.K (.ref p) = some true
  rc : ∃ rest, PySem.W.recIn X.K p "property" = some (.ref g :: rest)
  ok : FnR X.prog X.w X.K X.mg X.base (L2.CX X.prog X.w) k g sp
  room : Room (k + 1) X.A
  cov : Cov X cf i sp
/-- its making, by tupled, def i -/
structure MakeAt (X : Cx) (cf : Cf) (C : Addr) (i : Nat) (fI : Addr) (fd : FuncData) (k : Nat) (spT : Sp) : Prop where
  mak : Mk X.K C fI
  ok : FnOk X.prog X.w X.K X.mg X.base CX0 k fI fd ["self", "deeds"] (spI C spT)
  room : Room (k + 1) X.A
  bind : Binds X.K fd ["self", "deeds"] []
  cov : Cov X cf i spT
structure Good (X : Cx) (cf : Cf) (W : WX) (c : Ck) : Prop where
  th : Thr X W
  xt : XTxt X.K X.mg c.xl
  nt : NoTy X.K
  gc : ∀ x k, c.gc.lookup x = some k → ∃ u, X.mg x = some u ∧ RelK k u
  ob : c.ob = true → ∃ C, PCls X C ∧ (∀ i x, c.pb i = some x → ∃ p g k sp, PropAt X cf C i x p g k sp) ∧ (∀ i, c.nw = some i → ∃ fI fd k spT, MakeAt X cf C i fI fd k spT) ∧
    (∀ i x, c.sb i = some x → ∃ g k sp, SpecAt X cf C i x g k sp) ∧ ∀ i d, c.sm i = some d → ∃ p g fd k sp, SMet X.K C d.1 p g ∧ KnownS X cf i d.2.1 g fd k sp ∧ ∀ q ∈ d.2.2, KwB X fd d.2.1 q.1 q.2
  n : X.N = c.N
  sc : X.env.scope = c.sc
  calm : X.calm = true
  nod : c.N.Nodup
  deep : Deep X
  cells : ∀ x ∈ c.cl, X.fn x = true
  blt : ∀ x ∈ bltN, X.mg x = none
  fns : ∀ i d, c.tb i = some d → ∃ f fd k sp, Known X cf i d.1 d.2.1 f fd k sp ∧ ∀ q ∈ d.2.2, KwB X fd d.2.1 q.1 q.2
theorem thr0 {X : Cx} : Thr X W0 := fun _ _ _ _ _ _ _ h => by
  obtain ⟨_, _, _, _, _, _, _, _, _, _, _, _, z⟩ := h
  exact (z []).elim
section
variable {X : Cx} {cf : Cf} {W : WX} {c : Ck}
theorem Good.blk (g : Good X cf W c) (sc : Scope) : InBlk X sc fun B => Good B cf W0 (c.blk sc) := fun s H cc cl fp => {
  th := thr0
  xt := g.xt
  nt := g.nt
  gc := g.gc
  ob := fun o => let ⟨C, h1, h2, h3, h4, h5⟩ := g.ob o; ⟨C, ⟨h1.at0, h1.one, h1.sc, h1.s1, h1.ic, h1.mg⟩, fun i x e => let ⟨p, gg, k, sp, q⟩ := h2 i x e; ⟨p, gg, k, sp, ⟨q.at_, q.get, q.tk, q.rc, q.ok, q.room, q.cov⟩⟩, fun i e => let ⟨fI, fd, k, spT, q⟩ := h3 i e; ⟨fI, fd, k, spT, ⟨q.mak, q.ok, q.room, q.bind, q.cov⟩⟩,
    fun i x e => let ⟨gg, k, sp, q⟩ := h4 i x e; ⟨gg, k, sp, ⟨q.at_, q.fn, q.ok, q.room, q.cov⟩⟩, fun i d e => let ⟨p, gg, fd, k, sp, q1, q2, q3⟩ := h5 i d e; ⟨p, gg, fd, k, sp, q1, ⟨q2.ok, q2.room, q2.keep, q2.bind, q2.cov⟩, q3⟩⟩
  n := g.n
  sc := by show relabel sc X.env = relS sc c.sc; rw [← g.sc]; rfl
  calm := g.calm
  nod := g.nod
  deep := g.deep
  cells := fun x hx => by
    show (sc.names.lookup x == some .cell) = true
    simp only [Ck.blk, List.mem_map, List.mem_filter, decide_eq_true_eq] at hx
    obtain ⟨y, ⟨_, e⟩, rfl⟩ := hx
    rw [e]; rfl
  blt := g.blt
  fns := fun i d e => let ⟨f, fd, k, sp, kn, kb⟩ := g.fns i d e; ⟨f, fd, k, sp, ⟨kn.ok, kn.room, kn.glob, kn.keep, kn.bind, kn.cov⟩, kb⟩ }
theorem Good.gl (g : Good X cf W c) {x : Str} (h : c.gl x = true) : Gl X x := by
  show X.env.scope.names.lookup x = some .globalImplicit
  rw [g.sc]; exact of_decide_eq_true h
theorem Good.vis (g : Good X cf W c) {x : Str} (h : c.vis x = true) : Vis X.env.scope x := by
  unfold Vis
  rw [g.sc]
  simp only [Ck.vis, Bool.or_eq_true] at h
  rcases h with (h | h) | h
  · exact .inl (of_decide_eq_true h)
  · exact .inr (.inl (of_decide_eq_true h))
  · exact .inr (.inr (of_decide_eq_true h))
theorem Good.put (g : Good X cf W c) {i : Nat} {x : Str} (h : c.put i x = true) : X.N[i]? = some x ∧ L2.Loc X.env.scope x ∧ (X.fn x = true ∨ X.env.scope.names.lookup x = some .local) := by
  simp only [Ck.put, Bool.and_eq_true, Bool.or_eq_true] at h
  unfold L2.Loc
  rw [g.sc, g.n]
  refine ⟨of_decide_eq_true h.1, ?_⟩
  rcases h.2 with h | h
  · exact ⟨.inl (of_decide_eq_true h), .inr (of_decide_eq_true h)⟩
  · exact ⟨.inr (of_decide_eq_true h.1), .inl (g.cells x (List.contains_iff_mem.mp h.2))⟩
theorem Good.mg (g : Good X cf W c) {x : Str} (h : bltN.contains x = true) : X.mg x = none := g.blt x (List.contains_iff_mem.mp h)
end
end Ls
/-! What the checker lets pass runs as the small term: expressions. -/
namespace Ls
open PySem PySem.Spec PyProof.Rows L2
theorem chK_ok {d : D} {k : Const} (h : chK d k = true) {X : Cx} {cf : Cf} {W : WX} {j : Nat} {p : Pos} : PE X (.Constant k j p) (rdE X.K cf W (.cst d)) := by
  unfold chK at h
  split at h
  · exact sE_cst (v := .non) pe_non fun _ _ _ _ => RV.non.mpr rfl
  · rename_i b b'
    have e : b = b' := by simpa using h
    subst e
    exact sE_cst (v := .bl b) pe_bl fun _ _ _ _ => RV.bl.mpr rfl
  · rename_i i i'
    have e : i = i' := of_decide_eq_true h
    subst e
    exact sE_cst (v := .int i) pe_int fun _ _ _ _ => RV.int.mpr rfl
  · rename_i s x
    have e : x = ⟨s.toArray⟩ := of_decide_eq_true h
    subst e
    exact sE_cst (v := .str ⟨s.toArray⟩) pe_str fun _ _ _ _ => RV.str.mpr rfl
  · cases h
theorem chA_plain : ∀ (es : Es) (c : Ck) (xs : List Expr), chA es c xs = true → xs.all plainE = true
  | .nil, c, [], _ => rfl
  | .cons a r, c, x :: xs, h => by
    simp only [chA, Bool.and_eq_true] at h
    rw [List.all_cons, h.1.1, chA_plain r c xs h.2]; rfl
  | .nil, c, _ :: _, h => by simp [chA] at h
  | .cons _ _, c, [], h => by simp [chA] at h
  | .star _ _, c, xs, h => by cases xs <;> simp [chA] at h
theorem ownOf (c : Ck) (l : List Nat) : (c.own l).map (·.2) = l := by
  unfold Ck.own
  rw [List.map_map]
  exact List.map_id'' (fun _ => rfl) l
theorem each_plain : ∀ {es : List Expr} {env : Env}, es.all plainE = true → (assignEach es env).length = es.length ∧ (assignEach es env).findIdx? (·.1) = none
  | [], env, _ => ⟨rfl, rfl⟩
  | e :: es, env, h => by
    have h' : plainE e = true ∧ es.all plainE = true := by simpa using h
    obtain ⟨i1, i2⟩ := each_plain (env := env) h'.2
    have key : assignEach (e :: es) env = (false, assign e env) :: assignEach es env := by cases e <;> first | rfl | (cases h'.1)
    rw [key]
    exact ⟨by simp [i1], by simp [List.findIdx?_cons, i2]⟩
theorem each_cons {e : Expr} {es : List Expr} {env : Env} (h : plainE e = true) : (assignEach (e :: es) env).map (·.2) = assign e env :: (assignEach es env).map (·.2) := by cases e <;> first | rfl | (cases h)
theorem chGs_len : ∀ (ts : Ts) (c : Ck) (es : List Expr), chGs ts c es = true → es.length = ts.len
  | .nil, c, [], _ => rfl
  | .nil, c, _ :: _, g => by simp [chGs] at g
  | .cons t r, c, [], g => by simp [chGs] at g
  | .cons t r, c, e :: es, g => by
    simp only [chGs, Bool.and_eq_true] at g
    rw [List.length_cons, chGs_len r c es g.2]; rfl
theorem tp_of {t : T} {X : Cx} {tg : Expr} (h : (dTup tg).isSome = true) : ∃ es k p, tg = .Tuple es k p := by
  obtain ⟨r, e⟩ := Option.isSome_iff_exists.mp h
  exact ⟨_, _, _, dTup_eq e⟩
section
variable {X : Cx} {cf : Cf} {W : WX} {e : Expr} {m : E}
theorem both (h : PE X e (rdE X.K cf W m)) (ht : tst m e = plainT e) : PE X e (rdE X.K cf W m) ∧ (tst m e = true → PT X e (rdT X.K cf W m)) :=
  ⟨h, fun t => sT_plain h (isT_plain (by rw [← ht]; exact t) X.env)⟩
end
theorem last_marks {o p : CmpOp} {a b : Expr} (h : notSet b = true) : lastMarks [o, p] [a, b] = false := marks_plain h p
theorem mg_ty {X : Cx} {cf : Cf} {W : WX} {c : Ck} (g : Good X cf W c) (t : Ty) : X.mg (tyS t) = none := g.mg (by cases t <;> decide +kernel)
variable {cf : Cf} {W : WX}
set_option maxHeartbeats 1000000 in
theorem chAK_is : ∀ (es : Es) (c : Ck) (xs : List Expr) (ks : List Keyword), chAK es c xs ks = true → Es.is (xs.length + ks.length) es = true
  | .nil, c, [], [], _ => rfl
  | .cons a r, c, x :: xs, ks, h => by
    simp only [chAK, Bool.and_eq_true] at h
    rw [List.length_cons, show xs.length + 1 + ks.length = xs.length + ks.length + 1 by omega]
    exact chAK_is r c xs ks h.2
  | .cons a r, c, [], k :: ks, h => by
    simp only [chAK, Bool.and_eq_true] at h
    have := chAK_is r c [] ks h.2
    simpa [Es.is] using this
  | .nil, c, _ :: _, _, h => by simp [chAK] at h
  | .nil, c, [], _ :: _, h => by simp [chAK] at h
  | .cons _ _, c, [], [], h => by simp [chAK] at h
  | .star _ _, c, _, _, h => by simp [chAK] at h
mutual
theorem soundE : ∀ (m : E) (c : Ck) (X : Cx) (e : Expr) {W : WX}, Good X cf W c → chE m c e = true → PE X e (rdE X.K cf W m) ∧ (tst m e = true → PT X e (rdT X.K cf W m))
  | .var i, c, X, e, _, g, h => by
    simp only [chE] at h
    replace h := wth_of h
    obtain ⟨⟨x, p⟩, e1, h⟩ := h
    cases dName_eq e1
    simp only [Bool.and_eq_true, Bool.not_eq_true'] at h
    exact both (sE_var (by rw [g.n]; exact of_decide_eq_true h.1.1.1) (g.vis h.1.1.2) h.1.2 h.2) rfl
  | .cst d, c, X, e, _, g, h => by
    simp only [chE] at h
    replace h := wth_of h
    obtain ⟨r, e1, h⟩ := h
    cases dConst_eq e1
    exact both (chK_ok h) rfl
  | .bin o a b, c, X, e, _, g, h => by
    simp only [chE] at h
    replace h := wth_of h
    obtain ⟨⟨x, op, y, p⟩, e1, h⟩ := h
    cases dBin_eq e1
    simp only [Bool.and_eq_true] at h
    cases of_decide_eq_true h.1.1
    exact both (sE_bin (soundE a c X x g h.1.2).1 (soundE b c X y g h.2).1) rfl
  | .neg a, c, X, e, _, g, h => by
    simp only [chE] at h
    replace h := wth_of h
    obtain ⟨⟨op, x, p⟩, e1, h⟩ := h
    cases dUn_eq e1
    simp only [Bool.and_eq_true] at h
    cases of_decide_eq_true h.1
    exact both (sE_neg (soundE a c X x g h.2).1) rfl
  | .not a, c, X, e, _, g, h => by
    simp only [chE] at h
    replace h := wth_of h
    obtain ⟨⟨op, x, p⟩, e1, h⟩ := h
    cases dUn_eq e1
    simp only [Bool.and_eq_true] at h
    cases of_decide_eq_true h.1
    obtain ⟨h1, h2⟩ := soundE a c X x g h.2
    exact ⟨sE_not h1, fun t => sT_not (h2 t)⟩
  | .cmp o a b, c, X, e, _, g, h => by
    simp only [chE] at h
    replace h := wth_of h
    obtain ⟨⟨x, os, ys, p⟩, e1, h⟩ := h
    cases dCmp_eq e1
    simp only [Bool.and_eq_true] at h
    obtain ⟨⟨h1, h2⟩, h3⟩ := h
    cases of_decide_eq_true h1
    match ys, h3 with
    | [y], h3 =>
      simp only [Bool.and_eq_true] at h3
      have pa := (soundE a c X x g h2).1
      have pb := (soundE b c X y g h3.2).1
      exact ⟨sE_cmp g.deep pa pb (marks_plain h3.1 _), fun _ => sT_cmp g.deep pa pb (marks_plain h3.1 _)⟩
  | .chn o o2 a b d, c, X, e, _, g, h => by
    simp only [chE] at h
    replace h := wth_of h
    obtain ⟨⟨x, os, ys, p⟩, e1, h⟩ := h
    cases dCmp_eq e1
    simp only [Bool.and_eq_true] at h
    obtain ⟨⟨h1, h2⟩, h3⟩ := h
    cases of_decide_eq_true h1
    match ys, h3 with
    | [y, z], h3 =>
      simp only [Bool.and_eq_true] at h3
      have pa := (soundE a c X x g h2).1
      have pb := (soundE b c X y g h3.1.2).1
      have pc := (soundE d c X z g h3.2).1
      exact ⟨sE_chn g.deep pa pb pc (last_marks h3.1.1), fun _ => sT_chn g.deep pa pb pc (last_marks h3.1.1)⟩
  | .bool k es, c, X, e, _, g, h => by
    simp only [chE] at h
    replace h := wth_of h
    obtain ⟨⟨op, vs, p⟩, e1, h⟩ := h
    cases dBool_eq e1
    simp only [Bool.and_eq_true] at h
    cases of_decide_eq_true h.1
    obtain ⟨h1, h2⟩ := soundB es c X vs k p g h.2
    exact ⟨sE_bool h1, fun t => sT_bool (h2 t)⟩
  | .ite t a b, c, X, e, _, g, h => by
    simp only [chE] at h
    replace h := wth_of h
    obtain ⟨⟨x, y, z, p⟩, e1, h⟩ := h
    cases dIf_eq e1
    simp only [Bool.and_eq_true] at h
    exact both (sE_ite ((soundE t c X x g h.1.1.1).2 h.1.1.2) (soundE a c X y g h.1.2).1 (soundE b c X z g h.2).1) rfl
  | .tup es, c, X, e, _, g, h => by
    simp only [chE] at h
    replace h := wth_of h
    obtain ⟨⟨xs, k, p⟩, e1, h⟩ := h
    cases dTup_eq e1
    exact both (sE_tup (soundA es c X xs g h)) rfl
  | .lv f, c, X, e, _, g, h => by
    simp only [chE] at h
    exact both (sE_lv (soundF f c X e g h)) (by simp only [tst])
  | .lr f, c, X, e, _, g, h => by
    simp only [chE] at h
    exact both (sE_lr (soundF f c X e g h)) (by simp only [tst])
  | .call i es p, c, X, e, _, g, h => by
    simp only [chE] at h
    replace h := wth_of h
    obtain ⟨⟨fn, xs, ks, q⟩, e1, h⟩ := h
    cases dCall_eq e1
    replace h := wth_of h
    obtain ⟨⟨x, q2⟩, e2, h⟩ := h
    simp only at e2
    cases dName_eq e2
    simp only [Bool.and_eq_true, Bool.not_eq_true'] at h
    obtain ⟨⟨h4, h5⟩, h6⟩ := h
    obtain ⟨d, e3, h7⟩ := wth_of h6
    rw [Bool.and_eq_true] at h7
    obtain ⟨f, fd, k, sp, kn, kb⟩ := g.fns i d e3
    have ex : d.1 = x := of_decide_eq_true h7.1
    rw [ex] at kn
    have h8 := h7.2
    refine both ?_ rfl
    split at h8
    · rename_i ep
      subst ep
      rw [Bool.and_eq_true] at h8
      have ek : ks = [] := of_decide_eq_true h8.1
      subst ek
      cases xs with
      | nil =>
        cases es with
        | nil => exact sE_call0 g.th kn (g.gl h4) h5
        | cons _ _ => simp [chA] at h8
        | star _ _ => simp [chA] at h8
      | cons y ys => exact sE_call g.th kn (g.gl h4) (soundA es c X _ g h8.2) (chA_plain es c _ h8.2) h5
    · rename_i ep
      rw [Bool.and_eq_true] at h8
      obtain ⟨r, m1, m2⟩ := List.any_eq_true.mp h8.1
      rw [Bool.and_eq_true] at m2
      have er : r.2 = p := of_decide_eq_true m2.1
      have hn : ks.map (fun k => k.arg) = r.1.map some := of_decide_eq_true m2.2
      have kw := kb r m1
      rw [er] at kw
      have h9 := h8.2
      rw [Bool.and_eq_true] at h9
      obtain ⟨a1, a2, a3⟩ := soundAK es c X xs ks g h9.2
      have nl : ks.length = r.1.length := by simpa using congrArg List.length hn
      have pl : xs.length + ks.length = p.length := of_decide_eq_true h9.1
      have is := chAK_is es c xs ks h9.2
      rw [nl] at is pl
      cases xs with
      | nil => exact sE_callK0 g.th kn (g.gl h4) kw ep a2 hn h5 (by simpa using is) (by simpa using pl)
      | cons y ys => exact sE_callK g.th kn (g.gl h4) kw ep a1 a3 a2 hn h5 is pl
  | .scall i es p, c, X, e, _, g, h => by
    simp only [chE, Bool.and_eq_true] at h
    obtain ⟨C, pc, _, _, _, ss⟩ := g.ob h.1
    obtain ⟨⟨fn, xs, ks, q⟩, e1, h1⟩ := wth_of h.2
    cases dCall_eq e1
    obtain ⟨⟨o, f, ap⟩, e2, h2⟩ := wth_of h1
    simp only at e2
    cases dAttr_eq e2
    obtain ⟨⟨x, q2⟩, e3, h3⟩ := wth_of h2
    cases dName_eq e3
    simp only [Bool.and_eq_true] at h3
    obtain ⟨⟨⟨⟨k1, k2⟩, k3⟩, k4⟩, k5⟩ := h3
    have en : x = "Program" := of_decide_eq_true k1
    subst en
    obtain ⟨d, e4, h4⟩ := wth_of k5
    rw [Bool.and_eq_true] at h4
    obtain ⟨pp, gg, fd, k, sp, sm, kn, kb⟩ := ss i d e4
    have ex : d.1 = f := of_decide_eq_true h4.1
    rw [ex] at sm
    have h8 := h4.2
    have lt : xs.length + ks.length < 28 := of_decide_eq_true k4
    have hdb : (("Program" : Str) == ("__debug__" : Str)) = false := by decide
    refine both ?_ rfl
    split at h8
    · rename_i ep
      subst ep
      rw [Bool.and_eq_true, Bool.and_eq_true] at h8
      have ek : ks = [] := of_decide_eq_true h8.1
      subst ek
      cases xs with
      | nil => exact absurd h8.2.1 (by decide)
      | cons y ys => exact sE_scall g.th kn sm (g.gl k2) pc.mg hdb (attr_base (by rfl) _ _) (soundA es c X _ g h8.2.2) (chA_plain es c _ h8.2.2) (by simp only [List.length_nil] at lt; omega) k3
    · rename_i ep
      rw [Bool.and_eq_true, Bool.and_eq_true, Bool.and_eq_true] at h8
      obtain ⟨h80, h81, h82, h83⟩ := h8
      have ex0 : xs = [] := of_decide_eq_true h80
      subst ex0
      obtain ⟨r, m1, m2⟩ := List.any_eq_true.mp h81
      rw [Bool.and_eq_true] at m2
      have er : r.2 = p := of_decide_eq_true m2.1
      have hn : ks.map (fun k => k.arg) = r.1.map some := of_decide_eq_true m2.2
      have kw := kb r m1
      rw [er] at kw
      obtain ⟨a1, a2, a3⟩ := soundAK es c X [] ks g h83
      have nl : ks.length = r.1.length := by simpa using congrArg List.length hn
      have pl : ks.length = p.length := of_decide_eq_true h82
      have is := chAK_is es c [] ks h83
      rw [nl] at is
      exact sE_scallK0 g.th kn sm (g.gl k2) pc.mg hdb (attr_base (by rfl) _ _) kw ep a2 hn (show ks.length < 28 by simp only [List.length_nil] at lt; omega) k3 (by simpa using is) (by rw [← nl]; exact pl)
  | .olen i a, c, X, e, _, g, h => by
    simp only [chE, Bool.and_eq_true] at h
    obtain ⟨C, pc, _, _, sp0, _⟩ := g.ob h.1
    obtain ⟨⟨fn, xs, ks, q⟩, e1, h2⟩ := wth_of h.2
    cases dCall_eq e1
    simp only [Bool.and_eq_true] at h2
    have ek : ks = [] := of_decide_eq_true h2.1
    subst ek
    obtain ⟨⟨x, q2⟩, e2, h3⟩ := wth_of h2.2
    cases dName_eq e2
    simp only [Bool.and_eq_true] at h3
    have en : x = "len" := of_decide_eq_true h3.1.1.1
    subst en
    obtain ⟨gg, k, sp, S⟩ := sp0 i _ (of_decide_eq_true h3.1.2)
    match xs, h3.2 with
    | [y], k4 =>
      simp only [Bool.and_eq_true] at k4
      exact both (sE_olen pc.at0 pc.one g.th S (g.gl h3.1.1.2) (g.mg (by decide +kernel)) (soundE a c X y g k4.2).1 k4.1) rfl
  | .oop k i a b, c, X, e, _, g, h => by
    simp only [chE, Bool.and_eq_true] at h
    obtain ⟨C, pc, _, _, sp0, _⟩ := g.ob h.1
    obtain ⟨⟨x, os, ys, p⟩, e1, h1⟩ := wth_of h.2
    cases dCmp_eq e1
    simp only [Bool.and_eq_true] at h1
    obtain ⟨⟨h2, h3⟩, h4⟩ := h1
    refine both ?_ rfl
    match ys, h4 with
    | [y], h4 =>
      simp only [Bool.and_eq_true] at h4
      have pa := (soundE a c X x g h3).1
      have pb := (soundE b c X y g h4.2).1
      match k, h2 with
      | 0, h2 =>
        simp only [Bool.and_eq_true] at h2
        have eo : os = [.Eq] := of_decide_eq_true h2.1
        subst eo
        obtain ⟨gg, k, sp, S⟩ := sp0 i _ (of_decide_eq_true h2.2)
        exact sE_oeq pc.at0 pc.one g.th S pa pb (marks_plain h4.1 _)
      | 1, h2 =>
        simp only [Bool.and_eq_true] at h2
        have eo : os = [.In] := of_decide_eq_true h2.1
        subst eo
        obtain ⟨gg, k, sp, S⟩ := sp0 i _ (of_decide_eq_true h2.2)
        exact sE_oin pc.at0 pc.one g.th S pa pb (marks_plain h4.1 _)
      | _ + 2, h2 => cases h2
  | .pr p es, c, X, e, _, g, h => by
    simp only [chE] at h
    replace h := wth_of h
    obtain ⟨⟨fn, xs, ks, q⟩, e1, h⟩ := h
    cases dCall_eq e1
    simp only [Bool.and_eq_true] at h
    obtain ⟨⟨h1, h3⟩, h4⟩ := h
    have ek : ks = [] := of_decide_eq_true h1
    subst ek
    replace h4 := wth_of h4
    obtain ⟨⟨x, q2⟩, e2, h4⟩ := h4
    cases dName_eq e2
    simp only [Bool.and_eq_true] at h4
    obtain ⟨⟨⟨h5, h6⟩, h7⟩, h8⟩ := h4
    cases of_decide_eq_true h5
    refine both ?_ rfl
    cases xs with
    | nil => cases h3
    | cons y ys => exact sE_pr g.calm (g.gl h6) (g.mg h7) (soundA es c X _ g h8) (chA_plain es c _ h8)
  | .mt m o es, c, X, e, _, g, h => by
    simp only [chE] at h
    replace h := wth_of h
    obtain ⟨⟨fn, xs, ks, q⟩, e1, h⟩ := h
    cases dCall_eq e1
    simp only [Bool.and_eq_true] at h
    have ek : ks = [] := of_decide_eq_true h.1
    subst ek
    obtain ⟨⟨ob, nm, ap⟩, e2, h2⟩ := wth_of h.2
    cases dAttr_eq e2
    replace h2 := wth_of h2
    obtain ⟨⟨nm', id⟩, e3, h2⟩ := h2
    simp only [Bool.and_eq_true] at h2
    obtain ⟨⟨⟨⟨⟨⟨k1, k2⟩, k3⟩, k4⟩, k5⟩, k6⟩, k7⟩ := h2
    have en : nm = nm' := of_decide_eq_true k1
    subst en
    have po := (soundE o c X ob g k4).1
    refine both ?_ rfl
    cases m with
    | append =>
      cases e3
      cases xs with
      | nil => cases k6
      | cons y ys => exact sE_mtL PySem.F.slot_list_append PySem.F.type_list_append mt_append' (fun _ _ => rfl) po (soundA es c X _ g k7) (chA_plain es c _ k7) k2 (of_decide_eq_true k5) k3
    | pop0 =>
      cases e3
      cases xs with
      | nil => cases es with
        | nil => exact sE_mtL0 PySem.F.slot_list_pop PySem.F.type_list_pop mt_pop0' (fun _ _ => rfl) po k2 k3
        | cons _ _ => simp [chA] at k7
        | star _ _ => simp [chA] at k7
      | cons y ys => cases k6
    | popat =>
      cases e3
      cases xs with
      | nil => cases k6
      | cons y ys => exact sE_mtL PySem.F.slot_list_pop PySem.F.type_list_pop mt_popat' (fun _ _ => rfl) po (soundA es c X _ g k7) (chA_plain es c _ k7) k2 (of_decide_eq_true k5) k3
    | join =>
      cases e3
      cases xs with
      | nil => cases k6
      | cons y ys => exact sE_mtS PySem.F.slot_str_join PySem.F.type_str_join mt_join' pre_join po (soundA es c X _ g k7) (chA_plain es c _ k7) k2 (of_decide_eq_true k5) k3
    | insert =>
      cases e3
      cases xs with
      | nil => cases k6
      | cons y ys => exact sE_mtL PySem.F.slot_list_insert PySem.F.type_list_insert mt_insert' (fun _ _ => rfl) po (soundA es c X _ g k7) (chA_plain es c _ k7) k2 (of_decide_eq_true k5) k3
    | _ => cases e3
  | .ix o i, c, X, e, _, g, h => by
    simp only [chE] at h
    replace h := wth_of h
    obtain ⟨⟨x, y, p⟩, e1, h⟩ := h
    cases dSub_eq e1
    simp only [Bool.and_eq_true] at h
    exact both (sE_ix g.deep (soundE o c X x g h.1.2).1 (soundE i c X y g h.2).1 h.1.1) rfl
  | .sl o lo hi, c, X, e, _, g, h => by
    simp only [chE] at h
    replace h := wth_of h
    obtain ⟨⟨x, y, p⟩, e1, h⟩ := h
    cases dSub_eq e1
    replace h := wth_of h
    obtain ⟨⟨a, b, st, p2⟩, e2, h⟩ := h
    cases dSli_eq e2
    simp only [Bool.and_eq_true] at h
    cases st with
    | some _ => cases of_decide_eq_true h.1.1.1
    | none => exact both (sE_sl (soundE o c X x g h.1.1.2).1 (soundO lo c X a g h.1.2) (soundO hi c X b g h.2)) rfl
  | .isi a ts, c, X, e, _, g, h => by
    simp only [chE] at h
    replace h := wth_of h
    obtain ⟨⟨fn, xs, ks, q⟩, e1, h⟩ := h
    cases dCall_eq e1
    simp only [Bool.and_eq_true] at h
    have ek : ks = [] := of_decide_eq_true h.1
    subst ek
    obtain ⟨⟨x, q2⟩, e2, h2⟩ := wth_of h.2
    cases dName_eq e2
    simp only [Bool.and_eq_true] at h2
    obtain ⟨⟨⟨k1, k2⟩, k3⟩, k4⟩ := h2
    have en : x = "isinstance" := of_decide_eq_true k1
    subst en
    have mi : X.mg "isinstance" = none := g.mg (by decide +kernel)
    refine both ?_ rfl
    match xs, k4 with
    | [x, y], k4 =>
      simp only [Bool.and_eq_true] at k4
      obtain ⟨⟨k5, k6⟩, k7⟩ := k4
      have pa := (soundE a c X x g k6).1
      split at k7
      · rename_i t
        replace k7 := wth_of k7
        obtain ⟨⟨z, q3⟩, e3, k8⟩ := k7
        cases dName_eq e3
        have ez : z = tyS t := of_decide_eq_true k8
        subst ez
        have gt : c.gl (tyS t) = true := List.all_eq_true.mp k3 t List.mem_cons_self
        exact sE_isi1 g.nt (g.gl k2) mi (g.gl gt) (mg_ty g t) pa k5
      · rename_i hne
        simp only [Bool.and_eq_true] at k7
        obtain ⟨k9, k10⟩ := k7
        replace k10 := wth_of k10
        obtain ⟨⟨zs, kk, q3⟩, e3, k11⟩ := k10
        cases dTup_eq e3
        have l1 : ts.length ≠ 1 := fun l => match ts, l with
          | [t], _ => hne t rfl
        exact sE_isiT (g.gl k2) mi (fun t ht => g.gl (List.all_eq_true.mp k3 t ht)) (mg_ty g) k11 (Nat.le_trans (of_decide_eq_true k9) (by decide)) l1 pa k5
  | .frz a, c, X, e, _, g, h => by
    simp only [chE] at h
    exact both (sE_frz (soundE a c X e g h).1) (by simp only [tst])
  | .glb y d, c, X, e, _, g, h => by
    simp only [chE] at h
    obtain ⟨⟨x, p⟩, e1, h0⟩ := wth_of h
    cases dName_eq e1
    simp only [Bool.and_eq_true, Bool.not_eq_true'] at h0
    obtain ⟨k, e2, h2⟩ := wth_of h0.2
    obtain ⟨u, m, r⟩ := g.gc x k e2
    exact both (sE_glb (g.gl h0.1.1) m (relC_of h2 r) h0.1.2) rfl
  | .att a k, c, X, e, _, g, h => by
    simp only [chE, Bool.and_eq_true] at h
    obtain ⟨C, pc, _⟩ := g.ob h.1
    obtain ⟨⟨o, f, p⟩, e1, h2⟩ := wth_of h.2
    cases dAttr_eq e1
    simp only [Bool.and_eq_true] at h2
    have ef : f = "own_deeds" := of_decide_eq_true h2.1.1.1
    have ek : k = 0 := of_decide_eq_true h2.1.1.2
    subst ef ek
    refine both (sE_att (soundE a c X o g h2.2).1 (fun n D q => ?_) h2.1.2) rfl
    obtain rfl := pc.one n D q
    cases q.symm.trans pc.at0
    exact ⟨pc.sc, pc.s1⟩
  | .prop i a, c, X, e, _, g, h => by
    simp only [chE, Bool.and_eq_true] at h
    obtain ⟨C, pc, ps, _⟩ := g.ob h.1
    obtain ⟨⟨o, f, p⟩, e1, h2⟩ := wth_of h.2
    cases dAttr_eq e1
    obtain ⟨x, e2, h3⟩ := wth_of h2
    simp only [Bool.and_eq_true] at h3
    have ef : x = f := of_decide_eq_true h3.1.1
    subst ef
    obtain ⟨pp, gg, k, sp, q⟩ := ps i x e2
    exact both (sE_prop pc.at0 pc.one pc.sc q.at_ q.get q.tk q.rc q.ok q.room q.cov (soundE a c X o g h3.2).1 h3.1.2) rfl
  | .newp i a, c, X, e, _, g, h => by
    simp only [chE, Bool.and_eq_true] at h
    obtain ⟨C, pc, _, ms, _⟩ := g.ob h.1
    obtain ⟨⟨fn, xs, ks, q⟩, e1, h2⟩ := wth_of h.2
    cases dCall_eq e1
    simp only [Bool.and_eq_true] at h2
    have ek : ks = [] := of_decide_eq_true h2.1
    subst ek
    obtain ⟨⟨x, q2⟩, e2, h3⟩ := wth_of h2.2
    cases dName_eq e2
    simp only [Bool.and_eq_true] at h3
    have en : x = "Program" := of_decide_eq_true h3.1.1.1
    subst en
    obtain ⟨fI, fd, k, spT, q3⟩ := ms i (of_decide_eq_true h3.1.2)
    match xs, h3.2 with
    | [y], k4 =>
      simp only [Bool.and_eq_true] at k4
      exact both (sE_newp pc.at0 q3.mak q3.ok q3.room (g.gl h3.1.1.2) pc.mg q3.bind q3.cov (soundE a c X y g k4.2).1 k4.1) rfl
  | .isc a, c, X, e, _, g, h => by
    simp only [chE, Bool.and_eq_true] at h
    obtain ⟨C, pc, _⟩ := g.ob h.1
    obtain ⟨⟨fn, xs, ks, q⟩, e1, h2⟩ := wth_of h.2
    cases dCall_eq e1
    simp only [Bool.and_eq_true] at h2
    have ek : ks = [] := of_decide_eq_true h2.1
    subst ek
    obtain ⟨⟨x, q2⟩, e2, h3⟩ := wth_of h2.2
    cases dName_eq e2
    simp only [Bool.and_eq_true] at h3
    have en : x = "isinstance" := of_decide_eq_true h3.1.1.1
    subst en
    match xs, h3.2 with
    | [y, z], k4 =>
      simp only [Bool.and_eq_true] at k4
      obtain ⟨⟨zz, q4⟩, e4, k5⟩ := wth_of k4.2
      cases dName_eq e4
      have ez : zz = "Program" := of_decide_eq_true k5
      subst ez
      exact both (sE_isc g.nt pc.ic (g.gl h3.1.1.2) (g.mg (by decide +kernel)) (g.gl h3.1.2) pc.mg (soundE a c X y g k4.1.2).1 k4.1.1) rfl
  | .xat a f, c, X, e, _, g, h => by
    simp only [chE] at h
    obtain ⟨⟨o, x, q⟩, e1, h2⟩ := wth_of h
    cases dAttr_eq e1
    simp only [Bool.and_eq_true] at h2
    have en : x = sgS f := of_decide_eq_true h2.1.1
    subst en
    exact both (sE_xat g.xt (soundE a c X o g h2.2).1 h2.1.2) rfl
  | .isx a b, c, X, e, _, g, h => by
    simp only [chE] at h
    obtain ⟨⟨fn, xs, ks, q⟩, e1, h2⟩ := wth_of h
    cases dCall_eq e1
    simp only [Bool.and_eq_true] at h2
    have ek : ks = [] := of_decide_eq_true h2.1
    subst ek
    obtain ⟨⟨x, q2⟩, e2, h3⟩ := wth_of h2.2
    cases dName_eq e2
    simp only [Bool.and_eq_true] at h3
    have en : x = "isinstance" := of_decide_eq_true h3.1.1.1
    subst en
    match xs, h3.2 with
    | [y, z], k4 =>
      simp only [Bool.and_eq_true] at k4
      obtain ⟨⟨zz, q4⟩, e4, k5⟩ := wth_of k4.2
      cases dName_eq e4
      have ez : zz = exUS b := of_decide_eq_true k5
      subst ez
      exact both (sE_isx g.xt (g.gl h3.1.1.2) (g.mg (by decide +kernel)) (g.gl h3.1.2) (g.mg (by cases b <;> decide +kernel)) (soundE a c X y g k4.1.2).1 k4.1.1) rfl
theorem soundB : ∀ (es : Es) (c : Ck) (X : Cx) (vs : List Expr) (k : Bool) (p : Pos) {W : WX}, Good X cf W c → chB es c vs = true → PE X (.BoolOp (bo2 k) vs p) (rdB X.K cf W k es) ∧ (tstS es vs = true → PW X (.BoolOp (bo2 k) vs p) (rdTB X.K cf W k es))
  | .nil, c, X, vs, k, p, _, g, h => by simp [chB] at h
  | .star _ _, c, X, vs, k, p, _, g, h => by simp [chB] at h
  | .cons a .nil, c, X, [x], k, p, _, g, h => by
    simp only [chB] at h
    obtain ⟨h1, h2⟩ := soundE a c X x g h
    exact ⟨sB_one h1, fun t => sTB_one (h2 (by simpa [tstS] using t))⟩
  | .cons a .nil, c, X, [], k, p, _, g, h => by simp [chB] at h
  | .cons a .nil, c, X, x :: y :: ys, k, p, _, g, h => by simp [chB] at h
  | .cons a (.cons b r), c, X, [], k, p, _, g, h => by simp [chB] at h
  | .cons a (.cons b r), c, X, [x], k, p, _, g, h => by simp [chB] at h
  | .cons a (.cons b r), c, X, x :: y :: ys, k, p, _, g, h => by
    simp only [chB, Bool.and_eq_true] at h
    obtain ⟨h1, h2⟩ := soundE a c X x g h.1
    obtain ⟨h3, h4⟩ := soundB (.cons b r) c X (y :: ys) k p g h.2
    exact ⟨sB_cons h1 h3 (fun z => nomatch z), fun t => by
      rw [tstS, Bool.and_eq_true] at t
      exact sTB_cons (h2 t.1) (h4 t.2) (fun z => nomatch z)⟩
  | .cons a (.star b r), c, X, vs, k, p, _, g, h => by cases vs with
    | nil => simp [chB] at h
    | cons x xs => cases xs <;> simp [chB] at h
theorem soundA : ∀ (es : Es) (c : Ck) (X : Cx) (xs : List Expr) {W : WX}, Good X cf W c → chA es c xs = true → PA X xs (rdA X.K cf W es)
  | .nil, c, X, [], _, g, _ => sA_nil
  | .nil, c, X, _ :: _, _, g, h => by simp [chA] at h
  | .cons a r, c, X, [], _, g, h => by simp [chA] at h
  | .cons a r, c, X, x :: xs, _, g, h => by
    simp only [chA, Bool.and_eq_true] at h
    exact sA_cons (soundE a c X x g h.1.2).1 (soundA r c X xs g h.2) h.1.1
  | .star _ _, c, X, xs, _, g, h => by cases xs <;> simp [chA] at h
theorem soundAK : ∀ (es : Es) (c : Ck) (X : Cx) (xs : List Expr) (ks : List Keyword) {W : WX}, Good X cf W c → chAK es c xs ks = true → PA X xs (rdA X.K cf W (es.take xs.length)) ∧ PK X ks (rdA X.K cf W (es.drop xs.length)) ∧ xs.all plainE = true
  | .nil, c, X, [], [], _, g, _ => ⟨sA_nil, sK_nil, rfl⟩
  | .nil, c, X, _ :: _, _, _, g, h => by simp [chAK] at h
  | .nil, c, X, [], _ :: _, _, g, h => by simp [chAK] at h
  | .cons a r, c, X, [], [], _, g, h => by simp [chAK] at h
  | .cons a r, c, X, x :: xs, ks, _, g, h => by
    simp only [chAK, Bool.and_eq_true] at h
    obtain ⟨i1, i2, i3⟩ := soundAK r c X xs ks g h.2
    exact ⟨sA_cons (soundE a c X x g h.1.2).1 i1 h.1.1, i2, by rw [List.all_cons, h.1.1, i3]; rfl⟩
  | .cons a r, c, X, [], ⟨nm, v, kp⟩ :: ks, _, g, h => by
    simp only [chAK, Bool.and_eq_true] at h
    obtain ⟨i1, i2, i3⟩ := soundAK r c X [] ks g h.2
    exact ⟨sA_nil, sK_cons (soundE a c X v g h.1).1 i2, rfl⟩
  | .star _ _, c, X, xs, ks, _, g, h => by simp [chAK] at h
theorem soundO : ∀ (o : Oe) (c : Ck) (X : Cx) (x : Option Expr) {W : WX}, Good X cf W c → chO o c x = true → PO X x (rdO X.K cf W o)
  | .no, c, X, none, _, g, _ => sO_no
  | .no, c, X, some _, _, g, h => by simp [chO] at h
  | .so a, c, X, none, _, g, h => by simp [chO] at h
  | .so a, c, X, some x, _, g, h => by
    simp only [chO] at h
    exact sO_so (soundE a c X x g h).1
theorem soundF : ∀ (f : F) (c : Ck) (X : Cx) (e : Expr) {W : WX}, Good X cf W c → chF f c e = true → PE X e (rdF X.K cf W f)
  | .disp es, c, X, e, _, g, h => by
    simp only [chF] at h
    replace h := wth_of h
    obtain ⟨⟨xs, p⟩, e1, h⟩ := h
    cases dLst_eq e1
    exact sF_disp (soundA es c X xs g h)
  | .comp t i ct a, c, X, e, _, g, h => by
    simp only [chF] at h
    replace h := wth_of h
    obtain ⟨⟨el, gs, sc, p⟩, e1, h⟩ := h
    cases dLC_eq e1
    simp only at h
    split at h
    · rename_i _ tg it ifs
      simp only [Bool.and_eq_true] at h
      obtain ⟨⟨⟨⟨⟨h1, h2⟩, h3⟩, h4⟩, h5⟩, h6⟩ := h
      exact sF_comp ⟨g.calm, by rw [g.n]; exact g.nod, soundI i c X t.tp? tg it g h3, by rw [g.n, g.sc]; exact blkOk_by h1, ownOf c _, fun s H cc cl fp => soundG t _ _ tg (g.blk sc s H cc cl fp) h4, fun s H cc cl fp => soundC ct _ _ ifs (g.blk sc s H cc cl fp) h5,
        fun s H cc cl fp => (soundE a _ _ el (g.blk sc s H cc cl fp) h6).1, fold_plain h2 X.env⟩
    · cases h
  | .comp2 t i u j ct a, c, X, e, _, g, h => by
    simp only [chF] at h
    replace h := wth_of h
    obtain ⟨⟨el, gs, sc, p⟩, e1, h⟩ := h
    cases dLC_eq e1
    simp only at h
    split at h
    · rename_i _ tg it tg1 it1 ifs
      simp only [Bool.and_eq_true] at h
      obtain ⟨⟨⟨⟨⟨⟨⟨⟨h1, h2⟩, h2'⟩, h3⟩, h4⟩, h3'⟩, h4'⟩, h5⟩, h6⟩ := h
      exact sF_comp2 ⟨g.calm, by rw [g.n]; exact g.nod, soundI i c X t.tp? tg it g h3, by rw [g.n, g.sc]; exact blkOk_by h1, ownOf c _, fun s H cc cl fp => soundG t _ _ tg (g.blk sc s H cc cl fp) h4,
        fun s H cc cl fp => soundI j _ _ u.tp? tg1 it1 (g.blk sc s H cc cl fp) h3', fun s H cc cl fp => soundG u _ _ tg1 (g.blk sc s H cc cl fp) h4', fun s H cc cl fp => soundC ct _ _ ifs (g.blk sc s H cc cl fp) h5,
        fun s H cc cl fp => (soundE a _ _ el (g.blk sc s H cc cl fp) h6).1, fold_plain h2 X.env, fun env => fold_plain h2' env⟩
    · cases h
  | .list a, c, X, e, _, g, h => by
    simp only [chF] at h
    replace h := wth_of h
    obtain ⟨⟨fn, xs, ks, q⟩, e1, h⟩ := h
    cases dCall_eq e1
    simp only [Bool.and_eq_true] at h
    have ek : ks = [] := of_decide_eq_true h.1
    subst ek
    obtain ⟨⟨x, q2⟩, e2, h2⟩ := wth_of h.2
    cases dName_eq e2
    simp only [Bool.and_eq_true] at h2
    have en : x = "list" := of_decide_eq_true h2.1.1
    subst en
    match xs, h2.2 with
    | [y], k =>
      simp only [Bool.and_eq_true] at k
      exact sF_list (g.gl h2.1.2) (g.mg (by decide +kernel)) (soundE a c X y g k.2).1 k.1
  | .rng a b, c, X, e, _, g, h => by
    simp only [chF] at h
    replace h := wth_of h
    obtain ⟨⟨fn, xs, ks, q⟩, e1, h⟩ := h
    cases dCall_eq e1
    simp only [Bool.and_eq_true] at h
    have ek : ks = [] := of_decide_eq_true h.1
    subst ek
    obtain ⟨⟨x, q2⟩, e2, h2⟩ := wth_of h.2
    cases dName_eq e2
    simp only [Bool.and_eq_true] at h2
    obtain ⟨⟨⟨k1, k2⟩, k3⟩, k4⟩ := h2
    have en : x = "list" := of_decide_eq_true k1
    subst en
    match xs, k4 with
    | [y], k4 =>
      replace k4 := wth_of k4
      obtain ⟨⟨fn2, ys, ks2, q3⟩, e3, k5⟩ := k4
      cases dCall_eq e3
      simp only [Bool.and_eq_true] at k5
      have ek : ks2 = [] := of_decide_eq_true k5.1
      subst ek
      obtain ⟨⟨x2, q4⟩, e4, k6⟩ := wth_of k5.2
      cases dName_eq e4
      simp only [Bool.and_eq_true] at k6
      have en : x2 = "range" := of_decide_eq_true k6.1
      subst en
      have ml : X.mg "list" = none := g.mg (by decide +kernel)
      have mr : X.mg "range" = none := g.mg (by decide +kernel)
      match ys, k6.2 with
      | [z], k7 =>
        simp only [Bool.and_eq_true] at k7
        cases a with
        | no => exact sF_rng1 g.calm (g.gl k2) ml (g.gl k3) mr (soundE b c X z g k7.2).1 k7.1.2
        | so a => cases k7.1.1
      | [z, z2], k7 =>
        simp only [Bool.and_eq_true] at k7
        cases a with
        | no => simp [chO] at k7
        | so a => exact sF_rng2 g.calm (g.gl k2) ml (g.gl k3) mr (soundE a c X z g (by simpa only [chO] using k7.1.2)).1 k7.1.1.1 (soundE b c X z2 g k7.2).1 k7.1.1.2
  | .sli o lo hi, c, X, e, _, g, h => by
    simp only [chF] at h
    replace h := wth_of h
    obtain ⟨⟨x, y, p⟩, e1, h⟩ := h
    cases dSub_eq e1
    replace h := wth_of h
    obtain ⟨⟨a, b, st, p2⟩, e2, h⟩ := h
    cases dSli_eq e2
    simp only [Bool.and_eq_true] at h
    cases st with
    | some _ => cases of_decide_eq_true h.1.1.1
    | none => exact sF_sli (soundE o c X x g h.1.1.2).1 (soundO lo c X a g h.1.2) (soundO hi c X b g h.2)
  | .cat a b, c, X, e, _, g, h => by
    simp only [chF] at h
    replace h := wth_of h
    obtain ⟨⟨x, op, y, p⟩, e1, h⟩ := h
    cases dBin_eq e1
    simp only [Bool.and_eq_true] at h
    cases of_decide_eq_true h.1.1
    exact sF_cat (soundE a c X x g h.1.2).1 (soundE b c X y g h.2).1
  | .sorted a, c, X, e, _, g, h => by
    simp only [chF] at h
    replace h := wth_of h
    obtain ⟨⟨fn, xs, ks, q⟩, e1, h⟩ := h
    cases dCall_eq e1
    simp only [Bool.and_eq_true] at h
    have ek : ks = [] := of_decide_eq_true h.1
    subst ek
    obtain ⟨⟨x, q2⟩, e2, h2⟩ := wth_of h.2
    cases dName_eq e2
    simp only [Bool.and_eq_true] at h2
    have en : x = "sorted" := of_decide_eq_true h2.1.1
    subst en
    match xs, h2.2 with
    | [y], k =>
      simp only [Bool.and_eq_true] at k
      exact sF_sorted g.deep (g.gl h2.1.2) (g.mg (by decide +kernel)) (soundE a c X y g k.2).1 k.1
  | .sset a, c, X, e, _, g, h => by
    simp only [chF] at h
    replace h := wth_of h
    obtain ⟨⟨fn, xs, ks, q⟩, e1, h⟩ := h
    cases dCall_eq e1
    simp only [Bool.and_eq_true] at h
    have ek : ks = [] := of_decide_eq_true h.1
    subst ek
    obtain ⟨⟨x, q2⟩, e2, h2⟩ := wth_of h.2
    cases dName_eq e2
    simp only [Bool.and_eq_true] at h2
    have en : x = "sorted" := of_decide_eq_true h2.1.1
    subst en
    match xs, h2.2 with
    | [y], k =>
      obtain ⟨⟨fn2, ys, ks2, q3⟩, e3, k5⟩ := wth_of k
      cases dCall_eq e3
      simp only [Bool.and_eq_true] at k5
      have ek2 : ks2 = [] := of_decide_eq_true k5.1
      subst ek2
      obtain ⟨⟨x2, q4⟩, e4, k6⟩ := wth_of k5.2
      cases dName_eq e4
      simp only [Bool.and_eq_true] at k6
      have en2 : x2 = "set" := of_decide_eq_true k6.1.1
      subst en2
      match ys, k6.2 with
      | [z], k7 =>
        simp only [Bool.and_eq_true] at k7
        exact sF_sset g.calm g.deep (g.gl h2.1.2) (g.mg (by decide +kernel)) (g.gl k6.1.2) (g.mg (by decide +kernel)) (soundE a c X z g k7.2).1 k7.1
  | .rep _ _, c, X, e, _, g, h => by simp [chF] at h
  | .rev _, c, X, e, _, g, h => by simp [chF] at h
  | .split o s, c, X, e, _, g, h => by
    simp only [chF] at h
    obtain ⟨⟨fn, xs, ks, q⟩, e1, h1⟩ := wth_of h
    cases dCall_eq e1
    rw [Bool.and_eq_true] at h1
    have ek : ks = [] := of_decide_eq_true h1.1
    subst ek
    obtain ⟨⟨o', f, ap⟩, e2, h2⟩ := wth_of h1.2
    simp only at e2
    cases dAttr_eq e2
    simp only [Bool.and_eq_true] at h2
    obtain ⟨⟨⟨k1, k2⟩, k3⟩, k4⟩ := h2
    have en : f = "split" := of_decide_eq_true k1
    subst en
    match xs, k4 with
    | [y], k4 =>
      simp only [Bool.and_eq_true] at k4
      exact sF_split (soundE o c X o' g k4.2).1 (soundE s c X y g k4.1.2).1 k4.1.1 k2 k3
theorem soundI : ∀ (i : I) (c : Ck) (X : Cx) (tp : Bool) (tg e : Expr) {W : WX}, Good X cf W c → chI i c tp tg e = true → PI X tg e (rdI X.K cf W tp i)
  | .seq a, c, X, tp, tg, e, _, g, h => by
    simp only [chI] at h
    exact sI_seq (soundE a c X e g h).1
  | .sgn a, c, X, tp, tg, e, _, g, h => by
    simp only [chI] at h
    exact sI_sgn (soundE a c X e g h).1
  | .rng a b, c, X, tp, tg, e, _, g, h => by
    simp only [chI] at h
    replace h := wth_of h
    obtain ⟨⟨fn2, ys, ks2, q3⟩, e3, k5⟩ := h
    cases dCall_eq e3
    simp only [Bool.and_eq_true] at k5
    have ek : ks2 = [] := of_decide_eq_true k5.1
    subst ek
    obtain ⟨⟨x2, q4⟩, e4, k6⟩ := wth_of k5.2
    cases dName_eq e4
    simp only [Bool.and_eq_true] at k6
    have en : x2 = "range" := of_decide_eq_true k6.1.1
    subst en
    have mr : X.mg "range" = none := g.mg (by decide +kernel)
    match ys, k6.2 with
    | [z], k7 =>
      simp only [Bool.and_eq_true] at k7
      cases a with
      | no => exact sI_rng1 (g.gl k6.1.2) mr (soundE b c X z g k7.2).1 k7.1.2
      | so a => cases k7.1.1
    | [z, z2], k7 =>
      simp only [Bool.and_eq_true] at k7
      cases a with
      | no => simp [chO] at k7
      | so a => exact sI_rng2 (g.gl k6.1.2) mr (soundE a c X z g (by simpa only [chO] using k7.1.2)).1 k7.1.1.1 (soundE b c X z2 g k7.2).1 k7.1.1.2
  | .enum a, c, X, tp, tg, e, _, g, h => by
    simp only [chI, Bool.and_eq_true] at h
    obtain ⟨⟨h1, h2⟩, h3⟩ := h
    subst h1
    obtain ⟨es, kk, pp, rfl⟩ := tp_of (t := .nm 0) (X := X) h2
    replace h3 := wth_of h3
    obtain ⟨⟨fn2, ys, ks2, q3⟩, e3, k5⟩ := h3
    cases dCall_eq e3
    simp only [Bool.and_eq_true] at k5
    have ek : ks2 = [] := of_decide_eq_true k5.1
    subst ek
    obtain ⟨⟨x2, q4⟩, e4, k6⟩ := wth_of k5.2
    cases dName_eq e4
    simp only [Bool.and_eq_true] at k6
    have en : x2 = "enumerate" := of_decide_eq_true k6.1.1
    subst en
    match ys, k6.2 with
    | [z], k7 =>
      simp only [Bool.and_eq_true] at k7
      exact sI_enum (g.gl k6.1.2) (g.mg (by decide +kernel)) (soundE a c X z g k7.2).1 k7.1
  | .zip a b, c, X, tp, tg, e, _, g, h => by
    simp only [chI, Bool.and_eq_true] at h
    obtain ⟨⟨h1, h2⟩, h3⟩ := h
    subst h1
    obtain ⟨es, kk, pp, rfl⟩ := tp_of (t := .nm 0) (X := X) h2
    replace h3 := wth_of h3
    obtain ⟨⟨fn2, ys, ks2, q3⟩, e3, k5⟩ := h3
    cases dCall_eq e3
    simp only [Bool.and_eq_true] at k5
    have ek : ks2 = [] := of_decide_eq_true k5.1
    subst ek
    obtain ⟨⟨x2, q4⟩, e4, k6⟩ := wth_of k5.2
    cases dName_eq e4
    simp only [Bool.and_eq_true] at k6
    have en : x2 = "zip" := of_decide_eq_true k6.1.1
    subst en
    match ys, k6.2 with
    | [z, z2], k7 =>
      simp only [Bool.and_eq_true] at k7
      exact sI_zip (g.gl k6.1.2) (g.mg (by decide +kernel)) (soundE a c X z g k7.1.2).1 k7.1.1.1 (soundE b c X z2 g k7.2).1 k7.1.1.2
  | .items _, c, X, tp, tg, e, _, g, h => by simp [chI] at h
theorem soundG : ∀ (t : T) (c : Ck) (X : Cx) (e : Expr) {W : WX}, Good X cf W c → chG t c e = true → PG X e (rdG X.K cf W t)
  | .nm i, c, X, e, _, g, h => by
    simp only [chG] at h
    replace h := wth_of h
    obtain ⟨⟨x, p⟩, e1, h⟩ := h
    cases dName_eq e1
    obtain ⟨h1, h2, h3⟩ := g.put h
    exact sG_nm (by rw [g.n]; exact g.nod) h1 h2 h3
  | .tp ts, c, X, e, _, g, h => by
    simp only [chG] at h
    replace h := wth_of h
    obtain ⟨⟨es, k, p⟩, e1, h⟩ := h
    cases dTup_eq e1
    simp only [Bool.and_eq_true] at h
    obtain ⟨l1, l2⟩ := each_plain (env := X.env) h.1
    exact sG_tp g.calm (soundGs ts c X es g h.2 h.1) (by rw [l1]; exact chGs_len ts c es h.2) l2
  | .ix o i, c, X, e, _, g, h => by
    simp only [chG] at h
    replace h := wth_of h
    obtain ⟨⟨x, y, p⟩, e1, h⟩ := h
    cases dSub_eq e1
    simp only [Bool.and_eq_true] at h
    exact sG_ix g.deep (soundE o c X x g h.1.2).1 (soundE i c X y g h.2).1 h.1.1
theorem soundGs : ∀ (ts : Ts) (c : Ck) (X : Cx) (es : List Expr) {W : WX}, Good X cf W c → chGs ts c es = true → es.all plainE = true → PGs X es (rdGs X.K cf W ts)
  | .nil, c, X, [], _, g, _, _ => sGs_nil
  | .nil, c, X, _ :: _, _, g, h, _ => by simp [chGs] at h
  | .cons t r, c, X, [], _, g, h, _ => by simp [chGs] at h
  | .cons t r, c, X, x :: xs, _, g, h, hp => by
    simp only [chGs, Bool.and_eq_true] at h
    have hp' : plainE x = true ∧ xs.all plainE = true := by simpa using hp
    exact sGs_cons (soundG t c X x g h.1) (soundGs r c X xs g h.2 hp'.2) (each_cons hp'.1)
theorem soundC : ∀ (es : Es) (c : Ck) (X : Cx) (xs : List Expr) {W : WX}, Good X cf W c → chC es c xs = true → PTs X xs (rdC X.K cf W es)
  | .nil, c, X, [], _, g, _ => sC_nil
  | .nil, c, X, _ :: _, _, g, h => by simp [chC] at h
  | .cons a .nil, c, X, [x], _, g, h => by
    simp only [chC, Bool.and_eq_true] at h
    exact sC_one ((soundE a c X x g h.1).2 h.2)
  | .cons a .nil, c, X, [], _, g, h => by simp [chC] at h
  | .cons a .nil, c, X, _ :: _ :: _, _, g, h => by simp [chC] at h
  | .cons a (.cons _ _), c, X, xs, _, g, h => by simp [chC] at h
  | .cons a (.star _ _), c, X, xs, _, g, h => by simp [chC] at h
  | .star _ _, c, X, xs, _, g, h => by simp [chC] at h
end
end Ls
/-! What the checker lets pass runs as the small term: statements, defs. -/
namespace Ls
open PySem PySem.Spec PyProof.Rows L2
def noComp : Expr → Bool | .ListComp _ _ _ _ => false | .SetComp _ _ _ _ => false | .DictComp _ _ _ _ _ => false | _ => true
theorem swaps_no {e : Expr} (h : noComp e = true) (t : Option Expr) (l : Nat) (env : Env) : swapsWith e t l env = pure false := by cases e <;> first | rfl | (cases h)
/-- is the store made within the comprehension's end? -/
def swC (sc : Scope) (y : Str) (py : Pos) (s : Scope) (p : Pos) : Bool := decide (sc.kind = .function) && decide (sc.names.lookup y = some .local) && (py.line == p.line) && !(s.names.any fun (n, k) => n == y && (k == .local || k == .cell))
theorem swaps_lc {elt : Expr} {gs : List Comprehension} {s : Scope} {p py : Pos} {y : Str} {l : Nat} {env : Env} (hf : env.scope.kind = .function) : swapsWith (.ListComp elt gs s p) (some (.Name y py)) l env = pure (swC env.scope y py s p) := by
  have hb : env.blockKind = .function := by unfold Env.blockKind; rw [hf]; rfl
  have hk : (env.kindOf y == some NameKind.local) = decide (env.scope.names.lookup y = some .local) := by
    show (env.scope.names.lookup y == some NameKind.local) = _
    rw [Bool.eq_iff_iff]; simp
  unfold swapsWith swC
  simp only [hb, hk, hf, Expr.pos, decide_true, Bool.true_and]
  rfl
/-- two or three local names of one row, and values that are not all constants -/
def namesOf (sc : Scope) (line : Nat) : List Expr → Option (List Str)
  | [] => some []
  | .Name x p :: r => if decide (sc.names.lookup x = some .local) && (p.line == line) then (namesOf sc line r).map (x :: ·) else none
  | _ => none
def lineOf : List Expr → Nat | [] => 0 | e :: _ => e.pos.line
/-- stored from the right: some names; in their order: none; Python's own word is not known: fail -/
def swP (sc : Scope) (ts vs : List Expr) : Option (Option (List Str)) :=
  if (ts.length = 2 ∨ ts.length = 3) ∧ vs.length = ts.length ∧ vs.all plainE = true then
    match namesOf sc (lineOf ts) ts with
    | some ns => if ns.eraseDups.length = ns.length then (if vs.all (foldedForSure 8) then some none else if vs.all (constantsAlone 8) then none else some (some ns)) else none
    | none => some none
  else if ts.length = 2 ∨ ts.length = 3 then none else some none
theorem namesOf_filter {env : Env} {line : Nat} : ∀ {ts : List Expr} {ns : List Str}, namesOf env.scope line ts = some ns → (ts.filterMap fun | .Name id pos => if env.kindOf id == some .local && pos.line == line then some id else none | _ => none) = ns ∧ ns.length = ts.length
  | [], ns, h => by cases h; exact ⟨rfl, rfl⟩
  | e :: r, ns, h => by
    cases e <;> first | (cases h; done) | skip
    rename_i x p
    simp only [namesOf] at h
    split at h
    · rename_i q
      obtain ⟨ms, h1, rfl⟩ := Option.map_eq_some_iff.mp h
      obtain ⟨i1, i2⟩ := namesOf_filter h1
      rw [Bool.and_eq_true] at q
      have k : (env.kindOf x == some NameKind.local) = true := by
        show (env.scope.names.lookup x == some NameKind.local) = true
        rw [of_decide_eq_true q.1]; rfl
      refine ⟨?_, by simp [i2]⟩
      rw [List.filterMap_cons]
      simp only [k, q.2, Bool.and_self, if_true]
      rw [i1]
    · cases h
theorem namesOf_none {env : Env} {line : Nat} : ∀ {ts : List Expr}, namesOf env.scope line ts = none → (ts.filterMap fun | .Name id pos => if env.kindOf id == some .local && pos.line == line then some id else none | _ => none).length < ts.length
  | [], h => by cases h
  | e :: r, h => by
    have le := List.length_filterMap_le (fun (x : Expr) => match x with | .Name id pos => if env.kindOf id == some NameKind.local && pos.line == line then some id else none | _ => none) r
    cases e with
    | Name x p =>
      simp only [namesOf] at h
      have k : (env.kindOf x == some NameKind.local) = decide (env.scope.names.lookup x = some .local) := by
        show (env.scope.names.lookup x == some NameKind.local) = _
        rw [Bool.eq_iff_iff]; simp
      rw [List.filterMap_cons]
      simp only [k]
      split at h
      · rename_i q
        simp only [q, if_true, List.length_cons]
        exact Nat.succ_lt_succ (namesOf_none (Option.map_eq_none_iff.mp h))
      · rename_i q
        simp only [q, Bool.false_eq_true, if_false, List.length_cons]
        exact Nat.lt_succ_of_le le
    | _ => rw [List.filterMap_cons]; exact Nat.lt_succ_of_le le
theorem star_any {vs : List Expr} (h : vs.all plainE = true) : (vs.any fun | .Starred .. => true | _ => false) = false := by
  rw [List.any_eq_false]
  intro x hx
  have := List.all_eq_true.mp h x hx
  cases x <;> first | (intro z; cases z; done) | (cases this)
theorem swP_ok {env : Env} (hf : env.scope.kind = .function) {ts vs : List Expr} {r : Option (List Str)} (h : swP env.scope ts vs = some r) (k1 : Nat) (p1 : Pos) (k2 : Nat) (p2 : Pos) : swappedStores [.Tuple ts k1 p1] (.Tuple vs k2 p2) env = pure r := by
  have hb : env.blockKind = .function := by unfold Env.blockKind; rw [hf]; rfl
  unfold swP at h
  unfold swappedStores
  split at h
  · rename_i q
    obtain ⟨q1, q2, q3⟩ := q
    split at h
    · rename_i ns en
      split at h
      · rename_i nd
        have el : ((ts.head?.map (·.pos.line)).getD 0) = lineOf ts := by cases ts <;> rfl
        obtain ⟨f1, f2⟩ := namesOf_filter (env := env) en
        have c1 : (!(ts.length == 2 || ts.length == 3) || vs.length != ts.length || env.blockKind != .function) = false := by
          rw [hb]
          rcases q1 with q1 | q1 <;> simp [q1, q2]
        simp only [c1, el, Bool.false_eq_true, if_false]
        have s1 := star_any q3
        refine (if_neg fun z => ?_).trans ((if_neg fun z => ?_).trans ?_)
        · exact absurd (z.symm.trans s1) (by decide)
        · have z' : (ns.length != ts.length || ns.eraseDups.length != ns.length) = true := by rw [← f1]; exact z
          simp [f2, nd] at z'
        · split at h
          · rename_i a1
            cases h
            simp only [a1, if_true]
          · rename_i a1
            split at h
            · cases h
            · rename_i a2
              cases h
              simp only [a1, a2, Bool.false_eq_true, if_false]
              exact congrArg (fun l => (pure (some l) : Sem (Option (List Str)))) f1
      · cases h
    · rename_i en
      cases h
      have el : ((ts.head?.map (·.pos.line)).getD 0) = lineOf ts := by cases ts <;> rfl
      have c1 : (!(ts.length == 2 || ts.length == 3) || vs.length != ts.length || env.blockKind != .function) = false := by
        rw [hb]
        rcases q1 with q1 | q1 <;> simp [q1, q2]
      have lt := namesOf_none (env := env) en
      simp only [c1, el, Bool.false_eq_true, if_false]
      have s1 := star_any q3
      refine (if_neg fun z => absurd (z.symm.trans s1) (by decide)).trans (if_pos ?_)
      rw [Bool.or_eq_true]
      exact .inl (bne_iff_ne.mpr (Nat.ne_of_lt lt))
  · split at h
    · cases h
    · rename_i q1
      cases h
      have c1 : (!(ts.length == 2 || ts.length == 3) || vs.length != ts.length || env.blockKind != .function) = true := by
        rw [not_or] at q1
        simp [q1.1, q1.2]
      simp only [c1, if_true]
end Ls
/-! Statements and defs by the checker. -/
namespace Ls
open PySem PySem.Spec PyProof.Rows L2
def sExpr : Stmt → Option (Expr × Pos) | .Expr e p => some (e, p) | _ => none
def sAsg : Stmt → Option (List Expr × Expr × Pos) | .Assign t e p => some (t, e, p) | _ => none
def sAug : Stmt → Option (Expr × Operator × Expr × Pos) | .AugAssign t o e p => some (t, o, e, p) | _ => none
def sRet : Stmt → Option (Option Expr × Pos) | .Return e p => some (e, p) | _ => none
def sIf : Stmt → Option (Expr × List Stmt × List Stmt × Pos) | .If c a b p => some (c, a, b, p) | _ => none
def sFor : Stmt → Option (Expr × Expr × List Stmt × List Stmt × Pos) | .For t i a b p => some (t, i, a, b, p) | _ => none
def sRai : Stmt → Option (Option Expr × Option Expr × Pos) | .Raise a b p => some (a, b, p) | _ => none
def sTry : Stmt → Option (List Stmt × List ExceptHandler × List Stmt × List Stmt × Pos) | .Try a h b f p => some (a, h, b, f, p) | _ => none
def sWhl : Stmt → Option (Expr × List Stmt × List Stmt × Pos) | .While c a b p => some (c, a, b, p) | _ => none
section
variable {s : Stmt}
theorem sExpr_eq {r : Expr × Pos} (h : sExpr s = some r) : s = .Expr r.1 r.2 := by cases s <;> first | (cases h; rfl) | (cases h)
theorem sAsg_eq {r : List Expr × Expr × Pos} (h : sAsg s = some r) : s = .Assign r.1 r.2.1 r.2.2 := by cases s <;> first | (cases h; rfl) | (cases h)
theorem sAug_eq {r : Expr × Operator × Expr × Pos} (h : sAug s = some r) : s = .AugAssign r.1 r.2.1 r.2.2.1 r.2.2.2 := by cases s <;> first | (cases h; rfl) | (cases h)
theorem sRet_eq {r : Option Expr × Pos} (h : sRet s = some r) : s = .Return r.1 r.2 := by cases s <;> first | (cases h; rfl) | (cases h)
theorem sIf_eq {r : Expr × List Stmt × List Stmt × Pos} (h : sIf s = some r) : s = .If r.1 r.2.1 r.2.2.1 r.2.2.2 := by cases s <;> first | (cases h; rfl) | (cases h)
theorem sFor_eq {r : Expr × Expr × List Stmt × List Stmt × Pos} (h : sFor s = some r) : s = .For r.1 r.2.1 r.2.2.1 r.2.2.2.1 r.2.2.2.2 := by cases s <;> first | (cases h; rfl) | (cases h)
theorem sRai_eq {r : Option Expr × Option Expr × Pos} (h : sRai s = some r) : s = .Raise r.1 r.2.1 r.2.2 := by cases s <;> first | (cases h; rfl) | (cases h)
theorem sTry_eq {r : List Stmt × List ExceptHandler × List Stmt × List Stmt × Pos} (h : sTry s = some r) : s = .Try r.1 r.2.1 r.2.2.1 r.2.2.2.1 r.2.2.2.2 := by cases s <;> first | (cases h; rfl) | (cases h)
theorem sWhl_eq {r : Expr × List Stmt × List Stmt × Pos} (h : sWhl s = some r) : s = .While r.1 r.2.1 r.2.2.1 r.2.2.2 := by cases s <;> first | (cases h; rfl) | (cases h)
end
def isComp : E → Bool
  | .lv (.comp _ _ _ _) => true | .lr (.comp _ _ _ _) => true
  | .lv (.comp2 _ _ _ _ _ _) => true | .lr (.comp2 _ _ _ _ _ _) => true
  | _ => false
/-- target = value -/
def chAsg (t : T) (m : E) (c : Ck) (tg v : Expr) : Bool :=
  chE m c v && (match t, dName tg with
    | .nm i, some n => c.put i n.1 && (noComp v || wth (dLC v) fun r => !swC c.sc n.1 n.2 r.2.2.1 r.2.2.2 || isComp m)
    | _, _ => chG t c tg && plainE tg && noComp v && (dName tg).isNone && (match dTup tg, dTup v with
      | some a, some b => decide (swP c.sc a.1 b.1 = some none)
      | none, _ => (dLst tg).isNone
      | some _, none => true))
def chPar (ns : List Nat) (es : Es) (c : Ck) (tg v : Expr) : Bool :=
  wth (dTup tg) fun a => wth (dTup v) fun b => chA es c b.1 && (match ns, a.1, b.1 with
    | [i, j], [x, y], [_, _] => wth (dName x) fun n => wth (dName y) fun m => decide (c.N[i]? = some n.1) && decide (c.N[j]? = some m.1) && decide (i ≠ j) && decide (c.kind n.1 = some .local) && decide (c.kind m.1 = some .local) && decide (swP c.sc a.1 b.1 = some (some [n.1, m.1]))
    | [i, j, k], [x, y, z], [_, _, _] => wth (dName x) fun n => wth (dName y) fun m => wth (dName z) fun l => decide (c.N[i]? = some n.1) && decide (c.N[j]? = some m.1) && decide (c.N[k]? = some l.1) && decide (i ≠ j) && decide (i ≠ k) && decide (j ≠ k) &&
        decide (c.kind n.1 = some .local) && decide (c.kind m.1 = some .local) && decide (c.kind l.1 = some .local) && decide (swP c.sc a.1 b.1 = some (some [n.1, m.1, l.1]))
    | _, _, _ => false)
def isDoc (s : Stmt) : Bool := wth (sExpr s) fun r => wth (dConst r.1) fun k => match k.1 with | .str _ => true | _ => false
def isPass : Stmt → Bool | .Pass _ => true | _ => false
def isBrk : Stmt → Bool | .Break _ => true | _ => false
def isCnt : Stmt → Bool | .Continue _ => true | _ => false
/-- the arguments of raise C(..): none as yet -/
def chRai (k : Nat) (es : Es) (xs : List Expr) : Bool := match es, xs with
  | .nil, [] => decide (exF k = [])
  | _, _ => false
/-- one clause, of the class k, with this name -/
def chH (k : Nat) (nm : Option Str) (hs : List ExceptHandler) (f : List Stmt → Bool) : Bool := match hs with
  | [.ExceptHandler (some (.Name x _)) n su _] => decide (x = exS k) && decide (n = nm) && f su
  | _ => false
mutual
def chS : S → Ck → Stmt → Bool
  | .expr m, c, s => wth (sExpr s) fun r => chE m c r.1 && noComp r.1
  | .asg t m, c, s => wth (sAsg s) fun r => match r.1 with | [tg] => chAsg t m c tg r.2.1 | _ => false
  | .par ns es, c, s => wth (sAsg s) fun r => match r.1 with | [tg] => chPar ns es c tg r.2.1 | _ => false
  | .ret m, c, s => wth (sRet s) fun r => wth r.1 fun e => chE m c e
  | .retn, _, s => wth (sRet s) fun r => r.1.isNone
  | .ife m a b, c, s => wth (sIf s) fun r => chE m c r.1 && tst m r.1 && chSs a c r.2.1 && chSs b c r.2.2.1
  | .for_ t i b, c, s => wth (sFor s) fun r => notSet r.2.1 && r.2.2.2.1.isEmpty && chI i c t.tp? r.1 r.2.1 && chG t c r.1 && chSs b c r.2.2.1
  | .whl m b, c, s => wth (sWhl s) fun r => r.2.2.1.isEmpty && chE m c r.1 && tst m r.1 && chSs b c r.2.1
  | .pass, _, s => isPass s || isDoc s
  | .brk, _, s => isBrk s
  | .cnt, _, s => isCnt s
  | .aug i o m, c, s => wth (sAug s) fun r => decide (r.2.1 = bop o) && chE m c r.2.2.1 && wth (dName r.1) fun n => c.put i n.1
  | .raise_ k es, c, s => wth (sRai s) fun r => r.2.1.isNone && c.xl.contains k && c.gl (exS k) && wth r.1 fun e => wth (dCall e) fun q => decide (q.2.2.1 = []) && (wth (dName q.1) fun n => decide (n.1 = exS k)) && chRai k es q.2.1
  | .never, _, _ => true
  | .tryR b k d, c, s => wth (sTry s) fun r => r.2.2.1.isEmpty && r.2.2.2.1.isEmpty && c.xl.contains k && c.gl (exS k) && chH k none r.2.1 (fun su => match su with | [.Return (some (.Constant kc _ _)) _] => chK d kc && (cstV d).isSome | _ => false) && chSs b c r.1
  | .tryK b k i j, c, s => wth (sTry s) fun r => r.2.2.1.isEmpty && r.2.2.2.1.isEmpty && c.xl.contains k && c.gl (exS k) && decide (i ≠ j) && chH k (c.N[i]?) r.2.1 (fun su => match su with
      | [.Assign [.Name v _] (.Name n _) _] => decide (c.N[i]? = some n) && decide (c.N[j]? = some v) && decide (c.kind n = some .local) && decide (c.kind v = some .local) && !(n == ("__debug__" : Str)) && !(n == ("__classdict__" : Str))
      | _ => false) && chSs b c r.1
def chSs : Ss → Ck → List Stmt → Bool
  | .nil, _, [] => true
  | .cons a r, c, x :: xs => chS a c x && chSs r c xs
  | _, _, _ => false
end
variable {cf : Cf}
theorem lc1_of {X : Cx} {W : WX} {c : Ck} (g : Good X cf W c) {t : T} {i : I} {ct : Es} {a : E} {el : Expr} {gs : List Comprehension} {sc : Scope} {p : Pos} (h : chF (.comp t i ct a) c (.ListComp el gs sc p) = true) :
    ∃ tg it ifs, gs = [⟨tg, it, ifs, 0⟩] ∧ Lc1 X cf W el tg it ifs sc (c.own t.slots) t i ct a := by
  simp only [chF, dLC, wth] at h
  split at h
  · rename_i tg it ifs
    simp only [Bool.and_eq_true] at h
    obtain ⟨⟨⟨⟨⟨h1, h2⟩, h3⟩, h4⟩, h5⟩, h6⟩ := h
    exact ⟨tg, it, ifs, rfl, g.calm, by rw [g.n]; exact g.nod, soundI i c X t.tp? tg it g h3, by rw [g.n, g.sc]; exact blkOk_by h1, ownOf c _, fun s H cc cl fp => soundG t _ _ tg (g.blk sc s H cc cl fp) h4, fun s H cc cl fp => soundC ct _ _ ifs (g.blk sc s H cc cl fp) h5,
      fun s H cc cl fp => (soundE a _ _ el (g.blk sc s H cc cl fp) h6).1, fold_plain h2 X.env⟩
  · cases h
theorem lc2_ofC {X : Cx} {W : WX} {c : Ck} (g : Good X cf W c) {t u : T} {i j : I} {ct : Es} {a : E} {el : Expr} {gs : List Comprehension} {sc : Scope} {p : Pos} (h : chF (.comp2 t i u j ct a) c (.ListComp el gs sc p) = true) :
    ∃ tg it tg1 it1 ifs, gs = [⟨tg, it, [], 0⟩, ⟨tg1, it1, ifs, 0⟩] ∧ Lc2 X cf W el tg it tg1 it1 ifs sc (c.own (t.slots ++ u.slots)) t i u j ct a := by
  simp only [chF, dLC, wth] at h
  split at h
  · rename_i tg it tg1 it1 ifs
    simp only [Bool.and_eq_true] at h
    obtain ⟨⟨⟨⟨⟨⟨⟨⟨h1, h2⟩, h2'⟩, h3⟩, h4⟩, h3'⟩, h4'⟩, h5⟩, h6⟩ := h
    exact ⟨tg, it, tg1, it1, ifs, rfl, g.calm, by rw [g.n]; exact g.nod, soundI i c X t.tp? tg it g h3, by rw [g.n, g.sc]; exact blkOk_by h1, ownOf c _, fun s H cc cl fp => soundG t _ _ tg (g.blk sc s H cc cl fp) h4,
      fun s H cc cl fp => soundI j _ _ u.tp? tg1 it1 (g.blk sc s H cc cl fp) h3', fun s H cc cl fp => soundG u _ _ tg1 (g.blk sc s H cc cl fp) h4', fun s H cc cl fp => soundC ct _ _ ifs (g.blk sc s H cc cl fp) h5,
      fun s H cc cl fp => (soundE a _ _ el (g.blk sc s H cc cl fp) h6).1, fold_plain h2 X.env, fun env => fold_plain h2' env⟩
  · cases h
theorem isComp_of {m : E} (h : isComp m = true) : (∃ t i ct a, m = .lv (.comp t i ct a) ∨ m = .lr (.comp t i ct a)) ∨ ∃ t i u j ct a, m = .lv (.comp2 t i u j ct a) ∨ m = .lr (.comp2 t i u j ct a) := by
  unfold isComp at h
  split at h
  · exact .inl ⟨_, _, _, _, .inl rfl⟩
  · exact .inl ⟨_, _, _, _, .inr rfl⟩
  · exact .inr ⟨_, _, _, _, _, _, .inl rfl⟩
  · exact .inr ⟨_, _, _, _, _, _, .inr rfl⟩
  · cases h
theorem sole_tup {ts vs : List Expr} {env : Env} {l : Nat} : Sole env l ts vs := fun _ _ _ _ => rfl
theorem soundAsg {X : Cx} {W : WX} {c : Ck} {pos : Pos} (g : Good X cf W c) (hf : c.sc.kind = .function) {t : T} {m : E} {tg v : Expr} (h : chAsg t m c tg v = true) : PS X (.Assign [tg] v pos) (rdS X.K cf W (.asg t m)) := by
  have hk : X.env.scope.kind = .function := by rw [g.sc]; exact hf
  unfold chAsg at h
  rw [Bool.and_eq_true] at h
  obtain ⟨h1, h2⟩ := h
  have pv := (soundE (W := W) m c X v g h1).1
  split at h2
  · rename_i i n en
    cases dName_eq en
    rw [Bool.and_eq_true] at h2
    obtain ⟨k1, k2, k3⟩ := g.put h2.1
    have nd : X.N.Nodup := by rw [g.n]; exact g.nod
    rcases Bool.or_eq_true_iff.mp h2.2 with nc | cm
    · exact sS_set nd k1 k2 pv (swaps_no nc _ _ _) k3
    · obtain ⟨⟨el, gs, sc, p⟩, e1, cn⟩ := wth_of cm
      cases dLC_eq e1
      have sw : ∀ l, swapsWith (.ListComp el gs sc p) (some (.Name n.1 n.2)) l X.env = pure (swC c.sc n.1 n.2 sc p) := fun l => by rw [← g.sc]; exact swaps_lc hk
      cases q : swC c.sc n.1 n.2 sc p with
      | false => exact sS_set nd k1 k2 pv (by rw [sw, q]) k3
      | true =>
        have lo : X.env.scope.names.lookup n.1 = some .local := by
          rw [g.sc]
          simp only [swC, Bool.and_eq_true] at q
          exact of_decide_eq_true q.1.1.2
        simp only at cn
        rw [q] at cn
        rcases isComp_of (show isComp m = true from cn) with ⟨t, i', ct, a, hm⟩ | ⟨t, i', u, j, ct, a, hm⟩
        · have hc : chF (.comp t i' ct a) c (.ListComp el gs sc p) = true := by rcases hm with rfl | rfl <;> simpa only [chE] using h1
          obtain ⟨tg', it, ifs, rfl, L⟩ := lc1_of (W := W) g hc
          exact sS_lc L hm k1 lo (by rw [sw, q])
        · have hc : chF (.comp2 t i' u j ct a) c (.ListComp el gs sc p) = true := by rcases hm with rfl | rfl <;> simpa only [chE] using h1
          obtain ⟨tg', it, tg1, it1, ifs, rfl, L⟩ := lc2_ofC (W := W) g hc
          exact sS_lc2 L hm k1 lo (by rw [sw, q])
  · simp only [Bool.and_eq_true] at h2
    obtain ⟨⟨⟨⟨k1, k2⟩, k3⟩, k4⟩, k5⟩ := h2
    refine sS_asg pv (soundG _ c X tg g k1) (swaps_no k3 _ _ _) ?_ (each_cons (es := []) k2)
    cases ht : dTup tg with
    | none =>
      rw [ht] at k5
      cases tg <;> first | rfl | (cases ht; done) | (cases k5)
    | some a =>
      rw [ht] at k5
      cases dTup_eq ht
      cases hv : dTup v with
      | none => cases v <;> first | rfl | (cases hv)
      | some b =>
        rw [hv] at k5
        cases dTup_eq hv
        exact swP_ok hk (by rw [g.sc]; exact of_decide_eq_true k5) _ _ _ _
theorem soundPar {X : Cx} {W : WX} {c : Ck} {pos : Pos} (g : Good X cf W c) (hf : c.sc.kind = .function) {ns : List Nat} {es : Es} {tg v : Expr} (h : chPar ns es c tg v = true) : PS X (.Assign [tg] v pos) (rdS X.K cf W (.par ns es)) := by
  have hk : X.env.scope.kind = .function := by rw [g.sc]; exact hf
  have nd : X.N.Nodup := by rw [g.n]; exact g.nod
  unfold chPar at h
  replace h := wth_of h
  obtain ⟨⟨ts, k1, p1⟩, e1, h⟩ := h
  cases dTup_eq e1
  replace h := wth_of h
  obtain ⟨⟨vs, k2, p2⟩, e2, h⟩ := h
  cases dTup_eq e2
  rw [Bool.and_eq_true] at h
  obtain ⟨h1, h2⟩ := h
  have pa := soundA (W := W) es c X vs g h1
  simp only at h2
  split at h2
  · rename_i i j x y a b
    replace h2 := wth_of h2
    obtain ⟨n, e3, h2⟩ := h2
    replace h2 := wth_of h2
    obtain ⟨m, e4, h2⟩ := h2
    cases dName_eq e3
    cases dName_eq e4
    simp only [Bool.and_eq_true] at h2
    obtain ⟨⟨⟨⟨⟨q1, q2⟩, q3⟩, q4⟩, q5⟩, q6⟩ := h2
    exact sS_par2 g.calm nd (by rw [g.n]; exact of_decide_eq_true q1) (by rw [g.n]; exact of_decide_eq_true q2) (of_decide_eq_true q3) (by rw [g.sc]; exact of_decide_eq_true q4) (by rw [g.sc]; exact of_decide_eq_true q5) pa
      (fun _ _ _ _ => swP_ok hk (by rw [g.sc]; exact of_decide_eq_true q6) _ _ _ _) sole_tup
  · rename_i i j k x y z a b d
    replace h2 := wth_of h2
    obtain ⟨n, e3, h2⟩ := h2
    replace h2 := wth_of h2
    obtain ⟨m, e4, h2⟩ := h2
    replace h2 := wth_of h2
    obtain ⟨l, e5, h2⟩ := h2
    cases dName_eq e3
    cases dName_eq e4
    cases dName_eq e5
    simp only [Bool.and_eq_true] at h2
    obtain ⟨⟨⟨⟨⟨⟨⟨⟨⟨q1, q2⟩, q2'⟩, q3⟩, q3'⟩, q3''⟩, q4⟩, q5⟩, q5'⟩, q6⟩ := h2
    exact sS_par3 g.calm nd (by rw [g.n]; exact of_decide_eq_true q1) (by rw [g.n]; exact of_decide_eq_true q2) (by rw [g.n]; exact of_decide_eq_true q2') (of_decide_eq_true q3) (of_decide_eq_true q3') (of_decide_eq_true q3'')
      (by rw [g.sc]; exact of_decide_eq_true q4) (by rw [g.sc]; exact of_decide_eq_true q5) (by rw [g.sc]; exact of_decide_eq_true q5') pa (fun _ _ _ _ => swP_ok hk (by rw [g.sc]; exact of_decide_eq_true q6) _ _ _ _) sole_tup
  · cases h2
/-- the level of a def: what it lets out is taken, its frame is the first one -/
structure Fnl (X : Cx) (W : WX) (c : Ck) : Prop where
  kind : c.sc.kind = .function
  own : PassesOwn (model X.prog X.w) X.A X.env X.xe
  tk : Takes X W
  st : X.stack = X.env :: X.outer
  fr : X.env.frame = some X.env.locals
theorem Good.tr {X : Cx} {W W' : WX} {c : Ck} (g : Good X cf W c) {pn : List (Addr × Obj)} {xe : Value → Shared → Prop} (tk : Takes (X.tr pn xe) W') : Good (X.tr pn xe) cf W' c where
  th := thr_of tk
  xt := g.xt
  nt := g.nt
  gc := g.gc
  ob := fun o => let ⟨C, h1, h2, h3, h4, h5⟩ := g.ob o; ⟨C, ⟨h1.at0, h1.one, h1.sc, h1.s1, h1.ic, h1.mg⟩, fun i x e => let ⟨p, gg, k, sp, q⟩ := h2 i x e; ⟨p, gg, k, sp, ⟨q.at_, q.get, q.tk, q.rc, q.ok, q.room, q.cov⟩⟩, fun i e => let ⟨fI, fd, k, spT, q⟩ := h3 i e; ⟨fI, fd, k, spT, ⟨q.mak, q.ok, q.room, q.bind, q.cov⟩⟩,
    fun i x e => let ⟨gg, k, sp, q⟩ := h4 i x e; ⟨gg, k, sp, ⟨q.at_, q.fn, q.ok, q.room, q.cov⟩⟩, fun i d e => let ⟨p, gg, fd, k, sp, q1, q2, q3⟩ := h5 i d e; ⟨p, gg, fd, k, sp, q1, ⟨q2.ok, q2.room, q2.keep, q2.bind, q2.cov⟩, q3⟩⟩
  n := g.n
  sc := g.sc
  calm := g.calm
  nod := g.nod
  deep := g.deep
  cells := g.cells
  blt := g.blt
  fns := fun i d e => let ⟨f, fd, k, sp, kn, kb⟩ := g.fns i d e; ⟨f, fd, k, sp, ⟨kn.ok, kn.room, kn.glob, kn.keep, kn.bind, kn.cov⟩, kb⟩
theorem Fnl.tr {X : Cx} {W W' : WX} {c : Ck} (f : Fnl X W c) {pn : List (Addr × Obj)} {xe : Value → Shared → Prop} (tk : Takes (X.tr pn xe) W') (po : PassesOwn (model X.prog X.w) X.A X.env xe) : Fnl (X.tr pn xe) W' c := ⟨f.kind, po, tk, f.st, f.fr⟩
theorem chH_eq {k : Nat} {nm : Option Str} {hs : List ExceptHandler} {f : List Stmt → Bool} (h : chH k nm hs f = true) : ∃ np su p, hs = [.ExceptHandler (some (.Name (exS k) np)) nm su p] ∧ f su = true := by
  unfold chH at h
  split at h
  · simp only [Bool.and_eq_true, decide_eq_true_eq] at h
    obtain ⟨⟨rfl, rfl⟩, h3⟩ := h
    exact ⟨_, _, _, rfl, h3⟩
  · cases h
theorem cstK {d : D} {k : Const} (h : chK d k = true) (hs : (cstV d).isSome = true) : ∃ v, cstV d = some v ∧ ∀ (Y : Cx) (j : Nat) (p : Pos), PE Y (.Constant k j p) (tC v) := by
  unfold chK at h
  split at h
  · exact ⟨_, rfl, fun _ _ _ => pe_non⟩
  · rename_i b b'
    have e : b = b' := by simpa using h
    subst e
    exact ⟨_, rfl, fun _ _ _ => pe_bl⟩
  · cases of_decide_eq_true h
    exact ⟨_, rfl, fun _ _ _ => pe_int⟩
  · cases of_decide_eq_true h
    exact ⟨_, rfl, fun _ _ _ => pe_str⟩
  · cases h
mutual
theorem soundS : ∀ (m : S) (c : Ck) (X : Cx) (s : Stmt) {W : WX}, Good X cf W c → Fnl X W c → chS m c s = true → PS X s (rdS X.K cf W m)
  | .expr m, c, X, s, _, g, fl, h => by
    simp only [chS] at h
    obtain ⟨⟨e, p⟩, e1, h'⟩ := wth_of h
    cases sExpr_eq e1
    rw [Bool.and_eq_true] at h'
    exact sS_expr (soundE m c X e g h'.1).1 (swaps_no h'.2 _ _ _)
  | .asg t m, c, X, s, _, g, fl, h => by
    simp only [chS] at h
    obtain ⟨⟨ts, v, p⟩, e1, h'⟩ := wth_of h
    cases sAsg_eq e1
    match ts, h' with
    | [tg], h' => exact soundAsg g fl.kind h'
  | .par ns es, c, X, s, _, g, fl, h => by
    simp only [chS] at h
    obtain ⟨⟨ts, v, p⟩, e1, h'⟩ := wth_of h
    cases sAsg_eq e1
    match ts, h' with
    | [tg], h' => exact soundPar g fl.kind h'
  | .ret m, c, X, s, _, g, fl, h => by
    simp only [chS] at h
    obtain ⟨⟨o, p⟩, e1, h'⟩ := wth_of h
    cases sRet_eq e1
    obtain ⟨e, e2, h''⟩ := wth_of h'
    simp only at e2
    subst e2
    exact sS_ret (soundE m c X e g h'').1
  | .retn, c, X, s, _, g, fl, h => by
    simp only [chS] at h
    obtain ⟨⟨o, p⟩, e1, h'⟩ := wth_of h
    cases sRet_eq e1
    cases o with
    | none => exact sS_retn
    | some _ => cases h'
  | .ife m a b, c, X, s, _, g, fl, h => by
    simp only [chS] at h
    obtain ⟨⟨e, xs, ys, p⟩, e1, h'⟩ := wth_of h
    cases sIf_eq e1
    simp only [Bool.and_eq_true] at h'
    exact sS_if ((soundE m c X e g h'.1.1.1).2 h'.1.1.2) (soundSs a c X xs g fl h'.1.2) (soundSs b c X ys g fl h'.2)
  | .for_ t i b, c, X, s, _, g, fl, h => by
    simp only [chS] at h
    obtain ⟨⟨tg, it, xs, ys, p⟩, e1, h'⟩ := wth_of h
    cases sFor_eq e1
    simp only [Bool.and_eq_true] at h'
    obtain ⟨⟨⟨⟨k1, k2⟩, k3⟩, k4⟩, k5⟩ := h'
    cases ys with
    | cons _ _ => cases k2
    | nil => exact sS_for fl.own g.calm (soundI i c X t.tp? tg it g k3) (soundG t c X tg g k4) (soundSs b c X xs g fl k5) (fold_plain k1 X.env)
  | .whl m b, c, X, s, _, g, fl, h => by
    simp only [chS] at h
    obtain ⟨⟨e, xs, ys, p⟩, e1, h'⟩ := wth_of h
    cases sWhl_eq e1
    simp only [Bool.and_eq_true] at h'
    obtain ⟨⟨⟨k1, k2⟩, k3⟩, k4⟩ := h'
    cases ys with
    | cons _ _ => cases k1
    | nil => exact sS_while fl.own ((soundE m c X e g k2).2 k3) (soundSs b c X xs g fl k4)
  | .pass, c, X, s, _, g, fl, h => by
    simp only [chS] at h
    rcases Bool.or_eq_true_iff.mp h with h | h
    · cases s <;> first | exact sS_pass | (cases h)
    · unfold isDoc at h
      obtain ⟨⟨e, p⟩, e1, h'⟩ := wth_of h
      cases sExpr_eq e1
      obtain ⟨⟨k, j, p'⟩, e2, h''⟩ := wth_of h'
      cases dConst_eq e2
      cases k <;> first | exact sS_doc | (cases h'')
  | .brk, c, X, s, _, g, fl, h => by
    simp only [chS] at h
    cases s <;> first | exact sS_brk | (cases h)
  | .cnt, c, X, s, _, g, fl, h => by
    simp only [chS] at h
    cases s <;> first | exact sS_cnt | (cases h)
  | .aug i o m, c, X, s, _, g, fl, h => by
    simp only [chS] at h
    obtain ⟨⟨tg, op, v, p⟩, e1, h'⟩ := wth_of h
    cases sAug_eq e1
    simp only [Bool.and_eq_true] at h'
    obtain ⟨⟨k1, k2⟩, k3⟩ := h'
    cases of_decide_eq_true k1
    obtain ⟨n, e2, k4⟩ := wth_of k3
    cases dName_eq e2
    obtain ⟨q1, q2, q3⟩ := g.put k4
    exact sS_aug (by rw [g.n]; exact g.nod) q1 q2 (soundE m c X v g k2).1 q3
  | .raise_ k es, c, X, s, _, g, fl, h => by
    simp only [chS] at h
    obtain ⟨⟨a, b, p⟩, e1, h'⟩ := wth_of h
    cases sRai_eq e1
    simp only [Bool.and_eq_true] at h'
    obtain ⟨⟨⟨k1, k2⟩, k3⟩, k4⟩ := h'
    cases b with
    | some _ => cases k1
    | none =>
      obtain ⟨e, e2, h2⟩ := wth_of k4
      try simp only at e2
      subst e2
      obtain ⟨⟨fn, xs, ks, q⟩, e3, h3⟩ := wth_of h2
      cases dCall_eq e3
      simp only [Bool.and_eq_true] at h3
      obtain ⟨⟨m1, m2⟩, m3⟩ := h3
      have ek : ks = [] := of_decide_eq_true m1
      subst ek
      obtain ⟨⟨x, q2⟩, e4, h4⟩ := wth_of m2
      cases dName_eq e4
      have en : x = exS k := of_decide_eq_true h4
      subst en
      obtain ⟨C, T⟩ := g.xt.cls k (List.contains_iff_mem.mp k2)
      unfold chRai at m3
      split at m3
      · exact sS_raise0 fl.tk g.calm T (of_decide_eq_true m3) (g.gl k3)
      · cases m3
  | .never, c, X, s, _, g, fl, h => sS_never
  | .tryR b k d, c, X, s, _, g, fl, h => by
    simp only [chS] at h
    obtain ⟨⟨bd, hs, el, fi, p⟩, e1, h'⟩ := wth_of h
    cases sTry_eq e1
    simp only [Bool.and_eq_true] at h'
    obtain ⟨⟨⟨⟨⟨k1, k2⟩, k3⟩, k4⟩, k5⟩, k6⟩ := h'
    cases el with
    | cons _ _ => cases k1
    | nil => cases fi with
      | cons _ _ => cases k2
      | nil =>
        obtain ⟨np, su, hp, rfl, k7⟩ := chH_eq k5
        have mem := List.contains_iff_mem.mp k3
        obtain ⟨C, T⟩ := g.xt.cls k mem
        split at k7
        · simp only [Bool.and_eq_true] at k7
          obtain ⟨v0, e2, e3⟩ := cstK k7.1 k7.2
          exact sS_tryR g.xt mem T (g.gl k4) fl.st fl.fr fl.tk e2 (fun Y => e3 Y _ _) fun W' pn xe tk po => soundSs b c _ bd (g.tr tk) (fl.tr tk po) k6
        · cases k7
  | .tryK b k i j, c, X, s, _, g, fl, h => by
    simp only [chS] at h
    obtain ⟨⟨bd, hs, el, fi, p⟩, e1, h'⟩ := wth_of h
    cases sTry_eq e1
    simp only [Bool.and_eq_true] at h'
    obtain ⟨⟨⟨⟨⟨⟨k1, k2⟩, k3⟩, k4⟩, k8⟩, k5⟩, k6⟩ := h'
    cases el with
    | cons _ _ => cases k1
    | nil => cases fi with
      | cons _ _ => cases k2
      | nil =>
        obtain ⟨np, su, hp, rfl, k7⟩ := chH_eq k5
        have mem := List.contains_iff_mem.mp k3
        obtain ⟨C, T⟩ := g.xt.cls k mem
        split at k7
        · simp only [Bool.and_eq_true, Bool.not_eq_true'] at k7
          obtain ⟨⟨⟨⟨⟨n1, n2⟩, n3⟩, n4⟩, n5⟩, n6⟩ := k7
          have m1 := of_decide_eq_true n1
          rw [m1]
          exact sS_tryK g.xt mem T (g.gl k4) fl.st fl.fr (by rw [g.n]; exact g.nod) (by rw [g.n]; exact m1) (by rw [g.n]; exact of_decide_eq_true n2) (show X.env.scope.names.lookup _ = _ by rw [g.sc]; exact of_decide_eq_true n3) (show X.env.scope.names.lookup _ = _ by rw [g.sc]; exact of_decide_eq_true n4) n5 n6
            (of_decide_eq_true k8) fl.tk fun W' pn xe tk po => soundSs b c _ bd (g.tr tk) (fl.tr tk po) k6
        · cases k7
theorem soundSs : ∀ (m : Ss) (c : Ck) (X : Cx) (s : List Stmt) {W : WX}, Good X cf W c → Fnl X W c → chSs m c s = true → PSs X s (rdSs X.K cf W m)
  | .nil, c, X, [], _, g, fl, _ => sSs_nil
  | .nil, c, X, _ :: _, _, g, fl, h => by simp [chSs] at h
  | .cons a r, c, X, [], _, g, fl, h => by simp [chSs] at h
  | .cons a r, c, X, x :: xs, _, g, fl, h => by
    simp only [chSs, Bool.and_eq_true] at h
    exact sSs_cons (soundS a c X x g fl h.1) (soundSs r c X xs g fl h.2)
end
end Ls
/-! All defs of a text at once. -/
namespace Ls
open PySem PySem.Spec PyProof.Rows L2
/-- a def; kd: 0 of the module, of the class Program: 1 a property, 2 a staticmethod, 3 a special one -/
structure Def where
  x : Str
  qual : Str
  st : Stmt
  N : List Str
  ps : List Str
  kws : List (List Str × List Nat)
  fn : Fn
  kd : Nat
abbrev Tab := List (Nat × Def)
def Tab.fns (t : Tab) : Nat → Option Fn := fun i => (t.lookup i).map (·.fn)
def Tab.tb (t : Tab) : Nat → Option (Str × List Str × List (List Str × List Nat)) := fun i => (t.lookup i).bind fun d => if d.kd = 0 then some (d.x, d.ps, d.kws) else none
def Tab.pb (t : Tab) : Nat → Option Str := fun i => (t.lookup i).bind fun d => if d.kd = 1 ∧ d.ps.length = 1 then some d.x else none
def Tab.sb (t : Tab) : Nat → Option Str := fun i => (t.lookup i).bind fun d => if d.kd = 3 then some d.x else none
def Tab.sm (t : Tab) : Nat → Option (Str × List Str × List (List Str × List Nat)) := fun i => (t.lookup i).bind fun d => if d.kd = 2 then some (d.x, d.ps, d.kws) else none
/-- what else of the text is leant on: constants of the module, whether the class Program is there, the number of tupled, the text of __init__ -/
structure Txt where
  tab : Tab
  gc : List (Str × Const)
  ob : Bool
  nw : Option Nat
  ini : Stmt
  xl : List Nat
def Def.ck (d : Def) (T : Txt) : Ck := ⟨d.N, defScope d.st, (defScope d.st).names.map (·.1), T.tab.tb, T.gc, T.ob, T.tab.pb, T.nw, T.xl, T.tab.sb, T.tab.sm⟩
def nodupS : List Str → Bool
  | [] => true
  | x :: r => !r.contains x && nodupS r
theorem nodupS_of : ∀ {l : List Str}, nodupS l = true → l.Nodup
  | [], _ => List.nodup_nil
  | x :: r, e => by
    rw [nodupS, Bool.and_eq_true] at e
    refine List.nodup_cons.mpr ⟨fun m => ?_, nodupS_of e.2⟩
    rw [List.contains_iff_mem.mpr m] at e
    exact absurd e.1 (by decide)
/-- the def is this term -/
def chDef (t : Txt) (d : Def) : Bool :=
  decide ((defScope d.st).kind = .function) && !(defScope d.st).isCoroutine && !(defScope d.st).isGenerator && nodupS d.N && decide (d.N.take d.ps.length = d.ps) &&
    (d.ps.all fun x => decide ((defScope d.st).names.lookup x = some .local) || decide ((defScope d.st).names.lookup x = some .cell)) && ((defScope d.st).names.all fun y => decide (y.2 ≠ .free)) &&
    decide (d.fn.np = d.ps.length) && decide (d.fn.ns = d.N.length) && chSs d.fn.body (d.ck t) (defBody d.st)
theorem chDef_scope {t : Txt} {d : Def} (h : chDef t d = true) : FnScope d.N d.ps (defScope d.st) ∧ d.fn.np = d.ps.length ∧ d.fn.ns = d.N.length ∧ chSs d.fn.body (d.ck t) (defBody d.st) = true := by
  simp only [chDef, Bool.and_eq_true] at h
  obtain ⟨⟨⟨⟨⟨⟨⟨⟨⟨h1, h2⟩, h3⟩, h4⟩, h5⟩, h6⟩, h7⟩, h8⟩, h9⟩, h10⟩ := h
  refine ⟨⟨of_decide_eq_true h1, by simpa using h2, by simpa using h3, nodupS_of h4, of_decide_eq_true h5, fun x hx => ?_, fun y hy => of_decide_eq_true (List.all_eq_true.mp h7 y hy)⟩, of_decide_eq_true h8, of_decide_eq_true h9, h10⟩
  have := List.all_eq_true.mp h6 x hx
  rw [Bool.or_eq_true] at this
  exact this.elim (fun z => .inl (of_decide_eq_true z)) fun z => .inr (of_decide_eq_true z)
/-- the class Program in the text, K and the module's names alone -/
structure PClsK (K : PySem.W.Frag) (mg : Str → Option Value) (C : Addr) : Prop where
  at0 : PySem.W.nsIn K mainGlobals (clsN 0) = some (some (.ref C))
  one : ∀ c D, PySem.W.nsIn K mainGlobals (clsN c) = some (some (.ref D)) → c = 0
  sc : SlX.SCls K C
  s1 : ∃ p, SlX.Slot1 K C "own_deeds" p 0
  ic : IsC K C
  mg : mg "Program" = some (.ref C)
/-- a property in the text -/
structure PropK (K : PySem.W.Frag) (C : Addr) (x : Str) (p g : Addr) : Prop where
  at_ : PySem.W.findIn K (.ref C) x = some (some (.ref p))
  get : PySem.W.specialIn K (.ref p) "__get__" = some (some (.builtin "property.__get__"))
  tk : PySem.W.takesIn K (.ref p) = some true
  rc : ∃ rest, PySem.W.recIn K p "property" = some (.ref g :: rest)
/-- a def of the class, in the text -/
def KdOk (K : PySem.W.Frag) (mg : Str → Option Value) (t : Txt) (d : Def) (f : Addr) : Prop :=
  (d.kd = 1 → t.ob = true → ∀ C, PClsK K mg C → ∃ p, PropK K C d.x p f) ∧ (d.kd = 2 → t.ob = true → ∀ C, PClsK K mg C → ∃ p, SMet K C d.x p f) ∧
    (d.kd = 3 → t.ob = true → ∀ C, PClsK K mg C → PySem.W.findIn K (.ref C) d.x = some (some (.ref f)) ∧ PySem.W.isFn K (.ref f) = true)
/-- the defs as they stand in the running program -/
structure Stands (K : PySem.W.Frag) (mg : Str → Option Value) (t : Txt) : Prop where
  fns : ∀ i d, t.tab.lookup i = some d → ∃ f fd, Fun K d.x d.qual d.st f fd ∧ (d.kd = 0 → mg d.x = some (.ref f)) ∧ Binds K fd d.ps [] ∧ (∀ q ∈ d.kws, KBinds K fd d.ps q.1 (permVs Value.none q.1.length q.2) (permVs V.non q.1.length q.2)) ∧
    KdOk K mg t d f
  blt : ∀ x ∈ bltN, mg x = none
  xt : XTxt K mg t.xl
  nt : NoTy K
  gc : ∀ x k, t.gc.lookup x = some k → ∃ u, mg x = some u ∧ RelK k u
  ob : t.ob = true → ∃ C, PClsK K mg C
  nw : t.ob = true → ∀ i, t.nw = some i → ∀ C, PClsK K mg C → ∃ d, t.tab.lookup i = some d ∧ d.kd = 0 ∧ d.x = "tupled" ∧ d.ps = (["value"] : List Str) ∧ ∃ fI fdI, C8.Fun K "__init__" "Program.__init__" t.ini fI fdI ∧ Mk K C fI ∧ Binds K fdI ["self", "deeds"] [] ∧ initB t.ini = true ∧ initS t.ini = true
theorem spR_mono {K : PySem.W.Frag} {run : List D → Hh → R D} (vs : List V) (H : Hp) (Q Q' : VK) (E : XK) (k : ∀ v H, Q v H → Q' v H) (x : spR K run vs H Q E) : spR K run vs H Q' E := by
  obtain ⟨Z, μ, h, ds, S, r, p⟩ := x
  exact ⟨Z, μ, h, ds, S, r, p.imp fun d μ1 h1 H1 _ _ q v rv => k v H1 (q v rv)⟩
section
variable {P : Program} {w : World} {K : PySem.W.Frag} {mg : Str → Option Value} {base : Heap} {t : Txt}
/-- what is known of the defs at one level -/
def LevelOk (P : Program) (w : World) (K : PySem.W.Frag) (mg : Str → Option Value) (base : Heap) (t : Txt) (n : Nat) : Prop := ∀ i d, t.tab.lookup i = some d → ∃ f fd, Fun K d.x d.qual d.st f fd ∧ (d.kd = 0 → mg d.x = some (.ref f)) ∧ Binds K fd d.ps [] ∧
  (∀ q ∈ d.kws, KBinds K fd d.ps q.1 (permVs Value.none q.1.length q.2) (permVs V.non q.1.length q.2)) ∧ KdOk K mg t d f ∧
  FnOk P w K mg base (L2.CX P w) (3 * n + 4) f fd d.ps (spR K (runFn (callN t.tab.fns n) d.fn))
/-- a body's context, by what is known one level below (sp: what a callee promises) -/
theorem good_of {d : Def} {cdv : Value} {A : Around} {outer : List Env} {s : Shared} {H : Hp} {E : XK} {f0 : Addr} {cf : Cf} {k : Nat} (S : Stands K mg t) (sc : FnScope d.N d.ps (defScope d.st)) (room : Room (k + 2) (A.deeper (envOfC d.qual (defScope d.st) s.heap.objs.size f0 cdv)))
    (fn : ∀ i e, t.tab.lookup i = some e → ∃ f fd sp, Fun K e.x e.qual e.st f fd ∧ (e.kd = 0 → mg e.x = some (.ref f)) ∧ Binds K fd e.ps [] ∧ (∀ q ∈ e.kws, KBinds K fd e.ps q.1 (permVs Value.none q.1.length q.2) (permVs V.non q.1.length q.2)) ∧
      KdOk K mg t e f ∧ FnOk P w K mg base (L2.CX P w) k f fd e.ps sp ∧ (∀ vs H (Q Q' : VK) E, (∀ v H, Q v H → Q' v H) → sp vs H Q E → sp vs H Q' E) ∧
      ∀ Z μ h H ds vs Q E, SR K Z μ h H → RVs K (Fb Z μ h) μ H ds vs → Post K Z μ h H (PV K Z Q) (excE K Z E) (cf i ds h) → sp vs H Q E) :
    Good (cxOf (L2.CX P w) P w K mg base d.N d.qual (defScope d.st) f0 cdv A outer s H E) cf (fun cls dd _ H => E cls dd H) (d.ck t) where
  th := thr_of (takes_of rfl rfl rfl rfl)
  xt := S.xt
  n := rfl
  sc := rfl
  calm := rfl
  nod := sc.nd
  deep := by
    show A.units + 3 + 100 < cLine
    have := room.un
    have e : (A.deeper (envOfC d.qual (defScope d.st) s.heap.objs.size f0 cdv)).units = A.units + 3 := rfl
    omega
  cells := fun _ _ => rfl
  blt := S.blt
  nt := S.nt
  gc := S.gc
  fns := fun j r q => by
    obtain ⟨e, e1, e2⟩ := Option.bind_eq_some_iff.mp q
    split at e2
    · rename_i k0
      cases e2
      obtain ⟨f, fd, sp, F, em, bi, kb, _, ok, _, cov⟩ := fn j e e1
      exact ⟨f, fd, k, sp, ⟨ok, room.mono (Nat.le_add_right _ _), em k0, F.kp, bi, cov⟩, kb⟩
    · cases e2
  ob := fun o => by
    obtain ⟨C, pc⟩ := S.ob o
    refine ⟨C, ⟨pc.at0, pc.one, pc.sc, pc.s1, pc.ic, pc.mg⟩, fun j x q => ?_, fun j q => ?_, fun j x q => ?_, fun j r q => ?_⟩
    · obtain ⟨e, e1, e2⟩ := Option.bind_eq_some_iff.mp q
      split at e2
      · rename_i k1
        cases e2
        obtain ⟨f, fd, sp, F, _, bi, _, pr, ok, _, cov⟩ := fn j e e1
        obtain ⟨p, pk⟩ := pr.1 k1.1 o C pc
        exact ⟨p, f, k, sp, ⟨pk.at_, pk.get, pk.tk, pk.rc, (ok.raw bi .nil).imp fun vs H Q E h => by rw [List.append_nil]; exact h, room.mono (Nat.le_succ _), cov⟩⟩
      · cases e2
    · obtain ⟨e, e1, k0, ex, ep, fI, fdI, FI, mk, bI, ib, is⟩ := S.nw o j q C pc
      obtain ⟨f, fd, sp, F, em, bi, _, _, ok, mono, cov⟩ := fn j e e1
      obtain ⟨p, s1⟩ := pc.s1
      rw [ep] at ok bi
      have em' := em k0
      rw [ex] at em'
      exact ⟨fI, fdI, k + 1, sp, ⟨mk, ok_init FI ib is ok em' F.kp bi pc.sc s1 mono, room, bI, cov⟩⟩
    · obtain ⟨e, e1, e2⟩ := Option.bind_eq_some_iff.mp q
      split at e2
      · rename_i k1
        cases e2
        obtain ⟨f, fd, sp, F, _, bi, _, pr, ok, _, cov⟩ := fn j e e1
        obtain ⟨z1, z2⟩ := pr.2.2 k1 o C pc
        exact ⟨f, k, sp, ⟨z1, z2, (ok.raw bi .nil).imp fun vs H Q E h => by rw [List.append_nil]; exact h, room.mono (Nat.le_succ _), cov⟩⟩
      · cases e2
    · obtain ⟨e, e1, e2⟩ := Option.bind_eq_some_iff.mp q
      split at e2
      · rename_i k1
        cases e2
        obtain ⟨f, fd, sp, F, _, bi, kb, pr, ok, _, cov⟩ := fn j e e1
        obtain ⟨p, z⟩ := pr.2.1 k1 o C pc
        exact ⟨p, f, fd, k, sp, z, ⟨ok, room.mono (Nat.le_add_right _ _), F.kp, bi, cov⟩, kb⟩
      · cases e2
/-- every def keeps its promise, calls at most n deep -/
theorem allOk (S : Stands K mg t) (ch : ∀ i d, t.tab.lookup i = some d → chDef t d = true) : ∀ n : Nat, LevelOk P w K mg base t n := by
  intro n
  induction n with
  | zero =>
    intro i d e
    obtain ⟨f, fd, F, em, bi, kb, pr⟩ := S.fns i d e
    obtain ⟨sc, np, nn, cb⟩ := chDef_scope (ch i d e)
    refine ⟨f, fd, F, em, bi, kb, pr, ?_⟩
    show FnOk P w K mg base (L2.CX P w) (3 + 1) f fd d.ps (spR K (runFn (callN t.tab.fns 0) d.fn))
    · refine ok_of F sc np nn fun cdv A outer s H E room => ?_
      refine soundSs _ (d.ck t) _ _ (good_of (k := 1) S sc room fun j e' q => ?_) ⟨sc.kind, passes_of rfl, takes_of rfl rfl rfl rfl, rfl, rfl⟩ cb
      obtain ⟨f', fd', F', em', bi', kb', pr'⟩ := S.fns j e' q
      exact ⟨f', fd', fun _ _ _ _ => False, F', em', bi', kb', pr', ⟨fun _ _ _ _ z => z.elim, fun _ _ _ _ _ _ _ _ _ _ _ _ _ z => z.elim⟩, fun _ _ _ _ _ _ z => z, fun _ _ _ _ _ _ _ _ _ _ z => z⟩
  | succ n ih =>
    intro i d e
    obtain ⟨f, fd, F, em, bi, kb, pr⟩ := S.fns i d e
    obtain ⟨sc, np, nn, cb⟩ := chDef_scope (ch i d e)
    refine ⟨f, fd, F, em, bi, kb, pr, ?_⟩
    show FnOk P w K mg base (L2.CX P w) ((3 * n + 4) + 2 + 1) f fd d.ps _
    refine ok_of F sc np nn fun cdv A outer s H E room => ?_
    refine soundSs _ (d.ck t) _ _ (good_of (k := 3 * n + 4) S sc room fun j e' q => ?_) ⟨sc.kind, passes_of rfl, takes_of rfl rfl rfl rfl, rfl, rfl⟩ cb
    obtain ⟨f', fd', F', em', bi', kb', pr', ok'⟩ := ih j e' q
    refine ⟨f', fd', _, F', em', bi', kb', pr', ok', spR_mono, fun Z μ h H ds vs Q E S r p => spR_local S r ?_⟩
    have eq : callN t.tab.fns (n + 1) j ds h = localCall (runFn (callN t.tab.fns n) e'.fn) ds h := by
      simp only [callN, Tab.fns, q, Option.map_some]
    rw [← eq]
    exact p
end
end Ls
/-! The law's own promise, from what the small run answers. -/
namespace Ls
open PySem PySem.Spec PyProof.Rows L2
theorem ints_rel {K : PySem.W.Frag} {F : Addr → Prop} {μ : List Addr} {H : Hp} : ∀ ns : List Int, RVs K F μ H (ns.map D.int) (ns.map V.int)
  | [] => RVs.nil.mpr rfl
  | n :: r => RVs.mk (RV.int.mpr rfl) (ints_rel r)
/-- the small law says True at this script -/
theorem law_sp {K : PySem.W.Frag} {run : List D → Hh → R D} {ns : List Int} {h' : Hh} {H : Hp} {a : Addr} {E : XK} (e : run [.rol (ns.map D.int)] [] = .ok (.bl true) h') (s : SqL K H a (ns.map V.int)) :
    spR K run [.ref a] H (fun v _ => v = .bl true) E := by
  have no : ∀ c, ¬ Fb (fun _ => False) [] [] c := by
    rintro c (z | ⟨n, o, z, _⟩)
    · exact z
    · simp at z
  refine ⟨fun _ => False, [], [], [.rol (ns.map D.int)], ⟨rfl, ?_, fun _ _ z => z, fun _ z => z.elim, ?_⟩, RVs.mk (RV.rol.mpr ⟨a, _, rfl, ?_, ints_rel ns⟩) (RVs.nil.mpr rfl), ?_⟩
  · intro n m c o o' z
    simp at z
  · intro n c o z
    simp at z
  · rcases s with s | s
    · exact .inl ⟨s, no a⟩
    · exact .inr (.inr s)
  · rw [e]
    exact fun μ' H' _ _ v r => RV.bl.mp r
end Ls
/-! How the defs of a table stand in the program; the law's end. -/
namespace Ls
open PySem PySem.Spec PyProof.Rows L2
theorem getD_rel : ∀ {vs : List V} {us : List Value} (j : Nat), Vals vs us → RelV (vs.getD j V.non) (us.getD j Value.none)
  | _, _, j, .nil => by simp only [List.getD_nil]; rfl
  | _, _, 0, .cons r _ => by simpa using r
  | _, _, j + 1, .cons _ t => by simpa using getD_rel j t
theorem map_rel {vs : List V} {us : List Value} (h : Vals vs us) : ∀ p : List Nat, Vals (p.map fun j => vs.getD j V.non) (p.map fun j => us.getD j Value.none)
  | [] => .nil
  | j :: p => .cons (getD_rel j h) (map_rel h p)
theorem vals_app : ∀ {vs zs : List V} {us ws : List Value}, Vals vs us → Vals zs ws → Vals (vs ++ zs) (us ++ ws)
  | _, _, _, _, .nil, h => h
  | _, _, _, _, .cons r t, h => .cons r (vals_app t h)
theorem kb_mk {K : PySem.W.Frag} {fd : FuncData} {ps ks : List Str} {p : List Nat} (np : ps ≠ [])
    (h : ∀ us ws : List Value, us.length + ks.length = p.length → ws.length = ks.length → bindArgs fd ⟨us, ks.zip ws⟩ = pure (ps.zip (p.map fun j => (us ++ ws).getD j Value.none))) : KBinds K fd ps ks (permVs Value.none ks.length p) (permVs V.non ks.length p) where
  to := fun s us ws _ hl => by
    unfold permVs at hl ⊢
    by_cases c : us.length + ks.length = p.length ∧ ws.length = ks.length
    · rw [if_pos c]; exact .of_eq (h us ws c.1 c.2)
    · rw [if_neg c] at hl
      exact absurd (List.eq_nil_of_length_eq_zero hl.symm) np
  rel := fun {vs us zs ws} h1 h2 => by
    unfold permVs
    rw [h1.length, h2.length]
    split
    · exact map_rel (vals_app h1 h2) p
    · exact .nil
/-- how a def stands -/
structure StandsD (K : PySem.W.Frag) (mg : Str → Option Value) (t : Txt) (d : Def) : Prop where
  ex : ∃ f fd, Fun K d.x d.qual d.st f fd ∧ (d.kd = 0 → mg d.x = some (.ref f)) ∧ Binds K fd d.ps [] ∧ (∀ q ∈ d.kws, KBinds K fd d.ps q.1 (permVs Value.none q.1.length q.2) (permVs V.non q.1.length q.2)) ∧
    KdOk K mg t d f
/-- its arguments bind by their places, by these keywords -/
abbrev BindsP (x qual : Str) (st : Stmt) (ps : List Str) : Prop := ∀ (kV doc pm : Value) (an : Option Addr) (cdv ct : Value) (us : List Value), us.length = ps.length → bindArgs (PySem.W.fnOf x qual (defArgs st) (defBody st) (defScope st) .none kV doc pm an cdv ct) ⟨us, []⟩ = pure (ps.zip us)
abbrev BindsK (x qual : Str) (st : Stmt) (ps ks : List Str) (p : List Nat) : Prop := ∀ (kV doc pm : Value) (an : Option Addr) (cdv ct : Value) (us ws : List Value), us.length + ks.length = p.length → ws.length = ks.length →
  bindArgs (PySem.W.fnOf x qual (defArgs st) (defBody st) (defScope st) .none kV doc pm an cdv ct) ⟨us, ks.zip ws⟩ = pure (ps.zip (p.map fun j => (us ++ ws).getD j Value.none))
def KwsP (x qual : Str) (st : Stmt) (ps : List Str) : List (List Str × List Nat) → Prop
  | [] => True
  | q :: r => BindsK x qual st ps q.1 q.2 ∧ KwsP x qual st ps r
section
variable {K : PySem.W.Frag} {h : Heap} {mg : Str → Option Value} {t : Txt} {x qual : Str} {st : Stmt} {N ps : List Str} {kws : List (List Str × List Nat)} {fn : Fn} {f : Addr} {oc : Value} {od an : Option Addr} {osl : Array (Option Value)} {kV doc pm cdv ct : Value}
theorem sd_mk (X : K.In h) (G : h.Ns mainGlobals mg) (a : PySem.W.nsIn K mainGlobals x = some (some (.ref f))) (l : K.lookup f = some ⟨oc, od, .func (PySem.W.fnOf x qual (defArgs st) (defBody st) (defScope st) .none kV doc pm an cdv ct), osl⟩)
    (c : PySem.W.codeIn K cdv qual = true) (k : PySem.W.keepIn K (.ref f) = true) (b : BindsP x qual st ps) (np : kws ≠ [] → ps ≠ []) (kb : KwsP x qual st ps kws) : StandsD K mg t ⟨x, qual, st, N, ps, kws, fn, 0⟩ := by
  have F := fun_mk (st := st) l c k
  refine ⟨f, _, F, fun _ => PySem.W.mg_of X G a, F.binds b, ?_, fun z => (nomatch z), fun z => (nomatch z), fun z => (nomatch z)⟩
  have : ∀ ks : List (List Str × List Nat), (ks ≠ [] → ps ≠ []) → KwsP x qual st ps ks → ∀ q ∈ ks, KBinds K (PySem.W.fnOf x qual (defArgs st) (defBody st) (defScope st) .none kV doc pm an cdv ct) ps q.1 (permVs Value.none q.1.length q.2) (permVs V.non q.1.length q.2) := by
    intro ks
    induction ks with
    | nil => intro _ _ q m; cases m
    | cons r ks ih =>
      intro n kp q m
      rcases List.mem_cons.mp m with e | m
      · rw [e]; exact kb_mk (n (by simp)) (kp.1 kV doc pm an cdv ct)
      · exact ih (fun _ => n (by simp)) kp.2 q m
  exact this kws np kb
/-- a property of the class at C -/
theorem sd_prop {C p : Addr} {rest : List Value} (at0 : PySem.W.nsIn K mainGlobals "Program" = some (some (.ref C))) (a1 : PySem.W.findIn K (.ref C) x = some (some (.ref p))) (a2 : PySem.W.specialIn K (.ref p) "__get__" = some (some (.builtin "property.__get__"))) (a3 : PySem.W.takesIn K (.ref p) = some true)
    (a4 : PySem.W.recIn K p "property" = some (.ref f :: rest)) (l : K.lookup f = some ⟨oc, od, .func (PySem.W.fnOf x qual (defArgs st) (defBody st) (defScope st) .none kV doc pm an cdv ct), osl⟩)
    (c : PySem.W.codeIn K cdv qual = true) (k : PySem.W.keepIn K (.ref f) = true) (b : BindsP x qual st ps) : StandsD K mg t ⟨x, qual, st, N, ps, [], fn, 1⟩ := by
  have F := fun_mk (st := st) l c k
  refine ⟨f, _, F, fun z => (nomatch z), F.binds b, fun q m => (nomatch m), fun _ _ C' pc => ?_, fun z => (nomatch z), fun z => (nomatch z)⟩
  have e : PySem.W.nsIn K mainGlobals "Program" = some (some (.ref C')) := pc.at0
  cases at0.symm.trans e
  exact ⟨p, a1, a2, a3, rest, a4⟩
/-- a staticmethod of the class at C -/
theorem sd_sm {C p : Addr} {rest : List Value} (at0 : PySem.W.nsIn K mainGlobals "Program" = some (some (.ref C))) (a1 : PySem.W.readsIn K C (.type "type") = true) (a2 : PySem.W.specialIn K (.ref C) "__getattribute__" = some (some (.builtin "type.__getattribute__")))
    (a3 : PySem.W.findCls K (.ref C) (.type "type") x = some (.get (.builtin "staticmethod.__get__") (.ref p) .none (.ref C))) (a4 : PySem.W.recIn K p "staticmethod" = some (.ref f :: rest))
    (l : K.lookup f = some ⟨oc, od, .func (PySem.W.fnOf x qual (defArgs st) (defBody st) (defScope st) .none kV doc pm an cdv ct), osl⟩)
    (c : PySem.W.codeIn K cdv qual = true) (k : PySem.W.keepIn K (.ref f) = true) (b : BindsP x qual st ps) (np : kws ≠ [] → ps ≠ []) (kb : KwsP x qual st ps kws) : StandsD K mg t ⟨x, qual, st, N, ps, kws, fn, 2⟩ := by
  have F := fun_mk (st := st) l c k
  refine ⟨f, _, F, fun z => (nomatch z), F.binds b, ?_, fun z => (nomatch z), fun _ _ C' pc => ?_, fun z => (nomatch z)⟩
  · have : ∀ ks : List (List Str × List Nat), (ks ≠ [] → ps ≠ []) → KwsP x qual st ps ks → ∀ q ∈ ks, KBinds K (PySem.W.fnOf x qual (defArgs st) (defBody st) (defScope st) .none kV doc pm an cdv ct) ps q.1 (permVs Value.none q.1.length q.2) (permVs V.non q.1.length q.2) := by
      intro ks
      induction ks with
      | nil => intro _ _ q m; cases m
      | cons r ks ih =>
        intro n kp q m
        rcases List.mem_cons.mp m with e | m
        · rw [e]; exact kb_mk (n (by simp)) (kp.1 kV doc pm an cdv ct)
        · exact ih (fun _ => n (by simp)) kp.2 q m
    exact this kws np kb
  · have e : PySem.W.nsIn K mainGlobals "Program" = some (some (.ref C')) := pc.at0
    cases at0.symm.trans e
    exact ⟨p, a1, a2, a3, rest, a4⟩
/-- a special method of the class at C -/
theorem sd_spec {C : Addr} (at0 : PySem.W.nsIn K mainGlobals "Program" = some (some (.ref C))) (a1 : PySem.W.findIn K (.ref C) x = some (some (.ref f))) (a2 : PySem.W.isFn K (.ref f) = true)
    (l : K.lookup f = some ⟨oc, od, .func (PySem.W.fnOf x qual (defArgs st) (defBody st) (defScope st) .none kV doc pm an cdv ct), osl⟩)
    (c : PySem.W.codeIn K cdv qual = true) (k : PySem.W.keepIn K (.ref f) = true) (b : BindsP x qual st ps) : StandsD K mg t ⟨x, qual, st, N, ps, [], fn, 3⟩ := by
  have F := fun_mk (st := st) l c k
  refine ⟨f, _, F, fun z => (nomatch z), F.binds b, fun q m => (nomatch m), fun z => (nomatch z), fun z => (nomatch z), fun _ _ C' pc => ?_⟩
  have e : PySem.W.nsIn K mainGlobals "Program" = some (some (.ref C')) := pc.at0
  cases at0.symm.trans e
  exact ⟨a1, a2⟩
end
def EachD (K : PySem.W.Frag) (mg : Str → Option Value) (t : Txt) : Tab → Prop
  | [] => True
  | p :: r => StandsD K mg t p.2 ∧ EachD K mg t r
theorem each_of {K : PySem.W.Frag} {mg : Str → Option Value} {t : Txt} {i : Nat} {d : Def} : ∀ r : Tab, EachD K mg t r → r.lookup i = some d → StandsD K mg t d
  | [], _, q => by cases q
  | (j, d') :: r, e, q => by
    rw [List.lookup_cons] at q
    split at q
    · cases q; exact e.1
    · exact each_of r e.2 q
/-- the constants of the module stand -/
def GcK (K : PySem.W.Frag) : List (Str × Const) → Prop
  | [] => True
  | p :: r => (∃ u, PySem.W.nsIn K mainGlobals p.1 = some (some u) ∧ RelK p.2 u) ∧ GcK K r
theorem gc_s {K : PySem.W.Frag} {x z : Str} {t : Tok} {r : List (Str × Const)} (a : PySem.W.nsIn K mainGlobals x = some (some (.str z t))) (b : GcK K r) : GcK K ((x, .str z) :: r) := ⟨⟨_, a, t, rfl⟩, b⟩
theorem gc_i {K : PySem.W.Frag} {x : Str} {z : Int} {t : Tok} {r : List (Str × Const)} (a : PySem.W.nsIn K mainGlobals x = some (some (.int z t))) (b : GcK K r) : GcK K ((x, .int z) :: r) := ⟨⟨_, a, t, rfl⟩, b⟩
theorem gc_of {K : PySem.W.Frag} {h : Heap} {mg : Str → Option Value} (X : K.In h) (G : h.Ns mainGlobals mg) {x : Str} {k : Const} : ∀ l : List (Str × Const), GcK K l → l.lookup x = some k → ∃ u, mg x = some u ∧ RelK k u
  | [], _, q => by cases q
  | (y, k') :: r, e, q => by
    rw [List.lookup_cons] at q
    split at q
    · rename_i b
      cases q
      obtain ⟨u, e1, e2⟩ := e.1
      have : x = y := by simpa using b
      subst this
      exact ⟨u, PySem.W.mg_of X G e1, e2⟩
    · exact gc_of X G r e.2 q
/-- an exception class, as k_is tells it -/
structure XCf (K : PySem.W.Frag) (c : Nat) (C : Addr) : Prop where
  at0 : PySem.W.nsIn K mainGlobals (exS c) = some (some (.ref C))
  kp : PySem.W.keepIn K (.ref C) = true
  sub : PySem.W.subIn K (.ref C) (.type "BaseException") = some true
  ty : PySem.W.typeIn K (.ref C) = some (.type "type")
  cl : (PySem.W.clsIn K C).isSome = true
  hd : PySem.W.hasDictIn K C = true
  ga : PySem.W.findIn K (.ref C) "__getattribute__" = some (some (.builtin "BaseException.__getattribute__"))
  gt : PySem.W.findIn K (.ref C) "__getattr__" = some none
  ca : PySem.W.findIn K (.ref C) "__class__" = some (some (.builtin "object.__class__"))
  gg : PySem.W.specialIn K (.builtin "object.__class__") "__get__" = some (some (.builtin "getset_descriptor.__get__"))
  tk : PySem.W.takesIn K (.builtin "object.__class__") = some true
  mo : PySem.W.mroIn K C (.type "object") = some true
  ki1 : PySem.W.kitOne K (.ref C) (.type "LookupError") = some (exB c)
  ki2 : PySem.W.kitOne K (.ref C) (.type "ValueError") = some (!exB c)
  new : exF c = [] → PySem.W.excIn K C (exM (exB c)) (exI (exB c)) = true
  fld : ∀ f ∈ exF c, PySem.W.findIn K (.ref C) (sgS f) = some none
theorem XCf.to {K : PySem.W.Frag} {h : Heap} {mg : Str → Option Value} {c : Nat} {C : Addr} (X : K.In h) (G : h.Ns mainGlobals mg) (x : XCf K c C) : XCl K mg c C where
  at0 := x.at0
  mg := PySem.W.mg_of X G x.at0
  kp := x.kp
  sub := x.sub
  ty := x.ty
  cl := x.cl
  hd := x.hd
  ga := x.ga
  gt := x.gt
  ca := x.ca
  gg := x.gg
  tk := x.tk
  mo := x.mo
  ki := fun b => by
    cases b with
    | true => exact x.ki1.trans (by cases exB c <;> rfl)
    | false => exact x.ki2.trans (by cases exB c <;> rfl)
  new := x.new
  fld := x.fld
/-- the classes, each at its place -/
def EachX (K : PySem.W.Frag) : List (Nat × Addr) → Prop
  | [] => True
  | p :: r => XCf K p.1 p.2 ∧ EachX K r
theorem eachX_cons {K : PySem.W.Frag} {c : Nat} {C : Addr} {r : List (Nat × Addr)} (x : XCf K c C) (h : EachX K r) : EachX K ((c, C) :: r) := ⟨x, h⟩
theorem eachX_of {K : PySem.W.Frag} {p : Nat × Addr} : ∀ {l : List (Nat × Addr)}, EachX K l → p ∈ l → XCf K p.1 p.2
  | [], _, m => by cases m
  | q :: r, e, m => by
    rcases List.mem_cons.mp m with z | z
    · rw [z]; exact e.1
    · exact eachX_of e.2 z
def isNo (o : Option (Option Value)) : Bool := match o with
  | some none => true
  | _ => false
def isSm (b : Bool) (o : Option Bool) : Bool := match o with
  | some b' => b == b'
  | none => false
theorem xt_of {K : PySem.W.Frag} {h : Heap} {mg : Str → Option Value} {xl : List Nat} {l : List (Nat × Addr)} (X : K.In h) (G : h.Ns mainGlobals mg) (e : EachX K l) (hl : l.map Prod.fst = xl) (nil : isNo (PySem.W.nsIn K mainGlobals "") = true)
    (o : ((List.range 19).all fun c => xl.contains c || isNo (PySem.W.nsIn K mainGlobals (exS c))) = true)
    (m : (l.all fun p => l.all fun q => isSm (decide (p.1 = q.1)) (PySem.W.exmOne K (.ref p.2) (.ref q.2))) = true) : XTxt K mg xl where
  cls := fun c hc => by
    rw [← hl] at hc
    obtain ⟨p, hp, rfl⟩ := List.mem_map.mp hc
    exact ⟨p.2, (eachX_of e hp).to X G⟩
  only := fun c C q => by
    by_cases lt : c < 19
    · have := List.all_eq_true.mp o c (List.mem_range.mpr lt)
      rw [Bool.or_eq_true] at this
      rcases this with z | z
      · exact List.contains_iff_mem.mp z
      · rw [q] at z; cases z
    · have ez : exS c = exS 19 := by
        unfold exS
        split <;> first | rfl | (exfalso; omega)
      rw [ez] at q
      have q' : PySem.W.nsIn K mainGlobals "" = some (some (.ref C)) := q
      rw [q'] at nil
      cases nil
  exm := fun c hc c' hc' C C' x x' => by
    rw [← hl] at hc hc'
    obtain ⟨p, hp, rfl⟩ := List.mem_map.mp hc
    obtain ⟨p', hp', rfl⟩ := List.mem_map.mp hc'
    have e1 := (eachX_of e hp).at0
    have e2 := (eachX_of e hp').at0
    have f1 := x.at0
    have f2 := x'.at0
    rw [e1] at f1
    rw [e2] at f2
    cases f1
    cases f2
    have := List.all_eq_true.mp (List.all_eq_true.mp m p hp) p' hp'
    unfold isSm at this
    split at this
    · rename_i b eb
      rw [eb]
      simpa using (beq_iff_eq.mp this).symm
    · cases this
/-- a text without the class Program -/
theorem stands_of {K : PySem.W.Frag} {h : Heap} {mg : Str → Option Value} {t : Txt} (X : K.In h) (G : h.Ns mainGlobals mg) (ob : t.ob = false) (no : ∀ c, ∃ o, PySem.W.nsIn K mainGlobals (clsN c) = some o ∧ ∀ C, o ≠ some (.ref C)) (gk : GcK K t.gc) (e : EachD K mg t t.tab) (b : ∀ x ∈ bltN, mg x = none) (xt : XTxt K mg t.xl) : Stands K mg t where
  xt := xt
  fns := fun i d q => (each_of t.tab e q).ex
  blt := b
  nt := fun c C q => by obtain ⟨o, e, n⟩ := no c; rw [e] at q; exact absurd (Option.some.inj q) (n C)
  gc := fun x k q => gc_of X G t.gc gk q
  ob := fun z => by rw [ob] at z; cases z
  nw := fun z => by rw [ob] at z; cases z
/-- the class Program as k_is tells it -/
structure PText (K : PySem.W.Frag) (C p fI : Addr) : Prop where
  at0 : PySem.W.nsIn K mainGlobals "Program" = some (some (.ref C))
  nil : PySem.W.nsIn K mainGlobals "" = some none
  sc : SlX.SCls K C
  s1 : SlX.Slot1 K C "own_deeds" p 0
  si : SlX.SIsi K C
  mak : Mk K C fI
theorem clsN_one {K : PySem.W.Frag} (nil : PySem.W.nsIn K mainGlobals "" = some none) : ∀ c D, PySem.W.nsIn K mainGlobals (clsN c) = some (some (.ref D)) → c = 0
  | 0, _, _ => rfl
  | c + 1, D, q => by
    have : PySem.W.nsIn K mainGlobals "" = some (some (.ref D)) := q
    rw [nil] at this
    cases this
theorem dTy_in {h : Hh} {d : D} {n : String} (e : dTy h d = some n) : n = "NoneType" ∨ n = "bool" ∨ n = "int" ∨ n = "str" ∨ n = "tuple" ∨ n = "list" := by
  unfold dTy at e
  split at e
  all_goals first | (cases e; simp; done) | skip
  split at e
  · cases e; simp
  · cases e
theorem stands_prog {K : PySem.W.Frag} {h : Heap} {mg : Str → Option Value} {t : Txt} {C p fI : Addr} {i : Nat} {d : Def} (X : K.In h) (G : h.Ns mainGlobals mg) (T : PText K C p fI) (hw : t.nw = some i) (hd : t.tab.lookup i = some d) (hk : d.kd = 0) (hx : d.x = "tupled") (hp : d.ps = (["value"] : List Str))
    (kt : ∀ u : Ty, PySem.W.kitOne K (.ref C) (.type (tyN u)) = some false) (ky : PySem.W.kitOne K (.ref C) (.ref C) = some true)
    (kn : ∀ n : String, (n = "NoneType" ∨ n = "bool" ∨ n = "int" ∨ n = "str" ∨ n = "tuple" ∨ n = "list") → PySem.W.kitOne K (.type n) (.ref C) = some false)
    (ini : ∃ fdI, C8.Fun K "__init__" "Program.__init__" t.ini fI fdI ∧ Binds K fdI ["self", "deeds"] []) (ib : initB t.ini = true) (is : initS t.ini = true)
    (gk : GcK K t.gc) (e : EachD K mg t t.tab) (b : ∀ x ∈ bltN, mg x = none) (xt : XTxt K mg t.xl) : Stands K mg t where
  xt := xt
  fns := fun i d q => (each_of t.tab e q).ex
  blt := b
  nt := fun c D q => by
    obtain rfl := clsN_one T.nil c D q
    have : PySem.W.nsIn K mainGlobals "Program" = some (some (.ref D)) := q
    cases T.at0.symm.trans this
    exact ⟨T.sc, T.si, kt⟩
  gc := fun x k q => gc_of X G t.gc gk q
  ob := fun _ => ⟨C, T.at0, clsN_one T.nil, T.sc, ⟨p, T.s1⟩, ⟨T.at0, clsN_one T.nil, ky, fun h d n q => kn n (dTy_in q)⟩, PySem.W.mg_of X G T.at0⟩
  nw := fun _ j q D pc => by
    rw [hw] at q
    cases q
    have : PySem.W.nsIn K mainGlobals "Program" = some (some (.ref D)) := pc.at0
    cases T.at0.symm.trans this
    obtain ⟨fdI, FI, bI⟩ := ini
    exact ⟨d, hd, hk, hx, hp, fI, fdI, FI, T.mak, bI, ib, is⟩
/-- __init__ as k_is tells it: its one default lies in a tuple at T -/
theorem ini_mk {K : PySem.W.Frag} {st : Stmt} {f T : Addr} {oc oc2 kV doc pm cdv ct u : Value} {od od2 an : Option Addr} {osl osl2 : Array (Option Value)} {n2 : Nat} (l : K.lookup f = some ⟨oc, od, .func (PySem.W.fnOf "__init__" "Program.__init__" (C8.fnArgs st) (C8.fnBody st) (C8.fnScope st) (.ref T) kV doc pm an cdv ct), osl⟩) (c : PySem.W.codeIn K cdv "Program.__init__" = true)
    (lT : K.lookup T = some ⟨oc2, od2, .seq #[u] n2, osl2⟩)
    (b : ∀ (T : Addr) (kV doc pm : Value) (an : Option Addr) (cdv ct : Value) (u : Value) (us : List Value), us.length = 2 → ∃ k, bindArgs (PySem.W.fnOf "__init__" "Program.__init__" (C8.fnArgs st) (C8.fnBody st) (C8.fnScope st) (.ref T) kV doc pm an cdv ct) ⟨us, []⟩ = seqItems? (.ref T) >>= k ∧ k (some #[u]) = pure ((["self", "deeds"] : List Str).zip us)) :
    ∃ fdI, C8.Fun K "__init__" "Program.__init__" st f fdI ∧ Binds K fdI ["self", "deeds"] [] := by
  refine ⟨_, ⟨oc, od, .ref T, kV, doc, pm, an, cdv, ct, osl, rfl, l, c⟩, fun s us X hl => ?_⟩
  rw [List.append_nil] at hl ⊢
  obtain ⟨k, e1, e2⟩ := b T kV doc pm an cdv ct u us hl
  refine BindsTo.of_looks fun M => ?_
  rw [e1]
  exact looks_items X lT rfl (.of_pure e2)
def chTab (t : Txt) : Bool := t.tab.all fun p => chDef t p.2
theorem chTab_of {t : Txt} (h : chTab t = true) : ∀ i d, t.tab.lookup i = some d → chDef t d = true := by
  intro i d q
  have : ∀ r : Tab, (r.all fun p => chDef t p.2) = true → r.lookup i = some d → chDef t d = true := by
    intro r
    induction r with
    | nil => intro _ q; cases q
    | cons p r ih =>
      intro e q
      obtain ⟨j, d'⟩ := p
      rw [List.all_cons, Bool.and_eq_true] at e
      rw [List.lookup_cons] at q
      split at q
      · cases q; exact e.1
      · exact ih e.2 q
  exact this t.tab h q
theorem fun_uniq {K : PySem.W.Frag} {x qual : Str} {st : Stmt} {f : Addr} {fd fd' : FuncData} (F : Fun K x qual st f fd) (F' : Fun K x qual st f fd') : fd = fd' := by
  obtain ⟨oc, od, kV, doc, pm, an, cdv, ct, osl, _, l, _⟩ := F.ex
  obtain ⟨oc', od', kV', doc', pm', an', cdv', ct', osl', _, l', _⟩ := F'.ex
  rw [l] at l'
  injection l' with e
  injection e with _ _ e
  injection e
/-- the law's end -/
theorem law_end {P : Program} {w : World} {K : PySem.W.Frag} {mg : Str → Option Value} {t : Txt} {i n : Nat} {d : Def} {fa : Addr} {x : Str} (S : Stands K mg t) (ch : chTab t = true) (e : t.tab.lookup i = some d) (hk : d.kd = 0) (hp : d.ps = [x]) (b : BindsP d.x d.qual d.st [x]) (hmg : mg d.x = some (.ref fa)) :
    ∃ fd : FuncData, (∀ (s : Shared) (u : Value), BindsTo s fd ⟨[u], []⟩ [(x, u)]) ∧ ∀ base : Heap, K.In base → base.Ns mainGlobals mg → FnOk P w K mg base (L2.CX P w) (3 * n + 4) fa fd [x] (spR K (runFn (callN t.tab.fns n) d.fn)) := by
  obtain ⟨f, fd, F, em0, _⟩ := S.fns i d e
  have em := em0 hk
  cases hmg.symm.trans em
  refine ⟨fd, fun s u => ?_, fun base _ _ => ?_⟩
  · obtain ⟨oc, od, kV, doc, pm, an, cdv, ct, osl, rfl, _, _⟩ := F.ex
    exact .of_eq (b kV doc pm an cdv ct [u] rfl)
  · obtain ⟨f', fd', F', em', _, _, _, ok⟩ := allOk (P := P) (w := w) (base := base) S (chTab_of ch) n i d e
    have e2 := em' hk
    cases em.symm.trans e2
    cases fun_uniq F F'
    rw [← hp]
    exact ok
end Ls
/-! Symbolic evaluation by simp: the first part of a bind alone is rewritten. -/
namespace Ls
open R
def getV (o : Option (Option D)) (h : Hh) : R D := match o with | some (some d) => .ok d h | _ => .stuck
@[simp] theorem getV_some (d : D) (h : Hh) : getV (some (some d)) h = .ok d h := id rfl
def perR (o : Option (List D)) (k : List D → R D) : R D := match o with | some ys => k ys | none => .stuck
@[simp] theorem perR_some (ys : List D) (k : List D → R D) : perR (some ys) k = k ys := id rfl
def pairR (o : Option (D × Hh)) : R D := match o with | some (d, h3) => .ok d h3 | none => .stuck
@[simp] theorem pairR_some (d : D) (h : Hh) : pairR (some (d, h)) = .ok d h := id rfl
/-- if b then k else stuck -/
def onlyIf {α : Type} (b : Bool) (k : R α) : R α := if b then k else .stuck
@[simp] theorem onlyIf_true {α : Type} (k : R α) : onlyIf true k = k := id rfl
def withL {α : Type} (o : Option (List D)) (k : List D → R α) : R α := match o with | some xs => k xs | none => .stuck
@[simp] theorem withL_some {α : Type} (xs : List D) (k : List D → R α) : withL (some xs) k = k xs := id rfl
def asInt {α : Type} (d : D) (k : Int → R α) : R α := match d with | .int i => k i | _ => .stuck
@[simp] theorem asInt_int {α : Type} (i : Int) (k : Int → R α) : asInt (.int i) k = k i := id rfl
def asStr {α : Type} (d : D) (k : List Nat → R α) : R α := match d with | .str i => k i | _ => .stuck
@[simp] theorem asStr_str {α : Type} (i : List Nat) (k : List Nat → R α) : asStr (.str i) k = k i := id rfl
def putR (o : Option Hh) (k : Hh → R Ev) : R Ev := match o with | some h3 => k h3 | none => .stuck
@[simp] theorem putR_some (h : Hh) (k : Hh → R Ev) : putR (some h) k = k h := id rfl
/-! what follows a part: named, so that simp does not look into it before its turn -/
section
variable (cf : Cf)
def binK2 (o : Bo) (x y : D) (h2 : Hh) : R D := lift (binD h2 o x y) h2
def binK (o : Bo) (b : E) (ρ : Ev) (x : D) (h1 : Hh) : R D := (ev cf b ρ h1).bind (binK2 o x)
def cmpK2 (o : Co) (x y : D) (h2 : Hh) : R D := lift ((cmpD h2 o x y).map D.bl) h2
def cmpK (o : Co) (b : E) (ρ : Ev) (x : D) (h1 : Hh) : R D := (ev cf b ρ h1).bind (cmpK2 o x)
def chnB (p : Co) (c : E) (ρ : Ev) (y : D) (h2 : Hh) : Option Bool → R D
  | some true => (ev cf c ρ h2).bind (cmpK2 p y)
  | some false => .ok (.bl false) h2
  | none => .stuck
def chnK2 (o p : Co) (c : E) (ρ : Ev) (x y : D) (h2 : Hh) : R D := chnB cf p c ρ y h2 (cmpD h2 o x y)
def chnK (o p : Co) (b c : E) (ρ : Ev) (x : D) (h1 : Hh) : R D := (ev cf b ρ h1).bind (chnK2 cf o p c ρ x)
def iteB (a b : E) (ρ : Ev) (h1 : Hh) : Option Bool → R D
  | some true => ev cf a ρ h1
  | some false => ev cf b ρ h1
  | none => .stuck
def iteK (a b : E) (ρ : Ev) (x : D) (h1 : Hh) : R D := iteB cf a b ρ h1 (tru h1 x)
def mtK2 (m : Mt) (x : D) (xs : List D) (h2 : Hh) : R D := pairR (mtD h2 m x xs)
def mtK (m : Mt) (es : Es) (ρ : Ev) (x : D) (h1 : Hh) : R D := onlyIf (mtPre h1 m x) ((evs cf es ρ h1).bind (mtK2 m x))
def ixK2 (x y : D) (h2 : Hh) : R D := lift (ixD h2 x y) h2
def ixK (i : E) (ρ : Ev) (x : D) (h1 : Hh) : R D := (ev cf i ρ h1).bind (ixK2 x)
def slK3 (x : D) (a b : Option Int) (h3 : Hh) : R D := lift (slD h3 x a b) h3
def slK2 (hi : Oe) (ρ : Ev) (x : D) (a : Option Int) (h2 : Hh) : R D := (evo cf hi ρ h2).bind (slK3 x a)
def slK (lo hi : Oe) (ρ : Ev) (x : D) (h1 : Hh) : R D := (evo cf lo ρ h1).bind (slK2 cf hi ρ x)
def andB (r : Es) (ρ : Ev) (x : D) (h1 : Hh) : Option Bool → R D
  | some true => evb cf true r ρ h1
  | some false => .ok x h1
  | none => .stuck
def andK (r : Es) (ρ : Ev) (x : D) (h1 : Hh) : R D := andB cf r ρ x h1 (tru h1 x)
def orB (r : Es) (ρ : Ev) (x : D) (h1 : Hh) : Option Bool → R D
  | some true => .ok x h1
  | some false => evb cf false r ρ h1
  | none => .stuck
def orK (r : Es) (ρ : Ev) (x : D) (h1 : Hh) : R D := orB cf r ρ x h1 (tru h1 x)
def consK (x : D) (xs : List D) (h2 : Hh) : R (List D) := .ok (x :: xs) h2
def evsK (r : Es) (ρ : Ev) (x : D) (h1 : Hh) : R (List D) := (evs cf r ρ h1).bind (consK x)
def appK (ys xs : List D) (h2 : Hh) : R (List D) := .ok (ys ++ xs) h2
def starK2 (r : Es) (ρ : Ev) (h1 : Hh) (ys : List D) : R (List D) := (evs cf r ρ h1).bind (appK ys)
def starK (r : Es) (ρ : Ev) (x : D) (h1 : Hh) : R (List D) := withL (itemsS h1 x) (starK2 cf r ρ h1)
def evtB (r : Es) (ρ : Ev) (h1 : Hh) : Option Bool → R Bool
  | some true => evt cf r ρ h1
  | some false => .ok false h1
  | none => .stuck
def evtK (r : Es) (ρ : Ev) (x : D) (h1 : Hh) : R Bool := evtB cf r ρ h1 (tru h1 x)
def oneK (y : D) (h4 : Hh) : R (List D) := .ok [y] h4
def compB3 (e : E) (ρ1 : Ev) (h3 : Hh) : Bool → R (List D)
  | true => (ev cf e ρ1 h3).bind oneK
  | false => .ok [] h3
def compK2 (e : E) (ρ1 : Ev) (b : Bool) (h3 : Hh) : R (List D) := compB3 cf e ρ1 h3 b
def compK (c : Es) (e : E) (ρ1 : Ev) (h2 : Hh) : R (List D) := (evt cf c ρ1 h2).bind (compK2 cf e ρ1)
def rngK2 (a : Option Int) (y : D) (h2 : Hh) : R (List D) := asInt y fun j => onlyIf (okR (a.getD 0) && okR j) (.ok (rngL (a.getD 0) j) h2)
def rngK (b : E) (ρ : Ev) (a : Option Int) (h1 : Hh) : R (List D) := (ev cf b ρ h1).bind (rngK2 a)
def rngI2 (a : Option Int) (y : D) (h2 : Hh) : R (List D × Option Nat) := asInt y fun j => onlyIf (okR (a.getD 0) && okR j) (.ok (rngL (a.getD 0) j, none) h2)
def rngI (b : E) (ρ : Ev) (a : Option Int) (h1 : Hh) : R (List D × Option Nat) := (ev cf b ρ h1).bind (rngI2 a)
def catK2 (x y : D) (h2 : Hh) : R (List D) := withL (itemsW h2 x) fun xs => withL (itemsW h2 y) fun ys => .ok (xs ++ ys) h2
def catK (b : E) (ρ : Ev) (x : D) (h1 : Hh) : R (List D) := (ev cf b ρ h1).bind (catK2 x)
def sliK3 (x : D) (a b : Option Int) (h3 : Hh) : R (List D) := withL (itemsL h3 x) fun xs => .ok (slice xs a b) h3
def sliK2 (hi : Oe) (ρ : Ev) (x : D) (a : Option Int) (h2 : Hh) : R (List D) := (evo cf hi ρ h2).bind (sliK3 x a)
def sliK (lo hi : Oe) (ρ : Ev) (x : D) (h1 : Hh) : R (List D) := (evo cf lo ρ h1).bind (sliK2 cf hi ρ x)
def asgK2 (d x y : D) (ρ : Ev) (h2 : Hh) : R Ev := putR (setD h2 x y d) fun h3 => .ok ρ h3
def asgK1 (d x : D) (ρ : Ev) (y : D) (h2 : Hh) : R Ev := asgK2 d x y ρ h2
def asgK (i : E) (d : D) (ρ : Ev) (x : D) (h1 : Hh) : R Ev := (ev cf i ρ h1).bind (asgK1 d x ρ)
def nxK (ρ1 : Ev) (h2 : Hh) : R Fl := .ok (.nx ρ1) h2
def setK (t : T) (ρ : Ev) (x : D) (h1 : Hh) : R Fl := (asgT cf t x ρ h1).bind nxK
def asgsK (r : Ts) (xs : List D) (ρ1 : Ev) (h1 : Hh) : R Ev := asgTs cf r xs ρ1 h1
def ifeB (a b : Ss) (ρ : Ev) (h1 : Hh) : Option Bool → R Fl
  | some true => exs cf a ρ h1
  | some false => exs cf b ρ h1
  | none => .stuck
def ifeK (a b : Ss) (ρ : Ev) (x : D) (h1 : Hh) : R Fl := ifeB cf a b ρ h1 (tru h1 x)
end
theorem br_fun {α : Type} {f : Option Bool → R α} {a b : R α} (h1 : f (some true) = a) (h2 : f (some false) = b) (h3 : f none = .stuck) (o : Option Bool) : br o a b = f o := by
  rcases o with _ | _ | _
  · exact h3.symm
  · exact h2.symm
  · exact h1.symm
section
variable (cf : Cf)
@[simp] theorem ev_var (i : Nat) (ρ : Ev) (h : Hh) : ev cf (.var i) ρ h = getV ρ[i]? h := by rw [ev]; rfl
@[simp] theorem ev_cst (d : D) (ρ : Ev) (h : Hh) : ev cf (.cst d) ρ h = .ok d h := by rw [ev]
@[simp] theorem ev_bin (o : Bo) (a b : E) (ρ : Ev) (h : Hh) : ev cf (.bin o a b) ρ h = (ev cf a ρ h).bind (binK cf o b ρ) := by rw [ev]; rfl
@[simp] theorem ev_neg (a : E) (ρ : Ev) (h : Hh) : ev cf (.neg a) ρ h = (ev cf a ρ h).bind fun x h1 => asInt x fun i => .ok (.int (-i)) h1 := by rw [ev]; rfl
@[simp] theorem ev_not (a : E) (ρ : Ev) (h : Hh) : ev cf (.not a) ρ h = (ev cf a ρ h).bind fun x h1 => br (tru h1 x) (.ok (.bl false) h1) (.ok (.bl true) h1) := by rw [ev]
@[simp] theorem ev_cmp (o : Co) (a b : E) (ρ : Ev) (h : Hh) : ev cf (.cmp o a b) ρ h = (ev cf a ρ h).bind (cmpK cf o b ρ) := by rw [ev]; rfl
@[simp] theorem ev_chn (o p : Co) (a b c : E) (ρ : Ev) (h : Hh) : ev cf (.chn o p a b c) ρ h = (ev cf a ρ h).bind (chnK cf o p b c ρ) := by
  rw [ev]; congr 1; funext x h1; show _ = (ev cf b ρ h1).bind (chnK2 cf o p c ρ x); congr 1; funext y h2
  exact br_fun (f := chnB cf p c ρ y h2) rfl rfl rfl _
@[simp] theorem ev_bool (a : Bool) (es : Es) (ρ : Ev) (h : Hh) : ev cf (.bool a es) ρ h = evb cf a es ρ h := by rw [ev]
@[simp] theorem ev_ite (c a b : E) (ρ : Ev) (h : Hh) : ev cf (.ite c a b) ρ h = (ev cf c ρ h).bind (iteK cf a b ρ) := by
  rw [ev]; congr 1; funext x h1; exact br_fun (f := iteB cf a b ρ h1) rfl rfl rfl _
@[simp] theorem ev_tup (es : Es) (ρ : Ev) (h : Hh) : ev cf (.tup es) ρ h = (evs cf es ρ h).bind fun xs h1 => onlyIf (okLen xs) (.ok (.tup xs) h1) := by rw [ev]; rfl
@[simp] theorem ev_lv (f : F) (ρ : Ev) (h : Hh) : ev cf (.lv f) ρ h = freshL (evf cf f ρ h) fun xs h1 => .ok (.lst xs) h1 := by rw [ev]
@[simp] theorem ev_lr (f : F) (ρ : Ev) (h : Hh) : ev cf (.lr f) ρ h = freshL (evf cf f ρ h) fun xs h1 => .ok (.ref h1.length) (h1 ++ [.lst xs]) := by rw [ev]
@[simp] theorem ev_call (f : Nat) (es : Es) (p : List Nat) (ρ : Ev) (h : Hh) : ev cf (.call f es p) ρ h = (evs cf es ρ h).bind fun xs h1 => perR (permD p xs) fun ys => cf f ys h1 := by rw [ev]; rfl
@[simp] theorem ev_pr (p : Pr) (es : Es) (ρ : Ev) (h : Hh) : ev cf (.pr p es) ρ h = (evs cf es ρ h).bind fun xs h1 => lift (prD h1 p xs) h1 := by rw [ev]
@[simp] theorem ev_mt (m : Mt) (o : E) (es : Es) (ρ : Ev) (h : Hh) : ev cf (.mt m o es) ρ h = (ev cf o ρ h).bind (mtK cf m es ρ) := by rw [ev]; rfl
@[simp] theorem ev_ix (o i : E) (ρ : Ev) (h : Hh) : ev cf (.ix o i) ρ h = (ev cf o ρ h).bind (ixK cf i ρ) := by rw [ev]; rfl
@[simp] theorem ev_sl (o : E) (lo hi : Oe) (ρ : Ev) (h : Hh) : ev cf (.sl o lo hi) ρ h = (ev cf o ρ h).bind (slK cf lo hi ρ) := by rw [ev]; rfl
/-- isinstance(x, ts) -/
def isiR (ts : List Ty) (x : D) (h1 : Hh) : R D := if isObj x && ts.length == 1 then .ok (.bl false) h1 else onlyIf (dTy h1 x).isSome (.ok (.bl (ts.any (isTy h1 x))) h1)
@[simp] theorem ev_isi (e : E) (ts : List Ty) (ρ : Ev) (h : Hh) : ev cf (.isi e ts) ρ h = (ev cf e ρ h).bind (isiR ts) := by rw [ev]; rfl
@[simp] theorem isiR_non (ts : List Ty) (h : Hh) : isiR ts .non h = .ok (.bl (ts.any (isTy h .non))) h := id rfl
@[simp] theorem isiR_bl (ts : List Ty) (b : Bool) (h : Hh) : isiR ts (.bl b) h = .ok (.bl (ts.any (isTy h (.bl b)))) h := id rfl
@[simp] theorem isiR_int (ts : List Ty) (b : Int) (h : Hh) : isiR ts (.int b) h = .ok (.bl (ts.any (isTy h (.int b)))) h := id rfl
@[simp] theorem isiR_str (ts : List Ty) (b : List Nat) (h : Hh) : isiR ts (.str b) h = .ok (.bl (ts.any (isTy h (.str b)))) h := id rfl
@[simp] theorem isiR_tup (ts : List Ty) (b : List D) (h : Hh) : isiR ts (.tup b) h = .ok (.bl (ts.any (isTy h (.tup b)))) h := id rfl
@[simp] theorem isiR_lst (ts : List Ty) (b : List D) (h : Hh) : isiR ts (.lst b) h = .ok (.bl (ts.any (isTy h (.lst b)))) h := id rfl
@[simp] theorem isiR_rol (ts : List Ty) (b : List D) (h : Hh) : isiR ts (.rol b) h = .ok (.bl (ts.any (isTy h (.rol b)))) h := id rfl
@[simp] theorem isiR_rot (ts : List Ty) (b : List D) (h : Hh) : isiR ts (.rot b) h = .ok (.bl (ts.any (isTy h (.rot b)))) h := id rfl
@[simp] theorem isiR_ref (ts : List Ty) (n : Nat) (h : Hh) : isiR ts (.ref n) h = onlyIf (dTy h (.ref n)).isSome (.ok (.bl (ts.any (isTy h (.ref n)))) h) := id rfl
@[simp] theorem isiR_obj (t : Ty) (c : Nat) (xs : List D) (h : Hh) : isiR [t] (.obj c xs) h = .ok (.bl false) h := id rfl
def attK (k : Nat) (x : D) (h1 : Hh) : R D := match x with | .obj _ xs => lift xs[k]? h1 | _ => .stuck
def propK (f : Nat) (x : D) (h1 : Hh) : R D := match x with | .obj c xs => (cf f [.obj c xs] h1).calm | _ => .stuck
def newpK2 (y : D) (h2 : Hh) : R D := if y.free then .ok (.obj 0 [y]) h2 else .stuck
def newpK (f : Nat) (x : D) (h1 : Hh) : R D := (cf f [x] h1).calm.bind newpK2
def xatK (f : List Nat) (x : D) (h1 : Hh) : R D := match x with | .exn c xs => lift (((exF c).zip xs).lookup f) h1 | _ => .stuck
def isxK (b : Bool) (x : D) (h1 : Hh) : R D := match x with | .exn c _ => .ok (.bl (exB c == b)) h1 | _ => .stuck
def iscK (x : D) (h1 : Hh) : R D := match x with | .obj c _ => .ok (.bl (decide (c = 0))) h1 | x => if (dTy h1 x).isSome then .ok (.bl false) h1 else .stuck
@[simp] theorem ev_glb (s : String) (d : D) (ρ : Ev) (h : Hh) : ev cf (.glb s d) ρ h = .ok d h := by rw [ev]
@[simp] theorem ev_att (e : E) (k : Nat) (ρ : Ev) (h : Hh) : ev cf (.att e k) ρ h = (ev cf e ρ h).bind (attK k) := by rw [ev]; rfl
@[simp] theorem ev_prop (f : Nat) (e : E) (ρ : Ev) (h : Hh) : ev cf (.prop f e) ρ h = (ev cf e ρ h).bind (propK cf f) := by rw [ev]; rfl
@[simp] theorem ev_newp (f : Nat) (e : E) (ρ : Ev) (h : Hh) : ev cf (.newp f e) ρ h = (ev cf e ρ h).bind (newpK cf f) := by rw [ev]; rfl
@[simp] theorem ev_isc (e : E) (ρ : Ev) (h : Hh) : ev cf (.isc e) ρ h = (ev cf e ρ h).bind iscK := by rw [ev]; rfl
@[simp] theorem ev_xat (e : E) (f : List Nat) (ρ : Ev) (h : Hh) : ev cf (.xat e f) ρ h = (ev cf e ρ h).bind (xatK f) := by rw [ev]; rfl
@[simp] theorem ev_isx (e : E) (b : Bool) (ρ : Ev) (h : Hh) : ev cf (.isx e b) ρ h = (ev cf e ρ h).bind (isxK b) := by rw [ev]; rfl
def permR (cf : Cf) (f : Nat) (p : List Nat) (xs : List D) (h1 : Hh) : R D := perR (permD p xs) fun ys => cf f ys h1
@[simp] theorem ev_scall (f : Nat) (es : Es) (p : List Nat) (ρ : Ev) (h : Hh) : ev cf (.scall f es p) ρ h = (evs cf es ρ h).bind fun xs h1 => perR (permD p xs) fun ys => cf f ys h1 := by rw [ev]; rfl
def olenK2 (y : D) (h2 : Hh) : R D := match y with | .int n => if 0 ≤ n ∧ n < 4611686018427387904 then .ok (.int n) h2 else .stuck | _ => .stuck
def olenK (f : Nat) (x : D) (h1 : Hh) : R D := match x with | .obj c xs => (cf f [.obj c xs] h1).bind olenK2 | _ => .stuck
@[simp] theorem ev_olen (f : Nat) (e : E) (ρ : Ev) (h : Hh) : ev cf (.olen f e) ρ h = (ev cf e ρ h).bind (olenK cf f) := by rw [ev]; rfl
@[simp] theorem olenK2_int (n : Int) (h : Hh) : olenK2 (.int n) h = onlyIf (decide (0 ≤ n ∧ n < 4611686018427387904)) (.ok (.int n) h) := by simp only [olenK2, onlyIf, decide_eq_true_eq]
def oopK3 (z : D) (h3 : Hh) : R D := match z with | .bl b => .ok (.bl b) h3 | _ => .stuck
@[simp] theorem oopK3_bl (b : Bool) (h : Hh) : oopK3 (.bl b) h = .ok (.bl b) h := id rfl
def oopK2 (k f : Nat) (x y : D) (h2 : Hh) : R D := match k, x, y with
    | 0, .obj c xs, .obj d ys => cf f [.obj c xs, .obj d ys] h2
    | 1, x, .obj c xs => (cf f [.obj c xs, x] h2).bind oopK3
    | _, _, _ => .stuck
def oopK (k f : Nat) (b : E) (ρ : Ev) (x : D) (h1 : Hh) : R D := (ev cf b ρ h1).bind (oopK2 cf k f x)
@[simp] theorem ev_oop (k f : Nat) (a b : E) (ρ : Ev) (h : Hh) : ev cf (.oop k f a b) ρ h = (ev cf a ρ h).bind (oopK cf k f b ρ) := by rw [ev]; rfl
@[simp] theorem xatK_exn (f : List Nat) (c : Nat) (xs : List D) (h : Hh) : xatK f (.exn c xs) h = lift (((exF c).zip xs).lookup f) h := id rfl
@[simp] theorem isxK_exn (b : Bool) (c : Nat) (xs : List D) (h : Hh) : isxK b (.exn c xs) h = .ok (.bl (exB c == b)) h := id rfl
@[simp] theorem attK_obj (k c : Nat) (xs : List D) (h : Hh) : attK k (.obj c xs) h = lift xs[k]? h := id rfl
@[simp] theorem iscK_obj (c : Nat) (xs : List D) (h : Hh) : iscK (.obj c xs) h = .ok (.bl (decide (c = 0))) h := id rfl
@[simp] theorem iscK_tup (xs : List D) (h : Hh) : iscK (.tup xs) h = .ok (.bl false) h := id rfl
@[simp] theorem iscK_lst (xs : List D) (h : Hh) : iscK (.lst xs) h = .ok (.bl false) h := id rfl
@[simp] theorem iscK_rol (xs : List D) (h : Hh) : iscK (.rol xs) h = .ok (.bl false) h := id rfl
@[simp] theorem iscK_str (xs : List Nat) (h : Hh) : iscK (.str xs) h = .ok (.bl false) h := id rfl
@[simp] theorem iscK_int (i : Int) (h : Hh) : iscK (.int i) h = .ok (.bl false) h := id rfl
@[simp] theorem newpK2_eq (y : D) (h : Hh) : newpK2 y h = onlyIf y.free (.ok (.obj 0 [y]) h) := id rfl
def frzR (d : D) (h : Hh) : R D := match d with
    | .ref n => match h[n]? with
      | some (.lst xs) => .ok (.lst xs) (h.set n .dead)
      | some (.dct t kvs) => .ok (.dct t kvs) (h.set n .dead)
      | _ => .stuck
    | _ => .stuck
@[simp] theorem ev_frz (e : E) (ρ : Ev) (h : Hh) : ev cf (.frz e) ρ h = (ev cf e ρ h).bind frzR := by rw [ev]; rfl
theorem frzR_lst {n : Nat} {h : Hh} {xs : List D} (e : h[n]? = some (.lst xs)) : frzR (.ref n) h = .ok (.lst xs) (h.set n .dead) := by simp [frzR, e]
@[simp] theorem evb_one (a : Bool) (e : E) (ρ : Ev) (h : Hh) : evb cf a (.cons e .nil) ρ h = ev cf e ρ h := by rw [evb]
@[simp] theorem evb_and (e e' : E) (r : Es) (ρ : Ev) (h : Hh) : evb cf true (.cons e (.cons e' r)) ρ h = (ev cf e ρ h).bind (andK cf (.cons e' r) ρ) := by
  rw [evb]
  · congr 1; funext x h1; exact br_fun (f := andB cf (.cons e' r) ρ x h1) rfl rfl rfl _
  · exact fun z => nomatch z
@[simp] theorem evb_or (e e' : E) (r : Es) (ρ : Ev) (h : Hh) : evb cf false (.cons e (.cons e' r)) ρ h = (ev cf e ρ h).bind (orK cf (.cons e' r) ρ) := by
  rw [evb]
  · congr 1; funext x h1; exact br_fun (f := orB cf (.cons e' r) ρ x h1) rfl rfl rfl _
  · exact fun z => nomatch z
@[simp] theorem evo_no (ρ : Ev) (h : Hh) : evo cf .no ρ h = .ok none h := by rw [evo]
@[simp] theorem evo_so (e : E) (ρ : Ev) (h : Hh) : evo cf (.so e) ρ h = (ev cf e ρ h).bind fun x h1 => asInt x fun i => .ok (some i) h1 := by rw [evo]; rfl
@[simp] theorem evs_nil (ρ : Ev) (h : Hh) : evs cf .nil ρ h = .ok [] h := by rw [evs]
@[simp] theorem evs_cons (e : E) (r : Es) (ρ : Ev) (h : Hh) : evs cf (.cons e r) ρ h = (ev cf e ρ h).bind (evsK cf r ρ) := by rw [evs]; rfl
@[simp] theorem evs_star (e : E) (r : Es) (ρ : Ev) (h : Hh) : evs cf (.star e r) ρ h = (ev cf e ρ h).bind (starK cf r ρ) := by rw [evs]; rfl
@[simp] theorem evt_nil (ρ : Ev) (h : Hh) : evt cf .nil ρ h = .ok true h := by rw [evt]
@[simp] theorem evt_cons (e : E) (r : Es) (ρ : Ev) (h : Hh) : evt cf (.cons e r) ρ h = (ev cf e ρ h).bind (evtK cf r ρ) := by
  rw [evt]; congr 1; funext x h1; exact br_fun (f := evtB cf r ρ h1) rfl rfl rfl _
/-- the body of a comprehension -/
def compB (t : T) (c : Es) (e : E) (ρ : Ev) (x : D) (hh : Hh) : R (List D) :=
  (asgT cf t x ρ hh).bind (compK cf c e)
def comp2K2 (u : T) (c : Es) (e : E) (ρ1 : Ev) (ys : List D × Option Nat) (h3 : Hh) : R (List D) := R.unlock h3 ys.2 (mapL (compB cf u c e (wipe ρ1 u.slots)) ys.1 (lockO h3 ys.2))
def comp2K (u : T) (j : I) (c : Es) (e : E) (ρ1 : Ev) (h2 : Hh) : R (List D) := (evi cf j ρ1 h2).bind (comp2K2 cf u c e ρ1)
def compB2 (t : T) (u : T) (j : I) (c : Es) (e : E) (ρ : Ev) (x : D) (hh : Hh) : R (List D) :=
  (asgT cf t x ρ hh).bind (comp2K cf u j c e)
def compKK (t : T) (c : Es) (e : E) (ρ : Ev) (xs : List D × Option Nat) (h1 : Hh) : R (List D) := R.unlock h1 xs.2 (R.calm <| mapL (compB cf t c e (wipe ρ t.slots)) xs.1 (lockO h1 xs.2))
def comp2KK (t : T) (u : T) (j : I) (c : Es) (e : E) (ρ : Ev) (xs : List D × Option Nat) (h1 : Hh) : R (List D) := R.unlock h1 xs.2 (R.calm <| mapL (compB2 cf t u j c e (wipe ρ (t.slots ++ u.slots))) xs.1 (lockO h1 xs.2))
@[simp] theorem evf_disp (es : Es) (ρ : Ev) (h : Hh) : evf cf (.disp es) ρ h = evs cf es ρ h := by rw [evf]
theorem compB_eq (t : T) (c : Es) (e : E) (ρ : Ev) : (fun x hh => (asgT cf t x ρ hh).bind fun ρ1 h2 =>
      (evt cf c ρ1 h2).bind fun b h3 => if b then (ev cf e ρ1 h3).bind fun y h4 => .ok [y] h4 else .ok [] h3) = compB cf t c e ρ := by
  funext x hh
  simp only [compB]
  congr 1; funext ρ1 h2; show _ = (evt cf c ρ1 h2).bind (compK2 cf e ρ1); congr 1; funext b h3; cases b <;> rfl
@[simp] theorem evf_comp (t : T) (i : I) (c : Es) (e : E) (ρ : Ev) (h : Hh) : evf cf (.comp t i c e) ρ h = (evi cf i ρ h).bind (compKK cf t c e ρ) := by
  rw [evf]; simp only [compB_eq]; rfl
@[simp] theorem evf_comp2 (t : T) (i : I) (u : T) (j : I) (c : Es) (e : E) (ρ : Ev) (h : Hh) : evf cf (.comp2 t i u j c e) ρ h = (evi cf i ρ h).bind (comp2KK cf t u j c e ρ) := by
  rw [evf]; simp only [compB_eq]; rfl
@[simp] theorem evf_list (e : E) (ρ : Ev) (h : Hh) : evf cf (.list e) ρ h = (ev cf e ρ h).bind fun x h1 => lift (itemsS h1 x) h1 := by rw [evf]
@[simp] theorem evf_rng (a : Oe) (b : E) (ρ : Ev) (h : Hh) : evf cf (.rng a b) ρ h = (evo cf a ρ h).bind (rngK cf b ρ) := by rw [evf]; rfl
@[simp] theorem evf_sorted (e : E) (ρ : Ev) (h : Hh) : evf cf (.sorted e) ρ h = (ev cf e ρ h).bind fun x h1 => withL (itemsW h1 x) fun xs => onlyIf (D.flatL 60 xs && (alikeEach xs xs && sortable xs)) (.ok (sortD xs) h1) := by rw [evf]; rfl
def ssetR (xs : List D) (h : Hh) : R (List D) := match strsD xs with | some l => if l.length ≤ 4000 then .ok ((ssetS l).map D.str) h else .stuck | none => .stuck
@[simp] theorem evf_sset (e : E) (ρ : Ev) (h : Hh) : evf cf (.sset e) ρ h = (ev cf e ρ h).bind fun x h1 => withL (itemsS h1 x) fun xs => ssetR xs h1 := by rw [evf]; rfl
@[simp] theorem evf_sli (o : E) (lo hi : Oe) (ρ : Ev) (h : Hh) : evf cf (.sli o lo hi) ρ h = (ev cf o ρ h).bind (sliK cf lo hi ρ) := by rw [evf]; rfl
@[simp] theorem evf_cat (a b : E) (ρ : Ev) (h : Hh) : evf cf (.cat a b) ρ h = (ev cf a ρ h).bind (catK cf b ρ) := by
  rw [evf]; congr 1; funext x h1; show _ = (ev cf b ρ h1).bind (catK2 x); congr 1; funext y h2; simp only [catK2]; cases itemsW h2 x <;> cases itemsW h2 y <;> rfl
def splK2 (a : List Nat) (y : D) (h2 : Hh) : R (List D) := match y with
      | .str [b] => if b < 256 ∧ a.length + 2 ≤ big then .ok ((spl1 b [] a).map D.str) h2 else .stuck
      | _ => .stuck
def splK (s : E) (ρ : Ev) (x : D) (h1 : Hh) : R (List D) := match x with | .str a => (ev cf s ρ h1).bind (splK2 a) | _ => .stuck
@[simp] theorem evf_split (o s : E) (ρ : Ev) (h : Hh) : evf cf (.split o s) ρ h = (ev cf o ρ h).bind (splK cf s ρ) := by rw [evf]; rfl
theorem splK2_ok {a : List Nat} {b : Nat} (hb : b < 256) (ha : a.length + 2 ≤ big) (h : Hh) : splK2 a (.str [b]) h = .ok ((spl1 b [] a).map D.str) h := by show (if _ then _ else _) = _; exact if_pos ⟨hb, ha⟩
@[simp] theorem evi_seq (e : E) (ρ : Ev) (h : Hh) : evi cf (.seq e) ρ h = (ev cf e ρ h).bind fun x h1 => withL (itemsI h1 x) fun xs => .ok (xs, refOf x) h1 := by rw [evi]; rfl
@[simp] theorem evi_rng (a : Oe) (b : E) (ρ : Ev) (h : Hh) : evi cf (.rng a b) ρ h = (evo cf a ρ h).bind (rngI cf b ρ) := by rw [evi]; rfl
@[simp] theorem evi_enum (e : E) (ρ : Ev) (h : Hh) : evi cf (.enum e) ρ h = (ev cf e ρ h).bind fun x h1 => withL (itemsI h1 x) fun xs => .ok (enumL 0 xs, refOf x) h1 := by rw [evi]; rfl
def zipR (x y : D) (h2 : Hh) : R (List D × Option Nat) := match x, y with
    | .lst xs, .lst ys => .ok (zipL xs ys, none) h2
    | .tup xs, .tup ys => .ok (zipL xs ys, none) h2
    | _, _ => .stuck
@[simp] theorem zipR_lst (xs ys : List D) (h : Hh) : zipR (.lst xs) (.lst ys) h = .ok (zipL xs ys, none) h := id rfl
@[simp] theorem zipR_tup (xs ys : List D) (h : Hh) : zipR (.tup xs) (.tup ys) h = .ok (zipL xs ys, none) h := id rfl
def zipK (b : E) (ρ : Ev) (x : D) (h1 : Hh) : R (List D × Option Nat) := (ev cf b ρ h1).bind (zipR x)
def sgnK (x : D) (h1 : Hh) : R (List D × Option Nat) := match x with | .str s => .ok (s.map fun c => .str [c], none) h1 | _ => .stuck
@[simp] theorem sgnK_str (s : List Nat) (h : Hh) : sgnK (.str s) h = .ok (s.map fun c => .str [c], none) h := id rfl
@[simp] theorem evi_sgn (e : E) (ρ : Ev) (h : Hh) : evi cf (.sgn e) ρ h = (ev cf e ρ h).bind sgnK := by rw [evi]; rfl
@[simp] theorem evi_zip (a b : E) (ρ : Ev) (h : Hh) : evi cf (.zip a b) ρ h = (ev cf a ρ h).bind (zipK cf b ρ) := by rw [evi]; rfl
@[simp] theorem asgT_nm (i : Nat) (d : D) (ρ : Ev) (h : Hh) : asgT cf (.nm i) d ρ h = .ok (ρ.set i (some d)) h := by rw [asgT]
@[simp] theorem asgT_tp (ts : Ts) (d : D) (ρ : Ev) (h : Hh) : asgT cf (.tp ts) d ρ h = withL (itemsS h d) fun xs => onlyIf (xs.length == ts.len) (asgTs cf ts xs ρ h) := by
  rw [asgT]; cases itemsS h d with
  | none => rfl
  | some xs => simp only [withL, onlyIf, beq_iff_eq]
@[simp] theorem asgT_ix (o i : E) (d : D) (ρ : Ev) (h : Hh) : asgT cf (.ix o i) d ρ h = (ev cf o ρ h).bind (asgK cf i d ρ) := by rw [asgT]; rfl
@[simp] theorem asgTs_nil (ρ : Ev) (h : Hh) : asgTs cf .nil [] ρ h = .ok ρ h := by rw [asgTs]
@[simp] theorem asgTs_cons (t : T) (r : Ts) (x : D) (xs : List D) (ρ : Ev) (h : Hh) : asgTs cf (.cons t r) (x :: xs) ρ h = (asgT cf t x ρ h).bind (asgsK cf r xs) := by rw [asgTs]; rfl
@[simp] theorem slots_nm (i : Nat) : (T.nm i).slots = [i] := by rw [T.slots]
@[simp] theorem slots_tp (ts : Ts) : (T.tp ts).slots = ts.slots := by rw [T.slots]
@[simp] theorem slots_ix (o i : E) : (T.ix o i).slots = [] := by rw [T.slots]
@[simp] theorem slots_nil : Ts.nil.slots = [] := by rw [Ts.slots]
@[simp] theorem slots_cons (t : T) (r : Ts) : (Ts.cons t r).slots = t.slots ++ r.slots := by rw [Ts.slots]
@[simp] theorem len_nil : Ts.nil.len = 0 := id rfl
@[simp] theorem len_cons (t : T) (r : Ts) : (Ts.cons t r).len = r.len + 1 := id rfl
@[simp] theorem wipe_nil (ρ : Ev) : wipe ρ [] = ρ := id rfl
@[simp] theorem wipe_cons (ρ : Ev) (v : Nat) (vs : List Nat) : wipe ρ (v :: vs) = (wipe ρ vs).set v none := id rfl
/-- what follows a statement -/
def after (k : Ev → Hh → R Fl) (f : Fl) (h : Hh) : R Fl := match f with
  | .nx ρ1 => k ρ1 h
  | .rt d => .ok (.rt d) h
  | .bk ρ1 => .ok (.bk ρ1) h
  | .ct ρ1 => .ok (.ct ρ1) h
@[simp] theorem after_nx (k : Ev → Hh → R Fl) (ρ : Ev) (h : Hh) : after k (.nx ρ) h = k ρ h := id rfl
@[simp] theorem after_rt (k : Ev → Hh → R Fl) (d : D) (h : Hh) : after k (.rt d) h = .ok (.rt d) h := id rfl
@[simp] theorem after_bk (k : Ev → Hh → R Fl) (ρ : Ev) (h : Hh) : after k (.bk ρ) h = .ok (.bk ρ) h := id rfl
@[simp] theorem after_ct (k : Ev → Hh → R Fl) (ρ : Ev) (h : Hh) : after k (.ct ρ) h = .ok (.ct ρ) h := id rfl
@[simp] theorem exs_nil (ρ : Ev) (h : Hh) : exs cf .nil ρ h = .ok (.nx ρ) h := by rw [exs]
@[simp] theorem exs_cons (s : S) (r : Ss) (ρ : Ev) (h : Hh) : exs cf (.cons s r) ρ h = (ex cf s ρ h).bind (after (exs cf r)) := by rw [exs]; rfl
@[simp] theorem ex_expr (e : E) (ρ : Ev) (h : Hh) : ex cf (.expr e) ρ h = (ev cf e ρ h).bind fun _ h1 => .ok (.nx ρ) h1 := by rw [ex]
@[simp] theorem ex_asg (t : T) (e : E) (ρ : Ev) (h : Hh) : ex cf (.asg t e) ρ h = (ev cf e ρ h).bind (setK cf t ρ) := by rw [ex]; rfl
def parR (o : Option Ev) (h : Hh) : R Fl := match o with | some ρ1 => .ok (.nx ρ1) h | none => .stuck
@[simp] theorem parR_some (ρ : Ev) (h : Hh) : parR (some ρ) h = .ok (.nx ρ) h := id rfl
@[simp] theorem ex_par (ts : List Nat) (es : Es) (ρ : Ev) (h : Hh) : ex cf (.par ts es) ρ h = (evs cf es ρ h).bind fun xs h1 => parR (setAll ρ ts xs) h1 := by rw [ex]; rfl
@[simp] theorem setAll_nil (ρ : Ev) : setAll ρ [] [] = some ρ := id rfl
@[simp] theorem setAll_cons (ρ : Ev) (i : Nat) (r : List Nat) (x : D) (xs : List D) : setAll ρ (i :: r) (x :: xs) = setAll (ρ.set i (some x)) r xs := id rfl
@[simp] theorem ex_ret (e : E) (ρ : Ev) (h : Hh) : ex cf (.ret e) ρ h = (ev cf e ρ h).bind fun x h1 => .ok (.rt x) h1 := by rw [ex]
@[simp] theorem ex_retn (ρ : Ev) (h : Hh) : ex cf .retn ρ h = .ok (.rt .non) h := by rw [ex]
@[simp] theorem ex_ife (c : E) (a b : Ss) (ρ : Ev) (h : Hh) : ex cf (.ife c a b) ρ h = (ev cf c ρ h).bind (ifeK cf a b ρ) := by
  rw [ex]; congr 1; funext x h1; exact br_fun (f := ifeB cf a b ρ h1) rfl rfl rfl _
def forB (t : T) (b : Ss) (x : D) (ρ1 : Ev) (hh : Hh) : R Fl := (asgT cf t x ρ1 hh).bind (exs cf b)
def forK (t : T) (b : Ss) (ρ : Ev) (xs : List D × Option Nat) (h1 : Hh) : R Fl := R.unlock h1 xs.2 (forL (forB cf t b) xs.1 ρ (lockO h1 xs.2))
@[simp] theorem ex_for (t : T) (i : I) (b : Ss) (ρ : Ev) (h : Hh) : ex cf (.for_ t i b) ρ h = (evi cf i ρ h).bind (forK cf t b ρ) := by rw [ex]; rfl
@[simp] theorem ex_whl (c : E) (b : Ss) (ρ : Ev) (h : Hh) : ex cf (.whl c b) ρ h = whlL (ev cf c) (exs cf b) 100000 ρ h := by rw [ex]
def raiR (c : Nat) (xs : List D) (h1 : Hh) : R Fl := if xs.length = (exF c).length then .err ⟨c, xs⟩ h1 else .stuck
@[simp] theorem ex_raise_ (c : Nat) (es : Es) (ρ : Ev) (h : Hh) : ex cf (.raise_ c es) ρ h = (evs cf es ρ h).bind (raiR c) := by rw [ex]; rfl
@[simp] theorem ex_tryR (b : Ss) (c : Nat) (d : D) (ρ : Ev) (h : Hh) : ex cf (.tryR b c d) ρ h = catchR c d (exs cf b ρ h) := by rw [ex]
@[simp] theorem ex_tryK (b : Ss) (c n i : Nat) (ρ : Ev) (h : Hh) : ex cf (.tryK b c n i) ρ h = catchK c i ρ (exs cf b ρ h) := by rw [ex]
@[simp] theorem catchR_ok (c : Nat) (d : D) (f : Fl) (h : Hh) : catchR c d (.ok f h) = .ok f h := id rfl
@[simp] theorem catchK_ok (c i : Nat) (ρ : Ev) (f : Fl) (h : Hh) : catchK c i ρ (.ok f h) = .ok f h := id rfl
@[simp] theorem catchR_err (c : Nat) (d : D) (xs : List D) (h : Hh) : catchR c d (.err ⟨c, xs⟩ h) = .ok (.rt d) h := by simp [catchR]
@[simp] theorem catchK_err (c i : Nat) (ρ : Ev) (xs : List D) (h : Hh) : catchK c i ρ (.err ⟨c, xs⟩ h) = .ok (.nx ((ρ.map fun _ => none).set i (some (.exn c xs)))) h := by simp [catchK]
@[simp] theorem ex_pass (ρ : Ev) (h : Hh) : ex cf .pass ρ h = .ok (.nx ρ) h := by rw [ex]
@[simp] theorem ex_brk (ρ : Ev) (h : Hh) : ex cf .brk ρ h = .ok (.bk ρ) h := by rw [ex]
@[simp] theorem ex_cnt (ρ : Ev) (h : Hh) : ex cf .cnt ρ h = .ok (.ct ρ) h := by rw [ex]
end
/-- the named parts, at their turn -/
theorem eng (cf : Cf) :
  (∀ o b ρ x h, binK cf o b ρ x h = (ev cf b ρ h).bind (binK2 o x)) ∧
  (∀ o b ρ x h, cmpK cf o b ρ x h = (ev cf b ρ h).bind (cmpK2 o x)) ∧
  (∀ p c ρ y h, chnB cf p c ρ y h (some true) = (ev cf c ρ h).bind (cmpK2 p y)) ∧
  (∀ p c ρ y h, chnB cf p c ρ y h (some false) = .ok (.bl false) h) ∧
  (∀ o p c ρ x y h, chnK2 cf o p c ρ x y h = chnB cf p c ρ y h (cmpD h o x y)) ∧
  (∀ o p b c ρ x h, chnK cf o p b c ρ x h = (ev cf b ρ h).bind (chnK2 cf o p c ρ x)) ∧
  (∀ a b ρ h, iteB cf a b ρ h (some true) = ev cf a ρ h) ∧
  (∀ a b ρ h, iteB cf a b ρ h (some false) = ev cf b ρ h) ∧
  (∀ a b ρ x h, iteK cf a b ρ x h = iteB cf a b ρ h (tru h x)) ∧
  (∀ m es ρ x h, mtK cf m es ρ x h = onlyIf (mtPre h m x) ((evs cf es ρ h).bind (mtK2 m x))) ∧
  (∀ i ρ x h, ixK cf i ρ x h = (ev cf i ρ h).bind (ixK2 x)) ∧
  (∀ hi ρ x a h, slK2 cf hi ρ x a h = (evo cf hi ρ h).bind (slK3 x a)) ∧
  (∀ lo hi ρ x h, slK cf lo hi ρ x h = (evo cf lo ρ h).bind (slK2 cf hi ρ x)) ∧
  (∀ r ρ x h, andB cf r ρ x h (some true) = evb cf true r ρ h) ∧
  (∀ r ρ x h, andB cf r ρ x h (some false) = .ok x h) ∧
  (∀ r ρ x h, andK cf r ρ x h = andB cf r ρ x h (tru h x)) ∧
  (∀ r ρ x h, orB cf r ρ x h (some true) = .ok x h) ∧
  (∀ r ρ x h, orB cf r ρ x h (some false) = evb cf false r ρ h) ∧
  (∀ r ρ x h, orK cf r ρ x h = orB cf r ρ x h (tru h x)) ∧
  (∀ r ρ x h, evsK cf r ρ x h = (evs cf r ρ h).bind (consK x)) ∧
  (∀ r ρ h ys, starK2 cf r ρ h ys = (evs cf r ρ h).bind (appK ys)) ∧
  (∀ r ρ x h, starK cf r ρ x h = withL (itemsS h x) (starK2 cf r ρ h)) ∧
  (∀ r ρ h, evtB cf r ρ h (some true) = evt cf r ρ h) ∧
  (∀ r ρ h, evtB cf r ρ h (some false) = .ok false h) ∧
  (∀ r ρ x h, evtK cf r ρ x h = evtB cf r ρ h (tru h x)) ∧
  (∀ e ρ h, compB3 cf e ρ h true = (ev cf e ρ h).bind oneK) ∧
  (∀ e ρ h, compB3 cf e ρ h false = .ok [] h) ∧
  (∀ e ρ b h, compK2 cf e ρ b h = compB3 cf e ρ h b) ∧
  (∀ c e ρ h, compK cf c e ρ h = (evt cf c ρ h).bind (compK2 cf e ρ)) ∧
  (∀ b ρ a h, rngK cf b ρ a h = (ev cf b ρ h).bind (rngK2 a)) ∧
  (∀ b ρ a h, rngI cf b ρ a h = (ev cf b ρ h).bind (rngI2 a)) ∧
  (∀ b ρ x h, catK cf b ρ x h = (ev cf b ρ h).bind (catK2 x)) ∧
  (∀ hi ρ x a h, sliK2 cf hi ρ x a h = (evo cf hi ρ h).bind (sliK3 x a)) ∧
  (∀ lo hi ρ x h, sliK cf lo hi ρ x h = (evo cf lo ρ h).bind (sliK2 cf hi ρ x)) ∧
  (∀ i d ρ x h, asgK cf i d ρ x h = (ev cf i ρ h).bind (asgK1 d x ρ)) ∧
  (∀ t ρ x h, setK cf t ρ x h = (asgT cf t x ρ h).bind nxK) ∧
  (∀ r xs ρ h, asgsK cf r xs ρ h = asgTs cf r xs ρ h) ∧
  (∀ a b ρ h, ifeB cf a b ρ h (some true) = exs cf a ρ h) ∧
  (∀ a b ρ h, ifeB cf a b ρ h (some false) = exs cf b ρ h) ∧
  (∀ a b ρ x h, ifeK cf a b ρ x h = ifeB cf a b ρ h (tru h x)) ∧
  (∀ u c e ρ ys h, comp2K2 cf u c e ρ ys h = R.unlock h ys.2 (mapL (compB cf u c e (wipe ρ u.slots)) ys.1 (lockO h ys.2))) ∧
  (∀ u j c e ρ h, comp2K cf u j c e ρ h = (evi cf j ρ h).bind (comp2K2 cf u c e ρ)) ∧
  (∀ t c e ρ xs h, compKK cf t c e ρ xs h = R.unlock h xs.2 (R.calm <| mapL (compB cf t c e (wipe ρ t.slots)) xs.1 (lockO h xs.2))) ∧
  (∀ t u j c e ρ xs h, comp2KK cf t u j c e ρ xs h = R.unlock h xs.2 (R.calm <| mapL (compB2 cf t u j c e (wipe ρ (t.slots ++ u.slots))) xs.1 (lockO h xs.2))) ∧
  (∀ f c xs h, propK cf f (.obj c xs) h = (cf f [.obj c xs] h).calm) ∧
  (∀ f x h, newpK cf f x h = (cf f [x] h).calm.bind newpK2) ∧
  (∀ f c xs h, olenK cf f (.obj c xs) h = (cf f [.obj c xs] h).bind olenK2) ∧
  (∀ k f b ρ x h, oopK cf k f b ρ x h = (ev cf b ρ h).bind (oopK2 cf k f x)) ∧
  (∀ f c xs d ys h, oopK2 cf 0 f (.obj c xs) (.obj d ys) h = cf f [.obj c xs, .obj d ys] h) ∧
  (∀ f x c xs h, oopK2 cf 1 f x (.obj c xs) h = (cf f [.obj c xs, x] h).bind oopK3) ∧
  (∀ s ρ a h, splK cf s ρ (.str a) h = (ev cf s ρ h).bind (splK2 a)) ∧
  (∀ b ρ x h, zipK cf b ρ x h = (ev cf b ρ h).bind (zipR x)) ∧
  (∀ t b ρ xs h, forK cf t b ρ xs h = R.unlock h xs.2 (forL (forB cf t b) xs.1 ρ (lockO h xs.2))) := by
  repeat' apply And.intro
  all_goals (intros; rfl)
theorem eng0 :
  (∀ o x y h, binK2 o x y h = lift (binD h o x y) h) ∧
  (∀ o x y h, cmpK2 o x y h = lift ((cmpD h o x y).map D.bl) h) ∧
  (∀ m x xs h, mtK2 m x xs h = pairR (mtD h m x xs)) ∧
  (∀ x y h, ixK2 x y h = lift (ixD h x y) h) ∧
  (∀ x a b h, slK3 x a b h = lift (slD h x a b) h) ∧
  (∀ x xs h, consK x xs h = .ok (x :: xs) h) ∧
  (∀ ys xs h, appK ys xs h = .ok (ys ++ xs) h) ∧
  (∀ y h, oneK y h = .ok [y] h) ∧
  (∀ a y h, rngK2 a y h = asInt y fun j => onlyIf (okR (a.getD 0) && okR j) (.ok (rngL (a.getD 0) j) h)) ∧
  (∀ a y h, rngI2 a y h = asInt y fun j => onlyIf (okR (a.getD 0) && okR j) (.ok (rngL (a.getD 0) j, none) h)) ∧
  (∀ x y h, catK2 x y h = withL (itemsW h x) fun xs => withL (itemsW h y) fun ys => .ok (xs ++ ys) h) ∧
  (∀ x a b h, sliK3 x a b h = withL (itemsL h x) fun xs => .ok (slice xs a b) h) ∧
  (∀ d x y ρ h, asgK2 d x y ρ h = putR (setD h x y d) fun h3 => .ok ρ h3) ∧
  (∀ d x ρ y h, asgK1 d x ρ y h = asgK2 d x y ρ h) ∧
  (∀ ρ h, nxK ρ h = .ok (.nx ρ) h) := by
  repeat' apply And.intro
  all_goals (intros; rfl)
@[simp] theorem evtB_nil (cf : Cf) (ρ : Ev) (h : Hh) (b : Bool) : evtB cf .nil ρ h (some b) = .ok b h := by cases b <;> simp [evtB]
theorem compB3_eq (cf : Cf) (e : E) (ρ : Ev) (h : Hh) (b : Bool) : compB3 cf e ρ h b = br (some b) ((ev cf e ρ h).bind oneK) (.ok [] h) := by cases b <;> rfl
theorem evtB_eq (cf : Cf) (r : Es) (ρ : Ev) (h : Hh) (b : Bool) : evtB cf r ρ h (some b) = br (some b) (evt cf r ρ h) (.ok false h) := by cases b <;> rfl
@[simp] theorem calm_okM {α : Type} (a : α) (h : Hh) : R.calm (.ok a h) = .ok a h := id rfl
@[simp] theorem unlock_none {α : Type} (h0 : Hh) (r : R α) : R.unlock h0 none r = r := by cases r <;> rfl
@[simp] theorem lockO_none (h : Hh) : lockO h none = h := id rfl
@[simp] theorem asVal_rt (d : D) (h : Hh) : asVal (.ok (.rt d) h) = .ok d h := id rfl
@[simp] theorem asVal_nx (ρ : Ev) (h : Hh) : asVal (.ok (.nx ρ) h) = .ok .non h := id rfl
@[simp] theorem permD_nil (ds : List D) : permD [] ds = some ds := id rfl
@[simp] theorem refOf_tup (xs : List D) : refOf (.tup xs) = none := id rfl
@[simp] theorem refOf_lst (xs : List D) : refOf (.lst xs) = none := id rfl
@[simp] theorem refOf_rol (xs : List D) : refOf (.rol xs) = none := id rfl
@[simp] theorem refOf_ref (n : Nat) : refOf (.ref n) = some n := id rfl
@[simp] theorem itemsI_tup (h : Hh) (xs : List D) : itemsI h (.tup xs) = some xs := id rfl
@[simp] theorem itemsI_lst (h : Hh) (xs : List D) : itemsI h (.lst xs) = some xs := id rfl
@[simp] theorem itemsI_rol (h : Hh) (xs : List D) : itemsI h (.rol xs) = some xs := id rfl
@[simp] theorem itemsI_ref (h : Hh) (n : Nat) : itemsI h (.ref n) = itemsS h (.ref n) := id rfl
@[simp] theorem itemsS_rot (h : Hh) (xs : List D) : itemsS h (.rot xs) = some xs := id rfl
@[simp] theorem itemsS_tup (h : Hh) (xs : List D) : itemsS h (.tup xs) = some xs := id rfl
@[simp] theorem itemsS_lst (h : Hh) (xs : List D) : itemsS h (.lst xs) = some xs := id rfl
@[simp] theorem itemsS_rol (h : Hh) (xs : List D) : itemsS h (.rol xs) = some xs := id rfl
@[simp] theorem itemsL_lst (h : Hh) (xs : List D) : itemsL h (.lst xs) = some xs := id rfl
@[simp] theorem itemsL_rol (h : Hh) (xs : List D) : itemsL h (.rol xs) = some xs := id rfl
@[simp] theorem itemsL_tup (h : Hh) (xs : List D) : itemsL h (.tup xs) = none := id rfl
@[simp] theorem itemsW_lst (h : Hh) (xs : List D) : itemsW h (.lst xs) = some xs := id rfl
theorem freshL_okM (xs : List D) (h : Hh) (k : List D → Hh → R D) (e : xs.length ≤ big) : freshL (.ok xs h) k = k xs h := by
  show (if okLen xs then k xs h else .stuck) = _
  rw [if_pos]; simpa [okLen] using e
@[simp] theorem freshL_ok' (xs : List D) (h : Hh) (k : List D → Hh → R D) : freshL (.ok xs h) k = onlyIf (okLen xs) (k xs h) := id rfl
theorem okLen_of {α : Type} {xs : List α} (e : xs.length ≤ big) : okLen xs = true := by simpa [okLen] using e
@[simp] theorem okLen_nil {α : Type} : okLen ([] : List α) = true := by simp [okLen]
@[simp] theorem okLen_1 {α : Type} (a0 : α) : okLen [a0] = true := okLen_of (by simp [big])
@[simp] theorem okLen_2 {α : Type} (a0 a1 : α) : okLen [a0, a1] = true := okLen_of (by simp [big])
@[simp] theorem okLen_3 {α : Type} (a0 a1 a2 : α) : okLen [a0, a1, a2] = true := okLen_of (by simp [big])
@[simp] theorem okLen_4 {α : Type} (a0 a1 a2 a3 : α) : okLen [a0, a1, a2, a3] = true := okLen_of (by simp [big])
@[simp] theorem okLen_5 {α : Type} (a0 a1 a2 a3 a4 : α) : okLen [a0, a1, a2, a3, a4] = true := okLen_of (by simp [big])
@[simp] theorem okLen_6 {α : Type} (a0 a1 a2 a3 a4 a5 : α) : okLen [a0, a1, a2, a3, a4, a5] = true := okLen_of (by simp [big])
@[simp] theorem okLen_7 {α : Type} (a0 a1 a2 a3 a4 a5 a6 : α) : okLen [a0, a1, a2, a3, a4, a5, a6] = true := okLen_of (by simp [big])
@[simp] theorem okLen_8 {α : Type} (a0 a1 a2 a3 a4 a5 a6 a7 : α) : okLen [a0, a1, a2, a3, a4, a5, a6, a7] = true := okLen_of (by simp [big])
@[simp] theorem okLen_9 {α : Type} (a0 a1 a2 a3 a4 a5 a6 a7 a8 : α) : okLen [a0, a1, a2, a3, a4, a5, a6, a7, a8] = true := okLen_of (by simp [big])
@[simp] theorem okLen_10 {α : Type} (a0 a1 a2 a3 a4 a5 a6 a7 a8 a9 : α) : okLen [a0, a1, a2, a3, a4, a5, a6, a7, a8, a9] = true := okLen_of (by simp [big])
@[simp] theorem okLen_11 {α : Type} (a0 a1 a2 a3 a4 a5 a6 a7 a8 a9 a10 : α) : okLen [a0, a1, a2, a3, a4, a5, a6, a7, a8, a9, a10] = true := okLen_of (by simp [big])
@[simp] theorem okLen_12 {α : Type} (a0 a1 a2 a3 a4 a5 a6 a7 a8 a9 a10 a11 : α) : okLen [a0, a1, a2, a3, a4, a5, a6, a7, a8, a9, a10, a11] = true := okLen_of (by simp [big])
@[simp] theorem okLen_13 {α : Type} (a0 a1 a2 a3 a4 a5 a6 a7 a8 a9 a10 a11 a12 : α) : okLen [a0, a1, a2, a3, a4, a5, a6, a7, a8, a9, a10, a11, a12] = true := okLen_of (by simp [big])
@[simp] theorem okLen_14 {α : Type} (a0 a1 a2 a3 a4 a5 a6 a7 a8 a9 a10 a11 a12 a13 : α) : okLen [a0, a1, a2, a3, a4, a5, a6, a7, a8, a9, a10, a11, a12, a13] = true := okLen_of (by simp [big])
@[simp] theorem okLen_15 {α : Type} (a0 a1 a2 a3 a4 a5 a6 a7 a8 a9 a10 a11 a12 a13 a14 : α) : okLen [a0, a1, a2, a3, a4, a5, a6, a7, a8, a9, a10, a11, a12, a13, a14] = true := okLen_of (by simp [big])
@[simp] theorem okLen_16 {α : Type} (a0 a1 a2 a3 a4 a5 a6 a7 a8 a9 a10 a11 a12 a13 a14 a15 : α) : okLen [a0, a1, a2, a3, a4, a5, a6, a7, a8, a9, a10, a11, a12, a13, a14, a15] = true := okLen_of (by simp [big])
@[simp] theorem okLen_17 {α : Type} (a0 a1 a2 a3 a4 a5 a6 a7 a8 a9 a10 a11 a12 a13 a14 a15 a16 : α) : okLen [a0, a1, a2, a3, a4, a5, a6, a7, a8, a9, a10, a11, a12, a13, a14, a15, a16] = true := okLen_of (by simp [big])
@[simp] theorem okLen_18 {α : Type} (a0 a1 a2 a3 a4 a5 a6 a7 a8 a9 a10 a11 a12 a13 a14 a15 a16 a17 : α) : okLen [a0, a1, a2, a3, a4, a5, a6, a7, a8, a9, a10, a11, a12, a13, a14, a15, a16, a17] = true := okLen_of (by simp [big])
@[simp] theorem okLen_19 {α : Type} (a0 a1 a2 a3 a4 a5 a6 a7 a8 a9 a10 a11 a12 a13 a14 a15 a16 a17 a18 : α) : okLen [a0, a1, a2, a3, a4, a5, a6, a7, a8, a9, a10, a11, a12, a13, a14, a15, a16, a17, a18] = true := okLen_of (by simp [big])
@[simp] theorem okLen_20 {α : Type} (a0 a1 a2 a3 a4 a5 a6 a7 a8 a9 a10 a11 a12 a13 a14 a15 a16 a17 a18 a19 : α) : okLen [a0, a1, a2, a3, a4, a5, a6, a7, a8, a9, a10, a11, a12, a13, a14, a15, a16, a17, a18, a19] = true := okLen_of (by simp [big])
@[simp] theorem okLen_21 {α : Type} (a0 a1 a2 a3 a4 a5 a6 a7 a8 a9 a10 a11 a12 a13 a14 a15 a16 a17 a18 a19 a20 : α) : okLen [a0, a1, a2, a3, a4, a5, a6, a7, a8, a9, a10, a11, a12, a13, a14, a15, a16, a17, a18, a19, a20] = true := okLen_of (by simp [big])
@[simp] theorem okLen_22 {α : Type} (a0 a1 a2 a3 a4 a5 a6 a7 a8 a9 a10 a11 a12 a13 a14 a15 a16 a17 a18 a19 a20 a21 : α) : okLen [a0, a1, a2, a3, a4, a5, a6, a7, a8, a9, a10, a11, a12, a13, a14, a15, a16, a17, a18, a19, a20, a21] = true := okLen_of (by simp [big])
@[simp] theorem okLen_23 {α : Type} (a0 a1 a2 a3 a4 a5 a6 a7 a8 a9 a10 a11 a12 a13 a14 a15 a16 a17 a18 a19 a20 a21 a22 : α) : okLen [a0, a1, a2, a3, a4, a5, a6, a7, a8, a9, a10, a11, a12, a13, a14, a15, a16, a17, a18, a19, a20, a21, a22] = true := okLen_of (by simp [big])
@[simp] theorem okLen_24 {α : Type} (a0 a1 a2 a3 a4 a5 a6 a7 a8 a9 a10 a11 a12 a13 a14 a15 a16 a17 a18 a19 a20 a21 a22 a23 : α) : okLen [a0, a1, a2, a3, a4, a5, a6, a7, a8, a9, a10, a11, a12, a13, a14, a15, a16, a17, a18, a19, a20, a21, a22, a23] = true := okLen_of (by simp [big])
theorem mapL_ok {body : D → Hh → R (List D)} (g : D → List D) : ∀ (xs : List D) (h : Hh), (∀ x ∈ xs, body x h = .ok (g x) h) → mapL body xs h = .ok (xs.flatMap g) h
  | [], h, _ => rfl
  | x :: r, h, k => by
    simp only [mapL, k x (by simp), bind_ok, mapL_ok g r h (fun y hy => k y (by simp [hy])), List.flatMap_cons]
theorem mapL_map {α : Type} {body : D → Hh → R (List D)} (enc : α → D) (g : α → List D) (xs : List α) (h : Hh) (k : ∀ x ∈ xs, body (enc x) h = .ok (g x) h) :
    mapL body (xs.map enc) h = .ok (xs.flatMap g) h := by
  induction xs with
  | nil => rfl
  | cons x r ih =>
    simp only [List.map_cons, mapL, k x (by simp), bind_ok, ih (fun y hy => k y (by simp [hy])), List.flatMap_cons]
theorem br_ok {α : Type} (b : Bool) (x y : α) (h : Hh) : br (some b) (.ok x h) (.ok y h) = .ok (if b then x else y) h := by cases b <;> rfl
theorem enumL_eq {α : Type} (enc : α → D) : ∀ (k : Nat) (xs : List α), enumL k (xs.map enc) = (xs.zipIdx k).map (fun p => .tup [.int p.2, enc p.1])
  | _, [] => rfl
  | k, x :: r => by simp [enumL, enumL_eq enc (k + 1) r]
@[simp] theorem tru_bl (h : Hh) (b : Bool) : tru h (.bl b) = some b := id rfl
@[simp] theorem cmp_eq_str (h : Hh) (a b : List Nat) : cmpD h .eq (.str a) (.str b) = some (decide (a = b)) := by by_cases e : a = b <;> simp [cmpD, snap, D.flat, D.eqv, e]
@[simp] theorem cmp_ne_str (h : Hh) (a b : List Nat) : cmpD h .ne (.str a) (.str b) = some (!decide (a = b)) := by by_cases e : a = b <;> simp [cmpD, snap, D.flat, D.eqv, e]
@[simp] theorem cmp_eq_int (h : Hh) (a b : Int) : cmpD h .eq (.int a) (.int b) = some (decide (a = b)) := by by_cases e : a = b <;> simp [cmpD, snap, D.flat, D.eqv, e]
@[simp] theorem cmp_ne_int (h : Hh) (a b : Int) : cmpD h .ne (.int a) (.int b) = some (!decide (a = b)) := by by_cases e : a = b <;> simp [cmpD, snap, D.flat, D.eqv, e]
@[simp] theorem cmp_lt_int (h : Hh) (a b : Int) : cmpD h .lt (.int a) (.int b) = some (decide (a < b)) := by
  simp [cmpD, D.flat, D.alike, D.lt]
@[simp] theorem cmp_gt_int (h : Hh) (a b : Int) : cmpD h .gt (.int a) (.int b) = some (decide (b < a)) := by
  simp [cmpD, D.flat, D.alike, D.lt]
@[simp] theorem cmp_le_int (h : Hh) (a b : Int) : cmpD h .le (.int a) (.int b) = some (decide (a ≤ b)) := by
  simp [cmpD, D.flat, D.alike, D.lt]
  by_cases q : b < a <;> simp [q] <;> omega
@[simp] theorem cmp_ge_int (h : Hh) (a b : Int) : cmpD h .ge (.int a) (.int b) = some (decide (b ≤ a)) := by
  simp [cmpD, D.flat, D.alike, D.lt]
  by_cases q : a < b <;> simp [q] <;> omega
@[simp] theorem bin_add_int (h : Hh) (a b : Int) : binD h .add (.int a) (.int b) = some (.int (a + b)) := id rfl
@[simp] theorem bin_sub_int (h : Hh) (a b : Int) : binD h .sub (.int a) (.int b) = some (.int (a - b)) := id rfl
@[simp] theorem pr_len_lst (h : Hh) (xs : List D) : prD h .len [.lst xs] = some (.int xs.length) := id rfl
@[simp] theorem pr_len_tup (h : Hh) (xs : List D) : prD h .len [.tup xs] = some (.int xs.length) := id rfl
@[simp] theorem pr_tuple_lst (h : Hh) (xs : List D) : prD h .tuple [.lst xs] = some (.tup xs) := id rfl
@[simp] theorem tupD_ref (h : Hh) (n : Nat) : tupD h (.ref n) = match itemsS h (.ref n) with | some xs => some (.tup xs) | none => none := id rfl
@[simp] theorem tupD_tup (h : Hh) (xs : List D) : tupD h (.tup xs) = some (.tup xs) := id rfl
@[simp] theorem tupD_lst (h : Hh) (xs : List D) : tupD h (.lst xs) = some (.tup xs) := id rfl
@[simp] theorem tupD_rol (h : Hh) (xs : List D) : tupD h (.rol xs) = some (.tup xs) := id rfl
@[simp] theorem pr_tuple_rot (h : Hh) (xs : List D) : prD h .tuple [.rot xs] = some (.rot xs) := id rfl
@[simp] theorem pr_len_rot (h : Hh) (xs : List D) : prD h .len [.rot xs] = some (.int xs.length) := id rfl
@[simp] theorem pr_tuple_tup (h : Hh) (xs : List D) : prD h .tuple [.tup xs] = some (.tup xs) := id rfl
@[simp] theorem pr_int_int (h : Hh) (i : Int) : prD h .int [.int i] = some (.int i) := id rfl
@[simp] theorem pr_int_bl (h : Hh) (i : Bool) : prD h .int [.bl i] = some (.int (if i then 1 else 0)) := id rfl
@[simp] theorem pr_abs_int (h : Hh) (i : Int) : prD h .abs [.int i] = some (.int (if i < 0 then -i else i)) := id rfl
/-- a def's run -/
theorem runFn_eq (cf : Cf) (f : Fn) (ds : List D) (h : Hh) (e : ds.length = f.np) (e' : f.np ≤ f.ns) : runFn cf f ds h = asVal (exs cf f.body (ds.map some ++ List.replicate (f.ns - f.np) none) h) := by
  unfold runFn; rw [if_pos ⟨e, e'⟩]
end Ls
namespace Ls
@[simp] theorem br_ok' {α : Type} (b : Bool) (x y : α) (h : Hh) : br (some b) (.ok x h) (.ok y h) = .ok (if b then x else y) h := by cases b <;> rfl
/-! ### calls -/
theorem renum_free : ∀ (k : Nat) (ds : List D), D.freeL ds = true → renum k ds = some ds ∧ refsOf ds = []
  | _, [], _ => ⟨rfl, rfl⟩
  | k, d :: r, e => by
    simp only [D.freeL, Bool.and_eq_true] at e
    obtain ⟨i1, i2⟩ := renum_free k r e.2
    have i3 := e.1
    cases d with
    | ref n => simp [D.free] at i3
    | _ => exact ⟨by simp only [renum, i3, i1, if_true]; rfl, by simp only [refsOf, i2]⟩
theorem call_pure {run : List D → Hh → R D} {ds : List D} {h hl : Hh} {d : D} (hf : D.freeL ds = true) (hr : run ds [] = .ok d hl) (hd : d.free = true) : localCall run ds h = .ok d h := by
  obtain ⟨i1, i2⟩ := renum_free 0 ds hf
  simp only [localCall, i2, i1, nodupN, pick, List.mapM_nil, if_true]
  show (if ([] : Hh).all freeO = true then _ else _) = _
  simp only [List.all_nil, if_true, hr, handBack, List.length_nil, List.take_zero]
  cases d with
  | ref n => simp [D.free] at hd
  | _ => simp only [hd, if_true, putBack]
/-- .. that hands back a new thing -/
theorem call_new {run : List D → Hh → R D} {ds : List D} {h hl : Hh} {j : Nat} {o : O} (hf : D.freeL ds = true) (hr : run ds [] = .ok (.ref j) hl) (hj : hl[j]? = some o) (ho : freeO o = true) : localCall run ds h = .ok (.ref h.length) (h ++ [o]) := by
  obtain ⟨i1, i2⟩ := renum_free 0 ds hf
  simp only [localCall, i2, i1, nodupN, pick, List.mapM_nil, if_true]
  show (if ([] : Hh).all freeO = true then _ else _) = _
  simp only [List.all_nil, if_true, hr, handBack, List.length_nil, List.take_zero, List.getElem?_nil, hj, ho, putBack]
/-- .. with one thing of the heap as the first argument -/
theorem call_one {run : List D → Hh → R D} {ds : List D} {h hl : Hh} {n : Nat} {d : D} {o o' : O} (hf : D.freeL ds = true) (hn : h[n]? = some o) (fo : freeO o = true)
    (hr : run (.ref 0 :: ds) [o] = .ok d (o' :: hl)) (hd : d.free = true) (fo' : freeO o' = true) : localCall run (.ref n :: ds) h = .ok d (h.set n o') := by
  obtain ⟨i1, i2⟩ := renum_free 1 ds hf
  simp only [localCall, refsOf, i2, nodupN, renum, i1, pick, Option.map_some]
  show (if (!([] : List Nat).contains n && true) = true then _ else _) = _
  simp only [List.mapM_cons, List.mapM_nil, hn]
  show (if ([o] : Hh).all freeO = true then _ else _) = _
  simp only [List.all_cons, fo, List.all_nil, Bool.and_true, if_true, hr, handBack]
  simp only [List.length_cons, List.length_nil, List.take_succ_cons, List.take_zero, List.all_cons, fo', List.all_nil, Bool.and_true, if_true]
  cases d with
  | ref n => simp [D.free] at hd
  | _ => simp only [hd, if_true, putBack]
theorem callN_succ {G : Nat → Option Fn} {n f : Nat} {fn : Fn} (e : G f = some fn) (ds : List D) (h : Hh) : callN G (n + 1) f ds h = localCall (runFn (callN G n) fn) ds h := by
  simp only [callN, e]
/-! ### loops -/
theorem forL_inv {body : D → Ev → Hh → R Fl} (I : Nat → Ev → Hh → Prop) : ∀ (xs : List D) (k : Nat) (ρ : Ev) (h : Hh), I k ρ h →
    (∀ i x ρ h, xs[i]? = some x → I (k + i) ρ h → ∃ ρ' h', body x ρ h = .ok (.nx ρ') h' ∧ I (k + i + 1) ρ' h') →
    ∃ ρ' h', forL body xs ρ h = .ok (.nx ρ') h' ∧ I (k + xs.length) ρ' h'
  | [], k, ρ, h, i0, _ => ⟨ρ, h, rfl, i0⟩
  | x :: r, k, ρ, h, i0, st => by
    obtain ⟨ρ1, h1, e1, i1⟩ := st 0 x ρ h rfl i0
    obtain ⟨ρ2, h2, e2, i2⟩ := forL_inv I r (k + 1) ρ1 h1 i1 (fun i y ρ h e q => by
      have := st (i + 1) y ρ h (by simpa using e) (by rwa [show k + (i + 1) = k + 1 + i by omega])
      rwa [show k + (i + 1) + 1 = k + 1 + i + 1 by omega] at this)
    refine ⟨ρ2, h2, ?_, by rw [List.length_cons, show k + (r.length + 1) = k + 1 + r.length by omega]; exact i2⟩
    simp only [forL, e1, bind_ok, e2]
/-! ### the urn -/
structure Ur where
  a : Int
  b : Int
  c : Int
def Ur.o (u : Ur) : O := .lst [.int u.a, .int u.b, .int u.c]
/-- at most k mixed draws so far -/
structure Ur.Ok (u : Ur) (k : Nat) : Prop where
  a0 : 0 ≤ u.a
  b0 : 0 ≤ u.b
  b1 : u.b < 2 ^ 63
  c0 : 0 ≤ u.c
  c1 : u.c ≤ k
theorem Ur.Ok.mono {u : Ur} {k m : Nat} (g : u.Ok k) (e : k ≤ m) : u.Ok m := ⟨g.a0, g.b0, g.b1, g.c0, by have := g.c1; omega⟩
@[simp] theorem Ur.free (u : Ur) : freeO u.o = true := by simp [Ur.o, freeO, D.freeL, D.free]
end Ls
namespace Ls
theorem pow_le {n : Nat} (e : n < 2 ^ 127) : n < 2 ^ 4000 := Nat.lt_of_lt_of_le e (Nat.pow_le_pow_right (Nat.succ_pos 1) (of_decide_eq_true rfl))
theorem pow_le' {n : Nat} (e : n < 2 ^ 127) : n < 2 ^ 8000 := Nat.lt_of_lt_of_le e (Nat.pow_le_pow_right (Nat.succ_pos 1) (of_decide_eq_true rfl))
theorem mul_ok (h : Hh) {i j : Int} (a : 0 ≤ i) (b : i < 2 ^ 127) (c : 0 ≤ j) (d : j < 2 ^ 127) : binD h .mul (.int i) (.int j) = some (.int (i * j)) := by
  unfold binD
  have e1 : i.natAbs < 2 ^ 127 := by omega
  have e2 : j.natAbs < 2 ^ 127 := by omega
  exact if_pos (.inr (.inr ⟨pow_le e1, pow_le e2⟩))
theorem mul_small (h : Hh) {i : Int} (a : -bigI < i) (b : i < bigI) (j : Int) : binD h .mul (.int i) (.int j) = some (.int (i * j)) := by
  unfold binD; exact if_pos (.inl ⟨a, b⟩)
theorem mul_small' (h : Hh) (i : Int) {j : Int} (a : -bigI < j) (b : j < bigI) : binD h .mul (.int i) (.int j) = some (.int (i * j)) := by
  unfold binD; exact if_pos (.inr (.inl ⟨a, b⟩))
theorem mod_ok (h : Hh) (i : Int) {j : Int} (a : 0 < j) : binD h .mod (.int i) (.int j) = some (.int (i % j)) := by
  unfold binD; exact if_pos a
theorem div_ok (h : Hh) (i : Int) {j : Int} (a : 0 < j) (b : j < 2 ^ 127) : binD h .div (.int i) (.int j) = some (.int (i / j)) := by
  unfold binD
  have e1 : j.natAbs < 2 ^ 127 := by omega
  exact if_pos ⟨a, pow_le' e1⟩
/-- reading and writing a list of the small heap by a written place -/
theorem ix_ref {h : Hh} {n : Nat} {xs : List D} (e : h[n]? = some (.lst xs)) (k : Nat) (hk : k < xs.length) : ixD h (.ref n) (.int k) = xs[k]? := by
  have : at_ xs.length (k : Int) = some k := by unfold at_; rw [if_pos (by omega), if_pos (by omega)]; simp
  simp only [ixD, itemsS, itemsL, e, this]
theorem set_ref {h : Hh} {n : Nat} {xs : List D} (e : h[n]? = some (.lst xs)) (k : Nat) (hk : k < xs.length) (d : D) : setD h (.ref n) (.int k) d = some (h.set n (.lst (xs.set k d))) := by
  have : at_ xs.length (k : Int) = some k := by unfold at_; rw [if_pos (by omega), if_pos (by omega)]; simp
  simp only [setD, e, this]
@[simp] theorem urn0 (u : Ur) (r : Hh) : ixD (u.o :: r) (.ref 0) (.int 0) = some (.int u.a) := id rfl
@[simp] theorem urn1 (u : Ur) (r : Hh) : ixD (u.o :: r) (.ref 0) (.int 1) = some (.int u.b) := id rfl
@[simp] theorem urn2 (u : Ur) (r : Hh) : ixD (u.o :: r) (.ref 0) (.int 2) = some (.int u.c) := id rfl
@[simp] theorem urnS0 (u : Ur) (r : Hh) (x : Int) : setD (u.o :: r) (.ref 0) (.int 0) (.int x) = some (Ur.o ⟨x, u.b, u.c⟩ :: r) := id rfl
@[simp] theorem urnS2 (u : Ur) (r : Hh) (x : Int) : setD (u.o :: r) (.ref 0) (.int 2) (.int x) = some (Ur.o ⟨u.a, u.b, x⟩ :: r) := id rfl
/-- the def _law_take, as all laws write it -/
def takeF (A : Int) : Fn := { np := 2, ns := 6, body :=
    (.cons (.ife (.cmp .gt (.ix (.var 0) (.cst (.int 0))) (.cst (.int 0))) (.cons (.asg (.nm 2) (.bin .mod (.pr .int (.cons (.ix (.var 0) (.cst (.int 0))) .nil)) (.var 1)))
    (.cons (.asg (.ix (.var 0) (.cst (.int 0))) (.bin .div (.ix (.var 0) (.cst (.int 0))) (.var 1)))
    (.cons (.ret (.var 2))
    .nil))) .nil)
    (.cons (.asg (.ix (.var 0) (.cst (.int 2))) (.bin .add (.ix (.var 0) (.cst (.int 2))) (.cst (.int 1))))
    (.cons (.asg (.nm 3) (.bin .mod (.pr .int (.cons (.bin .mul (.bin .add (.ix (.var 0) (.cst (.int 1))) (.bin .mul (.cst (.int 48271)) (.ix (.var 0) (.cst (.int 2))))) (.bin .add (.cst (.int A)) (.ix (.var 0) (.cst (.int 2))))) .nil)) (.cst (.int 2147483647))))
    (.cons (.asg (.nm 4) (.bin .add (.bin .mod (.pr .int (.cons (.var 3) .nil)) (.cst (.int 40009))) (.cst (.int 7))))
    (.cons (.asg (.nm 5) (.bin .mod (.pr .int (.cons (.bin .mul (.bin .add (.bin .add (.var 3) (.ix (.var 0) (.cst (.int 2)))) (.bin .div (.ix (.var 0) (.cst (.int 1))) (.cst (.int 1000003)))) (.var 4)) .nil)) (.cst (.int 2147483629))))
    (.cons (.ret (.bin .mod (.pr .int (.cons (.bin .div (.bin .mod (.pr .int (.cons (.bin .add (.bin .mul (.var 5) (.cst (.int 48271))) (.var 3)) .nil)) (.cst (.int 2147483587))) (.cst (.int 64))) .nil)) (.var 1)))
    .nil)))))) }
theorem take_np (A : Int) : (takeF A).np ≤ (takeF A).ns := by show 2 ≤ 6; decide
theorem take_run (cf : Cf) (A : Int) (A0 : 0 ≤ A) (A1 : A < 2 ^ 40) (u : Ur) (k : Nat) (m : Int) (g : u.Ok k) (hk : k < 2 ^ 60) (m0 : 0 < m) (m1 : m < 2 ^ 127) :
    ∃ (r : Int) (u' : Ur), runFn cf (takeF A) [.ref 0, .int m] [u.o] = .ok (.int r) [u'.o] ∧ 0 ≤ r ∧ r < m ∧ u'.Ok (k + 1) := by
  obtain ⟨a0, b0, b1, c0, c1⟩ := g
  rw [runFn_eq _ _ _ _ rfl (take_np A)]
  by_cases ha : 0 < u.a
  · refine ⟨u.a % m, ⟨u.a / m, u.b, u.c⟩, ?_, Int.emod_nonneg _ (by omega), Int.emod_lt_of_pos _ m0, Int.ediv_nonneg a0 (by omega), b0, b1, c0, by show (u.c : Int) ≤ ((k + 1 : Nat) : Int); omega⟩
    simp -implicitDefEqProofs [eng, eng0, takeF, ha, mod_ok _ _ m0, div_ok _ _ m0 m1]
  · have e1 : ∀ (h : Hh) (x : Int), binD h .mod (.int x) (.int 2147483647) = some (.int (x % 2147483647)) := fun h x => mod_ok h x (by decide)
    have e2 : ∀ (h : Hh) (x : Int), binD h .mod (.int x) (.int 40009) = some (.int (x % 40009)) := fun h x => mod_ok h x (by decide)
    have e3 : ∀ (h : Hh) (x : Int), binD h .mod (.int x) (.int 2147483629) = some (.int (x % 2147483629)) := fun h x => mod_ok h x (by decide)
    have e4 : ∀ (h : Hh) (x : Int), binD h .mod (.int x) (.int 2147483587) = some (.int (x % 2147483587)) := fun h x => mod_ok h x (by decide)
    have e5 : ∀ (h : Hh) (x : Int), binD h .div (.int x) (.int 64) = some (.int (x / 64)) := fun h x => div_ok h x (by decide) (by decide)
    have e6 : ∀ (h : Hh) (x : Int), binD h .div (.int x) (.int 1000003) = some (.int (x / 1000003)) := fun h x => div_ok h x (by decide) (by decide)
    have e7 : ∀ (h : Hh) (x : Int), binD h .mul (.int 48271) (.int x) = some (.int (48271 * x)) := fun h x => mul_small h (by decide) (by decide) x
    have e8 : ∀ (h : Hh) (x : Int), binD h .mul (.int x) (.int 48271) = some (.int (x * 48271)) := fun h x => mul_small' h x (by decide) (by decide)
    have e9 : ∀ (h : Hh), binD h .mul (.int (u.b + 48271 * (u.c + 1))) (.int (A + (u.c + 1))) = some (.int ((u.b + 48271 * (u.c + 1)) * (A + (u.c + 1)))) :=
      fun h => mul_ok h (by omega) (by omega) (by omega) (by omega)
    have e10 : ∀ (h : Hh) (x y : Int), binD h .mul (.int x) (.int (y % 40009 + 7)) = some (.int (x * (y % 40009 + 7))) :=
      fun h x y => mul_small' h x (by have := Int.emod_nonneg y (show (40009 : Int) ≠ 0 by decide); simp only [bigI]; omega) (by have := Int.emod_lt_of_pos y (show (0 : Int) < 40009 by decide); simp only [bigI]; omega)
    have key : ∃ x : Int, asVal (exs cf (takeF A).body ([.ref 0, .int m].map some ++ List.replicate ((takeF A).ns - (takeF A).np) none) [u.o]) = .ok (.int (x % m)) [Ur.o ⟨u.a, u.b, u.c + 1⟩] := by
      simp -implicitDefEqProofs only [eng, eng0, takeF, ha, e1, e2, e3, e4, e5, e6, e7, e8, e9, e10, mod_ok _ _ m0, exs_cons, ex_ife, ev_cmp, ev_ix, ev_var, List.map_cons, List.map_nil, List.cons_append, List.getElem?_cons_zero, getV_some, bind_ok, ev_cst, urn0, lift_some, cmp_gt_int, decide_false, Option.map_some, tru_bl, br_false, after_nx, exs_nil, ex_asg, urn2, bin_add_int, ev_bin, urnS2, asgT_ix, putR_some, List.replicate, asgT_nm, List.set_cons_succ, List.set_cons_zero, urn1, ev_pr, evs_cons, evs_nil, pr_int_int, List.getElem?_cons_succ, ex_ret, after_rt, asVal_rt, List.nil_append]
      exact ⟨_, rfl⟩
    obtain ⟨x, key⟩ := key
    exact ⟨x % m, _, key, Int.emod_nonneg _ (by omega), Int.emod_lt_of_pos _ m0, a0, b0, b1, by show (0 : Int) ≤ u.c + 1; omega, by show (u.c + 1 : Int) ≤ ((k + 1 : Nat) : Int); omega⟩
end Ls
namespace Ls
/-- cf's 14 is _law_take -/
def HTake (cf : Cf) : Prop := ∀ (h : Hh) (n : Nat) (u : Ur) (k : Nat) (m : Int), h[n]? = some u.o → u.Ok k → k < 2 ^ 60 → 0 < m → m < 2 ^ 127 →
  ∃ (r : Int) (u' : Ur), cf 14 [.ref n, .int m] h = .ok (.int r) (h.set n u'.o) ∧ 0 ≤ r ∧ r < m ∧ u'.Ok (k + 1)
theorem hTake {G : Nat → Option Fn} (n : Nat) {A : Int} (A0 : 0 ≤ A) (A1 : A < 2 ^ 40) (e : G 14 = some (takeF A)) : HTake (callN G (n + 1)) := by
  intro h j u k m hj g hk m0 m1
  obtain ⟨r, u', e1, r0, r1, g'⟩ := take_run (callN G n) A A0 A1 u k m g hk m0 m1
  exact ⟨r, u', by rw [callN_succ e]; exact call_one (by simp [D.freeL, D.free]) hj u.free e1 rfl u'.free, r0, r1, g'⟩
def HTake.at0 {cf : Cf} (H : HTake cf) (u : Ur) (k : Nat) (m : Int) (r : Hh) (g : u.Ok k) (hk : k < 2 ^ 60) (m0 : 0 < m) (m1 : m < 2 ^ 127) :
  ∃ (d : Int) (u' : Ur), cf 14 [.ref 0, .int m] (u.o :: r) = .ok (.int d) (u'.o :: r) ∧ 0 ≤ d ∧ d < m ∧ u'.Ok (k + 1) := H (u.o :: r) 0 u k m rfl g hk m0 m1
/-- a list or tuple that does not change -/
def D.Seq (d : D) (xs : List D) : Prop := d = .lst xs ∨ d = .tup xs
theorem D.Seq.items {d : D} {xs : List D} (s : d.Seq xs) (h : Hh) : itemsS h d = some xs := by rcases s with rfl | rfl <;> rfl
theorem D.Seq.len {d : D} {xs : List D} (s : d.Seq xs) (h : Hh) : prD h .len [d] = some (.int xs.length) := by rcases s with rfl | rfl <;> rfl
theorem D.Seq.ref {d : D} {xs : List D} (s : d.Seq xs) : refOf d = none := by rcases s with rfl | rfl <;> rfl
theorem D.Seq.free {d : D} {xs : List D} (s : d.Seq xs) (e : D.freeL xs = true) : d.free = true := by rcases s with rfl | rfl <;> simpa [D.free] using e
theorem at_nat {n : Nat} {k : Int} (a : 0 ≤ k) (b : k < n) : at_ n k = some k.toNat := by unfold at_; rw [if_pos a, if_pos b]
theorem D.Seq.ix {d : D} {xs : List D} (s : d.Seq xs) (h : Hh) {k : Int} (a : 0 ≤ k) (b : k < xs.length) : ixD h d (.int k) = xs[k.toNat]? := by
  rcases s with rfl | rfl <;> simp only [ixD, itemsS, itemsL, at_nat a b]
theorem freeL_mem : ∀ {xs : List D}, D.freeL xs = true → ∀ x ∈ xs, x.free = true
  | [], _, x, hx => nomatch hx
  | y :: r, e, x, hx => by
    simp only [D.freeL, Bool.and_eq_true] at e
    rcases List.mem_cons.mp hx with rfl | hx
    · exact e.1
    · exact freeL_mem e.2 x hx
theorem freeL_of : ∀ {xs : List D}, (∀ x ∈ xs, x.free = true) → D.freeL xs = true
  | [], _ => rfl
  | y :: r, e => by
    simp only [D.freeL, Bool.and_eq_true]
    exact ⟨e y (by simp), freeL_of fun x hx => e x (by simp [hx])⟩
def ofF : Fn := { np := 2, ns := 2, body :=
    (.cons (.ret (.ix (.var 1) (.call 14 (.cons (.var 0) (.cons (.pr .len (.cons (.var 1) .nil)) .nil)) [])))
    .nil) }
theorem of_run {cf : Cf} (H : HTake cf) (u : Ur) (k : Nat) (d : D) (xs : List D) (s : d.Seq xs) (g : u.Ok k) (hk : k < 2 ^ 60) (ne : xs ≠ []) (sm : xs.length < 2 ^ 60) :
    ∃ (x : D) (u' : Ur), runFn cf ofF [.ref 0, d] [u.o] = .ok x [u'.o] ∧ x ∈ xs ∧ u'.Ok (k + 1) := by
  have pos : 0 < xs.length := List.length_pos_iff.mpr ne
  obtain ⟨r, u', e1, r0, r1, g'⟩ := H.at0 u k xs.length [] g hk (by omega) (by omega)
  obtain ⟨x, ex⟩ : ∃ x, xs[r.toNat]? = some x := ⟨xs[r.toNat]'(by omega), List.getElem?_eq_getElem _⟩
  refine ⟨x, u', ?_, List.mem_of_getElem? ex, g'⟩
  rw [runFn_eq _ _ _ _ rfl (by decide)]
  simp -implicitDefEqProofs [eng, eng0, ofF, s.len, e1, s.ix _ r0 r1, ex]
def HOf (cf : Cf) : Prop := ∀ (h : Hh) (n : Nat) (u : Ur) (k : Nat) (d : D) (xs : List D), h[n]? = some u.o → d.Seq xs → D.freeL xs = true → u.Ok k → k < 2 ^ 60 → xs ≠ [] → xs.length < 2 ^ 60 →
  ∃ (x : D) (u' : Ur), cf 16 [.ref n, d] h = .ok x (h.set n u'.o) ∧ x ∈ xs ∧ u'.Ok (k + 1)
theorem hOf {G : Nat → Option Fn} (n : Nat) {A : Int} (A0 : 0 ≤ A) (A1 : A < 2 ^ 40) (e : G 14 = some (takeF A)) (e' : G 16 = some ofF) : HOf (callN G (n + 2)) := by
  intro h j u k d xs hj s fr g hk ne sm
  obtain ⟨x, u', e1, m, g'⟩ := of_run (hTake n A0 A1 e) u k d xs s g hk ne sm
  exact ⟨x, u', by rw [callN_succ e']; exact call_one (by simp [D.freeL, s.free fr]) hj u.free e1 (freeL_mem fr x m) u'.free, m, g'⟩
end Ls
namespace Ls
def mixedF : Fn := { np := 2, ns := 5, body :=
    (.cons (.par [2, 3] (.cons (.lr (.list (.var 1))) (.cons (.lr (.disp .nil)) .nil)))
    (.cons (.for_ (.nm 4) (.rng .no (.pr .len (.cons (.var 1) .nil))) (.cons (.expr (.mt .append (.var 3) (.cons (.mt .popat (.var 2) (.cons (.call 14 (.cons (.var 0) (.cons (.pr .len (.cons (.var 2) .nil)) .nil)) []) .nil)) .nil)))
    .nil))
    (.cons (.ret (.pr .tuple (.cons (.var 3) .nil)))
    .nil))) }
theorem rngL_len (a b : Int) : (rngL a b).length = (b - a).toNat := by simp [rngL]
theorem okR_nat {n : Nat} (e : n < 2 ^ 60) : okR (n : Int) = true := by simp [okR]; omega
@[simp] theorem okR_0 : okR 0 = true := by decide
@[simp] theorem len_ref1 (a : O) (xs : List D) (r : Hh) : prD (a :: .lst xs :: r) .len [.ref 1] = some (.int xs.length) := rfl
@[simp] theorem pre_append (h : Hh) (n : Nat) (xs : List D) (e : h[n]? = some (.lst xs)) : mtPre h .append (.ref n) = true := by simp [mtPre, itemsL, e]
theorem perm_erase {α : Type} : ∀ (l : List α) (i : Nat) (y : α), l[i]? = some y → List.Perm (y :: l.eraseIdx i) l
  | [], i, y, e => by simp at e
  | x :: r, 0, y, e => by simp at e; subst e; simp
  | x :: r, i + 1, y, e => by
    simp only [List.getElem?_cons_succ] at e
    rw [List.eraseIdx_cons_succ]
    exact (List.Perm.swap x y _).trans ((perm_erase r i y e).cons x)
theorem mixed_run {cf : Cf} (H : HTake cf) (u : Ur) (k : Nat) (d : D) (xs : List D) (s : d.Seq xs) (g : u.Ok k) (sm : xs.length < 1000) (hk : k + 1000 < 2 ^ 60) :
    ∃ (ys : List D) (u' : Ur) (r : Hh), runFn cf mixedF [.ref 0, d] [u.o] = .ok (.tup ys) (u'.o :: r) ∧ List.Perm ys xs ∧ u'.Ok (k + xs.length) := by
  rw [runFn_eq _ _ _ _ rfl (by decide)]
  have ok1 : okLen xs = true := okLen_of (by simp only [big]; omega)
  have ok2 : okR (xs.length : Int) = true := okR_nat (by omega)
  simp -implicitDefEqProofs only [eng, eng0, mixedF, exs_cons, ex_par, evs_cons, ev_lr, evf_list, ev_var, List.map_cons, List.map_nil, List.cons_append, List.nil_append, List.getElem?_cons_succ, List.getElem?_cons_zero, getV_some, bind_ok, s.items, lift_some, freshL_ok', ok1, onlyIf_true, evf_disp, evs_nil, okLen_nil, List.length_cons, List.length_nil, List.replicate, setAll_cons, setAll_nil, List.set_cons_succ, List.set_cons_zero, parR_some, after_nx, ex_for, evi_rng, evo_no, ev_pr, s.len, asInt_int, Option.getD_none, okR_0, ok2, Bool.and_self, unlock_none, lockO_none]
  obtain ⟨ρ', h', e1, t, u', left, found, rfl, rfl, g', l1, l2⟩ := forL_inv (body := forB cf (T.nm 4)
                  (Ss.cons
                    (S.expr
                      (E.mt Mt.append (E.var 3)
                        (Es.cons
                          (E.mt Mt.popat (E.var 2)
                            (Es.cons
                              (E.call 14 (Es.cons (E.var 0) (Es.cons (E.pr Pr.len (Es.cons (E.var 2) Es.nil)) Es.nil))
                                [])
                              Es.nil))
                          Es.nil)))
                    Ss.nil))
    (fun i ρ h => ∃ (t : Option D) (u : Ur) (left found : List D), ρ = [some (.ref 0), some d, some (.ref 1), some (.ref 2), t] ∧ h = [u.o, .lst left, .lst found] ∧ u.Ok (k + i) ∧ left.length + i = xs.length ∧ List.Perm (left ++ found) xs)
    (rngL 0 xs.length) 0 [some (.ref 0), some d, some (.ref 1), some (.ref 2), none] [u.o, .lst xs, .lst []] ⟨none, u, xs, [], rfl, rfl, g, rfl, by simp⟩ (by
      rintro i x ρ h hi ⟨t, u, left, found, rfl, rfl, g, l1, l2⟩
      have hi' : i < xs.length := by have := (List.getElem?_eq_some_iff.mp hi).1; rw [rngL_len] at this; omega
      obtain ⟨r, u', e1, r0, r1, g'⟩ := H.at0 u (k + (0 + i)) left.length [.lst left, .lst found] g (by omega) (by omega) (by omega)
      obtain ⟨y, ey⟩ : ∃ y, left[r.toNat]? = some y := ⟨left[r.toNat]'(by omega), List.getElem?_eq_getElem _⟩
      have fl : found.length < big := by have := l2.length_eq; rw [List.length_append] at this; simp only [big]; omega
      refine ⟨_, [u'.o, .lst (left.eraseIdx r.toNat), .lst (found ++ [y])], ?_, some x, u', _, _, rfl, rfl, by rw [← Nat.add_assoc] at g'; rw [← Nat.add_assoc]; simpa using g', ?_, ?_⟩
      · simp -implicitDefEqProofs [eng, eng0, forB, mtPre, itemsL, prD, itemsS, e1, mtD, at_nat r0 r1, ey, fl]
      · rw [List.length_eraseIdx, if_pos (by omega)]; omega
      · refine List.Perm.trans ?_ l2
        have := perm_erase left r.toNat y ey
        refine List.Perm.trans ?_ (List.Perm.append_right found this)
        rw [← List.append_assoc]
        exact List.perm_append_singleton _ _)
  simp only [rngL_len] at g' l1
  rw [e1]
  have hl : left = [] := List.eq_nil_of_length_eq_zero (by omega)
  subst hl
  refine ⟨found, u', [.lst [], .lst found], ?_, by simpa using l2, g'.mono (by omega)⟩
  simp -implicitDefEqProofs [eng, eng0, prD, itemsS, itemsL]
end Ls
namespace Ls
/-! ### _law_same: a thing is the same as itself -/
def sameF : Fn := { np := 2, ns := 4, body :=
    (.cons (.ife (.isi (.var 1) [.list, .tuple]) (.cons (.ife (.bool false (.cons (.cmp .ne (.isi (.var 0) [.list]) (.isi (.var 1) [.list])) (.cons (.cmp .ne (.isi (.var 0) [.tuple]) (.isi (.var 1) [.tuple])) .nil))) (.cons (.ret (.cst (.bl false)))
    .nil) .nil)
    (.cons (.ret (.bool true (.cons (.cmp .eq (.pr .len (.cons (.var 0) .nil)) (.pr .len (.cons (.var 1) .nil))) (.cons (.pr .all (.cons (.lv (.comp (.tp (.cons (.nm 2) (.cons (.nm 3) .nil))) (.zip (.var 0) (.var 1)) .nil (.call 17 (.cons (.var 2) (.cons (.var 3) .nil)) []))) .nil)) .nil))))
    .nil)) .nil)
    (.cons (.ife (.cmp .isn (.var 1) (.cst .non)) (.cons (.ret (.cmp .isn (.var 0) (.cst .non)))
    .nil) .nil)
    (.cons (.ife (.isi (.var 1) [.bool, .str]) (.cons (.ret (.bool true (.cons (.cmp .eq (.var 0) (.var 1)) (.cons (.cmp .eq (.isi (.var 0) [.bool]) (.isi (.var 1) [.bool])) .nil))))
    .nil) .nil)
    (.cons (.ret (.bool true (.cons (.isi (.var 0) [.int]) (.cons (.not (.isi (.var 0) [.bool])) (.cons (.cmp .eq (.var 0) (.var 1)) .nil)))))
    .nil)))) }
mutual
/-- plain data, at most n deep, no thing too long -/
def D.pl : Nat → D → Bool
  | _, .non => true
  | _, .bl _ => true
  | _, .int _ => true
  | _, .str _ => true
  | 0, _ => false
  | n + 1, .tup xs => okLen xs && D.plL n xs
  | n + 1, .lst xs => okLen xs && D.plL n xs
  | _, _ => false
def D.plL : Nat → List D → Bool
  | _, [] => true
  | n, x :: r => D.pl n x && D.plL n r
end
theorem zipL_self : ∀ xs : List D, zipL xs xs = xs.map fun x => .tup [x, x]
  | [] => rfl
  | x :: r => by simp [zipL, zipL_self r]
theorem plL_mem : ∀ {n : Nat} {xs : List D}, D.plL n xs = true → ∀ x ∈ xs, D.pl n x = true
  | _, [], _, x, hx => nomatch hx
  | n, y :: r, e, x, hx => by
    simp only [D.plL, Bool.and_eq_true] at e
    rcases List.mem_cons.mp hx with rfl | hx
    · exact e.1
    · exact plL_mem e.2 x hx
theorem plL_of {n : Nat} : ∀ {xs : List D}, (∀ x ∈ xs, D.pl n x = true) → D.plL n xs = true
  | [], _ => by simp [D.plL]
  | y :: r, e => by
    simp only [D.plL, Bool.and_eq_true]
    exact ⟨e y (by simp), plL_of fun x hx => e x (by simp [hx])⟩
mutual
theorem D.pl.free : ∀ (n : Nat) (d : D), D.pl n d = true → d.free = true
  | _, .non, _ => rfl
  | _, .bl _, _ => rfl
  | _, .int _, _ => rfl
  | _, .str _, _ => rfl
  | 0, .tup _, e => by simp [D.pl] at e
  | 0, .lst _, e => by simp [D.pl] at e
  | n + 1, .tup xs, e => by simp only [D.pl, Bool.and_eq_true] at e; simp only [D.free]; exact D.plL.free n xs e.2
  | n + 1, .lst xs, e => by simp only [D.pl, Bool.and_eq_true] at e; simp only [D.free]; exact D.plL.free n xs e.2
  | 0, .rol _, e => by simp [D.pl] at e
  | _ + 1, .rol _, e => by simp [D.pl] at e
  | 0, .dct _ _, e => by simp [D.pl] at e
  | _ + 1, .dct _ _, e => by simp [D.pl] at e
  | 0, .ref _, e => by simp [D.pl] at e
  | _ + 1, .ref _, e => by simp [D.pl] at e
  | 0, .obj _ _, e => by simp [D.pl] at e
  | _ + 1, .obj _ _, e => by simp [D.pl] at e
  | 0, .rot _, e => by simp [D.pl] at e
  | _ + 1, .rot _, e => by simp [D.pl] at e
  | 0, .exn _ _, e => by simp [D.pl] at e
  | _ + 1, .exn _ _, e => by simp [D.pl] at e
theorem D.plL.free : ∀ (n : Nat) (xs : List D), D.plL n xs = true → D.freeL xs = true
  | _, [], _ => rfl
  | n, y :: r, e => by
    simp only [D.plL, Bool.and_eq_true] at e
    simp only [D.freeL, Bool.and_eq_true]
    exact ⟨D.pl.free n y e.1, D.plL.free n r e.2⟩
end
@[simp] theorem cmp_eq_bl (h : Hh) (a b : Bool) : cmpD h .eq (.bl a) (.bl b) = some (decide (a = b)) := by by_cases e : a = b <;> simp [cmpD, snap, D.flat, D.eqv, e]
@[simp] theorem cmp_ne_bl (h : Hh) (a b : Bool) : cmpD h .ne (.bl a) (.bl b) = some (!decide (a = b)) := by by_cases e : a = b <;> simp [cmpD, snap, D.flat, D.eqv, e]
theorem boolsD_all {α : Type} (f : α → Bool) : ∀ xs : List α, boolsD (xs.map fun x => .bl (f x)) = some (xs.map f)
  | [] => rfl
  | x :: r => by simp [boolsD, boolsD_all f r]
theorem same_refl (G : Nat → Option Fn) (e : G 17 = some sameF) : ∀ (n m : Nat) (d : D) (h : Hh), D.pl n d = true → n ≤ m → callN G (m + 1) 17 [d, d] h = .ok (.bl true) h := by
  intro n
  induction n with
  | zero =>
    intro m d h p _
    rw [callN_succ e]
    refine call_pure (hl := []) (by simp [D.freeL, D.pl.free 0 d p]) ?_ rfl
    rw [runFn_eq _ _ _ _ rfl (by decide)]
    cases d with
    | non => simp -implicitDefEqProofs [eng, eng0, sameF, dTy, isTy, itemsL, cmpD]
    | bl b => simp -implicitDefEqProofs [eng, eng0, sameF, dTy, isTy, itemsL, cmpD, snap, D.flat, D.eqv]
    | int b => simp -implicitDefEqProofs [eng, eng0, sameF, dTy, isTy, itemsL, cmpD, snap, D.flat, D.eqv]
    | str b => simp -implicitDefEqProofs [eng, eng0, sameF, dTy, isTy, itemsL, cmpD, snap, D.flat, D.eqv]
    | _ => simp [D.pl] at p
  | succ n ih =>
    intro m d h p le
    obtain ⟨m, rfl⟩ : ∃ k, m = k + 1 := ⟨m - 1, by omega⟩
    rw [callN_succ e]
    refine call_pure (hl := []) (by simp [D.freeL, D.pl.free _ d p]) ?_ rfl
    rw [runFn_eq _ _ _ _ rfl (by decide)]
    have seq : ∀ xs : List D, D.plL n xs = true → mapL (compB (callN G (m + 1)) (.tp (.cons (.nm 2) (.cons (.nm 3) .nil))) .nil (.call 17 (.cons (.var 2) (.cons (.var 3) .nil)) []) [some d, some d, none, none])
        (xs.map fun x => .tup [x, x]) [] = .ok (xs.map fun x => .bl true) [] := by
      intro xs q
      rw [mapL_map _ (fun _ => [D.bl true])]
      · rw [← List.map_eq_flatMap]
      · intro x hx
        simp -implicitDefEqProofs [eng, eng0, compB, ih m x [] (plL_mem q x hx) (by omega)]
    cases d with
    | non => simp -implicitDefEqProofs [eng, eng0, sameF, dTy, isTy, itemsL, cmpD]
    | bl b => simp -implicitDefEqProofs [eng, eng0, sameF, dTy, isTy, itemsL, cmpD, snap, D.flat, D.eqv]
    | int b => simp -implicitDefEqProofs [eng, eng0, sameF, dTy, isTy, itemsL, cmpD, snap, D.flat, D.eqv]
    | str b => simp -implicitDefEqProofs [eng, eng0, sameF, dTy, isTy, itemsL, cmpD, snap, D.flat, D.eqv]
    | tup xs =>
      simp only [D.pl, Bool.and_eq_true] at p
      have l : okLen (xs.map fun _ => D.bl true) = true := by simpa [okLen] using p.1
      simp -implicitDefEqProofs [eng, eng0, sameF, dTy, isTy, itemsL, zipL_self, seq xs p.2, l, prD, boolsD_all (fun _ => true)]
    | lst xs =>
      simp only [D.pl, Bool.and_eq_true] at p
      have l : okLen (xs.map fun _ => D.bl true) = true := by simpa [okLen] using p.1
      simp -implicitDefEqProofs [eng, eng0, sameF, dTy, isTy, itemsL, zipL_self, seq xs p.2, l, prD, boolsD_all (fun _ => true)]
    | _ => simp [D.pl] at p
end Ls
namespace Ls
/-! the second form of _law_same -/
def sameF2 : Fn := { np := 2, ns := 4, body :=
    (.cons (.ife (.isi (.var 1) [.list, .tuple]) (.cons (.ife (.bool false (.cons (.cmp .ne (.isi (.var 0) [.list]) (.isi (.var 1) [.list])) (.cons (.cmp .ne (.isi (.var 0) [.tuple]) (.isi (.var 1) [.tuple])) .nil))) (.cons (.ret (.cst (.bl false)))
    .nil) .nil)
    (.cons (.ret (.bool true (.cons (.cmp .eq (.pr .len (.cons (.var 0) .nil)) (.pr .len (.cons (.var 1) .nil))) (.cons (.pr .all (.cons (.lv (.comp (.tp (.cons (.nm 2) (.cons (.nm 3) .nil))) (.zip (.var 0) (.var 1)) .nil (.call 17 (.cons (.var 2) (.cons (.var 3) .nil)) []))) .nil)) .nil))))
    .nil)) .nil)
    (.cons (.ife (.bool false (.cons (.cmp .isn (.var 1) (.cst .non)) (.cons (.isi (.var 1) [.bool, .str]) .nil))) (.cons (.ret (.bool true (.cons (.cmp .eq (.var 0) (.var 1)) (.cons (.cmp .eq (.isi (.var 0) [.bool]) (.isi (.var 1) [.bool])) (.cons (.cmp .eq (.cmp .isn (.var 0) (.cst .non)) (.cmp .isn (.var 1) (.cst .non))) .nil)))))
    .nil) .nil)
    (.cons (.ret (.bool true (.cons (.isi (.var 0) [.int]) (.cons (.not (.isi (.var 0) [.bool])) (.cons (.cmp .eq (.var 0) (.var 1)) .nil)))))
    .nil))) }
theorem same_refl2 (G : Nat → Option Fn) (e : G 17 = some sameF2) : ∀ (n m : Nat) (d : D) (h : Hh), D.pl n d = true → n ≤ m → callN G (m + 1) 17 [d, d] h = .ok (.bl true) h := by
  intro n
  induction n with
  | zero =>
    intro m d h p _
    rw [callN_succ e]
    refine call_pure (hl := []) (by simp [D.freeL, D.pl.free 0 d p]) ?_ rfl
    rw [runFn_eq _ _ _ _ rfl (by decide)]
    cases d with
    | non => simp -implicitDefEqProofs [eng, eng0, sameF2, dTy, isTy, itemsL, cmpD, snap, D.flat, D.eqv]
    | bl b => simp -implicitDefEqProofs [eng, eng0, sameF2, dTy, isTy, itemsL, cmpD, snap, D.flat, D.eqv]
    | int b => simp -implicitDefEqProofs [eng, eng0, sameF2, dTy, isTy, itemsL, cmpD, snap, D.flat, D.eqv]
    | str b => simp -implicitDefEqProofs [eng, eng0, sameF2, dTy, isTy, itemsL, cmpD, snap, D.flat, D.eqv]
    | _ => simp [D.pl] at p
  | succ n ih =>
    intro m d h p le
    obtain ⟨m, rfl⟩ : ∃ k, m = k + 1 := ⟨m - 1, by omega⟩
    rw [callN_succ e]
    refine call_pure (hl := []) (by simp [D.freeL, D.pl.free _ d p]) ?_ rfl
    rw [runFn_eq _ _ _ _ rfl (by decide)]
    have seq : ∀ xs : List D, D.plL n xs = true → mapL (compB (callN G (m + 1)) (.tp (.cons (.nm 2) (.cons (.nm 3) .nil))) .nil (.call 17 (.cons (.var 2) (.cons (.var 3) .nil)) []) [some d, some d, none, none])
        (xs.map fun x => .tup [x, x]) [] = .ok (xs.map fun x => .bl true) [] := by
      intro xs q
      rw [mapL_map _ (fun _ => [D.bl true])]
      · rw [← List.map_eq_flatMap]
      · intro x hx
        simp -implicitDefEqProofs [eng, eng0, compB, ih m x [] (plL_mem q x hx) (by omega)]
    cases d with
    | non => simp -implicitDefEqProofs [eng, eng0, sameF2, dTy, isTy, itemsL, cmpD, snap, D.flat, D.eqv]
    | bl b => simp -implicitDefEqProofs [eng, eng0, sameF2, dTy, isTy, itemsL, cmpD, snap, D.flat, D.eqv]
    | int b => simp -implicitDefEqProofs [eng, eng0, sameF2, dTy, isTy, itemsL, cmpD, snap, D.flat, D.eqv]
    | str b => simp -implicitDefEqProofs [eng, eng0, sameF2, dTy, isTy, itemsL, cmpD, snap, D.flat, D.eqv]
    | tup xs =>
      simp only [D.pl, Bool.and_eq_true] at p
      have l : okLen (xs.map fun _ => D.bl true) = true := by simpa [okLen] using p.1
      simp -implicitDefEqProofs [eng, eng0, sameF2, dTy, isTy, itemsL, zipL_self, seq xs p.2, l, prD, boolsD_all (fun _ => true)]
    | lst xs =>
      simp only [D.pl, Bool.and_eq_true] at p
      have l : okLen (xs.map fun _ => D.bl true) = true := by simpa [okLen] using p.1
      simp -implicitDefEqProofs [eng, eng0, sameF2, dTy, isTy, itemsL, zipL_self, seq xs p.2, l, prD, boolsD_all (fun _ => true)]
    | _ => simp [D.pl] at p
end Ls
/-! sorted, sets of texts, slices -/
namespace Ls
theorem flatMap_ite {α β : Type} (p : α → Bool) (f : α → β) : ∀ xs : List α, xs.flatMap (fun x => if p x = true then [f x] else []) = (xs.filter p).map f
  | [] => rfl
  | x :: r => by
    rw [List.flatMap_cons, flatMap_ite p f r, List.filter_cons]
    cases p x <;> simp
theorem strsD_map : ∀ l : List (List Nat), strsD (l.map .str) = some l
  | [] => rfl
  | x :: r => by simp [strsD, strsD_map r]
theorem ssetR_map {l : List (List Nat)} (e : l.length ≤ 4000) (h : Hh) : ssetR (l.map .str) h = .ok ((ssetS l).map .str) h := by simp [ssetR, strsD_map, e]
/-! ### pairs of a number and a text -/
def nsD (p : Nat × List Nat) : D := .tup [.int (p.1 : Int), .str p.2]
abbrev ltNS : Nat × List Nat → Nat × List Nat → Bool := ltP ltN ltL
theorem linNS : Lin ltNS := linP linN linL
theorem nsD_lt (a b : Nat × List Nat) : D.lt (nsD a) (nsD b) = ltNS a b := by
  obtain ⟨a, x⟩ := a; obtain ⟨b, y⟩ := b
  simp only [nsD, D.lt, D.ltS, D.eqv, ltP]
  by_cases e : a = b
  · subst e
    by_cases f : x = y
    · subst f; simp [ltL_irrefl]
    · simp [f]
  · have : ¬ ((a : Int) = b) := by omega
    simp [this, e, ltN]
theorem flat_ns (n : Nat) (p : Nat × List Nat) : D.flat (n + 1) (nsD p) = true := by simp [nsD, D.flat, D.flatL]
theorem flatL_of {n : Nat} : ∀ {xs : List D}, (∀ x ∈ xs, D.flat n x = true) → D.flatL n xs = true
  | [], _ => by simp [D.flatL]
  | y :: r, e => by
    simp only [D.flatL, Bool.and_eq_true]
    exact ⟨e y (by simp), flatL_of fun x hx => e x (by simp [hx])⟩
theorem sort_ns (l : List (Nat × List Nat)) : (D.flatL 60 (l.map nsD) && (alikeEach (l.map nsD) (l.map nsD) && sortable (l.map nsD))) = true := by
  simp only [Bool.and_eq_true]
  refine ⟨flatL_of (by simp only [List.mem_map]; rintro x ⟨p, _, rfl⟩; exact flat_ns 59 p), ?_, ?_⟩
  · simp only [alikeEach, List.all_eq_true, List.mem_map]
    rintro x ⟨p, _, rfl⟩ y ⟨q, _, rfl⟩
    simp [nsD, D.alike, D.alikeL]
  · simp only [sortable, Bool.or_eq_true, List.all_eq_true, List.mem_map]
    left
    rintro x ⟨p, _, rfl⟩
    rfl
/-! ### slices -/
theorem slice_take {α : Type} (xs : List α) {k : Int} (e : 0 ≤ k) : slice xs none (some k) = xs.take k.toNat := by
  simp only [slice, cut]
  rw [if_neg (by omega)]
  simp only [Nat.sub_zero, List.drop_zero]
  rcases Nat.le_total k.toNat xs.length with h | h
  · rw [Nat.min_eq_left h]
  · rw [Nat.min_eq_right h, List.take_of_length_le h, List.take_of_length_le (Nat.le_refl _)]
theorem slice_drop {α : Type} (xs : List α) {k : Int} (e : 0 ≤ k) : slice xs (some k) none = xs.drop k.toNat := by
  simp only [slice, cut]
  rw [if_neg (by omega)]
  rcases Nat.le_total k.toNat xs.length with h | h
  · rw [Nat.min_eq_left h, List.take_of_length_le (by simp)]
  · rw [Nat.min_eq_right h, List.drop_eq_nil_of_le h, List.drop_eq_nil_of_le (Nat.le_refl _)]; simp
@[simp] theorem slD_tup (h : Hh) (xs : List D) (a b : Option Int) : slD h (.tup xs) a b = some (.tup (slice xs a b)) := id rfl
@[simp] theorem slD_lst (h : Hh) (xs : List D) (a b : Option Int) : slD h (.lst xs) a b = some (.lst (slice xs a b)) := id rfl
@[simp] theorem slD_rol (h : Hh) (xs : List D) (a b : Option Int) : slD h (.rol xs) a b = some (.lst (slice xs a b)) := id rfl
/-! ### in -/
theorem hasE_str (t : List Nat) (l : List (List Nat)) : hasE (.str t) (l.map .str) = decide (t ∈ l) := by
  simp only [hasE, List.any_map]
  rw [Bool.eq_iff_iff]
  simp [D.eqv]
theorem flatL_str (l : List (List Nat)) : D.flatL 60 (l.map .str) = true := flatL_of (by simp only [List.mem_map]; rintro x ⟨p, _, rfl⟩; simp [D.flat])
@[simp] theorem in_str_tup (h : Hh) (t : List Nat) (l : List (List Nat)) : cmpD h .isin (.str t) (.tup (l.map .str)) = some (decide (t ∈ l)) := by
  simp [cmpD, flatL_str, D.flat, hasE_str]
@[simp] theorem notin_str_tup (h : Hh) (t : List Nat) (l : List (List Nat)) : cmpD h .notin (.str t) (.tup (l.map .str)) = some (!decide (t ∈ l)) := by
  simp [cmpD, flatL_str, D.flat, hasE_str]
def inD (l : List Nat) : List D := l.map fun (i : Nat) => D.int (i : Int)
theorem flatL_inD (l : List Nat) : D.flatL 60 (inD l) = true := flatL_of (by simp only [inD, List.mem_map]; rintro x ⟨p, _, rfl⟩; simp [D.flat])
theorem hasE_int (k : Nat) (l : List Nat) : hasE (.int k) (inD l) = decide (k ∈ l) := by
  simp only [hasE, inD, List.any_map]
  rw [Bool.eq_iff_iff]
  simp [D.eqv]
  constructor
  · rintro ⟨x, h, e⟩
    obtain rfl : x = k := by omega
    exact h
  · exact fun h => ⟨k, h, rfl⟩
@[simp] theorem in_int_lst (h : Hh) (t : Nat) (l : List Nat) : cmpD h .isin (.int t) (.lst (inD l)) = some (decide (t ∈ l)) := by
  simp [cmpD, flatL_inD, D.flat, hasE_int]
@[simp] theorem notin_int_lst (h : Hh) (t : Nat) (l : List Nat) : cmpD h .notin (.int t) (.lst (inD l)) = some (!decide (t ∈ l)) := by
  simp [cmpD, flatL_inD, D.flat, hasE_int]
end Ls
/-! the ends of all laws: the cells of a script, boxes, the law itself -/
namespace Ls
def cellsF : Fn := { np := 2, ns := 6, body :=
    (.cons (.asg (.nm 2) (.bool false (.cons (.lr (.list (.sl (.var 0) .no (.so (.var 1))))) (.cons (.lr (.disp (.cons (.cst (.int 0)) .nil))) .nil))))
    (.cons (.for_ (.tp (.cons (.nm 3) (.cons (.nm 4) .nil))) (.enum (.sl (.var 0) (.so (.var 1)) (.so (.cst (.int 63))))) (.cons (.asg (.nm 5) (.bin .mod (.pr .int (.cons (.var 3) .nil)) (.var 1)))
    (.cons (.asg (.ix (.var 2) (.var 5)) (.bin .add (.ix (.var 2) (.var 5)) (.bin .mul (.var 4) (.bin .add (.var 3) (.cst (.int 2))))))
    .nil)))
    (.cons (.ret (.frz (.var 2)))
    .nil))) }
def isD (l : List Int) : List D := l.map D.int
theorem slice_isD (l : List Int) (a b : Option Int) : slice (isD l) a b = isD (slice l a b) := by
  simp only [slice, isD, List.length_map, List.map_take, List.map_drop]
theorem len_isD (l : List Int) : (isD l).length = l.length := by simp [isD]
theorem get_isD {l : List Int} {i : Nat} (e : i < l.length) : ∃ x, (isD l)[i]? = some (.int x) := ⟨l[i], by simp [isD, e]⟩
theorem cells_run (cf : Cf) (script : List Int) (top : Nat) (t0 : 0 < top) (t1 : top ≤ 60) :
    ∃ (cs : List Int) (r : Hh), runFn cf cellsF [.rol (isD script), .int top] [] = .ok (.lst (isD cs)) r ∧ 0 < cs.length ∧ cs.length ≤ top := by
  rw [runFn_eq _ _ _ _ rfl (by decide)]
  have e1 : slice (isD script) none (some (top : Int)) = isD (script.take top) := by rw [slice_isD, slice_take _ (by omega)]; simp
  have e2 : slice (isD script) (some (top : Int)) (some 63) = isD ((script.drop (min top script.length)).take (min 63 script.length - min top script.length)) := by
    rw [slice_isD]; simp only [slice, cut]
    rw [if_neg (show ¬ (top : Int) < 0 by omega), if_neg (show ¬ (63 : Int) < 0 by decide)]; simp
  have l1 : okLen (isD (script.take top)) = true := okLen_of (by rw [len_isD, List.length_take]; simp only [big]; omega)
  have o1 : okLen [D.int 0] = true := okLen_of (by simp [big])
  by_cases es : script = []
  · subst es
    refine ⟨[0], [.lst [], .dead], ?_, by simp, by simp; omega⟩
    simp [isD] at e1 e2 l1
    simp -implicitDefEqProofs [eng, eng0, cellsF, e1, e2, isD, tru, itemsL, o1, enumL, forL, frzR]
  · have e3 : tru [.lst (isD (script.take top))] (.ref 0) = some true := by
      have : isD (script.take top) ≠ [] := by
        intro q
        have := congrArg List.length q
        rw [len_isD, List.length_take, List.length_nil] at this
        have := List.length_pos_iff.mpr es
        omega
      simp only [tru, itemsL, List.getElem?_cons_zero]
      cases q : isD (script.take top) with
      | nil => exact absurd q this
      | cons a b => rfl
    simp -implicitDefEqProofs only [eng, eng0, cellsF, exs_cons, ex_asg, ev_bool, evb_or, ev_lr, evf_list, ev_sl, ev_var, List.map_cons, List.map_nil, List.cons_append, List.nil_append, List.replicate, List.getElem?_cons_zero, List.getElem?_cons_succ, getV_some, bind_ok, evo_no, evo_so, asInt_int, slD_rol, e1, lift_some, itemsS_lst, itemsI_lst, freshL_ok', l1, onlyIf_true, List.length_nil, e3, br_true, asgT_nm, List.set_cons_succ, List.set_cons_zero, after_nx, ex_for, evi_enum, ev_cst, e2, withL_some, refOf_lst, lockO_none, unlock_none]
    generalize hr : (script.drop (min top script.length)).take (min 63 script.length - min top script.length) = rest
    have hrl : rest.length ≤ 63 := by rw [← hr, List.length_take]; omega
    have hre : rest ≠ [] → top ≤ script.length := by
      intro q
      have := List.length_pos_iff.mpr q
      rw [← hr, List.length_take, List.length_drop] at this
      omega
    rw [show enumL 0 (isD rest) = (rest.zipIdx).map (fun p => .tup [.int p.2, .int p.1]) from enumL_eq D.int 0 rest]
    obtain ⟨ρ', h', f1, t3, t4, t5, cs, rfl, rfl, hl⟩ := forL_inv (body := forB cf (T.tp (.cons (.nm 3) (.cons (.nm 4) .nil)))
        (.cons (.asg (.nm 5) (.bin .mod (.pr .int (.cons (.var 3) .nil)) (.var 1)))
        (.cons (.asg (.ix (.var 2) (.var 5)) (.bin .add (.ix (.var 2) (.var 5)) (.bin .mul (.var 4) (.bin .add (.var 3) (.cst (.int 2)))))) .nil)))
      (fun _ ρ h => ∃ (t3 t4 t5 : Option D) (cs : List Int), ρ = [some (.rol (isD script)), some (.int top), some (.ref 0), t3, t4, t5] ∧ h = [.lst (isD cs)] ∧ cs.length = min top script.length)
      ((rest.zipIdx).map (fun p => .tup [.int p.2, .int p.1])) 0 [some (.rol (isD script)), some (.int top), some (.ref 0), none, none, none] [.lst (isD (script.take top))] ⟨none, none, none, _, rfl, rfl, by rw [List.length_take]⟩ (by
        rintro i x ρ h hi ⟨t3, t4, t5, cs, rfl, rfl, hl⟩
        have hi1 := (List.getElem?_eq_some_iff.mp hi).1
        simp only [List.length_map, List.length_zipIdx] at hi1
        rw [List.getElem?_map, List.getElem?_zipIdx, List.getElem?_eq_getElem hi1] at hi
        simp only [Option.map_some, Option.some.injEq, Nat.zero_add] at hi
        subst hi
        have tl : top ≤ script.length := hre (by intro q; rw [q] at hi1; simp at hi1)
        have cl : cs.length = top := by omega
        have mz : (0 : Int) < (top : Int) := by omega
        have a0 : 0 ≤ (i : Int) % (top : Int) := Int.emod_nonneg _ (by omega)
        have a1 : (i : Int) % (top : Int) < ((isD cs).length : Int) := by rw [len_isD, cl]; exact Int.emod_lt_of_pos _ mz
        obtain ⟨j, hj⟩ : ∃ j : Nat, (i : Int) % (top : Int) = j := ⟨((i : Int) % (top : Int)).toNat, by omega⟩
        rw [hj] at a0 a1
        obtain ⟨y, ey⟩ := get_isD (l := cs) (i := j) (by rw [len_isD] at a1; omega)
        have i1 : ixD [.lst (isD cs)] (.ref 0) (.int (j : Int)) = some (.int y) := by rw [ix_ref (xs := isD cs) rfl j (by omega)]; exact ey
        have i2 : ∀ d, setD [.lst (isD cs)] (.ref 0) (.int (j : Int)) d = some [.lst ((isD cs).set j d)] := fun d => set_ref (h := [.lst (isD cs)]) rfl j (by omega) d
        have i3 : ∀ z : Int, (isD cs).set j (.int z) = isD (cs.set j z) := fun z => by simp [isD, List.map_set]
        have ms : ∀ (h : Hh) (z : Int), binD h .mul (.int z) (.int ((i : Int) + 2)) = some (.int (z * ((i : Int) + 2))) := fun h z => mul_small' h z (by simp only [bigI]; omega) (by simp only [bigI]; omega)
        refine ⟨_, _, ?_, some (.int (i : Int)), some (.int rest[i]), some (.int (j : Int)), cs.set j (y + rest[i] * ((i : Int) + 2)), rfl, rfl, by rw [List.length_set, hl]⟩
        simp -implicitDefEqProofs only [eng, eng0, forB, asgT_tp, itemsS_tup, withL_some, List.length_cons, List.length_nil, len_cons, len_nil, BEq.rfl, onlyIf_true, asgTs_cons, asgT_nm, bind_ok, asgTs_nil, List.set_cons_succ, List.set_cons_zero, exs_cons, ex_asg, ev_bin, ev_pr, evs_cons, evs_nil, ev_var, List.getElem?_cons_succ, List.getElem?_cons_zero, getV_some, pr_int_int, lift_some, mod_ok _ _ mz, hj, after_nx, ev_ix, i1, ev_cst, bin_add_int, ms, asgT_ix, i2, i3, putR_some, exs_nil])
    rw [f1]
    have := List.length_pos_iff.mpr es
    refine ⟨cs, [.dead], ?_, by omega, by omega⟩
    simp -implicitDefEqProofs [eng, eng0, frzR]
def HCells (cf : Cf) : Prop := ∀ (h : Hh) (script : List Int) (top : Nat), 0 < top → top ≤ 60 →
  ∃ cs : List Int, cf 15 [.rol (isD script), .int top] h = .ok (.lst (isD cs)) h ∧ 0 < cs.length ∧ cs.length ≤ top
theorem free_isD (l : List Int) : D.freeL (isD l) = true := freeL_of (by simp only [isD, List.mem_map]; rintro x ⟨p, _, rfl⟩; rfl)
theorem hCells {G : Nat → Option Fn} (n : Nat) (e : G 15 = some cellsF) : HCells (callN G (n + 1)) := by
  intro h script top t0 t1
  obtain ⟨cs, r, e1, l0, l1⟩ := cells_run (callN G n) script top t0 t1
  exact ⟨cs, by rw [callN_succ e]; exact call_pure (by simp [D.freeL, D.free, free_isD]) e1 (by simp [D.free, free_isD]), l0, l1⟩
def boxF (B C : Int) : Fn := { np := 2, ns := 3, body :=
    (.cons (.asg (.nm 2) (.ite (.cmp .lt (.var 1) (.pr .len (.cons (.var 0) .nil))) (.ix (.var 0) (.var 1)) (.cst (.int 0))))
    (.cons (.ret (.lr (.disp (.cons (.bin .mul (.pr .abs (.cons (.var 2) .nil)) (.pr .int (.cons (.cmp .ge (.pr .abs (.cons (.var 2) .nil)) (.bin .pow (.cst (.int 10)) (.cst (.int 18)))) .nil))) (.cons (.bin .add (.bin .add (.bin .mod (.pr .int (.cons (.var 2) .nil)) (.cst (.int 2305843009213693951))) (.bin .mul (.cst (.int B)) (.var 1))) (.cst (.int C))) (.cons (.cst (.int 0)) .nil))))))
    .nil)) }
theorem box_np (B C : Int) : (boxF B C).np ≤ (boxF B C).ns := by show 2 ≤ 3; decide
theorem pow_ok (h : Hh) {i j : Int} (a : 0 ≤ j) (b : j ≤ 1000000) (c : -bigI < i) (d : i < bigI) : binD h .pow (.int i) (.int j) = some (.int (i ^ j.toNat)) := by
  unfold binD; exact if_pos ⟨a, b, c, d⟩
theorem box_run (cf : Cf) (B C : Int) (b0 : 0 ≤ B) (b1 : B < 2 ^ 40) (cs : List Int) (k : Nat) (c0 : 0 ≤ C) (c1 : C < 2 ^ 60) (hk : k < cs.length) (k1 : k < 1000) :
    ∃ u : Ur, runFn cf (boxF B C) [.lst (isD cs), .int k] [] = .ok (.ref 0) [u.o] ∧ u.Ok 0 := by
  rw [runFn_eq _ _ _ _ rfl (box_np B C)]
  obtain ⟨y, ey⟩ := get_isD (l := cs) (i := k) hk
  have i1 : ∀ h, ixD h (.lst (isD cs)) (.int (k : Int)) = some (.int y) := fun h => by
    have := D.Seq.ix (d := .lst (isD cs)) (.inl rfl) h (k := (k : Int)) (by omega) (by rw [len_isD]; omega)
    rw [this]; simpa using ey
  have lt1 : (k : Int) < ((isD cs).length : Int) := by rw [len_isD]; omega
  have p18 : ∀ h, binD h .pow (.int 10) (.int 18) = some (.int 1000000000000000000) := fun h => by
    rw [pow_ok h (by decide) (by decide) (by decide) (by decide)]; rfl
  have ms : ∀ (h : Hh) (z : Int) (b : Bool), binD h .mul (.int z) (.int (if b = true then 1 else 0)) = some (.int (z * (if b = true then 1 else 0))) := fun h z b => mul_small' h z (by cases b <;> simp [bigI]) (by cases b <;> simp [bigI])
  have md : ∀ (h : Hh) (z : Int), binD h .mod (.int z) (.int 2305843009213693951) = some (.int (z % 2305843009213693951)) := fun h z => mod_ok h z (by decide)
  have mm : ∀ (h : Hh) (z : Int), binD h .mul (.int B) (.int z) = some (.int (B * z)) := fun h z => mul_small h (by simp only [bigI]; omega) (by simp only [bigI]; omega) z
  have bk0 : 0 ≤ B * (k : Int) := Int.mul_nonneg b0 (by omega)
  have bk1 : B * (k : Int) ≤ B * 1000 := Int.mul_le_mul_of_nonneg_left (by omega) b0
  have q0 := Int.emod_nonneg y (show (2305843009213693951 : Int) ≠ 0 by decide)
  have q1 := Int.emod_lt_of_pos y (show (0 : Int) < 2305843009213693951 by decide)
  have o3 : ∀ a b c : D, okLen [a, b, c] = true := fun a b c => okLen_of (by simp [big])
  refine ⟨⟨(if y < 0 then -y else y) * (if decide (1000000000000000000 ≤ (if y < 0 then -y else y)) = true then 1 else 0), y % 2305843009213693951 + B * (k : Int) + C, 0⟩, ?_, ?_⟩
  · simp -implicitDefEqProofs only [eng, eng0, boxF, exs_cons, ex_asg, ev_ite, ev_cmp, ev_var, ev_pr, evs_cons, evs_nil, List.map_cons, List.map_nil, List.cons_append, List.nil_append, List.replicate, List.getElem?_cons_succ, List.getElem?_cons_zero, getV_some, bind_ok, pr_len_lst, lift_some, cmp_lt_int, lt1, decide_true, Option.map_some, tru_bl, br_true, ev_ix, i1, asgT_nm, List.set_cons_succ, List.set_cons_zero, after_nx, ex_ret, ev_lr, evf_disp, ev_bin, pr_abs_int, ev_cst, p18, cmp_ge_int, pr_int_bl, ms, pr_int_int, md, mm, bin_add_int, freshL_ok', o3, onlyIf_true, List.length_nil, after_rt, asVal_rt]
    rfl
  · refine ⟨?_, ?_, ?_, show (0 : Int) ≤ 0 by decide, show (0 : Int) ≤ ((0 : Nat) : Int) by decide⟩
    · show (0 : Int) ≤ _ * _
      apply Int.mul_nonneg
      · split <;> omega
      · cases (decide (1000000000000000000 ≤ (if y < 0 then -y else y)) : Bool) <;> decide
    · show (0 : Int) ≤ y % 2305843009213693951 + B * (k : Int) + C
      omega
    · show y % 2305843009213693951 + B * (k : Int) + C < 2 ^ 63
      omega
def HBox (cf : Cf) : Prop := ∀ (h : Hh) (cs : List Int) (k : Nat), k < cs.length → k < 1000 → ∃ u : Ur, cf 13 [.lst (isD cs), .int k] h = .ok (.ref h.length) (h ++ [u.o]) ∧ u.Ok 0
theorem hBox {G : Nat → Option Fn} (n : Nat) (B C : Int) (b0 : 0 ≤ B) (b1 : B < 2 ^ 40) (e : G 13 = some (boxF B C)) (c0 : 0 ≤ C) (c1 : C < 2 ^ 60) : HBox (callN G (n + 1)) := by
  intro h cs k hk k1
  obtain ⟨u, e1, g⟩ := box_run (callN G n) B C b0 b1 cs k c0 c1 hk k1
  exact ⟨u, by rw [callN_succ e]; exact call_new (by simp [D.freeL, D.free, free_isD]) e1 rfl u.free, g⟩
/-- what a law's own turns give: True for each urn -/
def HRight (cf : Cf) : Prop := ∀ (h : Hh) (n : Nat) (u : Ur), h[n]? = some u.o → u.Ok 0 → ∃ h', cf 20 [.ref n] h = .ok (.bl true) h'
theorem hRight {G : Nat → Option Fn} (n : Nat) {f : Fn} (e : G 20 = some f) (r : ∀ u : Ur, u.Ok 0 → ∃ (u' : Ur) (r : Hh), runFn (callN G n) f [.ref 0] [u.o] = .ok (.bl true) (u'.o :: r)) : HRight (callN G (n + 1)) := by
  intro h j u hj g
  obtain ⟨u', r, e1⟩ := r u g
  exact ⟨_, by rw [callN_succ e]; exact call_one (ds := []) rfl hj u.free e1 rfl u'.free⟩
theorem mapL_any {body : D → Hh → R (List D)} {α : Type} (enc : α → D) (g : α → List D) : ∀ (xs : List α) (h : Hh), (∀ x ∈ xs, ∀ h, ∃ h', body (enc x) h = .ok (g x) h') → ∃ h', mapL body (xs.map enc) h = .ok (xs.flatMap g) h'
  | [], h, _ => ⟨h, rfl⟩
  | x :: r, h, k => by
    obtain ⟨h1, e1⟩ := k x (by simp) h
    obtain ⟨h2, e2⟩ := mapL_any enc g r h1 fun y hy => k y (by simp [hy])
    exact ⟨h2, by simp only [List.map_cons, mapL, e1, bind_ok, e2, List.flatMap_cons]⟩
/-- by hand, then for each cell -/
def lawF (top : Int) : Fn := { np := 1, ns := 3, body :=
    (.cons (.ife (.not (.call 19 .nil [])) (.cons (.ret (.cst (.bl false)))
    .nil) .nil)
    (.cons (.asg (.nm 1) (.call 15 (.cons (.var 0) (.cons (.cst (.int top)) .nil)) []))
    (.cons (.ret (.pr .all (.cons (.lv (.comp (.nm 2) (.rng .no (.pr .len (.cons (.var 1) .nil))) .nil (.call 20 (.cons (.call 13 (.cons (.var 1) (.cons (.var 2) .nil)) []) .nil) []))) .nil)))
    .nil))) }
theorem all_true (h : Hh) (n : Nat) : prD h .all [.lst (List.replicate n (.bl true))] = some (.bl true) := by
  have : boolsD (List.replicate n (.bl true)) = some (List.replicate n true) := by
    induction n with
    | zero => rfl
    | succ n ih => simp [List.replicate_succ, boolsD, ih]
  simp [prD, itemsL, this]
theorem law_np (t : Int) : (lawF t).np ≤ (lawF t).ns := by show 1 ≤ 3; decide
theorem law_run {cf : Cf} (top : Nat) (t0 : 0 < top) (t1 : top ≤ 60) (hand : ∀ h, cf 19 [] h = .ok (.bl true) h) (hc : HCells cf) (hb : HBox cf) (hr : HRight cf) (script : List Int) :
    ∃ h, runFn cf (lawF top) [.rol (isD script)] [] = .ok (.bl true) h := by
  rw [runFn_eq _ _ _ _ rfl (law_np top)]
  obtain ⟨cs, e1, l0, l1⟩ := hc [] script top t0 t1
  have ok2 : okR ((isD cs).length : Int) = true := okR_nat (by rw [len_isD]; omega)
  have m : ∃ h', mapL (compB cf (.nm 2) .nil (.call 20 (.cons (.call 13 (.cons (.var 1) (.cons (.var 2) .nil)) []) .nil) []) [some (.rol (isD script)), some (.lst (isD cs)), none]) (rngL 0 ((isD cs).length : Int)) [] = .ok (List.replicate cs.length (.bl true)) h' := by
    have := mapL_any (body := compB cf (.nm 2) .nil (.call 20 (.cons (.call 13 (.cons (.var 1) (.cons (.var 2) .nil)) []) .nil) []) [some (.rol (isD script)), some (.lst (isD cs)), none]) (fun k : Nat => D.int k) (fun _ => [.bl true]) (List.range cs.length) [] (by
      intro k hk h
      rw [List.mem_range] at hk
      obtain ⟨u, b1, b2⟩ := hb h cs k hk (by omega)
      obtain ⟨h', b3⟩ := hr (h ++ [u.o]) h.length u (by simp) b2
      refine ⟨h', ?_⟩
      simp -implicitDefEqProofs [eng, eng0, compB, b1, b3])
    obtain ⟨h', e⟩ := this
    refine ⟨h', ?_⟩
    have r1 : rngL 0 ((isD cs).length : Int) = (List.range cs.length).map fun k : Nat => D.int k := by
      rw [rngL, len_isD]; simp
    rw [r1, e]
    have : (List.range cs.length).flatMap (fun _ => [D.bl true]) = List.replicate cs.length (.bl true) := by
      rw [← List.map_eq_flatMap, List.map_const', List.length_range]
    rw [this]
  obtain ⟨h', m⟩ := m
  refine ⟨h', ?_⟩
  have ol : okLen (List.replicate cs.length (D.bl true)) = true := okLen_of (by simp [big]; omega)
  simp -implicitDefEqProofs only [eng, eng0, lawF, exs_cons, ex_ife, ev_not, ev_call, evs_nil, bind_ok, permD_nil, perR_some, hand, tru_bl, br_true, br_false, after_nx, exs_nil, ex_asg, evs_cons, ev_var, List.map_cons, List.map_nil, List.cons_append, List.nil_append, List.replicate, List.getElem?_cons_succ, List.getElem?_cons_zero, getV_some, ev_cst, e1, asgT_nm, List.set_cons_succ, List.set_cons_zero, ex_ret, ev_pr, ev_lv, evf_comp, evi_rng, evo_no, pr_len_lst, lift_some, asInt_int, Option.getD_none, okR_0, ok2, Bool.and_self, onlyIf_true, lockO_none, unlock_none, slots_nm, wipe_cons, wipe_nil, m, calm_okM, freshL_ok', ol, all_true, after_rt, asVal_rt]
/-- an answer by the kernel -/
def isTrue : R D → Bool
  | .ok (.bl true) _ => true
  | _ => false
theorem isTrue_ok : ∀ {r : R D}, isTrue r = true → ∃ h, r = .ok (.bl true) h
  | .ok (.bl true) h, _ => ⟨h, rfl⟩
theorem hand_ok {G : Nat → Option Fn} (n : Nat) {f : Fn} (e : G 19 = some f) (t : isTrue (runFn (callN G n) f [] []) = true) : ∀ h, callN G (n + 1) 19 [] h = .ok (.bl true) h := by
  intro h
  obtain ⟨hl, q⟩ := isTrue_ok t
  rw [callN_succ e]
  exact call_pure rfl q rfl
end Ls
namespace Ls
/-- the cells first, then by hand and for each cell -/
def lawF2 (top : Int) : Fn := { np := 1, ns := 3, body :=
    (.cons (.asg (.nm 1) (.call 15 (.cons (.var 0) (.cons (.cst (.int top)) .nil)) []))
    (.cons (.ret (.bool true (.cons (.call 19 .nil []) (.cons (.pr .all (.cons (.lv (.comp (.nm 2) (.rng .no (.pr .len (.cons (.var 1) .nil))) .nil (.call 20 (.cons (.call 13 (.cons (.var 1) (.cons (.var 2) .nil)) []) .nil) []))) .nil)) .nil))))
    .nil)) }
theorem law_np2 (t : Int) : (lawF2 t).np ≤ (lawF2 t).ns := by show 1 ≤ 3; decide
theorem law_run2 {cf : Cf} (top : Nat) (t0 : 0 < top) (t1 : top ≤ 60) (hand : ∀ h, cf 19 [] h = .ok (.bl true) h) (hc : HCells cf) (hb : HBox cf) (hr : HRight cf) (script : List Int) :
    ∃ h, runFn cf (lawF2 top) [.rol (isD script)] [] = .ok (.bl true) h := by
  rw [runFn_eq _ _ _ _ rfl (law_np2 top)]
  obtain ⟨cs, e1, l0, l1⟩ := hc [] script top t0 t1
  have ok2 : okR ((isD cs).length : Int) = true := okR_nat (by rw [len_isD]; omega)
  have m : ∃ h', mapL (compB cf (.nm 2) .nil (.call 20 (.cons (.call 13 (.cons (.var 1) (.cons (.var 2) .nil)) []) .nil) []) [some (.rol (isD script)), some (.lst (isD cs)), none]) (rngL 0 ((isD cs).length : Int)) [] = .ok (List.replicate cs.length (.bl true)) h' := by
    have := mapL_any (body := compB cf (.nm 2) .nil (.call 20 (.cons (.call 13 (.cons (.var 1) (.cons (.var 2) .nil)) []) .nil) []) [some (.rol (isD script)), some (.lst (isD cs)), none]) (fun k : Nat => D.int k) (fun _ => [.bl true]) (List.range cs.length) [] (by
      intro k hk h
      rw [List.mem_range] at hk
      obtain ⟨u, b1, b2⟩ := hb h cs k hk (by omega)
      obtain ⟨h', b3⟩ := hr (h ++ [u.o]) h.length u (by simp) b2
      refine ⟨h', ?_⟩
      simp -implicitDefEqProofs [eng, eng0, compB, b1, b3])
    obtain ⟨h', e⟩ := this
    refine ⟨h', ?_⟩
    have r1 : rngL 0 ((isD cs).length : Int) = (List.range cs.length).map fun k : Nat => D.int k := by
      rw [rngL, len_isD]; simp
    rw [r1, e]
    have : (List.range cs.length).flatMap (fun _ => [D.bl true]) = List.replicate cs.length (.bl true) := by
      rw [← List.map_eq_flatMap, List.map_const', List.length_range]
    rw [this]
  obtain ⟨h', m⟩ := m
  refine ⟨h', ?_⟩
  have ol : okLen (List.replicate cs.length (D.bl true)) = true := okLen_of (by simp [big]; omega)
  simp -implicitDefEqProofs only [eng, eng0, lawF2, exs_cons, ex_asg, ev_call, evs_cons, evs_nil, ev_var, List.map_cons, List.map_nil, List.cons_append, List.nil_append, List.replicate, List.getElem?_cons_succ, List.getElem?_cons_zero, getV_some, bind_ok, ev_cst, permD_nil, perR_some, e1, asgT_nm, List.set_cons_succ, List.set_cons_zero, after_nx, ex_ret, ev_bool, evb_and, hand, tru_bl, br_true, evb_one, ev_pr, ev_lv, evf_comp, evi_rng, evo_no, pr_len_lst, lift_some, asInt_int, Option.getD_none, okR_0, ok2, Bool.and_self, onlyIf_true, lockO_none, unlock_none, slots_nm, wipe_cons, wipe_nil, m, calm_okM, freshL_ok', ol, all_true, after_rt, asVal_rt]
end Ls
namespace Ls
/-! turns of a law: for turn in range(N): body; return True -/
theorem lst_s {α : Type} {n : Nat} {xs : List α} (e : xs.length = n + 1) : ∃ x ys, xs = x :: ys ∧ ys.length = n := by
  cases xs with
  | nil => simp at e
  | cons x ys => exact ⟨x, ys, rfl, by simpa using e⟩
theorem lst_0 {α : Type} {xs : List α} (e : xs.length = 0) : xs = [] := List.length_eq_zero_iff.mp e
theorem lst_1 {α : Type} {xs : List α} (e : xs.length = 1) : ∃ x1, xs = [x1] := by
  obtain ⟨x, ys, rfl, h⟩ := lst_s e
  exact ⟨x, by rw [lst_0 h]⟩
theorem lst_2 {α : Type} {xs : List α} (e : xs.length = 2) : ∃ x1 x2, xs = [x1, x2] := by
  obtain ⟨x, ys, rfl, h⟩ := lst_s e
  obtain ⟨x2, rfl⟩ := lst_1 h
  exact ⟨x, x2, rfl⟩
theorem lst_3 {α : Type} {xs : List α} (e : xs.length = 3) : ∃ x1 x2 x3, xs = [x1, x2, x3] := by
  obtain ⟨x, ys, rfl, h⟩ := lst_s e
  obtain ⟨x2, x3, rfl⟩ := lst_2 h
  exact ⟨x, x2, x3, rfl⟩
theorem lst_4 {α : Type} {xs : List α} (e : xs.length = 4) : ∃ x1 x2 x3 x4, xs = [x1, x2, x3, x4] := by
  obtain ⟨x, ys, rfl, h⟩ := lst_s e
  obtain ⟨x2, x3, x4, rfl⟩ := lst_3 h
  exact ⟨x, x2, x3, x4, rfl⟩
theorem lst_5 {α : Type} {xs : List α} (e : xs.length = 5) : ∃ x1 x2 x3 x4 x5, xs = [x1, x2, x3, x4, x5] := by
  obtain ⟨x, ys, rfl, h⟩ := lst_s e
  obtain ⟨x2, x3, x4, x5, rfl⟩ := lst_4 h
  exact ⟨x, x2, x3, x4, x5, rfl⟩
theorem lst_6 {α : Type} {xs : List α} (e : xs.length = 6) : ∃ x1 x2 x3 x4 x5 x6, xs = [x1, x2, x3, x4, x5, x6] := by
  obtain ⟨x, ys, rfl, h⟩ := lst_s e
  obtain ⟨x2, x3, x4, x5, x6, rfl⟩ := lst_5 h
  exact ⟨x, x2, x3, x4, x5, x6, rfl⟩
theorem lst_7 {α : Type} {xs : List α} (e : xs.length = 7) : ∃ x1 x2 x3 x4 x5 x6 x7, xs = [x1, x2, x3, x4, x5, x6, x7] := by
  obtain ⟨x, ys, rfl, h⟩ := lst_s e
  obtain ⟨x2, x3, x4, x5, x6, x7, rfl⟩ := lst_6 h
  exact ⟨x, x2, x3, x4, x5, x6, x7, rfl⟩
theorem lst_8 {α : Type} {xs : List α} (e : xs.length = 8) : ∃ x1 x2 x3 x4 x5 x6 x7 x8, xs = [x1, x2, x3, x4, x5, x6, x7, x8] := by
  obtain ⟨x, ys, rfl, h⟩ := lst_s e
  obtain ⟨x2, x3, x4, x5, x6, x7, x8, rfl⟩ := lst_7 h
  exact ⟨x, x2, x3, x4, x5, x6, x7, x8, rfl⟩
theorem lst_9 {α : Type} {xs : List α} (e : xs.length = 9) : ∃ x1 x2 x3 x4 x5 x6 x7 x8 x9, xs = [x1, x2, x3, x4, x5, x6, x7, x8, x9] := by
  obtain ⟨x, ys, rfl, h⟩ := lst_s e
  obtain ⟨x2, x3, x4, x5, x6, x7, x8, x9, rfl⟩ := lst_8 h
  exact ⟨x, x2, x3, x4, x5, x6, x7, x8, x9, rfl⟩
theorem lst_10 {α : Type} {xs : List α} (e : xs.length = 10) : ∃ x1 x2 x3 x4 x5 x6 x7 x8 x9 x10, xs = [x1, x2, x3, x4, x5, x6, x7, x8, x9, x10] := by
  obtain ⟨x, ys, rfl, h⟩ := lst_s e
  obtain ⟨x2, x3, x4, x5, x6, x7, x8, x9, x10, rfl⟩ := lst_9 h
  exact ⟨x, x2, x3, x4, x5, x6, x7, x8, x9, x10, rfl⟩
theorem lst_11 {α : Type} {xs : List α} (e : xs.length = 11) : ∃ x1 x2 x3 x4 x5 x6 x7 x8 x9 x10 x11, xs = [x1, x2, x3, x4, x5, x6, x7, x8, x9, x10, x11] := by
  obtain ⟨x, ys, rfl, h⟩ := lst_s e
  obtain ⟨x2, x3, x4, x5, x6, x7, x8, x9, x10, x11, rfl⟩ := lst_10 h
  exact ⟨x, x2, x3, x4, x5, x6, x7, x8, x9, x10, x11, rfl⟩
theorem lst_12 {α : Type} {xs : List α} (e : xs.length = 12) : ∃ x1 x2 x3 x4 x5 x6 x7 x8 x9 x10 x11 x12, xs = [x1, x2, x3, x4, x5, x6, x7, x8, x9, x10, x11, x12] := by
  obtain ⟨x, ys, rfl, h⟩ := lst_s e
  obtain ⟨x2, x3, x4, x5, x6, x7, x8, x9, x10, x11, x12, rfl⟩ := lst_11 h
  exact ⟨x, x2, x3, x4, x5, x6, x7, x8, x9, x10, x11, x12, rfl⟩
theorem lst_13 {α : Type} {xs : List α} (e : xs.length = 13) : ∃ x1 x2 x3 x4 x5 x6 x7 x8 x9 x10 x11 x12 x13, xs = [x1, x2, x3, x4, x5, x6, x7, x8, x9, x10, x11, x12, x13] := by
  obtain ⟨x, ys, rfl, h⟩ := lst_s e
  obtain ⟨x2, x3, x4, x5, x6, x7, x8, x9, x10, x11, x12, x13, rfl⟩ := lst_12 h
  exact ⟨x, x2, x3, x4, x5, x6, x7, x8, x9, x10, x11, x12, x13, rfl⟩
theorem lst_14 {α : Type} {xs : List α} (e : xs.length = 14) : ∃ x1 x2 x3 x4 x5 x6 x7 x8 x9 x10 x11 x12 x13 x14, xs = [x1, x2, x3, x4, x5, x6, x7, x8, x9, x10, x11, x12, x13, x14] := by
  obtain ⟨x, ys, rfl, h⟩ := lst_s e
  obtain ⟨x2, x3, x4, x5, x6, x7, x8, x9, x10, x11, x12, x13, x14, rfl⟩ := lst_13 h
  exact ⟨x, x2, x3, x4, x5, x6, x7, x8, x9, x10, x11, x12, x13, x14, rfl⟩
theorem lst_15 {α : Type} {xs : List α} (e : xs.length = 15) : ∃ x1 x2 x3 x4 x5 x6 x7 x8 x9 x10 x11 x12 x13 x14 x15, xs = [x1, x2, x3, x4, x5, x6, x7, x8, x9, x10, x11, x12, x13, x14, x15] := by
  obtain ⟨x, ys, rfl, h⟩ := lst_s e
  obtain ⟨x2, x3, x4, x5, x6, x7, x8, x9, x10, x11, x12, x13, x14, x15, rfl⟩ := lst_14 h
  exact ⟨x, x2, x3, x4, x5, x6, x7, x8, x9, x10, x11, x12, x13, x14, x15, rfl⟩
theorem lst_16 {α : Type} {xs : List α} (e : xs.length = 16) : ∃ x1 x2 x3 x4 x5 x6 x7 x8 x9 x10 x11 x12 x13 x14 x15 x16, xs = [x1, x2, x3, x4, x5, x6, x7, x8, x9, x10, x11, x12, x13, x14, x15, x16] := by
  obtain ⟨x, ys, rfl, h⟩ := lst_s e
  obtain ⟨x2, x3, x4, x5, x6, x7, x8, x9, x10, x11, x12, x13, x14, x15, x16, rfl⟩ := lst_15 h
  exact ⟨x, x2, x3, x4, x5, x6, x7, x8, x9, x10, x11, x12, x13, x14, x15, x16, rfl⟩
theorem lst_17 {α : Type} {xs : List α} (e : xs.length = 17) : ∃ x1 x2 x3 x4 x5 x6 x7 x8 x9 x10 x11 x12 x13 x14 x15 x16 x17, xs = [x1, x2, x3, x4, x5, x6, x7, x8, x9, x10, x11, x12, x13, x14, x15, x16, x17] := by
  obtain ⟨x, ys, rfl, h⟩ := lst_s e
  obtain ⟨x2, x3, x4, x5, x6, x7, x8, x9, x10, x11, x12, x13, x14, x15, x16, x17, rfl⟩ := lst_16 h
  exact ⟨x, x2, x3, x4, x5, x6, x7, x8, x9, x10, x11, x12, x13, x14, x15, x16, x17, rfl⟩
theorem lst_18 {α : Type} {xs : List α} (e : xs.length = 18) : ∃ x1 x2 x3 x4 x5 x6 x7 x8 x9 x10 x11 x12 x13 x14 x15 x16 x17 x18, xs = [x1, x2, x3, x4, x5, x6, x7, x8, x9, x10, x11, x12, x13, x14, x15, x16, x17, x18] := by
  obtain ⟨x, ys, rfl, h⟩ := lst_s e
  obtain ⟨x2, x3, x4, x5, x6, x7, x8, x9, x10, x11, x12, x13, x14, x15, x16, x17, x18, rfl⟩ := lst_17 h
  exact ⟨x, x2, x3, x4, x5, x6, x7, x8, x9, x10, x11, x12, x13, x14, x15, x16, x17, x18, rfl⟩
theorem lst_19 {α : Type} {xs : List α} (e : xs.length = 19) : ∃ x1 x2 x3 x4 x5 x6 x7 x8 x9 x10 x11 x12 x13 x14 x15 x16 x17 x18 x19, xs = [x1, x2, x3, x4, x5, x6, x7, x8, x9, x10, x11, x12, x13, x14, x15, x16, x17, x18, x19] := by
  obtain ⟨x, ys, rfl, h⟩ := lst_s e
  obtain ⟨x2, x3, x4, x5, x6, x7, x8, x9, x10, x11, x12, x13, x14, x15, x16, x17, x18, x19, rfl⟩ := lst_18 h
  exact ⟨x, x2, x3, x4, x5, x6, x7, x8, x9, x10, x11, x12, x13, x14, x15, x16, x17, x18, x19, rfl⟩
theorem lst_20 {α : Type} {xs : List α} (e : xs.length = 20) : ∃ x1 x2 x3 x4 x5 x6 x7 x8 x9 x10 x11 x12 x13 x14 x15 x16 x17 x18 x19 x20, xs = [x1, x2, x3, x4, x5, x6, x7, x8, x9, x10, x11, x12, x13, x14, x15, x16, x17, x18, x19, x20] := by
  obtain ⟨x, ys, rfl, h⟩ := lst_s e
  obtain ⟨x2, x3, x4, x5, x6, x7, x8, x9, x10, x11, x12, x13, x14, x15, x16, x17, x18, x19, x20, rfl⟩ := lst_19 h
  exact ⟨x, x2, x3, x4, x5, x6, x7, x8, x9, x10, x11, x12, x13, x14, x15, x16, x17, x18, x19, x20, rfl⟩
theorem lst_21 {α : Type} {xs : List α} (e : xs.length = 21) : ∃ x1 x2 x3 x4 x5 x6 x7 x8 x9 x10 x11 x12 x13 x14 x15 x16 x17 x18 x19 x20 x21, xs = [x1, x2, x3, x4, x5, x6, x7, x8, x9, x10, x11, x12, x13, x14, x15, x16, x17, x18, x19, x20, x21] := by
  obtain ⟨x, ys, rfl, h⟩ := lst_s e
  obtain ⟨x2, x3, x4, x5, x6, x7, x8, x9, x10, x11, x12, x13, x14, x15, x16, x17, x18, x19, x20, x21, rfl⟩ := lst_20 h
  exact ⟨x, x2, x3, x4, x5, x6, x7, x8, x9, x10, x11, x12, x13, x14, x15, x16, x17, x18, x19, x20, x21, rfl⟩
theorem lst_22 {α : Type} {xs : List α} (e : xs.length = 22) : ∃ x1 x2 x3 x4 x5 x6 x7 x8 x9 x10 x11 x12 x13 x14 x15 x16 x17 x18 x19 x20 x21 x22, xs = [x1, x2, x3, x4, x5, x6, x7, x8, x9, x10, x11, x12, x13, x14, x15, x16, x17, x18, x19, x20, x21, x22] := by
  obtain ⟨x, ys, rfl, h⟩ := lst_s e
  obtain ⟨x2, x3, x4, x5, x6, x7, x8, x9, x10, x11, x12, x13, x14, x15, x16, x17, x18, x19, x20, x21, x22, rfl⟩ := lst_21 h
  exact ⟨x, x2, x3, x4, x5, x6, x7, x8, x9, x10, x11, x12, x13, x14, x15, x16, x17, x18, x19, x20, x21, x22, rfl⟩
theorem lst_23 {α : Type} {xs : List α} (e : xs.length = 23) : ∃ x1 x2 x3 x4 x5 x6 x7 x8 x9 x10 x11 x12 x13 x14 x15 x16 x17 x18 x19 x20 x21 x22 x23, xs = [x1, x2, x3, x4, x5, x6, x7, x8, x9, x10, x11, x12, x13, x14, x15, x16, x17, x18, x19, x20, x21, x22, x23] := by
  obtain ⟨x, ys, rfl, h⟩ := lst_s e
  obtain ⟨x2, x3, x4, x5, x6, x7, x8, x9, x10, x11, x12, x13, x14, x15, x16, x17, x18, x19, x20, x21, x22, x23, rfl⟩ := lst_22 h
  exact ⟨x, x2, x3, x4, x5, x6, x7, x8, x9, x10, x11, x12, x13, x14, x15, x16, x17, x18, x19, x20, x21, x22, x23, rfl⟩
theorem lst_24 {α : Type} {xs : List α} (e : xs.length = 24) : ∃ x1 x2 x3 x4 x5 x6 x7 x8 x9 x10 x11 x12 x13 x14 x15 x16 x17 x18 x19 x20 x21 x22 x23 x24, xs = [x1, x2, x3, x4, x5, x6, x7, x8, x9, x10, x11, x12, x13, x14, x15, x16, x17, x18, x19, x20, x21, x22, x23, x24] := by
  obtain ⟨x, ys, rfl, h⟩ := lst_s e
  obtain ⟨x2, x3, x4, x5, x6, x7, x8, x9, x10, x11, x12, x13, x14, x15, x16, x17, x18, x19, x20, x21, x22, x23, x24, rfl⟩ := lst_23 h
  exact ⟨x, x2, x3, x4, x5, x6, x7, x8, x9, x10, x11, x12, x13, x14, x15, x16, x17, x18, x19, x20, x21, x22, x23, x24, rfl⟩
theorem lst_25 {α : Type} {xs : List α} (e : xs.length = 25) : ∃ x1 x2 x3 x4 x5 x6 x7 x8 x9 x10 x11 x12 x13 x14 x15 x16 x17 x18 x19 x20 x21 x22 x23 x24 x25, xs = [x1, x2, x3, x4, x5, x6, x7, x8, x9, x10, x11, x12, x13, x14, x15, x16, x17, x18, x19, x20, x21, x22, x23, x24, x25] := by
  obtain ⟨x, ys, rfl, h⟩ := lst_s e
  obtain ⟨x2, x3, x4, x5, x6, x7, x8, x9, x10, x11, x12, x13, x14, x15, x16, x17, x18, x19, x20, x21, x22, x23, x24, x25, rfl⟩ := lst_24 h
  exact ⟨x, x2, x3, x4, x5, x6, x7, x8, x9, x10, x11, x12, x13, x14, x15, x16, x17, x18, x19, x20, x21, x22, x23, x24, x25, rfl⟩
theorem lst_26 {α : Type} {xs : List α} (e : xs.length = 26) : ∃ x1 x2 x3 x4 x5 x6 x7 x8 x9 x10 x11 x12 x13 x14 x15 x16 x17 x18 x19 x20 x21 x22 x23 x24 x25 x26, xs = [x1, x2, x3, x4, x5, x6, x7, x8, x9, x10, x11, x12, x13, x14, x15, x16, x17, x18, x19, x20, x21, x22, x23, x24, x25, x26] := by
  obtain ⟨x, ys, rfl, h⟩ := lst_s e
  obtain ⟨x2, x3, x4, x5, x6, x7, x8, x9, x10, x11, x12, x13, x14, x15, x16, x17, x18, x19, x20, x21, x22, x23, x24, x25, x26, rfl⟩ := lst_25 h
  exact ⟨x, x2, x3, x4, x5, x6, x7, x8, x9, x10, x11, x12, x13, x14, x15, x16, x17, x18, x19, x20, x21, x22, x23, x24, x25, x26, rfl⟩
def turnsF (N : Int) (ns : Nat) (B : Ss) : Fn := { np := 1, ns := ns + 1, body := (.cons (.for_ (.nm 1) (.rng .no (.cst (.int N))) B) (.cons (.ret (.cst (.bl true))) .nil)) }
theorem turns_run {cf : Cf} (N : Nat) (ns : Nat) (B : Ss) (c : Nat) (hN : N ≤ 1000) (hc : c ≤ 100000000)
    (step : ∀ (u : Ur) (k : Nat) (xs : List (Option D)) (r : Hh), xs.length = ns → u.Ok k → k + c < 2 ^ 50 →
      ∃ (ys : List (Option D)) (u' : Ur) (r' : Hh), exs cf B (some (.ref 0) :: xs) (u.o :: r) = .ok (.nx (some (.ref 0) :: ys)) (u'.o :: r') ∧ ys.length = ns ∧ u'.Ok (k + c))
    (u : Ur) (g : u.Ok 0) : ∃ (u' : Ur) (r : Hh), runFn cf (turnsF N ns B) [.ref 0] [u.o] = .ok (.bl true) (u'.o :: r) := by
  rw [runFn_eq _ _ _ _ rfl (by show 1 ≤ ns + 1; omega)]
  have o8 : okR (N : Int) = true := okR_nat (by omega)
  have e0 : List.map some [D.ref 0] ++ List.replicate ((turnsF N ns B).ns - (turnsF N ns B).np) none = some (.ref 0) :: List.replicate ns none := by simp [turnsF]
  rw [e0]
  simp -implicitDefEqProofs only [eng, eng0, turnsF, exs_cons, ex_for, evi_rng, evo_no, ev_cst, bind_ok, asInt_int, Option.getD_none, okR_0, o8, Bool.and_self, onlyIf_true, unlock_none, lockO_none]
  obtain ⟨ρ', h', e1, xs, u', r', rfl, rfl, _, g'⟩ := forL_inv (body := forB cf (.nm 1) B)
    (fun i ρ h => ∃ (xs : List (Option D)) (u : Ur) (r : Hh), ρ = some (.ref 0) :: xs ∧ h = u.o :: r ∧ xs.length = ns ∧ u.Ok (c * i))
    (rngL 0 N) 0 (some (.ref 0) :: List.replicate ns none) [u.o] ⟨_, u, [], rfl, rfl, by simp, g⟩ (by
      rintro i x ρ h hi ⟨xs, u, r, rfl, rfl, hl, g⟩
      have hi' : i < N := by
        have := (List.getElem?_eq_some_iff.mp hi).1
        rw [rngL_len] at this; omega
      rw [Nat.zero_add] at *
      have b1 : c * i ≤ 100000000 * 1000 := Nat.mul_le_mul hc (by omega)
      obtain ⟨ys, u', r', e2, hy, g2⟩ := step u (c * i) (xs.set 0 (some x)) r (by rw [List.length_set, hl]) g (by omega)
      refine ⟨_, _, ?_, ys, u', r', rfl, rfl, hy, by rw [Nat.mul_add, Nat.mul_one]; exact g2⟩
      have : (some (D.ref 0) :: xs).set 1 (some x) = some (.ref 0) :: xs.set 0 (some x) := rfl
      simp -implicitDefEqProofs only [eng, eng0, forB, asgT_nm, bind_ok, this, e2])
  rw [e1]
  exact ⟨u', r', by simp -implicitDefEqProofs [eng, eng0]⟩
end Ls
namespace Ls
/-! names, digits, texts; laws whose by-hand part stands in `right` -/
theorem call_perr {run : List D → Hh → R D} {ds : List D} {h hl : Hh} {x : Xn} (hf : D.freeL ds = true) (hr : run ds [] = .err x hl) (hx : D.freeL x.fs = true) : localCall run ds h = .err x h := by
  obtain ⟨i1, i2⟩ := renum_free 0 ds hf
  simp only [localCall, i2, i1, nodupN, pick, List.mapM_nil, if_true]
  show (if ([] : Hh).all freeO = true then _ else _) = _
  simp only [List.all_nil, if_true, hr, hx, List.length_nil, List.take_zero, Bool.and_self]
  cases hl <;> rfl
theorem digit_ch : ∀ d < 10, (Nat.digitChar d).toNat = 48 + d := by decide
theorem digs_lt {n : Nat} (h : n < 10) : digs n = [48 + n] := by simp [digs, Nat.toDigits_of_lt_base h, digit_ch n h]
theorem digs_ge {n : Nat} (h : 10 ≤ n) : digs n = digs (n / 10) ++ [48 + n % 10] := by
  simp [digs, Nat.toDigits_of_base_le (by decide : 1 < 10) h, digit_ch (n % 10) (Nat.mod_lt _ (by decide))]
theorem digs_ne (n : Nat) : digs n ≠ [] := by simp [digs, Nat.toDigits_ne_nil]
theorem digs_len {n k : Nat} (k0 : 0 < k) (h : n < 10 ^ k) : (digs n).length ≤ k := by
  simpa [digs] using (Nat.length_toDigits_le_iff (by decide : 1 < 10) k0).mpr h
theorem digs_ind {P : Nat → Prop} (a : ∀ n < 10, P n) (b : ∀ n, 10 ≤ n → P (n / 10) → P n) : ∀ n, P n := by
  intro n
  induction n using Nat.strongRecOn with
  | ind n ih =>
    by_cases h : n < 10
    · exact a n h
    · exact b n (by omega) (ih (n / 10) (by omega))
theorem digs_dig (n : Nat) : ∀ c ∈ digs n, 48 ≤ c ∧ c ≤ 57 := by
  induction n using digs_ind with
  | a n h => rw [digs_lt h]; simp; omega
  | b n h ih =>
    rw [digs_ge h]
    intro c hc
    rcases List.mem_append.mp hc with z | z
    · exact ih c z
    · simp at z; omega
theorem digs_val (n : Nat) : decV (digs n) = n := by
  induction n using digs_ind with
  | a n h => rw [digs_lt h]; simp [decV]
  | b n h ih =>
    rw [digs_ge h]
    rw [decV] at ih ⊢
    rw [List.foldl_append, ih]
    simp
    omega
theorem digs_head (n : Nat) (p : 1 ≤ n) : ∃ c r, digs n = c :: r ∧ c ≠ 48 := by
  revert p
  induction n using digs_ind with
  | a n h => intro p; rw [digs_lt h]; exact ⟨_, _, rfl, by omega⟩
  | b n h ih =>
    intro p
    obtain ⟨c, r, e, k⟩ := ih (by omega)
    rw [digs_ge h, e]
    exact ⟨c, _, rfl, k⟩
/-! names -/
def letters : List Nat := [97, 98, 99, 100, 101, 102, 103, 104, 105, 106, 107, 108, 109, 110, 111, 112, 113, 114, 115, 116, 117, 118, 119, 120, 121, 122]
def digits : List Nat := [48, 49, 50, 51, 52, 53, 54, 55, 56, 57]
theorem mem_letters (c : Nat) : c ∈ letters ↔ 97 ≤ c ∧ c ≤ 122 := by simp only [letters, List.mem_cons, List.not_mem_nil, or_false]; omega
theorem mem_digits (c : Nat) : c ∈ digits ↔ 48 ≤ c ∧ c ≤ 57 := by simp only [digits, List.mem_cons, List.not_mem_nil, or_false]; omega
def nameB (L s : List Nat) : Bool := decide (1 ≤ s.length) && (decide (s.length ≤ 8) && s.all fun c => decide (c ∈ L))
def isNameF (L : List Nat) : Fn := { np := 1, ns := 2, body :=
    (.cons (.ret (.bool true (.cons (.isi (.var 0) [.str]) (.cons (.chn .le .le (.cst (.int 1)) (.pr .len (.cons (.var 0) .nil)) (.glb "LONGEST" (.int 8))) (.cons (.pr .all (.cons (.lv (.comp (.nm 1) (.sgn (.var 0)) .nil (.cmp .isin (.var 1) (.glb "LETTERS" (.str L))))) .nil)) .nil)))))
    .nil) }
theorem name_np (L : List Nat) : (isNameF L).np ≤ (isNameF L).ns := by show 1 ≤ 2; decide
theorem is_name_run (cf : Cf) (L s : List Nat) (hs : s.length ≤ 1000) : runFn cf (isNameF L) [.str s] [] = .ok (.bl (nameB L s)) [] := by
  rw [runFn_eq _ _ _ _ rfl (name_np L)]
  have o1 : okLen s = true := okLen_of (by simp [big]; omega)
  have m : mapL (compB cf (.nm 1) .nil (.cmp .isin (.var 1) (.glb "LETTERS" (.str L))) [some (.str s), none]) (s.map fun c => .str [c]) [] = .ok (s.map fun c => .bl (decide (c ∈ L))) [] := by
    rw [mapL_map _ (fun c => [D.bl (decide (c ∈ L))])]
    · rw [← List.map_eq_flatMap]
    · intro x hx
      simp -implicitDefEqProofs [eng, eng0, compB, cmpD]
  have o2 : okLen (s.map fun c => D.bl (decide (c ∈ L))) = true := okLen_of (by simp [big]; omega)
  by_cases a : 1 ≤ s.length
  · have a' : (1 : Int) ≤ (s.length : Int) := by omega
    by_cases b : s.length ≤ 8
    · have b' : (s.length : Int) ≤ 8 := by omega
      simp -implicitDefEqProofs [eng, eng0, isNameF, isTy, prD, o1, m, a, a', b, b', o2, itemsL, boolsD_all, nameB]
    · have b' : ¬ (s.length : Int) ≤ 8 := by omega
      simp -implicitDefEqProofs [eng, eng0, isNameF, isTy, prD, o1, m, a, a', b, b', o2, itemsL, boolsD_all, nameB]
  · have a' : ¬ (1 : Int) ≤ (s.length : Int) := by omega
    simp -implicitDefEqProofs [eng, eng0, isNameF, isTy, prD, o1, m, a, a', nameB]
/-- is_name, number 5 -/
theorem hNameS {G : Nat → Option Fn} (n : Nat) {L : List Nat} (e : G 5 = some (isNameF L)) (s : List Nat) (h : Hh) (hs : s.length ≤ 1000) : callN G (n + 1) 5 [.str s] h = .ok (.bl (nameB L s)) h := by
  rw [callN_succ e]; exact call_pure rfl (is_name_run _ L s hs) rfl
/-! texts -/
theorem len_str (h : Hh) {s : List Nat} (e : s.length ≤ 1000) : prD h .len [.str s] = some (.int s.length) := by
  have : okLen s = true := okLen_of (by simp [big]; omega)
  simp [prD, this]
theorem sl_lo (h : Hh) {s : List Nat} (e : s.length ≤ 1000) (a : Nat) : slD h (.str s) none (some (a : Int)) = some (.str (s.take a)) := by
  have : okLen s = true := okLen_of (by simp [big]; omega)
  simp only [slD, this, if_true, slice_take s (show (0 : Int) ≤ a by omega)]; simp
theorem sl_hi (h : Hh) {s : List Nat} (e : s.length ≤ 1000) (a : Nat) : slD h (.str s) (some (a : Int)) none = some (.str (s.drop a)) := by
  have : okLen s = true := okLen_of (by simp [big]; omega)
  simp only [slD, this, if_true, slice_drop s (show (0 : Int) ≤ a by omega)]; simp
theorem ix_str (h : Hh) {p r : List Nat} {c : Nat} (e : (p ++ c :: r).length ≤ 1000) : ixD h (.str (p ++ c :: r)) (.int (p.length : Nat)) = some (.str [c]) := by
  have o : okLen (p ++ c :: r) = true := okLen_of (by simp [big] at e ⊢; omega)
  have : at_ (p ++ c :: r).length (p.length : Nat) = some p.length := by rw [at_nat (by omega) (by simp; omega)]; simp
  simp only [ixD, o, if_true, this]; simp
theorem ix_str0 (h : Hh) {r : List Nat} {c : Nat} (e : (c :: r).length ≤ 1000) : ixD h (.str (c :: r)) (.int 0) = some (.str [c]) := ix_str h (p := []) e
theorem add_str (h : Hh) {a b : List Nat} (e : a.length + b.length ≤ 1000) : binD h .add (.str a) (.str b) = some (.str (a ++ b)) := by unfold binD; exact if_pos (by simp [big]; omega)
theorem add_lst (h : Hh) {a b : List D} (e : a.length + b.length ≤ 1000) : binD h .add (.lst a) (.lst b) = some (.lst (a ++ b)) := by
  show (if a.length + b.length ≤ big then some (D.lst (a ++ b)) else none) = _; exact if_pos (by simp [big]; omega)
theorem le_sg (h : Hh) (a c : Nat) : cmpD h .le (.str [a]) (.str [c]) = some (decide (a ≤ c)) := by
  simp only [cmpD, D.flat, D.alike, D.lt, ltL, Bool.and_self, if_true]
  by_cases e : c = a
  · simp [e]
  · simp [e]
    by_cases q : c < a <;> simp [q] <;> omega
theorem in_sg (h : Hh) (c : Nat) (t : List Nat) : cmpD h .isin (.str [c]) (.str t) = some (decide (c ∈ t)) := id rfl
theorem notin_sg (h : Hh) (c : Nat) (t : List Nat) : cmpD h .notin (.str [c]) (.str t) = some (!decide (c ∈ t)) := id rfl
theorem int_str (h : Hh) {s : List Nat} (a : s ≠ []) (b : (s.all fun c => decide (48 ≤ c) && decide (c ≤ 57)) = true) (c : s.length ≤ 640) : prD h .int [.str s] = some (.int (decV s : Nat)) := by
  show (if _ then some (D.int (decV s : Nat)) else none) = _; exact if_pos ⟨a, b, c⟩
theorem str_int (h : Hh) {n : Nat} (e : n < 2 ^ 127) : prD h .str [.int (n : Int)] = some (.str (digs n)) := by
  have l : (n : Int).natAbs < 2 ^ 1900 := Nat.lt_of_lt_of_le (m := 2 ^ 127) (by rw [Int.natAbs_natCast]; exact e) (Nat.pow_le_pow_right (Nat.succ_pos 1) (of_decide_eq_true rfl))
  have : strInt (n : Int) = digs n := by simp [strInt]
  show (if (n : Int).natAbs < 2 ^ 1900 then some (D.str (strInt n)) else none) = _
  rw [if_pos l, this]
/-! the law: cells, then each; by hand in `right` -/
def lawF3 (top : Int) : Fn := { np := 1, ns := 3, body :=
    (.cons (.asg (.nm 1) (.call 15 (.cons (.var 0) (.cons (.cst (.int top)) .nil)) []))
    (.cons (.ret (.pr .all (.cons (.lv (.comp (.nm 2) (.rng .no (.pr .len (.cons (.var 1) .nil))) .nil (.call 20 (.cons (.call 13 (.cons (.var 1) (.cons (.var 2) .nil)) []) .nil) []))) .nil)))
    .nil)) }
theorem law_np3 (t : Int) : (lawF3 t).np ≤ (lawF3 t).ns := by show 1 ≤ 3; decide
theorem law_run3 {cf : Cf} (top : Nat) (t0 : 0 < top) (t1 : top ≤ 60) (hc : HCells cf) (hb : HBox cf) (hr : HRight cf) (script : List Int) :
    ∃ h, runFn cf (lawF3 top) [.rol (isD script)] [] = .ok (.bl true) h := by
  rw [runFn_eq _ _ _ _ rfl (law_np3 top)]
  obtain ⟨cs, e1, l0, l1⟩ := hc [] script top t0 t1
  have ok2 : okR ((isD cs).length : Int) = true := okR_nat (by rw [len_isD]; omega)
  have m : ∃ h', mapL (compB cf (.nm 2) .nil (.call 20 (.cons (.call 13 (.cons (.var 1) (.cons (.var 2) .nil)) []) .nil) []) [some (.rol (isD script)), some (.lst (isD cs)), none]) (rngL 0 ((isD cs).length : Int)) [] = .ok (List.replicate cs.length (.bl true)) h' := by
    have := mapL_any (body := compB cf (.nm 2) .nil (.call 20 (.cons (.call 13 (.cons (.var 1) (.cons (.var 2) .nil)) []) .nil) []) [some (.rol (isD script)), some (.lst (isD cs)), none]) (fun k : Nat => D.int k) (fun _ => [.bl true]) (List.range cs.length) [] (by
      intro k hk h
      rw [List.mem_range] at hk
      obtain ⟨u, b1, b2⟩ := hb h cs k hk (by omega)
      obtain ⟨h', b3⟩ := hr (h ++ [u.o]) h.length u (by simp) b2
      refine ⟨h', ?_⟩
      simp -implicitDefEqProofs [eng, eng0, compB, b1, b3])
    obtain ⟨h', e⟩ := this
    refine ⟨h', ?_⟩
    have r1 : rngL 0 ((isD cs).length : Int) = (List.range cs.length).map fun k : Nat => D.int k := by
      rw [rngL, len_isD]; simp
    rw [r1, e]
    have : (List.range cs.length).flatMap (fun _ => [D.bl true]) = List.replicate cs.length (.bl true) := by
      rw [← List.map_eq_flatMap, List.map_const', List.length_range]
    rw [this]
  obtain ⟨h', m⟩ := m
  refine ⟨h', ?_⟩
  have ol : okLen (List.replicate cs.length (D.bl true)) = true := okLen_of (by simp [big]; omega)
  simp -implicitDefEqProofs only [eng, eng0, lawF3, exs_cons, ex_asg, ev_call, evs_cons, evs_nil, ev_var, List.map_cons, List.map_nil, List.cons_append, List.nil_append, List.replicate, List.getElem?_cons_succ, List.getElem?_cons_zero, getV_some, bind_ok, ev_cst, permD_nil, perR_some, e1, asgT_nm, List.set_cons_succ, List.set_cons_zero, after_nx, ex_ret, ev_pr, ev_lv, evf_comp, evi_rng, evo_no, pr_len_lst, lift_some, asInt_int, Option.getD_none, okR_0, ok2, Bool.and_self, onlyIf_true, lockO_none, unlock_none, slots_nm, wipe_cons, wipe_nil, m, calm_okM, freshL_ok', ol, all_true, after_rt, asVal_rt]
/-- `right` that asks the by-hand part first -/
def turnsH (N : Int) (ns : Nat) (B : Ss) : Fn := { np := 1, ns := ns + 1, body := (.cons (.ife (.not (.call 19 .nil [])) (.cons (.ret (.cst (.bl false))) .nil) .nil) (turnsF N ns B).body) }
theorem turns_runH {cf : Cf} (N : Nat) (ns : Nat) (B : Ss) (hand : ∀ h, cf 19 [] h = .ok (.bl true) h) (u : Ur)
    (r : ∃ (u' : Ur) (r : Hh), runFn cf (turnsF N ns B) [.ref 0] [u.o] = .ok (.bl true) (u'.o :: r)) : ∃ (u' : Ur) (r : Hh), runFn cf (turnsH N ns B) [.ref 0] [u.o] = .ok (.bl true) (u'.o :: r) := by
  obtain ⟨u', r, e⟩ := r
  refine ⟨u', r, ?_⟩
  rw [runFn_eq _ _ _ _ rfl (by show 1 ≤ ns + 1; omega)] at e ⊢
  rw [← e]
  have : (turnsH N ns B).body = (.cons (.ife (.not (.call 19 .nil [])) (.cons (.ret (.cst (.bl false))) .nil) .nil) (turnsF N ns B).body) := rfl
  rw [this]
  simp -implicitDefEqProofs only [eng, eng0, exs_cons, ex_ife, ev_not, ev_call, evs_nil, bind_ok, permD_nil, perR_some, hand, tru_bl, br_true, exs_nil, after_nx]
  rfl
end Ls
namespace Ls
/-! _law_tags -/
/-- a name of the lengths that tags are made in -/
def Tag (s : List Nat) : Prop := (∀ c ∈ s, c ∈ letters) ∧ (1 ≤ s.length ∧ s.length ≤ 3 ∨ s.length = 6 ∨ s.length = 8)
theorem letters_len : letters.length = 26 := rfl
theorem letter_at (h : Hh) {k : Int} (a : 0 ≤ k) (b : k < 26) : ∃ c ∈ letters, ixD h (.str letters) (.int k) = some (.str [c]) := by
  have e : at_ letters.length k = some k.toNat := at_nat a (by rw [letters_len]; exact b)
  have l : k.toNat < letters.length := by rw [letters_len]; omega
  refine ⟨letters[k.toNat], List.getElem_mem l, ?_⟩
  have o : okLen letters = true := okLen_of (by rw [letters_len]; simp [big])
  simp only [ixD, e, o, if_true, List.getElem?_eq_getElem l, Option.map_some]
def tagsF (L : List Nat) : Fn := { np := 2, ns := 10, body :=
    (.cons (.asg (.nm 2) (.cst (.str L)))
    (.cons (.asg (.tp (.cons (.nm 3) (.cons (.nm 4) .nil))) (.tup (.cons (.call 14 (.cons (.var 0) (.cons (.cst (.int 26)) .nil)) []) (.cons (.call 16 (.cons (.var 0) (.cons (.lv (.disp (.cons (.cst (.int 1)) (.cons (.cst (.int 3)) (.cons (.cst (.int 7)) (.cons (.cst (.int 11)) (.cons (.cst (.int 25)) .nil))))))) .nil)) []) .nil))))
    (.cons (.asg (.nm 6) (.lv (.comp (.nm 5) (.rng .no (.pr .mx2 (.cons (.cst (.int 8)) (.cons (.var 1) .nil)))) .nil (.ix (.var 2) (.bin .mod (.pr .int (.cons (.bin .add (.var 3) (.bin .mul (.var 4) (.var 5))) .nil)) (.cst (.int 26)))))))
    (.cons (.ife (.bool true (.cons (.cmp .lt (.var 1) (.cst (.int 9))) (.cons (.cmp .eq (.call 14 (.cons (.var 0) (.cons (.cst (.int 4)) .nil)) []) (.cst (.int 0))) .nil))) (.cons (.ret (.lv (.sorted (.lv (.comp (.nm 5) (.rng .no (.var 1)) .nil (.mt .join (.cst (.str [])) (.cons (.sl (.var 6) .no (.so (.bin .add (.var 5) (.cst (.int 1))))) .nil)))))))
    .nil) .nil)
    (.cons (.asg (.nm 8) (.mt .join (.cst (.str [])) (.cons (.lv (.comp (.nm 7) (.rng .no (.call 16 (.cons (.var 0) (.cons (.lv (.disp (.cons (.cst (.int 0)) (.cons (.cst (.int 0)) (.cons (.cst (.int 1)) (.cons (.cst (.int 5)) (.cons (.cst (.int 7)) .nil))))))) .nil)) [])) .nil (.ix (.var 2) (.call 14 (.cons (.var 0) (.cons (.cst (.int 26)) .nil)) [])))) .nil)))
    (.cons (.asg (.nm 9) (.call 14 (.cons (.var 0) (.cons (.bin .add (.pr .len (.cons (.var 8) .nil)) (.cst (.int 1))) .nil)) []))
    (.cons (.ret (.lv (.sorted (.lv (.comp (.nm 5) (.rng .no (.var 1)) .nil (.bin .add (.bin .add (.sl (.var 8) .no (.so (.var 9))) (.ix (.var 6) (.var 5))) (.sl (.var 8) (.so (.var 9)) .no)))))))
    .nil))))))) }
theorem rngL_nat (n : Nat) : rngL 0 (n : Int) = (List.range n).map fun k : Nat => D.int k := by rw [rngL]; simp
/-- the sign at a place -/
def sg (L : List Nat) (i : Int) : Nat := L.getD i.toNat 0
theorem sg_ix (h : Hh) {L : List Nat} (l : L.length = 26) {k : Int} (a : 0 ≤ k) (b : k < 26) : ixD h (.str L) (.int k) = some (.str [sg L k]) := by
  have e : at_ L.length k = some k.toNat := at_nat a (by rw [l]; exact b)
  have q : k.toNat < L.length := by omega
  have o : okLen L = true := okLen_of (by rw [l]; simp [big])
  simp only [ixD, e, o, if_true, List.getElem?_eq_getElem q, Option.map_some, sg, List.getD_eq_getElem?_getD, Option.getD_some]
theorem sg_mem {L : List Nat} (l : L.length = 26) {k : Int} (a : 0 ≤ k) (b : k < 26) : sg L k ∈ L := by
  have q : k.toNat < L.length := by omega
  simp only [sg, List.getD_eq_getElem?_getD, List.getElem?_eq_getElem q, Option.getD_some]
  exact List.getElem_mem q
theorem row_run (cf : Cf) (L : List Nat) (l : L.length = 26) (f b : Int) (n : Nat) (h : Hh) (x0 x1 x6 x7 x8 x9 : Option D) (b0 : 0 ≤ b) (b1 : b ≤ 25) :
    mapL (compB cf (.nm 5) .nil (.ix (.var 2) (.bin .mod (.pr .int (.cons (.bin .add (.var 3) (.bin .mul (.var 4) (.var 5))) .nil)) (.cst (.int 26)))) [x0, x1, some (.str L), some (.int f), some (.int b), none, x6, x7, x8, x9]) (rngL 0 n) h
      = .ok ((List.range n).map fun k : Nat => .str [sg L ((f + b * k) % 26)]) h := by
  rw [rngL_nat, mapL_map _ (fun k : Nat => [D.str [sg L ((f + b * k) % 26)]])]
  · rw [← List.map_eq_flatMap]
  · intro k hk
    have m1 : ∀ (h : Hh) (z : Int), binD h .mul (.int b) (.int z) = some (.int (b * z)) := fun h z => mul_small h (by simp only [bigI]; omega) (by simp only [bigI]; omega) z
    have m2 : ∀ (h : Hh) (z : Int), binD h .mod (.int z) (.int 26) = some (.int (z % 26)) := fun h z => mod_ok h z (by decide)
    simp -implicitDefEqProofs [eng, eng0, compB, m1, m2, sg_ix _ l (Int.emod_nonneg _ (by decide)) (Int.emod_lt_of_pos _ (by decide))]
theorem join_ok (h : Hh) (sep : List Nat) (l : List (List Nat)) (e : (l.map (·.length)).sum + l.length * sep.length ≤ big) : mtD h .join (.str sep) [.lst (l.map .str)] = some (.str (joinL sep l), h) := by
  simp only [mtD, itemsS, itemsL, strsD_map, e, if_true]
theorem pre_run (cf : Cf) (rows : List (List Nat)) (m : Nat) (h : Hh) (x0 x1 x2 x3 x4 x7 x8 x9 : Option D) (one : ∀ r ∈ rows, r.length = 1) (sm : rows.length ≤ 1000) :
    mapL (compB cf (.nm 5) .nil (.mt .join (.cst (.str [])) (.cons (.sl (.var 6) .no (.so (.bin .add (.var 5) (.cst (.int 1))))) .nil)) [x0, x1, x2, x3, x4, none, some (.lst (rows.map .str)), x7, x8, x9]) (rngL 0 m) h
      = .ok ((List.range m).map fun k : Nat => .str (joinL [] (rows.take (k + 1)))) h := by
  rw [rngL_nat, mapL_map _ (fun k : Nat => [D.str (joinL [] (rows.take (k + 1)))])]
  · rw [← List.map_eq_flatMap]
  · intro k hk
    have s : slice (rows.map D.str) none (some ((k : Int) + 1)) = (rows.take (k + 1)).map D.str := by
      rw [slice_take _ (by omega), List.map_take]
      congr 1
    have z : ∀ l : List (List Nat), (∀ r ∈ l, r.length = 1) → (l.map (·.length)).sum = l.length := by
      intro l hl
      induction l with
      | nil => rfl
      | cons a r ih => simp [hl a (by simp), ih fun x hx => hl x (by simp [hx])]; omega
    have j := join_ok h [] (rows.take (k + 1)) (by
      rw [z _ fun r hr => one r (List.mem_of_mem_take hr)]
      simp [big]; omega)
    rw [List.map_take] at s j
    simp -implicitDefEqProofs [eng, eng0, compB, s, j, mtPre, -List.map_take]
theorem stem_run {cf : Cf} (H : HTake cf) (L : List Nat) (l : L.length = 26) (r : Hh) (x1 x3 x4 x5 x6 x8 x9 : Option D) : ∀ (xs : List D) (u : Ur) (k : Nat), u.Ok k → k + xs.length < 2 ^ 60 →
    ∃ (cs : List Nat) (u' : Ur), mapL (compB cf (.nm 7) .nil (.ix (.var 2) (.call 14 (.cons (.var 0) (.cons (.cst (.int 26)) .nil)) [])) [some (.ref 0), x1, some (.str L), x3, x4, x5, x6, none, x8, x9]) xs (u.o :: r)
      = .ok (cs.map fun c => .str [c]) (u'.o :: r) ∧ cs.length = xs.length ∧ (∀ c ∈ cs, c ∈ L) ∧ u'.Ok (k + xs.length)
  | [], u, k, g, _ => ⟨[], u, rfl, rfl, (fun _ h => nomatch h), g⟩
  | x :: xs, u, k, g, hk => by
    rw [List.length_cons] at hk
    obtain ⟨d, u1, e1, d0, d1, g1⟩ := H.at0 u k 26 r g (by omega) (by decide) (by decide)
    obtain ⟨cs, u2, e2, l2, m2, g2⟩ := stem_run H L l r x1 x3 x4 x5 x6 x8 x9 xs u1 (k + 1) g1 (by omega)
    refine ⟨sg L d :: cs, u2, ?_, by simp [l2], ?_, by rw [List.length_cons, show k + (xs.length + 1) = k + 1 + xs.length by omega]; exact g2⟩
    · have b1 : compB cf (.nm 7) .nil (.ix (.var 2) (.call 14 (.cons (.var 0) (.cons (.cst (.int 26)) .nil)) [])) [some (.ref 0), x1, some (.str L), x3, x4, x5, x6, none, x8, x9] x (u.o :: r) = .ok [.str [sg L d]] (u1.o :: r) := by
        simp -implicitDefEqProofs [eng, eng0, compB, e1, sg_ix _ l d0 d1]
      simp only [mapL, b1, e2, bind_ok, List.map_cons, List.cons_append, List.nil_append]
    · intro c hc
      rcases List.mem_cons.mp hc with rfl | hc
      · exact sg_mem l d0 d1
      · exact m2 c hc
theorem join_signs : ∀ cs : List Nat, joinL [] (cs.map fun c => [c]) = cs
  | [] => rfl
  | [_] => rfl
  | a :: b :: r => by
    have := join_signs (b :: r)
    simp only [List.map_cons, joinL] at this ⊢
    rw [this]; rfl
theorem put_run (cf : Cf) (stem : List Nat) (rows : List Nat) (a : Nat) (m : Nat) (h : Hh) (x0 x1 x2 x3 x4 x7 : Option D) (hs : stem.length ≤ 100) (hm : m ≤ rows.length) (sm : rows.length ≤ 1000) :
    mapL (compB cf (.nm 5) .nil (.bin .add (.bin .add (.sl (.var 8) .no (.so (.var 9))) (.ix (.var 6) (.var 5))) (.sl (.var 8) (.so (.var 9)) .no)) [x0, x1, x2, x3, x4, none, some (.lst (rows.map fun c => .str [c])), x7, some (.str stem), some (.int a)]) (rngL 0 m) h
      = .ok ((List.range m).map fun k : Nat => .str (stem.take a ++ [rows.getD k 0] ++ stem.drop a)) h := by
  rw [rngL_nat, mapL_map _ (fun k : Nat => [D.str (stem.take a ++ [rows.getD k 0] ++ stem.drop a)])]
  · rw [← List.map_eq_flatMap]
  · intro k hk
    rw [List.mem_range] at hk
    have o : okLen stem = true := okLen_of (by simp [big]; omega)
    have s1 : slD h (.str stem) none (some (a : Int)) = some (.str (stem.take a)) := by simp only [slD, o, if_true, slice_take stem (show (0 : Int) ≤ a by omega)]; simp
    have s2 : slD h (.str stem) (some (a : Int)) none = some (.str (stem.drop a)) := by simp only [slD, o, if_true, slice_drop stem (show (0 : Int) ≤ a by omega)]; simp
    have i1 : ixD h (.lst (rows.map fun c => .str [c])) (.int (k : Int)) = some (.str [rows.getD k 0]) := by
      rw [D.Seq.ix (.inl rfl) h (by omega) (by rw [List.length_map]; omega)]
      have : k < rows.length := by omega
      simp [this]
    have b1 : binD h .add (.str (stem.take a)) (.str [rows.getD k 0]) = some (.str (stem.take a ++ [rows.getD k 0])) := by
      unfold binD; exact if_pos (by simp only [List.length_take, List.length_cons, List.length_nil, big]; omega)
    have b2 : binD h .add (.str (stem.take a ++ [rows.getD k 0])) (.str (stem.drop a)) = some (.str (stem.take a ++ [rows.getD k 0] ++ stem.drop a)) := by
      unfold binD; exact if_pos (by simp only [List.length_append, List.length_drop, List.length_take, List.length_cons, List.length_nil, big]; omega)
    simp -implicitDefEqProofs only [eng, eng0, compB, asgT_nm, bind_ok, evt_nil, ev_bin, ev_sl, ev_var, List.set_cons_succ, List.set_cons_zero, List.getElem?_cons_succ, List.getElem?_cons_zero, getV_some, evo_no, evo_so, asInt_int, s1, s2, lift_some, ev_ix, i1, b1, b2]
theorem str_lt (a b : List Nat) : D.lt (.str a) (.str b) = ltL a b := rfl
theorem sort_str (l : List (List Nat)) : (D.flatL 60 (l.map .str) && (alikeEach (l.map .str) (l.map .str) && sortable (l.map .str))) = true := by
  simp only [Bool.and_eq_true]
  refine ⟨flatL_of (by simp only [List.mem_map]; rintro x ⟨p, _, rfl⟩; rfl), ?_, ?_⟩
  · simp only [alikeEach, List.all_eq_true, List.mem_map]
    rintro x ⟨p, _, rfl⟩ y ⟨q, _, rfl⟩
    simp [D.alike]
  · simp only [sortable, Bool.or_eq_true, List.all_eq_true, List.mem_map]
    right
    rintro x ⟨p, _, rfl⟩
    rfl
theorem isort_str (l : List (List Nat)) : sortD (l.map .str) = (isort ltL l).map .str := sortD_enc .str str_lt l
theorem flat_sort (h : Hh) (l : List (List Nat)) : withL (itemsW h (.lst (l.map .str))) (fun xs => onlyIf (D.flatL 60 xs && (alikeEach xs xs && sortable xs)) (.ok (sortD xs) h)) = .ok ((isort ltL l).map .str) h := by
  rw [itemsW_lst, withL_some, sort_str, onlyIf_true, isort_str]
theorem joinL_len : ∀ (l : List (List Nat)), (∀ r ∈ l, r.length = 1) → (joinL [] l).length = l.length
  | [], _ => rfl
  | [x], e => by simp [joinL, e x (by simp)]
  | x :: y :: r, e => by
    have := joinL_len (y :: r) fun z hz => e z (by simp [hz])
    simp only [joinL, List.length_append, this, e x (by simp), List.length_cons, List.length_nil]; omega
theorem joinL_mem : ∀ (l : List (List Nat)) (c : Nat), c ∈ joinL [] l → ∃ r ∈ l, c ∈ r
  | [], c, h => by simp [joinL] at h
  | [x], c, h => ⟨x, by simp, by simpa [joinL] using h⟩
  | x :: y :: r, c, h => by
    simp only [joinL, List.mem_append, List.not_mem_nil, or_false] at h
    rcases h with h | h
    · exact ⟨x, by simp, h⟩
    · obtain ⟨z, hz, hc⟩ := joinL_mem (y :: r) c h
      exact ⟨z, by simp [hz], hc⟩
/-- names that tags are made of: at most m long, or of the lengths with a stem -/
def TagL (L : List Nat) (m : Nat) (s : List Nat) : Prop := (∀ c ∈ s, c ∈ L) ∧ (1 ≤ s.length ∧ s.length ≤ m ∨ s.length = 1 ∨ s.length = 2 ∨ s.length = 6 ∨ s.length = 8)
theorem tags_np (L : List Nat) : (tagsF L).np ≤ (tagsF L).ns := by show 2 ≤ 10; decide
theorem tags_run {cf : Cf} (H : HTake cf) (Ho : HOf cf) (L : List Nat) (l : L.length = 26) (u : Ur) (k : Nat) (g : u.Ok k) (hk : k + 100 < 2 ^ 60) (m : Nat) (m0 : 1 ≤ m) (m1 : m ≤ 8) :
    ∃ (ts : List (List Nat)) (u' : Ur) (r : Hh), runFn cf (tagsF L) [.ref 0, .int m] [u.o] = .ok (.lst (ts.map .str)) (u'.o :: r) ∧ ts.length = m ∧ (∀ t ∈ ts, TagL L m t) ∧ u'.Ok (k + 20) := by
  rw [runFn_eq _ _ _ _ rfl (tags_np L)]
  obtain ⟨f, u1, e1, f0, f1, g1⟩ := H.at0 u k 26 [] g (by omega) (by decide) (by decide)
  obtain ⟨b, u2, e2, b1, g2⟩ := Ho [u1.o] 0 u1 (k + 1) (.lst [.int 1, .int 3, .int 7, .int 11, .int 25]) _ rfl (.inl rfl) rfl g1 (by omega) (by simp) (by simp)
  obtain ⟨b, rfl, b2, b3⟩ : ∃ i : Int, b = .int i ∧ 0 ≤ i ∧ i ≤ 25 := by
    simp only [List.mem_cons, List.not_mem_nil, or_false] at b1
    rcases b1 with rfl | rfl | rfl | rfl | rfl <;> exact ⟨_, rfl, by decide, by decide⟩
  have mx : ∀ h, prD h .mx2 [.int 8, .int (m : Int)] = some (.int ((8 : Nat) : Int)) := fun h => by
    have : ¬ ((m : Int) > 8) := by omega
    simp [prD, this]
  have o8 : okR ((8 : Nat) : Int) = true := by decide
  have ms : (m : Int) < 9 := by omega
  have rr := fun x6 x7 x8 x9 h => row_run cf L l f b 8 h (some (.ref 0)) (some (.int m)) x6 x7 x8 x9 b2 b3
  have row1 : (List.range 8).map (fun k : Nat => D.str [sg L ((f + b * k) % 26)]) = ((List.range 8).map fun k : Nat => [sg L ((f + b * k) % 26)]).map .str := by simp
  obtain ⟨rows, hrows⟩ : ∃ rows, rows = (List.range 8).map fun k : Nat => sg L ((f + b * k) % 26) := ⟨_, rfl⟩
  have rl : rows.length = 8 := by rw [hrows]; simp
  have rm : ∀ c ∈ rows, c ∈ L := by
    rw [hrows]; simp only [List.mem_map]
    rintro c ⟨j, _, rfl⟩
    exact sg_mem l (Int.emod_nonneg _ (by decide)) (Int.emod_lt_of_pos _ (by decide))
  have rr : ∀ x6 x7 x8 x9 h, mapL (compB cf (.nm 5) .nil (.ix (.var 2) (.bin .mod (.pr .int (.cons (.bin .add (.var 3) (.bin .mul (.var 4) (.var 5))) .nil)) (.cst (.int 26)))) [some (.ref 0), some (.int m), some (.str L), some (.int f), some (.int b), none, x6, x7, x8, x9]) (rngL 0 ((8 : Nat) : Int)) h = .ok (rows.map fun c => .str [c]) h := by
    intro x6 x7 x8 x9 h
    rw [rr, hrows]; simp
  have ol : okLen (rows.map fun c => D.str [c]) = true := okLen_of (by simp [rl, big])
  obtain ⟨q, u3, e3, q0, q1, g3⟩ := H.at0 u2 (k + 2) 4 [] g2 (by omega) (by decide) (by decide)
  have om : okR (m : Int) = true := okR_nat (by omega)
  have e2' : cf 16 [.ref 0, .lst [.int 1, .int 3, .int 7, .int 11, .int 25]] [u1.o] = .ok (.int b) [u2.o] := e2
  by_cases hq : q = 0
  · subst hq
    have pr := pre_run cf (rows.map fun c => [c]) m [u3.o] (some (.ref 0)) (some (.int m)) (some (.str L)) (some (.int f)) (some (.int b)) none none none (by simp) (by simp [rl])
    have pr' : ((rows.map fun c => [c]).map D.str) = rows.map fun c => D.str [c] := by simp
    rw [pr'] at pr
    have ol2 : okLen ((List.range m).map fun j : Nat => D.str (joinL [] ((rows.map fun c => [c]).take (j + 1)))) = true := okLen_of (by simp [big]; omega)
    have st : ∀ h, withL (itemsW h (.lst ((List.range m).map fun j : Nat => D.str (joinL [] ((rows.map fun c => [c]).take (j + 1)))))) (fun xs => onlyIf (D.flatL 60 xs && (alikeEach xs xs && sortable xs)) (.ok (sortD xs) h)) = .ok ((isort ltL ((List.range m).map fun j : Nat => joinL [] ((rows.map fun c => [c]).take (j + 1)))).map .str) h := by
      intro h
      rw [show ∀ (q : Nat → List Nat), (List.range m).map (fun j => D.str (q j)) = ((List.range m).map q).map .str from fun q => by rw [List.map_map]; rfl]; exact flat_sort h _
    have ol3 : okLen ((isort ltL ((List.range m).map fun j : Nat => joinL [] ((rows.map fun c => [c]).take (j + 1)))).map D.str) = true := okLen_of (by rw [List.length_map, len_isort]; simp [big]; omega)
    refine ⟨isort ltL ((List.range m).map fun j : Nat => joinL [] ((rows.map fun c => [c]).take (j + 1))), u3, [], ?_, ?_, ?_, ?_⟩
    · simp -implicitDefEqProofs only [eng, eng0, tagsF, exs_cons, ex_asg, ev_cst, bind_ok, asgT_nm, List.map_cons, List.map_nil, List.cons_append, List.nil_append, List.replicate, List.set_cons_succ, List.set_cons_zero, after_nx, ev_tup, evs_cons, evs_nil, ev_call, ev_var, List.getElem?_cons_succ, List.getElem?_cons_zero, getV_some, permD_nil, perR_some, e1, ev_lv, evf_disp, freshL_ok', okLen_5, okLen_2, onlyIf_true, e2', asgT_tp, itemsS_tup, withL_some, List.length_cons, List.length_nil, len_cons, len_nil, BEq.rfl, asgTs_cons, asgTs_nil, evf_comp, evi_rng, evo_no, ev_pr, mx, lift_some, asInt_int, Option.getD_none, okR_0, o8, Bool.and_self, slots_nm, wipe_cons, wipe_nil, lockO_none, unlock_none, rr, calm_okM, ol, ex_ife, ev_bool, evb_and, ev_cmp, cmp_lt_int, ms, decide_true, Option.map_some, tru_bl, evb_one, e3, cmp_eq_int, ex_ret, evf_sorted, om, pr, ol2, st, ol3, after_rt, asVal_rt]
    · rw [len_isort]; simp
    · intro t ht
      rw [mem_isort, List.mem_map] at ht
      obtain ⟨j, hj, rfl⟩ := ht
      rw [List.mem_range] at hj
      have one : ∀ r ∈ (rows.map fun c => [c]).take (j + 1), r.length = 1 := fun r hr => by
        have := List.mem_of_mem_take hr
        simp only [List.mem_map] at this
        obtain ⟨c, _, rfl⟩ := this; rfl
      refine ⟨?_, .inl ?_⟩
      · intro c hc
        obtain ⟨r, hr, hc⟩ := joinL_mem _ _ hc
        have := List.mem_of_mem_take hr
        simp only [List.mem_map] at this
        obtain ⟨d, hd, rfl⟩ := this
        rw [List.mem_singleton] at hc; subst hc
        exact rm _ hd
      · rw [joinL_len _ one, List.length_take, List.length_map, rl]; omega
    · exact g3.mono (by omega)
  · have hq' : (q = 0) = False := by simp [hq]
    obtain ⟨w, u4, e4, w1, g4⟩ := Ho [u3.o] 0 u3 (k + 3) (.lst [.int 0, .int 0, .int 1, .int 5, .int 7]) _ rfl (.inl rfl) rfl g3 (by omega) (by simp) (by simp)
    obtain ⟨w, rfl, w2⟩ : ∃ i : Nat, w = .int i ∧ (i = 0 ∨ i = 1 ∨ i = 5 ∨ i = 7) := by
      simp only [List.mem_cons, List.not_mem_nil, or_false] at w1
      rcases w1 with rfl | rfl | rfl | rfl | rfl
      · exact ⟨0, rfl, by decide⟩
      · exact ⟨0, rfl, by decide⟩
      · exact ⟨1, rfl, by decide⟩
      · exact ⟨5, rfl, by decide⟩
      · exact ⟨7, rfl, by decide⟩
    have w3 : w ≤ 7 := by omega
    have e4' : cf 16 [.ref 0, .lst [.int 0, .int 0, .int 1, .int 5, .int 7]] [u3.o] = .ok (.int w) [u4.o] := e4
    have ow : okR (w : Int) = true := okR_nat (by omega)
    obtain ⟨cs, u5, e5, cl, cm, g5⟩ := stem_run H L l [] (some (.int m)) (some (.int f)) (some (.int b)) none (some (.lst (rows.map fun c => .str [c]))) none none (rngL 0 (w : Int)) u4 (k + 4) g4 (by rw [rngL_len]; omega)
    rw [rngL_len] at cl g5
    have cl' : cs.length = w := by omega
    have oc : okLen (cs.map fun c => D.str [c]) = true := okLen_of (by simp [big]; omega)
    have jn : ∀ h, mtD h .join (.str []) [.lst (cs.map fun c => .str [c])] = some (.str cs, h) := by
      intro h
      have := join_ok h [] (cs.map fun c => [c]) (by
        have : ((cs.map fun c => [c]).map (·.length)).sum = cs.length := by
          clear e5 cl cm oc cl'
          induction cs with
          | nil => rfl
          | cons a r ih => simp only [List.map_cons, List.sum_cons, ih, List.length_cons, List.length_nil]; omega
        rw [this]; simp [big]; omega)
      rw [join_signs, List.map_map] at this
      exact this
    have os : okLen cs = true := okLen_of (by simp [big]; omega)
    have ln : ∀ h, prD h .len [.str cs] = some (.int cs.length) := fun h => by simp [prD, os]
    obtain ⟨a, u6, e6, a0, a1, g6⟩ := H.at0 u5 (k + 4 + w) ((cs.length : Int) + 1) [] (g5.mono (by omega)) (by omega) (by omega) (by omega)
    obtain ⟨a, rfl⟩ : ∃ n : Nat, a = n := ⟨a.toNat, by omega⟩
    have pt := put_run cf cs rows a m [u6.o] (some (.ref 0)) (some (.int m)) (some (.str L)) (some (.int f)) (some (.int b)) none (by omega) (by omega) (by omega)
    have ol2 : okLen ((List.range m).map fun j : Nat => D.str (cs.take a ++ [rows.getD j 0] ++ cs.drop a)) = true := okLen_of (by simp [big]; omega)
    have st : ∀ h, withL (itemsW h (.lst ((List.range m).map fun j : Nat => D.str (cs.take a ++ [rows.getD j 0] ++ cs.drop a)))) (fun xs => onlyIf (D.flatL 60 xs && (alikeEach xs xs && sortable xs)) (.ok (sortD xs) h)) = .ok ((isort ltL ((List.range m).map fun j : Nat => cs.take a ++ [rows.getD j 0] ++ cs.drop a)).map .str) h := by
      intro h
      rw [show ∀ (q : Nat → List Nat), (List.range m).map (fun j => D.str (q j)) = ((List.range m).map q).map .str from fun q => by rw [List.map_map]; rfl]; exact flat_sort h _
    have ol3 : okLen ((isort ltL ((List.range m).map fun j : Nat => cs.take a ++ [rows.getD j 0] ++ cs.drop a)).map D.str) = true := okLen_of (by rw [List.length_map, len_isort]; simp [big]; omega)
    have jp : ∀ h, mtPre h .join (.str []) = true := fun _ => rfl
    refine ⟨isort ltL ((List.range m).map fun j : Nat => cs.take a ++ [rows.getD j 0] ++ cs.drop a), u6, [], ?_, ?_, ?_, ?_⟩
    · simp -implicitDefEqProofs only [eng, eng0, tagsF, exs_cons, ex_asg, ev_cst, bind_ok, asgT_nm, List.map_cons, List.map_nil, List.cons_append, List.nil_append, List.replicate, List.set_cons_succ, List.set_cons_zero, after_nx, ev_tup, evs_cons, evs_nil, ev_call, ev_var, List.getElem?_cons_succ, List.getElem?_cons_zero, getV_some, permD_nil, perR_some, e1, ev_lv, evf_disp, freshL_ok', okLen_5, okLen_2, onlyIf_true, e2', asgT_tp, itemsS_tup, withL_some, List.length_cons, List.length_nil, len_cons, len_nil, BEq.rfl, asgTs_cons, asgTs_nil, evf_comp, evi_rng, evo_no, ev_pr, mx, lift_some, asInt_int, Option.getD_none, okR_0, o8, Bool.and_self, slots_nm, wipe_cons, wipe_nil, lockO_none, unlock_none, rr, calm_okM, ol, ex_ife, ev_bool, evb_and, ev_cmp, cmp_lt_int, ms, decide_true, Option.map_some, tru_bl, evb_one, e3, cmp_eq_int, hq', decide_false, exs_nil, e4', ow, e5, oc, ev_mt, jp, jn, pairR_some, ev_bin, ln, bin_add_int, e6, ex_ret, evf_sorted, om, pt, ol2, st, ol3, after_rt, asVal_rt]
    · rw [len_isort]; simp
    · intro t ht
      rw [mem_isort, List.mem_map] at ht
      obtain ⟨j, hj, rfl⟩ := ht
      rw [List.mem_range] at hj
      refine ⟨?_, .inr ?_⟩
      · intro c hc
        simp only [List.mem_append, List.mem_singleton] at hc
        rcases hc with (hc | hc) | hc
        · exact cm c (List.mem_of_mem_take hc)
        · have : j < rows.length := by omega
          rw [hc, List.getD_eq_getElem?_getD, List.getElem?_eq_getElem this]
          exact rm _ (List.getElem_mem this)
        · exact cm c (List.mem_of_mem_drop hc)
      · simp only [List.length_append, List.length_take, List.length_drop, List.length_cons, List.length_nil]; omega
    · exact g6.mono (by omega)
def HTags (L : List Nat) (cf : Cf) : Prop := ∀ (h : Hh) (n : Nat) (u : Ur) (k : Nat) (m : Nat), h[n]? = some u.o → u.Ok k → k + 100 < 2 ^ 60 → 1 ≤ m → m ≤ 8 →
  ∃ (ts : List (List Nat)) (u' : Ur), cf 18 [.ref n, .int m] h = .ok (.lst (ts.map .str)) (h.set n u'.o) ∧ ts.length = m ∧ (∀ t ∈ ts, TagL L m t) ∧ u'.Ok (k + 20)
theorem free_str (l : List (List Nat)) : D.freeL (l.map .str) = true := freeL_of (by simp only [List.mem_map]; rintro x ⟨p, _, rfl⟩; rfl)
theorem hTags {G : Nat → Option Fn} (n : Nat) {A : Int} (A0 : 0 ≤ A) (A1 : A < 2 ^ 40) (L : List Nat) (l : L.length = 26) (e : G 14 = some (takeF A)) (e' : G 16 = some ofF) (e'' : G 18 = some (tagsF L)) : HTags L (callN G (n + 3)) := by
  intro h j u k m hj g hk m0 m1
  obtain ⟨ts, u', r, e1, l1, t1, g1⟩ := tags_run (hTake (n + 1) A0 A1 e) (hOf n A0 A1 e e') L l u k g hk m m0 m1
  exact ⟨ts, u', by rw [callN_succ e'']; exact call_one (by simp [D.freeL, D.free]) hj u.free e1 (by simp [D.free, free_str]) u'.free, l1, t1, g1⟩
end Ls
namespace Ls
/-! tupled; words of a text; deeds; Program.of, its text -/
mutual
/-- lists made tuples, to the bottom -/
def D.tpd : D → D
  | .tup xs => .tup (D.tpdL xs)
  | .lst xs => .tup (D.tpdL xs)
  | d => d
def D.tpdL : List D → List D
  | [] => []
  | x :: r => D.tpd x :: D.tpdL r
end
theorem tpdL_map : ∀ xs : List D, D.tpdL xs = xs.map D.tpd
  | [] => rfl
  | x :: r => by rw [D.tpdL, tpdL_map r]; rfl
def tupledF : Fn := { np := 1, ns := 2, body :=
    (.cons (.ret (.ite (.isi (.var 0) [.list, .tuple]) (.pr .tuple (.cons (.lv (.comp (.nm 1) (.seq (.var 0)) .nil (.call 4 (.cons (.var 1) .nil) []))) .nil)) (.var 0)))
    .nil) }
mutual
theorem tpd_free : ∀ (n : Nat) (d : D), D.pl n d = true → (D.tpd d).free = true
  | _, .non, _ => rfl
  | _, .bl _, _ => rfl
  | _, .int _, _ => rfl
  | _, .str _, _ => rfl
  | n + 1, .tup xs, p => by simp only [D.pl, Bool.and_eq_true] at p; simp only [D.tpd, D.free]; exact tpdL_free n xs p.2
  | n + 1, .lst xs, p => by simp only [D.pl, Bool.and_eq_true] at p; simp only [D.tpd, D.free]; exact tpdL_free n xs p.2
  | 0, .tup xs, p => by simp [D.pl] at p
  | 0, .lst xs, p => by simp [D.pl] at p
  | n, .rol _, p => by cases n <;> simp [D.pl] at p
  | n, .dct _ _, p => by cases n <;> simp [D.pl] at p
  | n, .ref _, p => by cases n <;> simp [D.pl] at p
  | n, .obj _ _, p => by cases n <;> simp [D.pl] at p
  | n, .rot _, p => by cases n <;> simp [D.pl] at p
  | n, .exn _ _, p => by cases n <;> simp [D.pl] at p
theorem tpdL_free : ∀ (n : Nat) (xs : List D), D.plL n xs = true → D.freeL (D.tpdL xs) = true
  | _, [], _ => rfl
  | n, x :: r, p => by
    simp only [D.plL, Bool.and_eq_true] at p
    simp only [D.tpdL, D.freeL, Bool.and_eq_true]
    exact ⟨tpd_free n x p.1, tpdL_free n r p.2⟩
end
theorem tupled_ok (G : Nat → Option Fn) (e : G 4 = some tupledF) : ∀ (n m : Nat) (d : D) (h : Hh), D.pl n d = true → n ≤ m → callN G (m + 1) 4 [d] h = .ok (D.tpd d) h := by
  intro n
  induction n with
  | zero =>
    intro m d h p _
    rw [callN_succ e]
    refine call_pure (hl := []) (by simp [D.freeL, D.pl.free 0 d p]) ?_ (tpd_free 0 d p)
    rw [runFn_eq _ _ _ _ rfl (by decide)]
    cases d with
    | non => simp -implicitDefEqProofs [eng, eng0, tupledF, dTy, isTy, itemsL, D.tpd]
    | bl b => simp -implicitDefEqProofs [eng, eng0, tupledF, dTy, isTy, itemsL, D.tpd]
    | int b => simp -implicitDefEqProofs [eng, eng0, tupledF, dTy, isTy, itemsL, D.tpd]
    | str b => simp -implicitDefEqProofs [eng, eng0, tupledF, dTy, isTy, itemsL, D.tpd]
    | _ => simp [D.pl] at p
  | succ n ih =>
    intro m d h p le
    obtain ⟨m, rfl⟩ : ∃ k, m = k + 1 := ⟨m - 1, by omega⟩
    rw [callN_succ e]
    refine call_pure (hl := []) (by simp [D.freeL, D.pl.free _ d p]) ?_ (tpd_free _ d p)
    rw [runFn_eq _ _ _ _ rfl (by decide)]
    have seq : ∀ xs : List D, D.plL n xs = true → mapL (compB (callN G (m + 1)) (.nm 1) .nil (.call 4 (.cons (.var 1) .nil) []) [some d, none]) xs [] = .ok (xs.map D.tpd) [] := by
      intro xs q
      have := mapL_map (body := compB (callN G (m + 1)) (.nm 1) .nil (.call 4 (.cons (.var 1) .nil) []) [some d, none]) id (fun x => [D.tpd x]) xs [] (by
        intro x hx
        simp -implicitDefEqProofs [eng, eng0, compB, ih m x [] (plL_mem q x hx) (by omega)])
      rw [List.map_id] at this
      rw [this, ← List.map_eq_flatMap]
    cases d with
    | non => simp -implicitDefEqProofs [eng, eng0, tupledF, dTy, isTy, itemsL, D.tpd]
    | bl b => simp -implicitDefEqProofs [eng, eng0, tupledF, dTy, isTy, itemsL, D.tpd]
    | int b => simp -implicitDefEqProofs [eng, eng0, tupledF, dTy, isTy, itemsL, D.tpd]
    | str b => simp -implicitDefEqProofs [eng, eng0, tupledF, dTy, isTy, itemsL, D.tpd]
    | tup xs =>
      simp only [D.pl, Bool.and_eq_true] at p
      have l : okLen (xs.map D.tpd) = true := by simpa [okLen] using p.1
      simp -implicitDefEqProofs [eng, eng0, tupledF, dTy, isTy, itemsL, seq xs p.2, l, prD, tupD, itemsS, D.tpd, tpdL_map]
    | lst xs =>
      simp only [D.pl, Bool.and_eq_true] at p
      have l : okLen (xs.map D.tpd) = true := by simpa [okLen] using p.1
      simp -implicitDefEqProofs [eng, eng0, tupledF, dTy, isTy, itemsL, seq xs p.2, l, prD, tupD, itemsS, D.tpd, tpdL_map]
    | _ => simp [D.pl] at p
/-! ### words -/
theorem spl1_ne (b : Nat) : ∀ (s acc : List Nat), spl1 b acc s ≠ []
  | [], acc => by simp [spl1]
  | c :: r, acc => by
    rw [spl1]
    split
    · simp
    · exact spl1_ne b r _
theorem joinL_cons (sep x : List Nat) {l : List (List Nat)} (n : l ≠ []) : joinL sep (x :: l) = x ++ sep ++ joinL sep l := by
  cases l with
  | nil => exact absurd rfl n
  | cons y r => rfl
theorem join_spl (b : Nat) : ∀ (s acc : List Nat), joinL [b] (spl1 b acc s) = acc ++ s
  | [], acc => by simp [spl1, joinL]
  | c :: r, acc => by
    rw [spl1]
    split
    · rename_i e
      rw [joinL_cons _ _ (spl1_ne b r []), join_spl b r []]
      simp [e]
    · rw [join_spl b r _]; simp
theorem spl1_word (b : Nat) : ∀ (w acc : List Nat), b ∉ w → spl1 b acc w = [acc ++ w]
  | [], acc, _ => by simp [spl1]
  | c :: r, acc, h => by
    have hc : c ≠ b := fun z => h (by simp [z])
    have hr : b ∉ r := fun z => h (by simp [z])
    rw [spl1, if_neg hc, spl1_word b r _ hr]; simp
theorem spl1_app (b : Nat) : ∀ (w acc r : List Nat), b ∉ w → spl1 b acc (w ++ b :: r) = (acc ++ w) :: spl1 b [] r
  | [], acc, r, _ => by simp [spl1]
  | c :: w, acc, r, h => by
    have hc : c ≠ b := fun z => h (by simp [z])
    have hr : b ∉ w := fun z => h (by simp [z])
    rw [List.cons_append, spl1, if_neg hc, spl1_app b w _ r hr]; simp
theorem spl_join (b : Nat) : ∀ (ws : List (List Nat)), ws ≠ [] → (∀ w ∈ ws, b ∉ w) → spl1 b [] (joinL [b] ws) = ws
  | [], n, _ => absurd rfl n
  | [w], _, h => by rw [joinL, spl1_word b w [] (h w (by simp))]; simp
  | w :: v :: r, _, h => by
    have ih := spl_join b (v :: r) (by simp) (fun x hx => h x (by simp [hx]))
    have : joinL [b] (w :: v :: r) = w ++ b :: joinL [b] (v :: r) := by rw [joinL_cons _ _ (by simp)]; simp
    rw [this, spl1_app b w [] _ (h w (by simp)), ih]; simp
theorem spl1_len (b : Nat) : ∀ (s acc : List Nat), (spl1 b acc s).length ≤ s.length + 1
  | [], acc => by simp [spl1]
  | c :: r, acc => by
    rw [spl1]
    split
    · have := spl1_len b r []; simp; omega
    · have := spl1_len b r (acc ++ [c]); simp; omega
theorem spl1_part (b : Nat) : ∀ (s acc : List Nat), ∀ w ∈ spl1 b acc s, w.length ≤ acc.length + s.length
  | [], acc, w, h => by simp [spl1] at h; simp [h]
  | c :: r, acc, w, h => by
    rw [spl1] at h
    split at h
    · rcases List.mem_cons.mp h with rfl | h
      · simp
      · have := spl1_part b r [] w h; simp at this ⊢; omega
    · have := spl1_part b r _ w h; simp at this ⊢; omega
/-! ### deeds -/
def wrS : List Nat := [119, 114, 105, 116, 101]
def flS : List Nat := [102, 108, 117, 115, 104]
/-- flushes? -/
def wFl (w : List Nat) : Bool := decide (w.take 1 = [33])
def wName (w : List Nat) : List Nat := if wFl w = true then w.drop 1 else w
def wOk (w : List Nat) : Bool := nameB letters (wName w)
/-- a deed -/
abbrev Dd := Bool × List Nat
def ddD (d : Dd) : D := .tup [.str (if d.1 then flS else wrS), .str d.2]
def ddW (d : Dd) : List Nat := if d.1 then 33 :: d.2 else d.2
def wDd (w : List Nat) : Dd := (wFl w, wName w)
def deedD (w : List Nat) : D := if wOk w = true then ddD (wDd w) else .non
def deedInF (L : List Nat) : Fn := { np := 1, ns := 3, body :=
    (.cons (.asg (.nm 1) (.cmp .eq (.sl (.var 0) .no (.so (.cst (.int 1)))) (.glb "SIGN" (.str [33]))))
    (.cons (.asg (.nm 2) (.ite (.var 1) (.sl (.var 0) (.so (.cst (.int 1))) .no) (.var 0)))
    (.cons (.ife (.not (.call 5 (.cons (.var 2) .nil) [])) (.cons (.ret (.cst .non))
    .nil) .nil)
    (.cons (.ret (.tup (.cons (.ite (.var 1) (.glb "FLUSH" (.str flS)) (.glb "WRITE" (.str wrS))) (.cons (.var 2) .nil))))
    .nil)))) }
theorem deedIn_run {cf : Cf} (nm : ∀ (s : List Nat) (h : Hh), s.length ≤ 1000 → cf 5 [.str s] h = .ok (.bl (nameB letters s)) h) (w : List Nat) (hw : w.length ≤ 1000) : runFn cf (deedInF []) [.str w] [] = .ok (deedD w) [] := by
  rw [runFn_eq _ _ _ _ rfl (by show 1 ≤ 3; decide)]
  have s1 : ∀ h, slD h (.str w) none (some 1) = some (.str (w.take 1)) := fun h => sl_lo h hw 1
  have s2 : ∀ h, slD h (.str w) (some 1) none = some (.str (w.drop 1)) := fun h => sl_hi h hw 1
  have n1 := fun h => nm (wName w) h (by unfold wName; split <;> first | exact hw | (rw [List.length_drop]; omega))
  by_cases f : wFl w = true
  · have f' : decide (w.take 1 = [33]) = true := f
    have en : wName w = w.drop 1 := by simp only [wName, f, if_true]
    rw [en] at n1
    by_cases k : nameB letters (w.drop 1) = true
    · have : deedD w = .tup [.str flS, .str (w.drop 1)] := by simp only [deedD, wOk, en, k, if_true, ddD, wDd, f]
      rw [this]
      simp -implicitDefEqProofs only [eng, eng0, deedInF, exs_cons, ex_asg, ev_cmp, ev_sl, ev_var, List.map_cons, List.map_nil, List.cons_append, List.nil_append, List.replicate, Nat.reduceSub, List.getElem?_cons_succ, List.getElem?_cons_zero, getV_some, bind_ok, evo_no, evo_so, ev_cst, asInt_int, s1, s2, lift_some, ev_glb, cmp_eq_str, f', Option.map_some, asgT_nm, List.set_cons_succ, List.set_cons_zero, after_nx, ev_ite, tru_bl, ex_ife, ev_not, ev_call, evs_cons, evs_nil, permD_nil, perR_some, n1, k, br_true, exs_nil, ex_ret, ev_tup, okLen_2, onlyIf_true, after_rt, asVal_rt]
    · have k' : nameB letters (w.drop 1) = false := by simpa using k
      have : deedD w = .non := by simp only [deedD, wOk, en, k', Bool.false_eq_true, if_false]
      rw [this]
      simp -implicitDefEqProofs only [eng, eng0, deedInF, exs_cons, ex_asg, ev_cmp, ev_sl, ev_var, List.map_cons, List.map_nil, List.cons_append, List.nil_append, List.replicate, Nat.reduceSub, List.getElem?_cons_succ, List.getElem?_cons_zero, getV_some, bind_ok, evo_no, evo_so, ev_cst, asInt_int, s1, s2, lift_some, ev_glb, cmp_eq_str, f', Option.map_some, asgT_nm, List.set_cons_succ, List.set_cons_zero, after_nx, ev_ite, tru_bl, ex_ife, ev_not, ev_call, evs_cons, evs_nil, permD_nil, perR_some, n1, k', br_false, exs_nil, ex_ret, ev_tup, okLen_2, onlyIf_true, after_rt, asVal_rt]
  · have ff : wFl w = false := by simpa using f
    have f' : decide (w.take 1 = [33]) = false := ff
    have en : wName w = w := by simp only [wName, ff, Bool.false_eq_true, if_false]
    rw [en] at n1
    by_cases k : nameB letters w = true
    · have : deedD w = .tup [.str wrS, .str w] := by simp only [deedD, wOk, en, k, if_true, ddD, wDd, ff, Bool.false_eq_true, if_false]
      rw [this]
      simp -implicitDefEqProofs only [eng, eng0, deedInF, exs_cons, ex_asg, ev_cmp, ev_sl, ev_var, List.map_cons, List.map_nil, List.cons_append, List.nil_append, List.replicate, Nat.reduceSub, List.getElem?_cons_succ, List.getElem?_cons_zero, getV_some, bind_ok, evo_no, evo_so, ev_cst, asInt_int, s1, s2, lift_some, ev_glb, cmp_eq_str, f', Option.map_some, asgT_nm, List.set_cons_succ, List.set_cons_zero, after_nx, ev_ite, tru_bl, ex_ife, ev_not, ev_call, evs_cons, evs_nil, permD_nil, perR_some, n1, k, br_true, exs_nil, ex_ret, ev_tup, okLen_2, onlyIf_true, after_rt, asVal_rt]
    · have k' : nameB letters w = false := by simpa using k
      have : deedD w = .non := by simp only [deedD, wOk, en, k', Bool.false_eq_true, if_false]
      rw [this]
      simp -implicitDefEqProofs only [eng, eng0, deedInF, exs_cons, ex_asg, ev_cmp, ev_sl, ev_var, List.map_cons, List.map_nil, List.cons_append, List.nil_append, List.replicate, Nat.reduceSub, List.getElem?_cons_succ, List.getElem?_cons_zero, getV_some, bind_ok, evo_no, evo_so, ev_cst, asInt_int, s1, s2, lift_some, ev_glb, cmp_eq_str, f', Option.map_some, asgT_nm, List.set_cons_succ, List.set_cons_zero, after_nx, ev_ite, tru_bl, ex_ife, ev_not, ev_call, evs_cons, evs_nil, permD_nil, perR_some, n1, k', br_false, exs_nil, ex_ret, ev_tup, okLen_2, onlyIf_true, after_rt, asVal_rt]
theorem ddW_w {w : List Nat} : ddW (wDd w) = w := by
  unfold ddW wDd wName
  by_cases f : wFl w = true
  · have f' : w.take 1 = [33] := of_decide_eq_true f
    simp only [f, if_true]
    conv => rhs; rw [← List.take_append_drop 1 w, f']
    rfl
  · have ff : wFl w = false := by simpa using f
    simp [ff]
end Ls
namespace Ls
/-! Program.of, deeds, text, == -/
def progD (ds : List Dd) : D := .obj 0 [.tup (ds.map ddD)]
def wordsOf (t : List Nat) : List (List Nat) := if t = [45] then [] else spl1 32 [] t
def textOk (t : List Nat) : Bool := (wordsOf t).all wOk
def textOf (ds : List Dd) : List Nat := if ds = [] then [45] else joinL [32] (ds.map ddW)
def ofR (t : List Nat) (h : Hh) : R D := if textOk t = true then .ok (progD ((wordsOf t).map wDd)) h else .err ⟨4, []⟩ h
theorem progD_free (ds : List Dd) : (progD ds).free = true := by
  simp only [progD, D.free, D.freeL, Bool.and_true]
  exact freeL_of (by simp only [List.mem_map]; rintro x ⟨p, _, rfl⟩; rfl)
theorem tpd_dd (d : Dd) : D.tpd (ddD d) = ddD d := rfl
theorem tpd_dds (ds : List Dd) : (ds.map ddD).map D.tpd = ds.map ddD := by rw [List.map_map]; rfl
theorem pl_dds {ds : List Dd} (e : ds.length ≤ 100000) : D.pl 2 (.lst (ds.map ddD)) = true := by
  simp only [D.pl, Bool.and_eq_true]
  exact ⟨okLen_of (by simp [big]; omega), plL_of (by simp only [List.mem_map]; rintro x ⟨p, _, rfl⟩; rfl)⟩
theorem pl_ddsT {ds : List Dd} (e : ds.length ≤ 100000) : D.pl 2 (.tup (ds.map ddD)) = true := by
  simp only [D.pl, Bool.and_eq_true]
  exact ⟨okLen_of (by simp [big]; omega), plL_of (by simp only [List.mem_map]; rintro x ⟨p, _, rfl⟩; rfl)⟩
theorem deedD_free (w : List Nat) : (deedD w).free = true := by unfold deedD; split <;> rfl
theorem deedD_flat (w : List Nat) : D.flat 60 (deedD w) = true := by unfold deedD; split <;> rfl
theorem none_in (h : Hh) (ws : List (List Nat)) : cmpD h .isin .non (.lst (ws.map deedD)) = some (!ws.all wOk) := by
  have f1 : D.flatL 60 (ws.map deedD) = true := flatL_of (by simp only [List.mem_map]; rintro x ⟨p, _, rfl⟩; exact deedD_flat p)
  have f2 : D.flat 60 .non = true := rfl
  simp only [cmpD, itemsS, itemsL, f1, f2, Bool.and_self, if_true, hasE]
  congr 1
  induction ws with
  | nil => rfl
  | cons w r ih =>
    have ih' := ih (flatL_of (by simp only [List.mem_map]; rintro x ⟨p, _, rfl⟩; exact deedD_flat p))
    rw [List.map_cons, List.any_cons, ih', List.all_cons]
    by_cases k : wOk w = true
    · have : D.eqv (deedD w) .non = false := by unfold deedD; rw [if_pos k]; rfl
      rw [this, k]; rfl
    · have k' : wOk w = false := by simpa using k
      have : D.eqv (deedD w) .non = true := by unfold deedD; rw [k']; rfl
      rw [this, k']; simp
def ofPF : Fn := { np := 1, ns := 4, body :=
    (.cons (.asg (.nm 1) (.ite (.cmp .eq (.var 0) (.glb "NOTHING" (.str [45]))) (.lv (.disp .nil)) (.lv (.split (.var 0) (.glb "BLANK" (.str [32]))))))
    (.cons (.asg (.nm 3) (.lv (.comp (.nm 2) (.seq (.var 1)) .nil (.call 11 (.cons (.var 2) .nil) []))))
    (.cons (.ife (.cmp .isin (.cst .non) (.var 3)) (.cons (.raise_ 4 .nil)
    .nil) .nil)
    (.cons (.ret (.newp 4 (.var 3)))
    .nil)))) }
theorem wordsOf_len (t : List Nat) : (wordsOf t).length ≤ t.length + 1 := by
  unfold wordsOf; split
  · simp
  · exact spl1_len 32 t []
theorem wordsOf_part (t : List Nat) : ∀ w ∈ wordsOf t, w.length ≤ t.length := by
  intro w h
  unfold wordsOf at h; split at h
  · simp at h
  · have := spl1_part 32 t [] w h; simpa using this
theorem ofP_run {cf : Cf} (dd : ∀ (w : List Nat) (h : Hh), w.length ≤ 1000 → cf 11 [.str w] h = .ok (deedD w) h) (tp : ∀ (ds : List Dd) (h : Hh), ds.length ≤ 100000 → cf 4 [.lst (ds.map ddD)] h = .ok (.tup (ds.map ddD)) h)
    (t : List Nat) (ht : t.length ≤ 1000) : runFn cf ofPF [.str t] [] = ofR t [] := by
  rw [runFn_eq _ _ _ _ rfl (by decide)]
  have lw := wordsOf_len t
  have pw := wordsOf_part t
  have sp : splK2 t (.str [32]) ([] : Hh) = .ok ((spl1 32 [] t).map D.str) [] := splK2_ok (by decide) (by simp [big]; omega) []
  have first : ev cf (.ite (.cmp .eq (.var 0) (.glb "NOTHING" (.str [45]))) (.lv (.disp .nil)) (.lv (.split (.var 0) (.glb "BLANK" (.str [32]))))) [some (.str t), none, none, none] [] = .ok (.lst ((wordsOf t).map D.str)) [] := by
    by_cases k : t = [45]
    · subst k
      simp -implicitDefEqProofs [eng, eng0, wordsOf]
    · have e : wordsOf t = spl1 32 [] t := by simp [wordsOf, k]
      have ol : okLen ((spl1 32 [] t).map D.str) = true := okLen_of (by rw [List.length_map]; rw [e] at lw; simp only [big]; omega)
      rw [e]
      simp -implicitDefEqProofs [eng, eng0, k, sp, ol]
  unfold ofR textOk
  generalize wordsOf t = ws at *
  have m : mapL (compB cf (.nm 2) .nil (.call 11 (.cons (.var 2) .nil) []) [some (.str t), some (.lst (ws.map D.str)), none, none]) (ws.map D.str) [] = .ok (ws.map deedD) [] := by
    rw [mapL_map _ (fun w => [deedD w])]
    · rw [← List.map_eq_flatMap]
    · intro w hw
      simp -implicitDefEqProofs [eng, eng0, compB, dd w [] (Nat.le_trans (pw w hw) ht)]
  have ol : okLen (ws.map deedD) = true := okLen_of (by rw [List.length_map]; simp only [big]; omega)
  have ni := fun h => none_in h ws
  by_cases k : ws.all wOk = true
  · have em : ws.map deedD = (ws.map wDd).map ddD := by
      rw [List.map_map]
      refine List.map_congr_left fun w hw => ?_
      simp only [deedD, List.all_eq_true.mp k w hw, if_true, Function.comp]
    rw [em] at m ol ni
    have t1 := fun h => tp (ws.map wDd) h (by rw [List.length_map]; omega)
    have fr : (D.tup ((ws.map wDd).map ddD)).free = true := by
      have := progD_free (ws.map wDd)
      simpa only [progD, D.free, D.freeL, Bool.and_true] using this
    rw [k] at ni
    simp -implicitDefEqProofs only [eng, eng0, ofPF, exs_cons, ex_asg, List.map_cons, List.map_nil, List.cons_append, List.nil_append, List.replicate, Nat.reduceSub, first, bind_ok, asgT_nm, List.set_cons_succ, List.set_cons_zero, after_nx, ev_lv, evf_comp, evi_seq, ev_var, List.getElem?_cons_succ, List.getElem?_cons_zero, getV_some, itemsI_lst, withL_some, refOf_lst, unlock_none, lockO_none, slots_nm, wipe_cons, wipe_nil, m, calm_okM, freshL_ok', ol, onlyIf_true, ex_ife, ev_cmp, ev_cst, ni, Option.map_some, Bool.not_true, lift_some, tru_bl, br_false, exs_nil, ex_ret, ev_newp, t1, newpK2_eq, fr, after_rt, asVal_rt, k, if_true, progD]
  · have k' : ws.all wOk = false := by simpa using k
    rw [k'] at ni
    simp -implicitDefEqProofs [eng, eng0, ofPF, first, m, ol, ni, k', raiR, exF, exT, asVal]
theorem hOfP {G : Nat → Option Fn} (n : Nat) (e5 : G 5 = some (isNameF letters)) (e11 : G 11 = some (deedInF [])) (e4 : G 4 = some tupledF) (e : G 23 = some ofPF) (t : List Nat) (h : Hh) (ht : t.length ≤ 1000) : callN G (n + 4) 23 [.str t] h = ofR t h := by
  have r := ofP_run (cf := callN G (n + 3)) (fun w h hw => by rw [callN_succ e11]; exact call_pure rfl (deedIn_run (fun s h hs => hNameS (n + 1) e5 s h hs) w hw) (deedD_free w))
    (fun ds h hl => by rw [tupled_ok G e4 2 (n + 2) _ h (pl_dds hl) (by omega), D.tpd, tpdL_map, tpd_dds]) t ht
  rw [callN_succ e]
  unfold ofR at r ⊢
  split
  · rename_i k; rw [if_pos k] at r; exact call_pure rfl r (progD_free _)
  · rename_i k; rw [if_neg k] at r; exact call_perr rfl r rfl
def deedsPF : Fn := { np := 1, ns := 1, body :=
    (.cons (.ret (.att (.var 0) 0))
    .nil) }
theorem hDeedsP {G : Nat → Option Fn} (n : Nat) (e : G 24 = some deedsPF) (ds : List Dd) (h : Hh) : callN G (n + 1) 24 [progD ds] h = .ok (.tup (ds.map ddD)) h := by
  rw [callN_succ e]
  have fr : (D.tup (ds.map ddD)).free = true := by
    have := progD_free ds
    simpa only [progD, D.free, D.freeL, Bool.and_true] using this
  refine call_pure (by simp only [D.freeL, progD_free, Bool.and_self]) (hl := []) ?_ fr
  rw [runFn_eq _ _ _ _ rfl (by decide)]
  simp -implicitDefEqProofs [eng, eng0, deedsPF, progD]
def textPF : Fn := { np := 1, ns := 4, body :=
    (.cons (.asg (.nm 3) (.lv (.comp (.tp (.cons (.nm 1) (.cons (.nm 2) .nil))) (.seq (.att (.var 0) 0)) .nil (.ite (.cmp .eq (.var 1) (.glb "WRITE" (.str wrS))) (.var 2) (.bin .add (.glb "SIGN" (.str [33])) (.var 2))))))
    (.cons (.ret (.ite (.cmp .gt (.pr .len (.cons (.var 3) .nil)) (.cst (.int 0))) (.mt .join (.glb "BLANK" (.str [32])) (.cons (.var 3) .nil)) (.glb "NOTHING" (.str [45]))))
    .nil)) }
theorem sum_le (l : List (List Nat)) (b : Nat) (h : ∀ w ∈ l, w.length ≤ b) : (l.map (·.length)).sum ≤ l.length * b := by
  induction l with
  | nil => simp
  | cons x r ih =>
    have h1 := h x (by simp)
    have h2 := ih fun w hw => h w (by simp [hw])
    simp only [List.map_cons, List.sum_cons, List.length_cons, Nat.add_mul, Nat.one_mul]
    omega
theorem textP_run (cf : Cf) (ds : List Dd) (hl : ds.length ≤ 1001) (hb : ∀ d ∈ ds, d.2.length ≤ 1000) : runFn cf textPF [progD ds] [] = .ok (.str (textOf ds)) [] := by
  rw [runFn_eq _ _ _ _ rfl (by decide)]
  have m : mapL (compB cf (.tp (.cons (.nm 1) (.cons (.nm 2) .nil))) .nil (.ite (.cmp .eq (.var 1) (.glb "WRITE" (.str wrS))) (.var 2) (.bin .add (.glb "SIGN" (.str [33])) (.var 2))) [some (progD ds), none, none, none]) (ds.map ddD) [] = .ok ((ds.map ddW).map D.str) [] := by
    rw [mapL_map _ (fun d => [D.str (ddW d)])]
    · rw [← List.map_eq_flatMap, List.map_map]; rfl
    · rintro ⟨f, s⟩ hw
      have hs : s.length ≤ 1000 := hb _ hw
      cases f with
      | true =>
        have e1 : decide (flS = wrS) = false := by decide
        have a1 : binD ([] : Hh) .add (.str [33]) (.str s) = some (.str ([33] ++ s)) := by unfold binD; exact if_pos (by simp [big]; omega)
        have a2 : ddW (true, s) = [33] ++ s := rfl
        rw [a2]
        simp -implicitDefEqProofs only [eng, eng0, compB, ddD, if_true, asgT_tp, itemsS_tup, withL_some, List.length_cons, List.length_nil, len_cons, len_nil, Nat.reduceAdd, beq_self_eq_true, onlyIf_true, asgTs_cons, asgT_nm, bind_ok, List.set_cons_succ, List.set_cons_zero, asgTs_nil, evt_nil, ev_ite, ev_cmp, ev_var, List.getElem?_cons_succ, List.getElem?_cons_zero, getV_some, ev_glb, cmp_eq_str, e1, Option.map_some, lift_some, tru_bl, ev_bin, a1]
      | false =>
        have e1 : decide (wrS = wrS) = true := by decide
        have a2 : ddW (false, s) = s := rfl
        rw [a2]
        simp -implicitDefEqProofs only [eng, eng0, compB, ddD, Bool.false_eq_true, if_false, asgT_tp, itemsS_tup, withL_some, List.length_cons, List.length_nil, len_cons, len_nil, Nat.reduceAdd, beq_self_eq_true, onlyIf_true, asgTs_cons, asgT_nm, bind_ok, List.set_cons_succ, List.set_cons_zero, asgTs_nil, evt_nil, ev_ite, ev_cmp, ev_var, List.getElem?_cons_succ, List.getElem?_cons_zero, getV_some, ev_glb, cmp_eq_str, e1, decide_true, Option.map_some, lift_some, tru_bl]
  have ol : okLen ((ds.map ddW).map D.str) = true := okLen_of (by simp [big]; omega)
  have ln : ∀ h, prD h .len [.lst ((ds.map ddW).map D.str)] = some (.int (ds.length : Nat)) := fun h => by simp [prD, itemsS, itemsL]
  by_cases k : ds = []
  · subst k
    have ln' : ∀ h, prD h .len [.lst []] = some (.int 0) := fun _ => rfl
    have m' : mapL (compB cf (.tp (.cons (.nm 1) (.cons (.nm 2) .nil))) .nil (.ite (.cmp .eq (.var 1) (.glb "WRITE" (.str wrS))) (.var 2) (.bin .add (.glb "SIGN" (.str [33])) (.var 2))) [some (progD []), none, none, none]) [] [] = .ok [] [] := rfl
    have at0 : attK 0 (progD []) ([] : Hh) = .ok (.tup []) [] := rfl
    simp -implicitDefEqProofs [eng, eng0, textPF, at0, m', ln', textOf]
  · have k1 : decide ((0 : Int) < (ds.length : Nat)) = true := by
      have : 0 < ds.length := List.length_pos_iff.mpr k
      simpa using this
    have jo : ∀ h, mtD h .join (.str [32]) [.lst ((ds.map ddW).map D.str)] = some (.str (joinL [32] (ds.map ddW)), h) := fun h => join_ok h [32] _ (by
      have := sum_le (ds.map ddW) 1001 (by
        simp only [List.mem_map]
        rintro w ⟨d, hd, rfl⟩
        have := hb d hd
        unfold ddW; split <;> simp <;> omega)
      simp only [List.length_map, List.length_singleton, Nat.mul_one] at this ⊢
      have : ds.length * 1001 ≤ 1001 * 1001 := Nat.mul_le_mul_right _ hl
      simp only [big]; omega)
    have pj : ∀ h, mtPre h .join (.str [32]) = true := fun _ => rfl
    have at0 : attK 0 (progD ds) ([] : Hh) = .ok (.tup (ds.map ddD)) [] := rfl
    have tx : textOf ds = joinL [32] (ds.map ddW) := by simp [textOf, k]
    rw [tx]
    simp -implicitDefEqProofs only [eng, eng0, textPF, exs_cons, ex_asg, List.map_cons, List.map_nil, List.cons_append, List.nil_append, List.replicate, Nat.reduceSub, ev_lv, evf_comp, evi_seq, ev_att, ev_var, List.getElem?_cons_succ, List.getElem?_cons_zero, getV_some, bind_ok, at0, itemsI_tup, withL_some, refOf_tup, unlock_none, lockO_none, slots_tp, slots_cons, slots_nm, slots_nil, List.append_nil, wipe_cons, wipe_nil, List.set_cons_succ, List.set_cons_zero, m, calm_okM, freshL_ok', ol, onlyIf_true, asgT_nm, after_nx, ex_ret, ev_ite, ev_cmp, ev_pr, evs_cons, evs_nil, ln, lift_some, ev_cst, cmp_gt_int, k1, Option.map_some, tru_bl, ev_mt, ev_glb, pj, jo, pairR_some, after_rt, asVal_rt]
theorem hTextP {G : Nat → Option Fn} (n : Nat) (e : G 28 = some textPF) (ds : List Dd) (h : Hh) (hl : ds.length ≤ 1001) (hb : ∀ d ∈ ds, d.2.length ≤ 1000) : callN G (n + 1) 28 [progD ds] h = .ok (.str (textOf ds)) h := by
  rw [callN_succ e]
  exact call_pure (by simp only [D.freeL, progD_free, Bool.and_self]) (textP_run _ ds hl hb) rfl
def eqPF : Fn := { np := 2, ns := 2, body :=
    (.cons (.ret (.bool true (.cons (.isc (.var 1)) (.cons (.cmp .eq (.att (.var 0) 0) (.prop 24 (.var 1))) .nil))))
    .nil) }
theorem eqv_dds : ∀ ds : List Dd, D.eqvL (ds.map ddD) (ds.map ddD) = true
  | [] => rfl
  | d :: r => by simp [D.eqvL, ddD, D.eqv, eqv_dds r]
theorem flat_dds (ds : List Dd) : D.flat 60 (.tup (ds.map ddD)) = true := by
  simp only [D.flat]
  exact flatL_of (by simp only [List.mem_map]; rintro x ⟨p, _, rfl⟩; rfl)
theorem hEqP {G : Nat → Option Fn} (n : Nat) (e24 : G 24 = some deedsPF) (e : G 33 = some eqPF) (ds : List Dd) (h : Hh) : callN G (n + 2) 33 [progD ds, progD ds] h = .ok (.bl true) h := by
  rw [callN_succ e]
  refine call_pure (by simp only [D.freeL, progD_free, Bool.and_self]) (hl := []) ?_ rfl
  rw [runFn_eq _ _ _ _ rfl (by decide)]
  have at0 : attK 0 (progD ds) ([] : Hh) = .ok (.tup (ds.map ddD)) [] := rfl
  have p0 : propK (callN G (n + 1)) 24 (progD ds) [] = .ok (.tup (ds.map ddD)) [] := by
    show (callN G (n + 1) 24 [progD ds] []).calm = _
    rw [hDeedsP n e24 ds []]; rfl
  have ic : iscK (progD ds) ([] : Hh) = .ok (.bl true) [] := rfl
  have ce : cmpD ([] : Hh) .eq (.tup (ds.map ddD)) (.tup (ds.map ddD)) = some true := by
    simp only [cmpD, snap, flat_dds, Bool.and_self, if_true, D.eqv, eqv_dds]
  simp -implicitDefEqProofs only [eng0, eqPF, exs_cons, ex_ret, List.map_cons, List.map_nil, List.cons_append, List.nil_append, List.replicate, Nat.reduceSub, ev_bool, evb_and, ev_isc, ev_var, List.getElem?_cons_succ, List.getElem?_cons_zero, getV_some, bind_ok, ic, andK, andB, tru_bl, evb_one, ev_cmp, ev_att, at0, cmpK, ev_prop, p0, ce, Option.map_some, lift_some, after_rt, asVal_rt]
/-! ### there and back -/
theorem text_words {t : List Nat} : textOf ((wordsOf t).map wDd) = t := by
  have e : ((wordsOf t).map wDd).map ddW = wordsOf t := by rw [List.map_map]; conv => rhs; rw [← List.map_id (wordsOf t)]
                                                           exact List.map_congr_left fun w _ => ddW_w
  unfold textOf
  rw [e]
  unfold wordsOf
  by_cases k : t = [45]
  · simp [k]
  · have n : spl1 32 [] t ≠ [] := spl1_ne 32 t []
    rw [if_neg k, if_neg (by simpa using n), join_spl]; rfl
theorem name_no {s : List Nat} (h : nameB letters s = true) {c : Nat} (hc : c ∉ letters) : c ∉ s := by
  intro z
  simp only [nameB, Bool.and_eq_true, List.all_eq_true, decide_eq_true_eq] at h
  exact hc (h.2.2 c z)
theorem name_ne {s : List Nat} (h : nameB letters s = true) : 1 ≤ s.length ∧ s.length ≤ 8 := by
  simp only [nameB, Bool.and_eq_true, decide_eq_true_eq] at h
  exact ⟨h.1, h.2.1⟩
theorem wFl_name {s : List Nat} (h : nameB letters s = true) : wFl s = false := by
  unfold wFl
  refine decide_eq_false fun z => ?_
  have : (33 : Nat) ∈ s := List.mem_of_mem_take (i := 1) (by rw [z]; simp)
  exact name_no h (by decide) this
theorem wDd_w {d : Dd} (h : nameB letters d.2 = true) : wDd (ddW d) = d := by
  obtain ⟨f, s⟩ := d
  cases f with
  | true =>
    have e : ddW (true, s) = 33 :: s := rfl
    rw [e]
    have f1 : wFl (33 :: s) = true := by simp [wFl]
    simp [wDd, wName, f1]
  | false =>
    have e : ddW (false, s) = s := rfl
    rw [e]
    have f1 : wFl s = false := wFl_name h
    simp [wDd, wName, f1]
theorem ddW_no {d : Dd} (h : nameB letters d.2 = true) : (32 : Nat) ∉ ddW d := by
  obtain ⟨f, s⟩ := d
  have := name_no h (c := 32) (by decide)
  cases f with
  | true => show (32 : Nat) ∉ 33 :: s; simpa using this
  | false => exact this
theorem text_ne {ds : List Dd} (n : ds ≠ []) (h : ∀ d ∈ ds, nameB letters d.2 = true) : joinL [32] (ds.map ddW) ≠ [45] := by
  intro z
  obtain ⟨d, r, rfl⟩ := List.exists_cons_of_ne_nil n
  have hd := h d (by simp)
  have hw : ∃ c t, ddW d = c :: t ∧ c ≠ 45 := by
    obtain ⟨f, s⟩ := d
    cases f with
    | true => exact ⟨33, s, rfl, by decide⟩
    | false =>
      obtain ⟨l1, _⟩ := name_ne hd
      cases s with
      | nil => simp at l1
      | cons c t =>
        refine ⟨c, t, rfl, fun e => ?_⟩
        exact name_no hd (c := 45) (by decide) (by simp [e])
  obtain ⟨c, t, e, ne⟩ := hw
  have : ∃ u, joinL [32] ((d :: r).map ddW) = c :: u := by
    rw [List.map_cons, e]
    cases r with
    | nil => exact ⟨t, rfl⟩
    | cons x r => exact ⟨t ++ [32] ++ joinL [32] ((x :: r).map ddW), by rw [List.map_cons, joinL_cons _ _ (by simp)]; rfl⟩
  obtain ⟨u, eu⟩ := this
  rw [eu] at z
  injection z with z1 _
  exact ne z1
theorem words_text {ds : List Dd} (h : ∀ d ∈ ds, nameB letters d.2 = true) : wordsOf (textOf ds) = ds.map ddW ∧ (wordsOf (textOf ds)).map wDd = ds ∧ textOk (textOf ds) = true := by
  have e : wordsOf (textOf ds) = ds.map ddW := by
    by_cases k : ds = []
    · subst k; rfl
    · have tx : textOf ds = joinL [32] (ds.map ddW) := by simp [textOf, k]
      rw [tx, wordsOf, if_neg (text_ne k h)]
      exact spl_join 32 _ (by simpa using k) (by simp only [List.mem_map]; rintro w ⟨d, hd, rfl⟩; exact ddW_no (h d hd))
  have e2 : (ds.map ddW).map wDd = ds := by
    rw [List.map_map]
    conv => rhs; rw [← List.map_id ds]
    exact List.map_congr_left fun d hd => wDd_w (h d hd)
  refine ⟨e, by rw [e, e2], ?_⟩
  rw [textOk, e, List.all_eq_true]
  intro w hw
  obtain ⟨d, hd, rfl⟩ := List.mem_map.mp hw
  have := wDd_w (h d hd)
  have e3 : wName (ddW d) = d.2 := congrArg Prod.snd this
  rw [wOk, e3]
  exact h d hd
end Ls
namespace K02
open Ls
def p_tupled : Ls.Fn := { np := 1, ns := 2, body :=
    (.cons (.ret (.ite (.isi (.var 0) [.list, .tuple]) (.pr .tuple (.cons (.lv (.comp (.nm 1) (.seq (.var 0)) .nil (.call 4 (.cons (.var 1) .nil) []))) .nil)) (.var 0)))
    .nil) }
def p_is_name : Ls.Fn := { np := 1, ns := 2, body :=
    (.cons (.ret (.bool true (.cons (.isi (.var 0) [.str]) (.cons (.chn .le .le (.cst (.int 1)) (.pr .len (.cons (.var 0) .nil)) (.glb "LONGEST" (.int 8))) (.cons (.pr .all (.cons (.lv (.comp (.nm 1) (.sgn (.var 0)) .nil (.cmp .isin (.var 1) (.glb "LETTERS" (.str [97, 98, 99, 100, 101, 102, 103, 104, 105, 106, 107, 108, 109, 110, 111, 112, 113, 114, 115, 116, 117, 118, 119, 120, 121, 122]))))) .nil)) .nil)))))
    .nil) }
def p_deed_in : Ls.Fn := { np := 1, ns := 3, body :=
    (.cons (.asg (.nm 1) (.cmp .eq (.sl (.var 0) .no (.so (.cst (.int 1)))) (.glb "SIGN" (.str [33]))))
    (.cons (.asg (.nm 2) (.ite (.var 1) (.sl (.var 0) (.so (.cst (.int 1))) .no) (.var 0)))
    (.cons (.ife (.not (.call 5 (.cons (.var 2) .nil) [])) (.cons (.ret (.cst .non))
    .nil) .nil)
    (.cons (.ret (.tup (.cons (.ite (.var 1) (.glb "FLUSH" (.str [102, 108, 117, 115, 104])) (.glb "WRITE" (.str [119, 114, 105, 116, 101]))) (.cons (.var 2) .nil))))
    .nil)))) }
def f_law_box : Ls.Fn := { np := 2, ns := 3, body :=
    (.cons (.asg (.nm 2) (.ite (.cmp .lt (.var 1) (.pr .len (.cons (.var 0) .nil))) (.ix (.var 0) (.var 1)) (.cst (.int 0))))
    (.cons (.ret (.lr (.disp (.cons (.bin .mul (.pr .abs (.cons (.var 2) .nil)) (.pr .int (.cons (.cmp .ge (.pr .abs (.cons (.var 2) .nil)) (.bin .pow (.cst (.int 10)) (.cst (.int 18)))) .nil))) (.cons (.bin .add (.bin .add (.bin .mod (.pr .int (.cons (.var 2) .nil)) (.cst (.int 2305843009213693951))) (.bin .mul (.cst (.int 39373)) (.var 1))) (.cst (.int 824102))) (.cons (.cst (.int 0)) .nil))))))
    .nil)) }
def f_law_take : Ls.Fn := { np := 2, ns := 6, body :=
    (.cons (.ife (.cmp .gt (.ix (.var 0) (.cst (.int 0))) (.cst (.int 0))) (.cons (.asg (.nm 2) (.bin .mod (.pr .int (.cons (.ix (.var 0) (.cst (.int 0))) .nil)) (.var 1)))
    (.cons (.asg (.ix (.var 0) (.cst (.int 0))) (.bin .div (.ix (.var 0) (.cst (.int 0))) (.var 1)))
    (.cons (.ret (.var 2))
    .nil))) .nil)
    (.cons (.asg (.ix (.var 0) (.cst (.int 2))) (.bin .add (.ix (.var 0) (.cst (.int 2))) (.cst (.int 1))))
    (.cons (.asg (.nm 3) (.bin .mod (.pr .int (.cons (.bin .mul (.bin .add (.ix (.var 0) (.cst (.int 1))) (.bin .mul (.cst (.int 48271)) (.ix (.var 0) (.cst (.int 2))))) (.bin .add (.cst (.int 39373)) (.ix (.var 0) (.cst (.int 2))))) .nil)) (.cst (.int 2147483647))))
    (.cons (.asg (.nm 4) (.bin .add (.bin .mod (.pr .int (.cons (.var 3) .nil)) (.cst (.int 40009))) (.cst (.int 7))))
    (.cons (.asg (.nm 5) (.bin .mod (.pr .int (.cons (.bin .mul (.bin .add (.bin .add (.var 3) (.ix (.var 0) (.cst (.int 2)))) (.bin .div (.ix (.var 0) (.cst (.int 1))) (.cst (.int 1000003)))) (.var 4)) .nil)) (.cst (.int 2147483629))))
    (.cons (.ret (.bin .mod (.pr .int (.cons (.bin .div (.bin .mod (.pr .int (.cons (.bin .add (.bin .mul (.var 5) (.cst (.int 48271))) (.var 3)) .nil)) (.cst (.int 2147483587))) (.cst (.int 64))) .nil)) (.var 1)))
    .nil)))))) }
def f_law_cells : Ls.Fn := { np := 2, ns := 6, body :=
    (.cons (.asg (.nm 2) (.bool false (.cons (.lr (.list (.sl (.var 0) .no (.so (.var 1))))) (.cons (.lr (.disp (.cons (.cst (.int 0)) .nil))) .nil))))
    (.cons (.for_ (.tp (.cons (.nm 3) (.cons (.nm 4) .nil))) (.enum (.sl (.var 0) (.so (.var 1)) (.so (.cst (.int 63))))) (.cons (.asg (.nm 5) (.bin .mod (.pr .int (.cons (.var 3) .nil)) (.var 1)))
    (.cons (.asg (.ix (.var 2) (.var 5)) (.bin .add (.ix (.var 2) (.var 5)) (.bin .mul (.var 4) (.bin .add (.var 3) (.cst (.int 2))))))
    .nil)))
    (.cons (.ret (.frz (.var 2)))
    .nil))) }
def f_law_of : Ls.Fn := { np := 2, ns := 2, body :=
    (.cons (.ret (.ix (.var 1) (.call 14 (.cons (.var 0) (.cons (.pr .len (.cons (.var 1) .nil)) .nil)) [])))
    .nil) }
def f_law_same : Ls.Fn := { np := 2, ns := 4, body :=
    (.cons (.ife (.isi (.var 1) [.list, .tuple]) (.cons (.ife (.bool false (.cons (.cmp .ne (.isi (.var 0) [.list]) (.isi (.var 1) [.list])) (.cons (.cmp .ne (.isi (.var 0) [.tuple]) (.isi (.var 1) [.tuple])) .nil))) (.cons (.ret (.cst (.bl false)))
    .nil) .nil)
    (.cons (.ret (.bool true (.cons (.cmp .eq (.pr .len (.cons (.var 0) .nil)) (.pr .len (.cons (.var 1) .nil))) (.cons (.pr .all (.cons (.lv (.comp (.tp (.cons (.nm 2) (.cons (.nm 3) .nil))) (.zip (.var 0) (.var 1)) .nil (.call 17 (.cons (.var 2) (.cons (.var 3) .nil)) []))) .nil)) .nil))))
    .nil)) .nil)
    (.cons (.ife (.bool false (.cons (.cmp .isn (.var 1) (.cst .non)) (.cons (.isi (.var 1) [.bool, .str]) .nil))) (.cons (.ret (.bool true (.cons (.cmp .eq (.var 0) (.var 1)) (.cons (.cmp .eq (.isi (.var 0) [.bool]) (.isi (.var 1) [.bool])) (.cons (.cmp .eq (.cmp .isn (.var 0) (.cst .non)) (.cmp .isn (.var 1) (.cst .non))) .nil)))))
    .nil) .nil)
    (.cons (.ret (.bool true (.cons (.isi (.var 0) [.int]) (.cons (.not (.isi (.var 0) [.bool])) (.cons (.cmp .eq (.var 0) (.var 1)) .nil)))))
    .nil))) }
def f_law_tags : Ls.Fn := { np := 2, ns := 10, body :=
    (.cons (.asg (.nm 2) (.cst (.str [97, 98, 99, 100, 101, 102, 103, 104, 105, 106, 107, 108, 109, 110, 111, 112, 113, 114, 115, 116, 117, 118, 119, 120, 121, 122])))
    (.cons (.asg (.tp (.cons (.nm 3) (.cons (.nm 4) .nil))) (.tup (.cons (.call 14 (.cons (.var 0) (.cons (.cst (.int 26)) .nil)) []) (.cons (.call 16 (.cons (.var 0) (.cons (.lv (.disp (.cons (.cst (.int 1)) (.cons (.cst (.int 3)) (.cons (.cst (.int 7)) (.cons (.cst (.int 11)) (.cons (.cst (.int 25)) .nil))))))) .nil)) []) .nil))))
    (.cons (.asg (.nm 6) (.lv (.comp (.nm 5) (.rng .no (.pr .mx2 (.cons (.cst (.int 8)) (.cons (.var 1) .nil)))) .nil (.ix (.var 2) (.bin .mod (.pr .int (.cons (.bin .add (.var 3) (.bin .mul (.var 4) (.var 5))) .nil)) (.cst (.int 26)))))))
    (.cons (.ife (.bool true (.cons (.cmp .lt (.var 1) (.cst (.int 9))) (.cons (.cmp .eq (.call 14 (.cons (.var 0) (.cons (.cst (.int 4)) .nil)) []) (.cst (.int 0))) .nil))) (.cons (.ret (.lv (.sorted (.lv (.comp (.nm 5) (.rng .no (.var 1)) .nil (.mt .join (.cst (.str [])) (.cons (.sl (.var 6) .no (.so (.bin .add (.var 5) (.cst (.int 1))))) .nil)))))))
    .nil) .nil)
    (.cons (.asg (.nm 8) (.mt .join (.cst (.str [])) (.cons (.lv (.comp (.nm 7) (.rng .no (.call 16 (.cons (.var 0) (.cons (.lv (.disp (.cons (.cst (.int 0)) (.cons (.cst (.int 0)) (.cons (.cst (.int 1)) (.cons (.cst (.int 5)) (.cons (.cst (.int 7)) .nil))))))) .nil)) [])) .nil (.ix (.var 2) (.call 14 (.cons (.var 0) (.cons (.cst (.int 26)) .nil)) [])))) .nil)))
    (.cons (.asg (.nm 9) (.call 14 (.cons (.var 0) (.cons (.bin .add (.pr .len (.cons (.var 8) .nil)) (.cst (.int 1))) .nil)) []))
    (.cons (.ret (.lv (.sorted (.lv (.comp (.nm 5) (.rng .no (.var 1)) .nil (.bin .add (.bin .add (.sl (.var 8) .no (.so (.var 9))) (.ix (.var 6) (.var 5))) (.sl (.var 8) (.so (.var 9)) .no)))))))
    .nil))))))) }
def f_law_deeds : Ls.Fn := { np := 3, ns := 5, body :=
    (.cons (.asg (.nm 3) (.lv (.disp (.cons (.cst (.str [119, 114, 105, 116, 101])) (.cons (.cst (.str [119, 114, 105, 116, 101])) (.cons (.cst (.str [102, 108, 117, 115, 104])) .nil))))))
    (.cons (.ret (.pr .tuple (.cons (.lv (.comp (.nm 4) (.rng .no (.call 14 (.cons (.var 0) (.cons (.bin .add (.var 2) (.cst (.int 1))) .nil)) [])) .nil (.tup (.cons (.call 16 (.cons (.var 0) (.cons (.var 3) .nil)) []) (.cons (.call 16 (.cons (.var 0) (.cons (.var 1) .nil)) []) .nil))))) .nil)))
    .nil)) }
def f_law_flat : Ls.Fn := { np := 1, ns := 2, body :=
    (.cons (.ret (.bool false (.cons (.mt .join (.cst (.str [32])) (.cons (.lv (.comp (.nm 1) (.seq (.var 0)) .nil (.bin .add (.ite (.cmp .eq (.ix (.var 1) (.cst (.int 0))) (.cst (.str [102, 108, 117, 115, 104]))) (.cst (.str [33])) (.cst (.str []))) (.ix (.var 1) (.cst (.int 1)))))) .nil)) (.cons (.cst (.str [45])) .nil))))
    .nil) }
def f_law_heard : Ls.Fn := { np := 1, ns := 4, body :=
    (.cons (.asg (.tp (.cons (.nm 1) (.cons (.nm 2) .nil))) (.tup (.cons (.cst .non) (.cons (.cst .non) .nil))))
    (.cons (.tryK (.cons (.asg (.nm 2) (.scall 23 (.cons (.var 0) .nil) []))
    .nil) 4 3 1)
    (.cons (.ife (.cmp .isn (.var 1) (.cst .non)) (.cons (.ret (.lv (.disp (.cons (.prop 24 (.var 2)) (.cons (.prop 28 (.var 2)) .nil)))))
    .nil) .nil)
    (.cons (.ret (.ite (.isx (.var 1) false) (.cst (.str [98, 97, 100])) (.cst (.str [111, 116, 104, 101, 114]))))
    .nil)))) }
def f_law_is_text : Ls.Fn := { np := 1, ns := 4, body :=
    (.cons (.ife (.cmp .eq (.var 0) (.cst (.str [45]))) (.cons (.ret (.cst (.bl true)))
    .nil) .nil)
    (.cons (.for_ (.nm 1) (.seq (.lv (.split (.var 0) (.cst (.str [32]))))) (.cons (.asg (.nm 2) (.ite (.cmp .eq (.sl (.var 1) .no (.so (.cst (.int 1)))) (.cst (.str [33]))) (.sl (.var 1) (.so (.cst (.int 1))) .no) (.var 1)))
    (.cons (.ife (.bool false (.cons (.cmp .eq (.var 2) (.cst (.str []))) (.cons (.cmp .gt (.pr .len (.cons (.var 2) .nil)) (.cst (.int 8))) (.cons (.cmp .ne (.lv (.comp (.nm 3) (.sgn (.var 2)) (.cons (.bool false (.cons (.cmp .lt (.var 3) (.cst (.str [97]))) (.cons (.cmp .gt (.var 3) (.cst (.str [122]))) .nil))) .nil) (.var 3))) (.lv (.disp .nil))) .nil)))) (.cons (.ret (.cst (.bl false)))
    .nil) .nil)
    .nil)))
    (.cons (.ret (.cst (.bl true)))
    .nil))) }
def f_law_by_hand_right : Ls.Fn := { np := 0, ns := 8, body :=
    (.cons (.asg (.nm 0) (.lr (.disp (.cons (.tup (.cons (.cst (.str [45])) (.cons (.tup .nil) .nil))) (.cons (.tup (.cons (.cst (.str [97])) (.cons (.tup (.cons (.tup (.cons (.cst (.str [119, 114, 105, 116, 101])) (.cons (.cst (.str [97])) .nil))) .nil)) .nil))) (.cons (.tup (.cons (.cst (.str [33, 97])) (.cons (.tup (.cons (.tup (.cons (.cst (.str [102, 108, 117, 115, 104])) (.cons (.cst (.str [97])) .nil))) .nil)) .nil))) .nil))))))
    (.cons (.expr (.mt .append (.var 0) (.cons (.tup (.cons (.cst (.str [97, 32, 98, 32, 33, 97, 32, 98])) (.cons (.tup (.cons (.tup (.cons (.cst (.str [119, 114, 105, 116, 101])) (.cons (.cst (.str [97])) .nil))) (.cons (.tup (.cons (.cst (.str [119, 114, 105, 116, 101])) (.cons (.cst (.str [98])) .nil))) (.cons (.tup (.cons (.cst (.str [102, 108, 117, 115, 104])) (.cons (.cst (.str [97])) .nil))) (.cons (.tup (.cons (.cst (.str [119, 114, 105, 116, 101])) (.cons (.cst (.str [98])) .nil))) .nil))))) .nil))) .nil)))
    (.cons (.expr (.mt .append (.var 0) (.cons (.tup (.cons (.cst (.str [33, 97, 98, 99, 100, 101, 102, 103, 104, 32, 122, 122])) (.cons (.tup (.cons (.tup (.cons (.cst (.str [102, 108, 117, 115, 104])) (.cons (.cst (.str [97, 98, 99, 100, 101, 102, 103, 104])) .nil))) (.cons (.tup (.cons (.cst (.str [119, 114, 105, 116, 101])) (.cons (.cst (.str [122, 122])) .nil))) .nil))) .nil))) .nil)))
    (.cons (.asg (.nm 1) (.lv (.disp (.cons (.cst (.str [])) (.cons (.cst (.str [32])) (.cons (.cst (.str [97, 32])) (.cons (.cst (.str [32, 97])) (.cons (.cst (.str [97, 32, 32, 98])) (.cons (.cst (.str [33, 32, 97])) (.cons (.cst (.str [33])) (.cons (.cst (.str [33, 33, 97])) (.cons (.cst (.str [97, 33])) (.cons (.cst (.str [65])) (.cons (.cst (.str [97, 44, 98])) (.cons (.cst (.str [97, 32, 33])) (.cons (.cst (.str [97, 98, 99, 100, 101, 102, 103, 104, 105])) (.cons (.cst (.str [45, 32, 97])) (.cons (.cst (.str [97, 32, 45])) .nil))))))))))))))))))
    (.cons (.asg (.nm 1) (.bin .add (.var 1) (.lv (.disp (.cons (.cst (.str [45, 45])) (.cons (.cst (.str [97, 10])) .nil))))))
    (.cons (.asg (.nm 1) (.bin .add (.var 1) (.lv (.disp (.cons (.cst (.str [97, 9, 98])) (.cons (.cst (.str [49])) (.cons (.cst (.str [33, 45])) (.cons (.cst (.str [97, 32, 98, 32, 33, 97, 32, 98, 32])) (.cons (.cst (.str [10])) (.cons (.cst (.str [97, 10, 98])) (.cons (.cst (.str [33, 97, 32, 33])) (.cons (.cst (.str [45, 10])) (.cons (.cst (.str [97, 49])) (.cons (.cst (.str [119, 114, 105, 116, 101, 32, 97])) (.cons (.cst (.str [33, 65])) (.cons (.cst (.str [95])) .nil))))))))))))))))
    (.cons (.asg (.nm 4) (.bin .add (.lv (.comp (.tp (.cons (.nm 2) (.cons (.nm 3) .nil))) (.seq (.var 0)) .nil (.call 42 (.cons (.var 2) .nil) []))) (.lv (.comp (.tp (.cons (.nm 2) (.cons (.nm 3) .nil))) (.seq (.var 0)) .nil (.prop 28 (.newp 4 (.var 3)))))))
    (.cons (.asg (.nm 5) (.bin .add (.lv (.comp (.tp (.cons (.nm 2) (.cons (.nm 3) .nil))) (.seq (.var 0)) .nil (.lv (.disp (.cons (.var 3) (.cons (.var 2) .nil)))))) (.lv (.comp (.tp (.cons (.nm 2) (.cons (.nm 3) .nil))) (.seq (.var 0)) .nil (.var 2)))))
    (.cons (.asg (.nm 4) (.bin .add (.var 4) (.lv (.comp (.nm 2) (.seq (.var 1)) .nil (.call 42 (.cons (.var 2) .nil) [])))))
    (.cons (.asg (.nm 5) (.bin .add (.bin .add (.bin .add (.var 5) (.bin .mul (.lv (.disp (.cons (.cst (.str [98, 97, 100])) .nil))) (.cst (.int 26)))) (.lv (.disp (.cons (.lv (.disp (.cons (.tup (.cons (.tup (.cons (.cst (.str [119, 114, 105, 116, 101])) (.cons (.cst (.str [119, 114, 105, 116, 101])) .nil))) (.cons (.tup (.cons (.cst (.str [119, 114, 105, 116, 101])) (.cons (.cst (.str [97])) .nil))) .nil))) (.cons (.cst (.str [119, 114, 105, 116, 101, 32, 97])) .nil)))) .nil)))) (.bin .mul (.lv (.disp (.cons (.cst (.str [98, 97, 100])) .nil))) (.cst (.int 2)))))
    (.cons (.asg (.nm 6) (.bin .mul (.cst (.str [97, 98, 99, 100, 101, 102, 103, 104, 32, 33, 97, 98, 99, 100, 101, 102, 103, 104, 32, 98, 32])) (.cst (.int 20))))
    (.cons (.asg (.nm 4) (.bin .add (.var 4) (.lv (.disp (.cons (.cmp .eq (.prop 28 (.scall 23 (.cons (.sl (.var 6) .no (.so (.neg (.cst (.int 1))))) .nil) [0])) (.sl (.var 6) .no (.so (.neg (.cst (.int 1)))))) (.cons (.olen 29 (.scall 23 (.cons (.sl (.var 6) .no (.so (.neg (.cst (.int 1))))) .nil) [])) (.cons (.call 42 (.cons (.var 6) .nil) []) .nil)))))))
    (.cons (.asg (.nm 5) (.bin .add (.var 5) (.lv (.disp (.cons (.cst (.bl true)) (.cons (.cst (.int 60)) (.cons (.cst (.str [98, 97, 100])) .nil)))))))
    (.cons (.asg (.nm 7) (.scall 23 (.cons (.cst (.str [97, 32, 98, 32, 99, 32, 100, 32, 101, 32, 102, 32, 33, 103])) .nil) []))
    (.cons (.asg (.nm 4) (.bin .add (.var 4) (.lv (.disp (.cons (.olen 29 (.scall 23 (.cons (.bin .add (.bin .mul (.cst (.str [97, 32])) (.cst (.int 60))) (.cst (.str [33, 98]))) .nil) [])) (.cons (.prop 27 (.var 7)) (.cons (.prop 28 (.var 7)) (.cons (.olen 29 (.scall 23 (.cons (.bin .add (.var 6) (.sl (.var 6) .no (.so (.neg (.cst (.int 1)))))) .nil) [])) .nil))))))))
    (.cons (.ret (.call 17 (.cons (.var 4) (.cons (.bin .add (.var 5) (.lv (.disp (.cons (.cst (.int 61)) (.cons (.tup (.cons (.cst (.str [97])) (.cons (.cst (.str [98])) (.cons (.cst (.str [99])) (.cons (.cst (.str [100])) (.cons (.cst (.str [101])) (.cons (.cst (.str [102])) .nil))))))) (.cons (.cst (.str [97, 32, 98, 32, 99, 32, 100, 32, 101, 32, 102, 32, 33, 103])) (.cons (.cst (.int 120)) .nil))))))) .nil)) []))
    .nil)))))))))))))))) }
def f_law_right : Ls.Fn := { np := 1, ns := 10, body :=
    (.cons (.for_ (.nm 1) (.rng .no (.cst (.int 10))) (.cons (.asg (.nm 2) (.call 37 (.cons (.var 0) (.cons (.call 18 (.cons (.var 0) (.cons (.bin .add (.cst (.int 1)) (.call 14 (.cons (.var 0) (.cons (.cst (.int 4)) .nil)) [])) .nil)) []) (.cons (.cst (.int 10)) .nil))) []))
    (.cons (.asg (.nm 3) (.call 41 (.cons (.var 2) .nil) []))
    (.cons (.asg (.nm 4) (.scall 23 (.cons (.var 3) .nil) []))
    (.cons (.asg (.nm 5) (.lv (.disp (.cons (.prop 28 (.newp 4 (.var 2))) (.cons (.prop 24 (.var 4)) (.cons (.prop 28 (.var 4)) (.cons (.oop 0 33 (.var 4) (.newp 4 (.var 2))) .nil)))))))
    (.cons (.ife (.not (.call 17 (.cons (.var 5) (.cons (.lv (.disp (.cons (.var 3) (.cons (.var 2) (.cons (.var 3) (.cons (.cst (.bl true)) .nil)))))) .nil)) [])) (.cons (.ret (.cst (.bl false)))
    .nil) .nil)
    (.cons (.par [6, 7] (.cons (.call 14 (.cons (.var 0) (.cons (.bin .add (.pr .len (.cons (.var 3) .nil)) (.cst (.int 1))) .nil)) []) (.cons (.call 16 (.cons (.var 0) (.cons (.lv (.disp (.cons (.cst (.str [32])) (.cons (.cst (.str [33])) (.cons (.cst (.str [45])) (.cons (.cst (.str [65])) (.cons (.cst (.str [97])) (.cons (.cst (.str [49])) (.cons (.cst (.str [10])) (.cons (.cst (.str [122])) .nil)))))))))) .nil)) []) .nil)))
    (.cons (.for_ (.nm 8) (.seq (.lv (.disp (.cons (.bin .add (.bin .add (.sl (.var 3) .no (.so (.var 6))) (.var 7)) (.sl (.var 3) (.so (.var 6)) .no)) (.cons (.bin .add (.sl (.var 3) .no (.so (.var 6))) (.sl (.var 3) (.so (.bin .add (.var 6) (.cst (.int 1)))) .no)) (.cons (.bin .add (.bin .add (.sl (.var 3) .no (.so (.var 6))) (.var 7)) (.sl (.var 3) (.so (.bin .add (.var 6) (.cst (.int 1)))) .no)) (.cons (.bin .add (.var 3) (.cst (.str [32]))) .nil))))))) (.cons (.asg (.nm 9) (.call 42 (.cons (.var 8) .nil) []))
    (.cons (.ife (.bool false (.cons (.cmp .eq (.cmp .eq (.var 9) (.cst (.str [98, 97, 100]))) (.call 43 (.cons (.var 8) .nil) [])) (.cons (.bool true (.cons (.cmp .ne (.var 9) (.cst (.str [98, 97, 100]))) (.cons (.cmp .ne (.ix (.var 9) (.cst (.int 1))) (.var 8)) .nil))) .nil))) (.cons (.ret (.cst (.bl false)))
    .nil) .nil)
    .nil)))
    .nil))))))))
    (.cons (.ret (.cst (.bl true)))
    .nil)) }
def p_law : Ls.Fn := { np := 1, ns := 3, body :=
    (.cons (.asg (.nm 1) (.call 15 (.cons (.var 0) (.cons (.cst (.int 3)) .nil)) []))
    (.cons (.ret (.bool true (.cons (.call 19 .nil []) (.cons (.pr .all (.cons (.lv (.comp (.nm 2) (.rng .no (.pr .len (.cons (.var 1) .nil))) .nil (.call 20 (.cons (.call 13 (.cons (.var 1) (.cons (.var 2) .nil)) []) .nil) []))) .nil)) .nil))))
    .nil)) }
def p_deeds : Ls.Fn := { np := 1, ns := 1, body :=
    (.cons (.ret (.att (.var 0) 0))
    .nil) }
def p_writes : Ls.Fn := { np := 1, ns := 3, body :=
    (.cons (.ret (.pr .tuple (.cons (.lv (.comp (.tp (.cons (.nm 1) (.cons (.nm 2) .nil))) (.seq (.att (.var 0) 0)) (.cons (.cmp .eq (.var 1) (.glb "WRITE" (.str [119, 114, 105, 116, 101]))) .nil) (.var 2))) .nil)))
    .nil) }
def p_streams : Ls.Fn := { np := 1, ns := 1, body :=
    (.cons (.ret (.pr .tuple (.cons (.lv (.sset (.prop 26 (.var 0)))) .nil)))
    .nil) }
def p_text : Ls.Fn := { np := 1, ns := 4, body :=
    (.cons (.asg (.nm 3) (.lv (.comp (.tp (.cons (.nm 1) (.cons (.nm 2) .nil))) (.seq (.att (.var 0) 0)) .nil (.ite (.cmp .eq (.var 1) (.glb "WRITE" (.str [119, 114, 105, 116, 101]))) (.var 2) (.bin .add (.glb "SIGN" (.str [33])) (.var 2))))))
    (.cons (.ret (.ite (.cmp .gt (.pr .len (.cons (.var 3) .nil)) (.cst (.int 0))) (.mt .join (.glb "BLANK" (.str [32])) (.cons (.var 3) .nil)) (.glb "NOTHING" (.str [45]))))
    .nil)) }
def p_of : Ls.Fn := { np := 1, ns := 4, body :=
    (.cons (.asg (.nm 1) (.ite (.cmp .eq (.var 0) (.glb "NOTHING" (.str [45]))) (.lv (.disp .nil)) (.lv (.split (.var 0) (.glb "BLANK" (.str [32]))))))
    (.cons (.asg (.nm 3) (.lv (.comp (.nm 2) (.seq (.var 1)) .nil (.call 11 (.cons (.var 2) .nil) []))))
    (.cons (.ife (.cmp .isin (.cst .non) (.var 3)) (.cons (.raise_ 4 .nil)
    .nil) .nil)
    (.cons (.ret (.newp 4 (.var 3)))
    .nil)))) }
def f__len__ : Ls.Fn := { np := 1, ns := 1, body :=
    (.cons (.ret (.pr .len (.cons (.att (.var 0) 0) .nil)))
    .nil) }
def f__eq__ : Ls.Fn := { np := 2, ns := 2, body :=
    (.cons (.ret (.bool true (.cons (.isc (.var 1)) (.cons (.cmp .eq (.att (.var 0) 0) (.prop 24 (.var 1))) .nil))))
    .nil) }
end K02
namespace K02
open Ls
def top (i : Nat) : PySem.Stmt := PySem.Challenge.pw_lateshown_k02_programs_as_texts.main.body.getD i (.Pass ⟨0, 0, 0, 0⟩)
def sub (i j : Nat) : PySem.Stmt := (C8.clsBody (top i)).getD j (.Pass ⟨0, 0, 0, 0⟩)
def dp_tupled : Ls.Def := ⟨"tupled", "tupled", (top 6), ["value", "part"], ["value"], [], p_tupled, 0⟩
def dp_is_name : Ls.Def := ⟨"is_name", "is_name", (top 16), ["thing", "letter"], ["thing"], [], p_is_name, 0⟩
def dp_deed_in : Ls.Def := ⟨"deed_in", "deed_in", (top 21), ["word", "flushes", "name"], ["word"], [], p_deed_in, 0⟩
def df_law_box : Ls.Def := ⟨"_law_box", "_law_box", (top 24), ["_law_script", "_law_k", "_law_cell"], ["_law_script", "_law_k"], [], f_law_box, 0⟩
def df_law_take : Ls.Def := ⟨"_law_take", "_law_take", (top 25), ["_law_urn", "_law_low_so", "_law_drawn", "_law_once", "_law_far", "_law_twice"], ["_law_urn", "_law_low_so"], [], f_law_take, 0⟩
def df_law_cells : Ls.Def := ⟨"_law_cells", "_law_cells", (top 26), ["_law_script", "_law_top", "_law_cells_here", "_law_k", "_law_cell", "_law_at_so"], ["_law_script", "_law_top"], [], f_law_cells, 0⟩
def df_law_of : Ls.Def := ⟨"_law_of", "_law_of", (top 27), ["_law_urn", "_law_some_so"], ["_law_urn", "_law_some_so"], [], f_law_of, 0⟩
def df_law_same : Ls.Def := ⟨"_law_same", "_law_same", (top 28), ["_law_got", "_law_goal", "_law_mine_so", "_law_own"], ["_law_got", "_law_goal"], [], f_law_same, 0⟩
def df_law_tags : Ls.Def := ⟨"_law_tags", "_law_tags", (top 29), ["_law_urn", "_law_many_so", "_law_signs", "_law_first_so", "_law_by_so", "_law_k", "_law_row_so", "_law_turn", "_law_stem", "_law_at_so"], ["_law_urn", "_law_many_so"], [], f_law_tags, 0⟩
def df_law_deeds : Ls.Def := ⟨"_law_deeds", "_law_deeds", (top 30), ["_law_urn", "_law_tags_here", "_law_top", "_law_some", "_law_turn"], ["_law_urn", "_law_tags_here", "_law_top"], [], f_law_deeds, 0⟩
def df_law_flat : Ls.Def := ⟨"_law_flat", "_law_flat", (top 31), ["_law_row_so", "_law_own"], ["_law_row_so"], [], f_law_flat, 0⟩
def df_law_heard : Ls.Def := ⟨"_law_heard", "_law_heard", (top 32), ["_law_flat_here", "_law_caught", "_law_said", "error"], ["_law_flat_here"], [], f_law_heard, 0⟩
def df_law_is_text : Ls.Def := ⟨"_law_is_text", "_law_is_text", (top 33), ["_law_flat_here", "_law_word", "_law_name_so", "_law_sign"], ["_law_flat_here"], [], f_law_is_text, 0⟩
def df_law_by_hand_right : Ls.Def := ⟨"_law_by_hand_right", "_law_by_hand_right", (top 34), ["_law_fine", "_law_bad", "_law_flat_here", "_law_own", "_law_got", "_law_goal", "_law_wide", "_law_host"], [], [], f_law_by_hand_right, 0⟩
def df_law_right : Ls.Def := ⟨"_law_right", "_law_right", (top 35), ["_law_urn", "_law_turn", "_law_row_so", "_law_flat_here", "_law_host", "_law_got", "_law_k", "_law_sign", "_law_own", "_law_said"], ["_law_urn"], [], f_law_right, 0⟩
def dp_law : Ls.Def := ⟨"law", "law", (top 36), ["_law_script", "_law_cells_here", "_law_k"], ["_law_script"], [], p_law, 0⟩
def dp_deeds : Ls.Def := ⟨"deeds", "Program.deeds", (sub 22 3), ["self"], ["self"], [], p_deeds, 1⟩
def dp_writes : Ls.Def := ⟨"writes", "Program.writes", (sub 22 5), ["self", "word", "stream"], ["self"], [], p_writes, 1⟩
def dp_streams : Ls.Def := ⟨"streams", "Program.streams", (sub 22 6), ["self"], ["self"], [], p_streams, 1⟩
def dp_text : Ls.Def := ⟨"text", "Program.text", (sub 22 7), ["self", "word", "stream", "words"], ["self"], [], p_text, 1⟩
def dp_of : Ls.Def := ⟨"of", "Program.of", (sub 22 2), ["text", "words", "word", "deeds"], ["text"], [(["text"], [0])], p_of, 2⟩
def df__len__ : Ls.Def := ⟨"__len__", "Program.__len__", (sub 22 8), ["self"], ["self"], [], f__len__, 3⟩
def df__eq__ : Ls.Def := ⟨"__eq__", "Program.__eq__", (sub 22 12), ["self", "other"], ["self", "other"], [], f__eq__, 3⟩
def tab : Ls.Tab := [(4, dp_tupled), (5, dp_is_name), (11, dp_deed_in), (13, df_law_box), (14, df_law_take), (15, df_law_cells), (16, df_law_of), (17, df_law_same), (18, df_law_tags), (37, df_law_deeds), (41, df_law_flat), (42, df_law_heard), (43, df_law_is_text), (19, df_law_by_hand_right), (20, df_law_right), (21, dp_law), (24, dp_deeds), (26, dp_writes), (27, dp_streams), (28, dp_text), (23, dp_of), (29, df__len__), (33, df__eq__)]
def txt : Ls.Txt := ⟨tab, [("WRITE", .str ⟨#[119, 114, 105, 116, 101]⟩), ("FLUSH", .str ⟨#[102, 108, 117, 115, 104]⟩), ("SIGN", .str ⟨#[33]⟩), ("NOTHING", .str ⟨#[45]⟩), ("BLANK", .str ⟨#[32]⟩), ("LETTERS", .str ⟨#[97, 98, 99, 100, 101, 102, 103, 104, 105, 106, 107, 108, 109, 110, 111, 112, 113, 114, 115, 116, 117, 118, 119, 120, 121, 122]⟩), ("LONGEST", .int 8)], true, some 4, sub 22 1, [1, 4]⟩
theorem tab_ok : Ls.chTab txt = true := by decide +kernel
theorem b_tupled : Ls.BindsP "tupled" "tupled" (top 6) ["value"] := fun _ _ _ _ _ _ us hl => match us, hl with | [_], _ => rfl
theorem kb_tupled : Ls.KwsP "tupled" "tupled" (top 6) ["value"] [] := trivial
theorem b_is_name : Ls.BindsP "is_name" "is_name" (top 16) ["thing"] := fun _ _ _ _ _ _ us hl => match us, hl with | [_], _ => rfl
theorem kb_is_name : Ls.KwsP "is_name" "is_name" (top 16) ["thing"] [] := trivial
theorem b_deed_in : Ls.BindsP "deed_in" "deed_in" (top 21) ["word"] := fun _ _ _ _ _ _ us hl => match us, hl with | [_], _ => rfl
theorem kb_deed_in : Ls.KwsP "deed_in" "deed_in" (top 21) ["word"] [] := trivial
theorem b__law_box : Ls.BindsP "_law_box" "_law_box" (top 24) ["_law_script", "_law_k"] := fun _ _ _ _ _ _ us hl => match us, hl with | [_, _], _ => rfl
theorem kb__law_box : Ls.KwsP "_law_box" "_law_box" (top 24) ["_law_script", "_law_k"] [] := trivial
theorem b__law_take : Ls.BindsP "_law_take" "_law_take" (top 25) ["_law_urn", "_law_low_so"] := fun _ _ _ _ _ _ us hl => match us, hl with | [_, _], _ => rfl
theorem kb__law_take : Ls.KwsP "_law_take" "_law_take" (top 25) ["_law_urn", "_law_low_so"] [] := trivial
theorem b__law_cells : Ls.BindsP "_law_cells" "_law_cells" (top 26) ["_law_script", "_law_top"] := fun _ _ _ _ _ _ us hl => match us, hl with | [_, _], _ => rfl
theorem kb__law_cells : Ls.KwsP "_law_cells" "_law_cells" (top 26) ["_law_script", "_law_top"] [] := trivial
theorem b__law_of : Ls.BindsP "_law_of" "_law_of" (top 27) ["_law_urn", "_law_some_so"] := fun _ _ _ _ _ _ us hl => match us, hl with | [_, _], _ => rfl
theorem kb__law_of : Ls.KwsP "_law_of" "_law_of" (top 27) ["_law_urn", "_law_some_so"] [] := trivial
theorem b__law_same : Ls.BindsP "_law_same" "_law_same" (top 28) ["_law_got", "_law_goal"] := fun _ _ _ _ _ _ us hl => match us, hl with | [_, _], _ => rfl
theorem kb__law_same : Ls.KwsP "_law_same" "_law_same" (top 28) ["_law_got", "_law_goal"] [] := trivial
theorem b__law_tags : Ls.BindsP "_law_tags" "_law_tags" (top 29) ["_law_urn", "_law_many_so"] := fun _ _ _ _ _ _ us hl => match us, hl with | [_, _], _ => rfl
theorem kb__law_tags : Ls.KwsP "_law_tags" "_law_tags" (top 29) ["_law_urn", "_law_many_so"] [] := trivial
theorem b__law_deeds : Ls.BindsP "_law_deeds" "_law_deeds" (top 30) ["_law_urn", "_law_tags_here", "_law_top"] := fun _ _ _ _ _ _ us hl => match us, hl with | [_, _, _], _ => rfl
theorem kb__law_deeds : Ls.KwsP "_law_deeds" "_law_deeds" (top 30) ["_law_urn", "_law_tags_here", "_law_top"] [] := trivial
theorem b__law_flat : Ls.BindsP "_law_flat" "_law_flat" (top 31) ["_law_row_so"] := fun _ _ _ _ _ _ us hl => match us, hl with | [_], _ => rfl
theorem kb__law_flat : Ls.KwsP "_law_flat" "_law_flat" (top 31) ["_law_row_so"] [] := trivial
theorem b__law_heard : Ls.BindsP "_law_heard" "_law_heard" (top 32) ["_law_flat_here"] := fun _ _ _ _ _ _ us hl => match us, hl with | [_], _ => rfl
theorem kb__law_heard : Ls.KwsP "_law_heard" "_law_heard" (top 32) ["_law_flat_here"] [] := trivial
theorem b__law_is_text : Ls.BindsP "_law_is_text" "_law_is_text" (top 33) ["_law_flat_here"] := fun _ _ _ _ _ _ us hl => match us, hl with | [_], _ => rfl
theorem kb__law_is_text : Ls.KwsP "_law_is_text" "_law_is_text" (top 33) ["_law_flat_here"] [] := trivial
theorem b__law_by_hand_right : Ls.BindsP "_law_by_hand_right" "_law_by_hand_right" (top 34) [] := fun _ _ _ _ _ _ us hl => match us, hl with | [], _ => rfl
theorem kb__law_by_hand_right : Ls.KwsP "_law_by_hand_right" "_law_by_hand_right" (top 34) [] [] := trivial
theorem b__law_right : Ls.BindsP "_law_right" "_law_right" (top 35) ["_law_urn"] := fun _ _ _ _ _ _ us hl => match us, hl with | [_], _ => rfl
theorem kb__law_right : Ls.KwsP "_law_right" "_law_right" (top 35) ["_law_urn"] [] := trivial
theorem b_law : Ls.BindsP "law" "law" (top 36) ["_law_script"] := fun _ _ _ _ _ _ us hl => match us, hl with | [_], _ => rfl
theorem kb_law : Ls.KwsP "law" "law" (top 36) ["_law_script"] [] := trivial
theorem b_deeds : Ls.BindsP "deeds" "Program.deeds" (sub 22 3) ["self"] := fun _ _ _ _ _ _ us hl => match us, hl with | [_], _ => rfl
theorem b_writes : Ls.BindsP "writes" "Program.writes" (sub 22 5) ["self"] := fun _ _ _ _ _ _ us hl => match us, hl with | [_], _ => rfl
theorem b_streams : Ls.BindsP "streams" "Program.streams" (sub 22 6) ["self"] := fun _ _ _ _ _ _ us hl => match us, hl with | [_], _ => rfl
theorem b_text : Ls.BindsP "text" "Program.text" (sub 22 7) ["self"] := fun _ _ _ _ _ _ us hl => match us, hl with | [_], _ => rfl
theorem b_of : Ls.BindsP "of" "Program.of" (sub 22 2) ["text"] := fun _ _ _ _ _ _ us hl => match us, hl with | [_], _ => rfl
theorem kb_of : Ls.KwsP "of" "Program.of" (sub 22 2) ["text"] [(["text"], [0])] := ⟨fun _ _ _ _ _ _ us ws h1 h2 => match us, ws, h1, h2 with | [], [_], _, _ => rfl, trivial⟩
theorem b___len__ : Ls.BindsP "__len__" "Program.__len__" (sub 22 8) ["self"] := fun _ _ _ _ _ _ us hl => match us, hl with | [_], _ => rfl
theorem b___eq__ : Ls.BindsP "__eq__" "Program.__eq__" (sub 22 12) ["self", "other"] := fun _ _ _ _ _ _ us hl => match us, hl with | [_, _], _ => rfl
theorem b_ini (T : PySem.Addr) (kV doc pm : PySem.Value) (an : Option PySem.Addr) (cdv ct u : PySem.Value) (us : List PySem.Value) (h : us.length = 2) : ∃ k, PySem.bindArgs (PySem.W.fnOf "__init__" "Program.__init__" (C8.fnArgs (sub 22 1)) (C8.fnBody (sub 22 1)) (C8.fnScope (sub 22 1)) (.ref T) kV doc pm an cdv ct) ⟨us, []⟩ = PySem.seqItems? (.ref T) >>= k ∧ k (some #[u]) = pure ((["self", "deeds"] : List PySem.Str).zip us) := match us, h with | [_, _], _ => ⟨_, rfl, rfl⟩
end K02
namespace K02
open Ls
def badS : List Nat := [98, 97, 100]
def heardD (t : List Nat) : D := if textOk t = true then .lst [.tup (((wordsOf t).map wDd).map ddD), .str t] else .str badS
def heardF : Fn := { np := 1, ns := 4, body :=
    (.cons (.asg (.tp (.cons (.nm 1) (.cons (.nm 2) .nil))) (.tup (.cons (.cst .non) (.cons (.cst .non) .nil))))
    (.cons (.tryK (.cons (.asg (.nm 2) (.scall 23 (.cons (.var 0) .nil) []))
    .nil) 4 3 1)
    (.cons (.ife (.cmp .isn (.var 1) (.cst .non)) (.cons (.ret (.lv (.disp (.cons (.prop 24 (.var 2)) (.cons (.prop 28 (.var 2)) .nil)))))
    .nil) .nil)
    (.cons (.ret (.ite (.isx (.var 1) false) (.cst (.str badS)) (.cst (.str [111, 116, 104, 101, 114]))))
    .nil)))) }
theorem heard_eq : f_law_heard = heardF := rfl
theorem heard_run {cf : Cf} (t : List Nat) (of : cf 23 [.str t] [] = ofR t []) (dp : ∀ ds h, cf 24 [progD ds] h = .ok (.tup (ds.map ddD)) h) (tx : cf 28 [progD ((wordsOf t).map wDd)] [] = .ok (.str t) []) : runFn cf heardF [.str t] [] = .ok (heardD t) [] := by
  rw [runFn_eq _ _ _ _ rfl (by decide)]
  unfold ofR at of
  unfold heardD
  have eb : exB 4 = false := rfl
  by_cases k : textOk t = true
  · rw [if_pos k] at of
    rw [if_pos k]
    have p1 : ∀ ds, propK cf 24 (progD ds) [] = .ok (.tup (ds.map ddD)) [] := fun ds => by
      show (cf 24 [progD ds] []).calm = _
      rw [dp]; rfl
    have p2 : propK cf 28 (progD ((wordsOf t).map wDd)) [] = .ok (.str t) [] := by
      show (cf 28 [progD ((wordsOf t).map wDd)] []).calm = _
      rw [tx]; rfl
    have p1' := p1 ((wordsOf t).map wDd)
    generalize progD ((wordsOf t).map wDd) = P at of p1' p2
    simp -implicitDefEqProofs [eng, eng0, heardF, of, cmpD, p1', p2]
  · have k' : textOk t = false := by simpa using k
    rw [k'] at of ⊢
    simp -implicitDefEqProofs [eng, eng0, heardF, of, cmpD, eb]
/-! _law_is_text -/
def istB (L M : List Nat) : Ss := (.cons (.asg (.nm 2) (.ite (.cmp .eq (.sl (.var 1) .no (.so (.cst (.int 1)))) (.cst (.str [33]))) (.sl (.var 1) (.so (.cst (.int 1))) .no) (.var 1)))
    (.cons (.ife (.bool false (.cons (.cmp .eq (.var 2) (.cst (.str []))) (.cons (.cmp .gt (.pr .len (.cons (.var 2) .nil)) (.cst (.int 8))) (.cons (.cmp .ne (.lv (.comp (.nm 3) (.sgn (.var 2)) (.cons (.bool false (.cons (.cmp .lt (.var 3) (.cst (.str L))) (.cons (.cmp .gt (.var 3) (.cst (.str M))) .nil))) .nil) (.var 3))) (.lv (.disp .nil))) .nil)))) (.cons (.ret (.cst (.bl false)))
    .nil) .nil)
    .nil))
def istF : Fn := { np := 1, ns := 4, body :=
    (.cons (.ife (.cmp .eq (.var 0) (.cst (.str [45]))) (.cons (.ret (.cst (.bl true)))
    .nil) .nil)
    (.cons (.for_ (.nm 1) (.seq (.lv (.split (.var 0) (.cst (.str [32]))))) (istB [97] [122]))
    (.cons (.ret (.cst (.bl true)))
    .nil))) }
theorem ist_eq : f_law_is_text = istF := rfl
theorem lt_sg (h : Hh) (a c : Nat) : cmpD h .lt (.str [a]) (.str [c]) = some (decide (a < c)) := by
  simp only [cmpD, D.flat, D.alike, D.lt, ltL, Bool.and_self, if_true]
  by_cases e : a = c <;> simp [e]
theorem gt_sg (h : Hh) (a c : Nat) : cmpD h .gt (.str [a]) (.str [c]) = some (decide (c < a)) := by
  simp only [cmpD, D.flat, D.alike, D.lt, ltL, Bool.and_self, if_true]
  by_cases e : c = a <;> simp [e]
def odd (c : Nat) : Bool := decide (c < 97) || decide (122 < c)
theorem flat_sgs : ∀ l : List Nat, D.flatL 59 (l.map fun c => D.str [c]) = true
  | [] => rfl
  | c :: r => by simp [D.flatL, D.flat, flat_sgs r]
theorem ne_nil (h : Hh) (l : List Nat) : cmpD h .ne (.lst (l.map fun c => D.str [c])) (.lst []) = some (!decide (l = [])) := by
  have : D.flat 60 (.lst (l.map fun c => D.str [c])) = true := by simp only [D.flat]; exact flat_sgs l
  have t2 : D.flat 60 (.lst []) = true := rfl
  simp only [cmpD, snap, this, t2, Bool.and_self, if_true]
  cases l <;> simp [D.eqv, D.eqvL]
theorem odd_nil (s : List Nat) : decide (s.filter odd = []) = s.all fun c => decide (c ∈ letters) := by
  rw [Bool.eq_iff_iff, decide_eq_true_eq, List.filter_eq_nil_iff, List.all_eq_true]
  refine forall_congr' fun c => forall_congr' fun _ => ?_
  rw [decide_eq_true_eq, mem_letters]
  simp [odd] <;> omega
theorem name_split (s : List Nat) : nameB letters s = (!decide (s = []) && (!decide ((8 : Int) < (s.length : Nat)) && decide (s.filter odd = []))) := by
  rw [odd_nil, nameB]
  have a : decide (1 ≤ s.length) = !decide (s = []) := by cases s <;> simp
  have b : decide (s.length ≤ 8) = !decide ((8 : Int) < (s.length : Nat)) := by
    by_cases z : s.length ≤ 8
    · have : ¬ (8 : Int) < (s.length : Nat) := by omega
      simp [z, this]
    · have : (8 : Int) < (s.length : Nat) := by omega
      simp [z, this]
  rw [a, b]
theorem ist_body (cf : Cf) (t w : List Nat) (x2 x3 : Option D) (hw : w.length ≤ 1000) : ∃ y2 y3, exs cf (istB [97] [122]) [some (.str t), some (.str w), x2, x3] [] = .ok (if wOk w = true then .nx [some (.str t), some (.str w), y2, y3] else .rt (.bl false)) [] := by
  have s1 : ∀ h, slD h (.str w) none (some 1) = some (.str (w.take 1)) := fun h => sl_lo h hw 1
  have s2 : ∀ h, slD h (.str w) (some 1) none = some (.str (w.drop 1)) := fun h => sl_hi h hw 1
  have nl : (wName w).length ≤ 1000 := by unfold wName; split <;> first | exact hw | (rw [List.length_drop]; omega)
  have first : ev cf (.ite (.cmp .eq (.sl (.var 1) .no (.so (.cst (.int 1)))) (.cst (.str [33]))) (.sl (.var 1) (.so (.cst (.int 1))) .no) (.var 1)) [some (.str t), some (.str w), x2, x3] [] = .ok (.str (wName w)) [] := by
    by_cases f : w.take 1 = [33]
    · have en : wName w = w.drop 1 := by simp [wName, wFl, f]
      rw [en]
      simp -implicitDefEqProofs [eng, eng0, s1, s2, f]
    · have en : wName w = w := by simp [wName, wFl, f]
      rw [en]
      simp -implicitDefEqProofs [eng, eng0, s1, s2, f]
  unfold wOk
  generalize wName w = s at *
  have m : mapL (compB cf (.nm 3) (.cons (.bool false (.cons (.cmp .lt (.var 3) (.cst (.str [97]))) (.cons (.cmp .gt (.var 3) (.cst (.str [122]))) .nil))) .nil) (.var 3) [some (.str t), some (.str w), some (.str s), none]) (s.map fun c => .str [c]) [] = .ok ((s.filter odd).map fun c => .str [c]) [] := by
    rw [mapL_map _ (fun c => if odd c = true then [D.str [c]] else [])]
    · rw [flatMap_ite]
    · intro c hc
      by_cases q : c < 97
      · simp -implicitDefEqProofs [eng, eng0, compB, lt_sg, gt_sg, q, odd]
      · by_cases q2 : 122 < c <;> simp -implicitDefEqProofs [eng, eng0, compB, lt_sg, gt_sg, q, q2, odd]
  have fl : (s.filter odd).length ≤ s.length := List.length_filter_le _ _
  have ol : okLen ((s.filter odd).map fun c => D.str [c]) = true := okLen_of (by simp only [big, List.length_map]; omega)
  have ln := fun h => len_str h nl
  have nn := fun h => ne_nil h (s.filter odd)
  rw [name_split]
  by_cases k1 : s = []
  · subst k1
    refine ⟨some (.str []), x3, ?_⟩
    simp -implicitDefEqProofs [eng, eng0, istB, first]
  · by_cases k2 : (8 : Int) < (s.length : Nat)
    · refine ⟨some (.str s), x3, ?_⟩
      simp -implicitDefEqProofs [eng, eng0, istB, first, k1, ln, k2]
    · refine ⟨some (.str s), x3, ?_⟩
      have d1 : decide (s = []) = false := by simp [k1]
      have d2 : decide ((8 : Int) < (s.length : Nat)) = false := by simp only [k2]; rfl
      by_cases k3 : s.filter odd = []
      · have d3 : decide (s.filter odd = []) = true := by simp only [k3, decide_true]
        rw [d3] at nn
        simp -implicitDefEqProofs only [eng, eng0, istB, exs_cons, ex_asg, first, bind_ok, asgT_nm, List.set_cons_succ, List.set_cons_zero, after_nx, ex_ife, ev_bool, evb_or, evb_one, ev_cmp, ev_var, List.getElem?_cons_succ, List.getElem?_cons_zero, getV_some, ev_cst, cmp_eq_str, d1, Option.map_some, lift_some, tru_bl, ev_pr, evs_cons, evs_nil, ln, cmp_gt_int, d2, ev_lv, evf_comp, evi_sgn, sgnK_str, unlock_none, lockO_none, slots_nm, wipe_cons, wipe_nil, m, calm_okM, freshL_ok', ol, onlyIf_true, evf_disp, okLen_nil, nn, Bool.not_true, exs_nil, Bool.not_false, Bool.and_self, if_true, d3]
      · have d3 : decide (s.filter odd = []) = false := by simp only [k3, decide_false]
        rw [d3] at nn
        simp -implicitDefEqProofs only [eng, eng0, istB, exs_cons, ex_asg, first, bind_ok, asgT_nm, List.set_cons_succ, List.set_cons_zero, after_nx, ex_ife, ev_bool, evb_or, evb_one, ev_cmp, ev_var, List.getElem?_cons_succ, List.getElem?_cons_zero, getV_some, ev_cst, cmp_eq_str, d1, Option.map_some, lift_some, tru_bl, ev_pr, evs_cons, evs_nil, ln, cmp_gt_int, d2, ev_lv, evf_comp, evi_sgn, sgnK_str, unlock_none, lockO_none, slots_nm, wipe_cons, wipe_nil, m, calm_okM, freshL_ok', ol, onlyIf_true, evf_disp, okLen_nil, nn, Bool.not_true, exs_nil, Bool.not_false, Bool.and_false, if_false, Bool.false_eq_true, ex_ret, after_rt, d3]
theorem ist_loop (cf : Cf) (t : List Nat) : ∀ (ws : List (List Nat)) (x1 x2 x3 : Option D), (∀ w ∈ ws, w.length ≤ 1000) →
    ∃ y1 y2 y3, forL (forB cf (.nm 1) (istB [97] [122])) (ws.map D.str) [some (.str t), x1, x2, x3] [] = .ok (if ws.all wOk = true then .nx [some (.str t), y1, y2, y3] else .rt (.bl false)) []
  | [], x1, x2, x3, _ => ⟨x1, x2, x3, rfl⟩
  | w :: r, x1, x2, x3, h => by
    obtain ⟨y2, y3, e⟩ := ist_body cf t w x2 x3 (h w (by simp))
    obtain ⟨z1, z2, z3, e2⟩ := ist_loop cf t r (some (.str w)) y2 y3 (fun v hv => h v (by simp [hv]))
    have fb : forB cf (.nm 1) (istB [97] [122]) (.str w) [some (.str t), x1, x2, x3] [] = exs cf (istB [97] [122]) [some (.str t), some (.str w), x2, x3] [] := by
      simp -implicitDefEqProofs only [forB, asgT_nm, bind_ok, List.set_cons_succ, List.set_cons_zero]
    by_cases k : wOk w = true
    · rw [if_pos k] at e
      refine ⟨z1, z2, z3, ?_⟩
      simp only [List.map_cons, forL, fb, e, bind_ok, e2, List.all_cons, k, Bool.true_and]
    · have k' : wOk w = false := by simpa using k
      rw [k'] at e
      refine ⟨x1, x2, x3, ?_⟩
      simp only [List.map_cons, forL, fb, e, bind_ok, List.all_cons, k', Bool.false_and, Bool.false_eq_true, if_false]
theorem ist_run (cf : Cf) (t : List Nat) (ht : t.length ≤ 1000) : runFn cf istF [.str t] [] = .ok (.bl (textOk t)) [] := by
  rw [runFn_eq _ _ _ _ rfl (by decide)]
  by_cases k : t = [45]
  · subst k
    simp -implicitDefEqProofs [eng, eng0, istF, textOk, wordsOf]
  · have e : wordsOf t = spl1 32 [] t := by simp [wordsOf, k]
    have lw := wordsOf_len t
    have pw := wordsOf_part t
    rw [e] at lw pw
    have sp : splK2 t (.str [32]) ([] : Hh) = .ok ((spl1 32 [] t).map D.str) [] := splK2_ok (by decide) (by simp [big]; omega) []
    have ol : okLen ((spl1 32 [] t).map D.str) = true := okLen_of (by rw [List.length_map]; simp only [big]; omega)
    obtain ⟨y1, y2, y3, lp⟩ := ist_loop cf t (spl1 32 [] t) none none none (fun w hw => Nat.le_trans (pw w hw) ht)
    have d1 : decide (t = [45]) = false := by simp [k]
    rw [textOk, e]
    generalize spl1 32 [] t = ws at *
    by_cases q : ws.all wOk = true
    · rw [if_pos q] at lp
      simp -implicitDefEqProofs only [eng, eng0, istF, exs_cons, ex_ife, ev_cmp, List.map_cons, List.map_nil, List.cons_append, List.nil_append, List.replicate, Nat.reduceSub, ev_var, List.getElem?_cons_zero, getV_some, bind_ok, ev_cst, cmp_eq_str, d1, Option.map_some, lift_some, tru_bl, exs_nil, after_nx, ex_for, evi_seq, ev_lv, evf_split, sp, freshL_ok', ol, onlyIf_true, itemsI_lst, withL_some, refOf_lst, unlock_none, lockO_none, lp, ex_ret, after_rt, asVal_rt, q]
    · have q' : ws.all wOk = false := by simpa using q
      rw [q'] at lp
      simp -implicitDefEqProofs only [eng, eng0, istF, exs_cons, ex_ife, ev_cmp, List.map_cons, List.map_nil, List.cons_append, List.nil_append, List.replicate, Nat.reduceSub, ev_var, List.getElem?_cons_zero, getV_some, bind_ok, ev_cst, cmp_eq_str, d1, Option.map_some, lift_some, tru_bl, exs_nil, after_nx, ex_for, evi_seq, ev_lv, evf_split, sp, freshL_ok', ol, onlyIf_true, itemsI_lst, withL_some, refOf_lst, unlock_none, lockO_none, lp, Bool.false_eq_true, if_false, after_rt, asVal_rt, q']
end K02
namespace K02
open Ls
/-! _law_flat, _law_deeds -/
def flatF : Fn := { np := 1, ns := 2, body :=
    (.cons (.ret (.bool false (.cons (.mt .join (.cst (.str [32])) (.cons (.lv (.comp (.nm 1) (.seq (.var 0)) .nil (.bin .add (.ite (.cmp .eq (.ix (.var 1) (.cst (.int 0))) (.cst (.str flS))) (.cst (.str [33])) (.cst (.str []))) (.ix (.var 1) (.cst (.int 1)))))) .nil)) (.cons (.cst (.str [45])) .nil))))
    .nil) }
theorem flat_eq : f_law_flat = flatF := rfl
theorem join_ne {ds : List Dd} (n : ds ≠ []) (h : ∀ d ∈ ds, nameB letters d.2 = true) : joinL [32] (ds.map ddW) ≠ [] := by
  obtain ⟨d, r, rfl⟩ := List.exists_cons_of_ne_nil n
  have hd := name_ne (h d (by simp))
  have hw : ddW d ≠ [] := by
    intro z
    unfold ddW at z
    split at z
    · cases z
    · rw [z] at hd; simp at hd
  intro z
  rw [List.map_cons] at z
  cases r with
  | nil => exact hw z
  | cons x r =>
    rw [List.map_cons, joinL_cons _ _ (by simp)] at z
    simp at z
theorem join_len : ∀ (l : List (List Nat)), (joinL [32] l).length ≤ (l.map (·.length)).sum + l.length
  | [] => by simp [joinL]
  | [x] => by simp [joinL]
  | x :: y :: r => by
    have := join_len (y :: r)
    rw [joinL_cons _ _ (by simp)]
    simp at this ⊢; omega
theorem flat_run (cf : Cf) (ds : List Dd) (hl : ds.length ≤ 100) (h : ∀ d ∈ ds, nameB letters d.2 = true) : runFn cf flatF [.tup (ds.map ddD)] [] = .ok (.str (textOf ds)) [] := by
  rw [runFn_eq _ _ _ _ rfl (by decide)]
  have m : mapL (compB cf (.nm 1) .nil (.bin .add (.ite (.cmp .eq (.ix (.var 1) (.cst (.int 0))) (.cst (.str flS))) (.cst (.str [33])) (.cst (.str []))) (.ix (.var 1) (.cst (.int 1)))) [some (.tup (ds.map ddD)), none]) (ds.map ddD) [] = .ok ((ds.map ddW).map D.str) [] := by
    rw [mapL_map _ (fun d => [D.str (ddW d)])]
    · rw [← List.map_eq_flatMap, List.map_map]; rfl
    · rintro ⟨f, s⟩ hw
      have hs := (name_ne (h _ hw)).2
      simp only at hs
      cases f with
      | true =>
        have e1 : decide (flS = flS) = true := by decide
        have a1 := add_str ([] : Hh) (a := [33]) (b := s) (by simp; omega)
        have a2 : ddW (true, s) = [33] ++ s := rfl
        have i0 : ixD ([] : Hh) (.tup [.str flS, .str s]) (.int 0) = some (.str flS) := rfl
        have i1 : ixD ([] : Hh) (.tup [.str flS, .str s]) (.int 1) = some (.str s) := rfl
        rw [a2]
        simp -implicitDefEqProofs only [eng, eng0, compB, ddD, if_true, asgT_nm, bind_ok, List.set_cons_succ, List.set_cons_zero, evt_nil, ev_bin, ev_ite, ev_cmp, ev_ix, ev_var, List.getElem?_cons_succ, List.getElem?_cons_zero, getV_some, ev_cst, i0, i1, lift_some, cmp_eq_str, e1, decide_true, Option.map_some, tru_bl, a1]
      | false =>
        have e1 : decide (wrS = flS) = false := by decide
        have a1 := add_str ([] : Hh) (a := []) (b := s) (by simp; omega)
        have a2 : ddW (false, s) = [] ++ s := rfl
        have i0 : ixD ([] : Hh) (.tup [.str wrS, .str s]) (.int 0) = some (.str wrS) := rfl
        have i1 : ixD ([] : Hh) (.tup [.str wrS, .str s]) (.int 1) = some (.str s) := rfl
        rw [a2]
        simp -implicitDefEqProofs only [eng, eng0, compB, ddD, Bool.false_eq_true, if_false, asgT_nm, bind_ok, List.set_cons_succ, List.set_cons_zero, evt_nil, ev_bin, ev_ite, ev_cmp, ev_ix, ev_var, List.getElem?_cons_succ, List.getElem?_cons_zero, getV_some, ev_cst, i0, i1, lift_some, cmp_eq_str, e1, Option.map_some, tru_bl, a1]
  have ol : okLen ((ds.map ddW).map D.str) = true := okLen_of (by simp [big]; omega)
  have sl : ((ds.map ddW).map (·.length)).sum ≤ 900 := by
    have := sum_le (ds.map ddW) 9 (by
      simp only [List.mem_map]
      rintro w ⟨d, hd, rfl⟩
      have := name_ne (h d hd)
      unfold ddW; split <;> simp <;> omega)
    simp only [List.length_map] at this
    omega
  have jo : ∀ h, mtD h .join (.str [32]) [.lst ((ds.map ddW).map D.str)] = some (.str (joinL [32] (ds.map ddW)), h) := fun h => join_ok h [32] _ (by
    simp only [List.length_map, List.length_singleton, Nat.mul_one, big] at sl ⊢; omega)
  have pj : ∀ h, mtPre h .join (.str [32]) = true := fun _ => rfl
  have jl := join_len (ds.map ddW)
  rw [List.length_map] at jl
  have tr : ∀ h, tru h (.str (joinL [32] (ds.map ddW))) = some (!(joinL [32] (ds.map ddW)).isEmpty) := fun h => by
    have : okLen (joinL [32] (ds.map ddW)) = true := okLen_of (by simp only [big]; omega)
    simp [tru, this]
  by_cases k : ds = []
  · subst k
    have m' : mapL (compB cf (.nm 1) .nil (.bin .add (.ite (.cmp .eq (.ix (.var 1) (.cst (.int 0))) (.cst (.str flS))) (.cst (.str [33])) (.cst (.str []))) (.ix (.var 1) (.cst (.int 1)))) [some (.tup []), none]) [] [] = .ok [] [] := rfl
    have jo' : ∀ h, mtD h .join (.str [32]) [.lst []] = some (.str [], h) := jo
    have tr' : ∀ h, tru h (.str []) = some false := tr
    simp -implicitDefEqProofs [eng, eng0, flatF, m', jo', pj, tr', textOf]
  · have tx : textOf ds = joinL [32] (ds.map ddW) := by simp [textOf, k]
    have ne := join_ne k h
    have tr2 : ∀ h, tru h (.str (joinL [32] (ds.map ddW))) = some true := fun h => by
      rw [tr]
      cases e : joinL [32] (ds.map ddW) with
      | nil => exact absurd e ne
      | cons c r => rfl
    rw [tx]
    simp -implicitDefEqProofs only [eng, eng0, flatF, exs_cons, ex_ret, ev_bool, evb_or, List.map_cons, List.map_nil, List.cons_append, List.nil_append, List.replicate, Nat.reduceSub, ev_mt, ev_cst, bind_ok, pj, onlyIf_true, evs_cons, evs_nil, ev_lv, evf_comp, evi_seq, ev_var, List.getElem?_cons_succ, List.getElem?_cons_zero, getV_some, itemsI_tup, withL_some, refOf_tup, unlock_none, lockO_none, slots_nm, wipe_cons, wipe_nil, List.set_cons_succ, List.set_cons_zero, m, calm_okM, freshL_ok', ol, jo, pairR_some, tr2, after_rt, asVal_rt]
def deedsF : Fn := { np := 3, ns := 5, body :=
    (.cons (.asg (.nm 3) (.lv (.disp (.cons (.cst (.str wrS)) (.cons (.cst (.str wrS)) (.cons (.cst (.str flS)) .nil))))))
    (.cons (.ret (.pr .tuple (.cons (.lv (.comp (.nm 4) (.rng .no (.call 14 (.cons (.var 0) (.cons (.bin .add (.var 2) (.cst (.int 1))) .nil)) [])) .nil (.tup (.cons (.call 16 (.cons (.var 0) (.cons (.var 3) .nil)) []) (.cons (.call 16 (.cons (.var 0) (.cons (.var 1) .nil)) []) .nil))))) .nil)))
    .nil)) }
theorem deeds_eq : f_law_deeds = deedsF := rfl
theorem deeds_map {cf : Cf} (H : HOf cf) (ts : List (List Nat)) (tn : ts ≠ []) (tl : ts.length < 1000) (r : Hh) (x2 : Option D) : ∀ (xs : List D) (u : Ur) (k : Nat), u.Ok k → k + 2 * xs.length < 2 ^ 60 →
    ∃ (ds : List Dd) (u' : Ur), mapL (compB cf (.nm 4) .nil (.tup (.cons (.call 16 (.cons (.var 0) (.cons (.var 3) .nil)) []) (.cons (.call 16 (.cons (.var 0) (.cons (.var 1) .nil)) []) .nil))) [some (.ref 0), some (.lst (ts.map .str)), x2, some (.lst [.str wrS, .str wrS, .str flS]), none]) xs (u.o :: r)
      = .ok (ds.map ddD) (u'.o :: r) ∧ ds.length = xs.length ∧ (∀ d ∈ ds, d.2 ∈ ts) ∧ u'.Ok (k + 2 * xs.length)
  | [], u, k, g, _ => ⟨[], u, rfl, rfl, (fun _ h => nomatch h), g⟩
  | x :: xs, u, k, g, hk => by
    rw [List.length_cons] at hk
    obtain ⟨w, u1, e1, w1, g1⟩ := H (u.o :: r) 0 u k (.lst [.str wrS, .str wrS, .str flS]) _ rfl (.inl rfl) rfl g (by omega) (by simp) (by simp)
    obtain ⟨f, rfl⟩ : ∃ f : Bool, w = .str (if f then flS else wrS) := by
      simp only [List.mem_cons, List.not_mem_nil, or_false] at w1
      rcases w1 with rfl | rfl | rfl
      · exact ⟨false, rfl⟩
      · exact ⟨false, rfl⟩
      · exact ⟨true, rfl⟩
    obtain ⟨w, u2, e2, w2, g2⟩ := H (u1.o :: r) 0 u1 (k + 1) (.lst (ts.map .str)) _ rfl (.inl rfl) (free_str ts) g1 (by omega) (by simpa using tn) (by rw [List.length_map]; omega)
    obtain ⟨s, hs, rfl⟩ := List.mem_map.mp w2
    obtain ⟨ds, u3, e3, l3, m3, g3⟩ := deeds_map H ts tn tl r x2 xs u2 (k + 2) g2 (by omega)
    simp only [List.set_cons_zero] at e1 e2
    refine ⟨(f, s) :: ds, u3, ?_, by simp [l3], ?_, by rw [List.length_cons, show k + 2 * (xs.length + 1) = k + 2 + 2 * xs.length by omega]; exact g3⟩
    · have b1 : compB cf (.nm 4) .nil (.tup (.cons (.call 16 (.cons (.var 0) (.cons (.var 3) .nil)) []) (.cons (.call 16 (.cons (.var 0) (.cons (.var 1) .nil)) []) .nil))) [some (.ref 0), some (.lst (ts.map .str)), x2, some (.lst [.str wrS, .str wrS, .str flS]), none] x (u.o :: r) = .ok [ddD (f, s)] (u2.o :: r) := by
        simp -implicitDefEqProofs only [eng, eng0, compB, asgT_nm, bind_ok, List.set_cons_succ, List.set_cons_zero, evt_nil, ev_tup, evs_cons, evs_nil, ev_call, ev_var, List.getElem?_cons_succ, List.getElem?_cons_zero, getV_some, permD_nil, perR_some, e1, e2, okLen_2, onlyIf_true, ddD]
      simp only [mapL, b1, e3, bind_ok, List.map_cons, List.cons_append, List.nil_append]
    · intro d hd
      rcases List.mem_cons.mp hd with rfl | hd
      · exact hs
      · exact m3 d hd
theorem deeds_run {cf : Cf} (Ht : HTake cf) (H : HOf cf) (ts : List (List Nat)) (tn : ts ≠ []) (tl : ts.length < 1000) (top : Nat) (tp : top ≤ 100) (u : Ur) (k : Nat) (g : u.Ok k) (hk : k + 1000 < 2 ^ 60) :
    ∃ (ds : List Dd) (u' : Ur), runFn cf deedsF [.ref 0, .lst (ts.map .str), .int (top : Nat)] [u.o] = .ok (.tup (ds.map ddD)) [u'.o] ∧ ds.length ≤ top ∧ (∀ d ∈ ds, d.2 ∈ ts) ∧ u'.Ok (k + 300) := by
  obtain ⟨n, u1, e1, n0, n1, g1⟩ := Ht.at0 u k ((top : Int) + 1) [] g (by omega) (by omega) (by omega)
  obtain ⟨n, rfl⟩ : ∃ z : Nat, n = z := ⟨n.toNat, by omega⟩
  have ln : (rngL 0 (n : Int)).length = n := by rw [rngL_len]; omega
  obtain ⟨ds, u2, e2, l2, m2, g2⟩ := deeds_map H ts tn tl [] (some (.int (top : Nat))) (rngL 0 (n : Int)) u1 (k + 1) g1 (by rw [ln]; omega)
  rw [ln] at l2 g2
  refine ⟨ds, u2, ?_, by omega, m2, g2.mono (by omega)⟩
  rw [runFn_eq _ _ _ _ rfl (by decide)]
  have ok1 : okR (n : Int) = true := okR_nat (by omega)
  have ol : okLen (ds.map ddD) = true := okLen_of (by rw [List.length_map]; simp only [big]; omega)
  have tp : ∀ h, prD h .tuple [.lst (ds.map ddD)] = some (.tup (ds.map ddD)) := fun _ => rfl
  simp -implicitDefEqProofs only [eng, eng0, deedsF, exs_cons, ex_asg, ev_lv, evf_disp, evs_cons, evs_nil, ev_cst, bind_ok, List.map_cons, List.map_nil, List.cons_append, List.nil_append, List.replicate, Nat.reduceSub, freshL_ok', okLen_3, onlyIf_true, asgT_nm, List.set_cons_succ, List.set_cons_zero, after_nx, ex_ret, ev_pr, evf_comp, evi_rng, evo_no, ev_call, ev_var, List.getElem?_cons_succ, List.getElem?_cons_zero, getV_some, ev_bin, bin_add_int, lift_some, permD_nil, perR_some, e1, asInt_int, Option.getD_none, okR_0, ok1, Bool.and_self, unlock_none, lockO_none, slots_nm, wipe_cons, wipe_nil, e2, calm_okM, ol, tp, after_rt, asVal_rt]
end K02
namespace K02
open Ls
structure HAll (cf : Cf) : Prop where
  take : HTake cf
  of : HOf cf
  tags : HTags letters cf
  deeds : ∀ (h : Hh) (n : Nat) (u : Ur) (k : Nat) (ts : List (List Nat)), h[n]? = some u.o → u.Ok k → k + 1000 < 2 ^ 60 → ts ≠ [] → ts.length < 1000 →
    ∃ (ds : List Dd) (u' : Ur), cf 37 [.ref n, .lst (ts.map .str), .int 10] h = .ok (.tup (ds.map ddD)) (h.set n u'.o) ∧ ds.length ≤ 10 ∧ (∀ d ∈ ds, d.2 ∈ ts) ∧ u'.Ok (k + 300)
  flat : ∀ (ds : List Dd) (h : Hh), ds.length ≤ 100 → (∀ d ∈ ds, nameB letters d.2 = true) → cf 41 [.tup (ds.map ddD)] h = .ok (.str (textOf ds)) h
  ofP : ∀ (t : List Nat) (h : Hh), t.length ≤ 1000 → cf 23 [.str t] h = ofR t h
  tup : ∀ (ds : List Dd) (h : Hh), ds.length ≤ 1000 → cf 4 [.tup (ds.map ddD)] h = .ok (.tup (ds.map ddD)) h
  deedsP : ∀ (ds : List Dd) (h : Hh), cf 24 [progD ds] h = .ok (.tup (ds.map ddD)) h
  textP : ∀ (ds : List Dd) (h : Hh), ds.length ≤ 1001 → (∀ d ∈ ds, d.2.length ≤ 1000) → cf 28 [progD ds] h = .ok (.str (textOf ds)) h
  eqP : ∀ (ds : List Dd) (h : Hh), cf 33 [progD ds, progD ds] h = .ok (.bl true) h
  heard : ∀ (t : List Nat) (h : Hh), t.length ≤ 1000 → cf 42 [.str t] h = .ok (heardD t) h
  ist : ∀ (t : List Nat) (h : Hh), t.length ≤ 1000 → cf 43 [.str t] h = .ok (.bl (textOk t)) h
  same : ∀ (d : D) (h : Hh), D.pl 3 d = true → cf 17 [d, d] h = .ok (.bl true) h
def rightB : Ss := match f_law_right.body with | .cons (.for_ _ _ b) _ => b | _ => .nil
theorem right_eq : f_law_right = turnsF 10 9 rightB := rfl
def innerB : Ss := match rightB with | .cons _ (.cons _ (.cons _ (.cons _ (.cons _ (.cons _ (.cons (.for_ _ _ b) _)))))) => b | _ => .nil
theorem flat_heard (t : List Nat) : D.flat 60 (heardD t) = true := by
  unfold heardD
  split
  · have := flat_dds ((wordsOf t).map wDd)
    simp only [D.flat, D.flatL, Bool.and_true] at this ⊢
    exact flatL_of (by simp only [List.mem_map]; rintro x ⟨p, _, rfl⟩; rfl)
  · rfl
theorem inner_run {cf : Cf} (H : HAll cf) (t : List Nat) (ht : t.length ≤ 1000) (h : Hh) (x0 x1 x2 x3 x4 x5 x6 x7 x8 x9 : Option D) :
    forB cf (.nm 8) innerB (.str t) [x0, x1, x2, x3, x4, x5, x6, x7, x8, x9] h = .ok (.nx [x0, x1, x2, x3, x4, x5, x6, x7, some (.str t), some (heardD t)]) h := by
  have e1 := H.heard t h ht
  have e2 := H.ist t h ht
  have fb : D.flat 60 (.str badS) = true := rfl
  have fh := flat_heard t
  by_cases k : textOk t = true
  · have hd : heardD t = .lst [.tup (((wordsOf t).map wDd).map ddD), .str t] := by simp only [heardD, k, if_true]
    rw [hd] at e1 fh ⊢
    rw [k] at e2
    have c1 : ∀ h, cmpD h .eq (.lst [.tup (((wordsOf t).map wDd).map ddD), .str t]) (.str [98, 97, 100]) = some false := fun h => by simp only [cmpD, snap, fh, show D.flat 60 (.str [98, 97, 100]) = true from rfl, Bool.and_self, if_true]; rfl
    have c2 : ∀ h, cmpD h .ne (.lst [.tup (((wordsOf t).map wDd).map ddD), .str t]) (.str [98, 97, 100]) = some true := fun h => by simp only [cmpD, snap, fh, show D.flat 60 (.str [98, 97, 100]) = true from rfl, Bool.and_self, if_true]; rfl
    have i1 : ∀ h, ixD h (.lst [.tup (((wordsOf t).map wDd).map ddD), .str t]) (.int 1) = some (.str t) := fun _ => rfl
    have c3 : decide ((false : Bool) = true) = false := rfl
    have c4 : decide (t = t) = true := by simp
    simp -implicitDefEqProofs only [eng, eng0, forB, innerB, rightB, f_law_right, asgT_nm, bind_ok, List.set_cons_succ, List.set_cons_zero, exs_cons, ex_asg, ev_call, evs_cons, evs_nil, ev_var, List.getElem?_cons_succ, List.getElem?_cons_zero, getV_some, permD_nil, perR_some, e1, after_nx, ex_ife, ev_bool, evb_or, evb_one, evb_and, ev_cmp, ev_cst, c1, c2, Option.map_some, lift_some, e2, cmp_eq_bl, c3, tru_bl, ev_ix, i1, cmp_ne_str, c4, decide_true, Bool.not_true, exs_nil]
  · have k' : textOk t = false := by simpa using k
    have hd : heardD t = .str [98, 97, 100] := by simp only [heardD, k', Bool.false_eq_true, if_false]; rfl
    rw [hd] at e1 ⊢
    rw [k'] at e2
    have c3 : decide ((true : Bool) = false) = false := rfl
    simp -implicitDefEqProofs only [eng, eng0, forB, innerB, rightB, f_law_right, asgT_nm, bind_ok, List.set_cons_succ, List.set_cons_zero, exs_cons, ex_asg, ev_call, evs_cons, evs_nil, ev_var, List.getElem?_cons_succ, List.getElem?_cons_zero, getV_some, permD_nil, perR_some, e1, after_nx, ex_ife, ev_bool, evb_or, evb_one, evb_and, ev_cmp, ev_cst, cmp_eq_str, decide_true, Option.map_some, lift_some, e2, cmp_eq_bl, c3, tru_bl, cmp_ne_str, Bool.not_true, exs_nil]
theorem nameB_tag {s : List Nat} {m : Nat} (hm : m ≤ 8) (t : TagL letters m s) : nameB letters s = true := by
  have h : s.all (fun c => decide (c ∈ letters)) = true := by simpa using t.1
  simp only [nameB, h, Bool.and_true, Bool.and_eq_true, decide_eq_true_eq]
  rcases t.2 with t | t | t | t | t <;> omega
theorem turn_run {cf : Cf} (H : HAll cf) (u : Ur) (k : Nat) (xs : List (Option D)) (r : Hh) (hl : xs.length = 9) (g : u.Ok k) (hk : k + 1000 < 2 ^ 50) :
    ∃ (ys : List (Option D)) (u' : Ur) (r' : Hh), exs cf rightB (some (.ref 0) :: xs) (u.o :: r) = .ok (.nx (some (.ref 0) :: ys)) (u'.o :: r') ∧ ys.length = 9 ∧ u'.Ok (k + 1000) := by
  obtain ⟨x1, x2, x3, x4, x5, x6, x7, x8, x9, rfl⟩ := lst_9 hl
  obtain ⟨n, u1, e1, n0, n1, g1⟩ := H.take.at0 u k 4 r g (by omega) (by decide) (by decide)
  obtain ⟨n, rfl⟩ : ∃ z : Nat, n = z := ⟨n.toNat, by omega⟩
  have ad1 : ∀ h, binD h .add (.int 1) (.int (n : Int)) = some (.int ((1 + n : Nat) : Int)) := fun h => by rw [bin_add_int]; simp
  obtain ⟨ts, u2, e2, l2, t2, g2⟩ := H.tags (u1.o :: r) 0 u1 (k + 1) (1 + n) rfl g1 (by omega) (by omega) (by omega)
  obtain ⟨ds, u3, e3, l3, m3, g3⟩ := H.deeds (u2.o :: r) 0 u2 (k + 21) ts rfl g2 (by omega) (by intro z; rw [z, List.length_nil] at l2; omega) (by omega)
  have nm : ∀ d ∈ ds, nameB letters d.2 = true := fun d hd => nameB_tag (by omega) (t2 _ (m3 d hd))
  have fl := fun h => H.flat ds h (by omega) nm
  obtain ⟨w1, w2, w3⟩ := words_text nm
  have jl : (textOf ds).length ≤ 120 := by
    unfold textOf
    split
    · simp
    · have := join_len (ds.map ddW)
      have s := sum_le (ds.map ddW) 9 (by
        simp only [List.mem_map]
        rintro w ⟨d, hd, rfl⟩
        have := name_ne (nm d hd)
        unfold ddW; split <;> simp <;> omega)
      simp only [List.length_map] at this s
      omega
  have op : ∀ h, cf 23 [.str (textOf ds)] h = .ok (.obj 0 [.tup (ds.map ddD)]) h := fun h => by rw [H.ofP _ h (by omega), ofR, if_pos w3, w2]; rfl
  have tu := fun h => H.tup ds h (by omega)
  have fr : (D.tup (ds.map ddD)).free = true := by
    have := progD_free ds
    simpa only [progD, D.free, D.freeL, Bool.and_true] using this
  have p1 : ∀ h, cf 28 [.obj 0 [.tup (ds.map ddD)]] h = .ok (.str (textOf ds)) h := fun h => H.textP ds h (by omega) (fun d hd => by have := name_ne (nm d hd); omega)
  have p2 : ∀ h, cf 24 [.obj 0 [.tup (ds.map ddD)]] h = .ok (.tup (ds.map ddD)) h := fun h => H.deedsP ds h
  have oe : ∀ h, cf 33 [.obj 0 [.tup (ds.map ddD)], .obj 0 [.tup (ds.map ddD)]] h = .ok (.bl true) h := fun h => H.eqP ds h
  have sm := fun h => H.same (.lst [.str (textOf ds), .tup (ds.map ddD), .str (textOf ds), .bl true]) h (by
    have := pl_ddsT (ds := ds) (by omega)
    simp only [D.pl, D.plL, okLen_4, Bool.true_and, Bool.and_true] at this ⊢
    exact this)
  generalize textOf ds = t at *
  generalize hR : D.tup (ds.map ddD) = row at *
  have ln := fun h => len_str h (s := t) (by omega)
  obtain ⟨a, u4, e4, a0, a1, g4⟩ := H.take.at0 u3 (k + 21 + 300) ((t.length : Int) + 1) r g3 (by omega) (by omega) (by omega)
  obtain ⟨a, rfl⟩ : ∃ z : Nat, a = z := ⟨a.toNat, by omega⟩
  obtain ⟨w, u5, e5, wm, g5⟩ := H.of (u4.o :: r) 0 u4 (k + 21 + 300 + 1) (.lst [.str [32], .str [33], .str [45], .str [65], .str [97], .str [49], .str [10], .str [122]]) _ rfl (.inl rfl) rfl g4 (by omega) (by simp) (by simp)
  obtain ⟨c, rfl⟩ : ∃ c : Nat, w = .str [c] := by
    simp only [List.mem_cons, List.not_mem_nil, or_false] at wm
    rcases wm with rfl | rfl | rfl | rfl | rfl | rfl | rfl | rfl <;> exact ⟨_, rfl⟩
  have q1 := fun h => sl_lo h (s := t) (by omega) a
  have q2 := fun h => sl_hi h (s := t) (by omega) a
  have q3 := fun h => sl_hi h (s := t) (by omega) (a + 1)
  have ad2 : ∀ h, binD h .add (.int (a : Int)) (.int 1) = some (.int ((a + 1 : Nat) : Int)) := fun h => by rw [bin_add_int]; simp
  have lt1 : (t.take a).length ≤ t.length := by rw [List.length_take]; omega
  have lt2 : (t.drop a).length ≤ t.length := by rw [List.length_drop]; omega
  have lt3 : (t.drop (a + 1)).length ≤ t.length := by rw [List.length_drop]; omega
  have c1 := fun h => add_str h (a := t.take a) (b := [c]) (by simp only [List.length_singleton]; omega)
  have c2 := fun h => add_str h (a := t.take a ++ [c]) (b := t.drop a) (by simp only [List.length_append, List.length_singleton]; omega)
  have c3 := fun h => add_str h (a := t.take a) (b := t.drop (a + 1)) (by omega)
  have c4 := fun h => add_str h (a := t.take a ++ [c]) (b := t.drop (a + 1)) (by simp only [List.length_append, List.length_singleton]; omega)
  have c5 := fun h => add_str h (a := t) (b := [32]) (by simp only [List.length_singleton]; omega)
  have v1 : (t.take a ++ [c] ++ t.drop a).length ≤ 1000 := by simp only [List.length_append, List.length_singleton]; omega
  have v2 : (t.take a ++ t.drop (a + 1)).length ≤ 1000 := by simp only [List.length_append]; omega
  have v3 : (t.take a ++ [c] ++ t.drop (a + 1)).length ≤ 1000 := by simp only [List.length_append, List.length_singleton]; omega
  have v4 : (t ++ [32]).length ≤ 1000 := by simp only [List.length_append, List.length_singleton]; omega
  simp only [List.set_cons_zero] at e2 e3 e5
  suffices key : ∃ ys : List (Option D), exs cf rightB [some (.ref 0), x1, x2, x3, x4, x5, x6, x7, x8, x9] (u.o :: r) = .ok (.nx (some (.ref 0) :: ys)) (u5.o :: r) ∧ ys.length = 9 by
    obtain ⟨ys, k1, k2⟩ := key
    exact ⟨ys, u5, r, k1, k2, g5.mono (by omega)⟩
  have lp : ∃ y8 y9, forL (forB cf (.nm 8) innerB) [.str (t.take a ++ [c] ++ t.drop a), .str (t.take a ++ t.drop (a + 1)), .str (t.take a ++ [c] ++ t.drop (a + 1)), .str (t ++ [32])] [some (.ref 0), x1, some row, some (.str t), some (.obj 0 [row]), some (.lst [.str t, row, .str t, .bl true]), some (.int (a : Nat)), some (.str [c]), x8, x9] (u5.o :: r)
      = .ok (.nx [some (.ref 0), x1, some row, some (.str t), some (.obj 0 [row]), some (.lst [.str t, row, .str t, .bl true]), some (.int (a : Nat)), some (.str [c]), y8, y9]) (u5.o :: r) := by
    refine ⟨some (.str (t ++ [32])), some (heardD (t ++ [32])), ?_⟩
    simp only [forL, inner_run H _ v1, inner_run H _ v2, inner_run H _ v3, inner_run H _ v4, bind_ok]
  obtain ⟨y8, y9, lp⟩ := lp
  simp only [innerB, rightB, f_law_right] at lp
  simp -implicitDefEqProofs only [eng, eng0, rightB, f_law_right, exs_cons, ex_asg, ex_par, ev_call, evs_cons, evs_nil, ev_var, ev_cst, bind_ok, List.getElem?_cons_succ, List.getElem?_cons_zero, getV_some, permD_nil, perR_some, ev_bin, e1, ad1, lift_some, e2, e3, asgT_nm, List.set_cons_succ, List.set_cons_zero, after_nx, fl, ev_scall, op, ev_lv, evf_disp, ev_prop, ev_newp, tu, calm_okM, newpK2_eq, fr, onlyIf_true, p1, p2, ev_oop, oe, freshL_ok', okLen_4, ex_ife, ev_not, sm, tru_bl, br_true, exs_nil, ev_pr, ln, bin_add_int, e4, okLen_8, e5, setAll_cons, setAll_nil, parR_some]
  simp -implicitDefEqProofs only [eng, eng0, exs_cons, ex_for, evi_seq, ev_lv, evf_disp, evs_cons, evs_nil, ev_bin, ev_sl, ev_var, ev_cst, bind_ok, List.getElem?_cons_succ, List.getElem?_cons_zero, getV_some, evo_no, evo_so, asInt_int, ad2, lift_some, q1, q2, q3, c1, c2, c3, c4, c5, freshL_ok', okLen_4, onlyIf_true, itemsI_lst, withL_some, refOf_lst, unlock_none, lockO_none, lp, after_nx, exs_nil]
  exact ⟨_, rfl, rfl⟩
structure GOk (G : Nat → Option Fn) : Prop where
  tup : G 4 = some tupledF
  name : G 5 = some (isNameF letters)
  deed : G 11 = some (deedInF [])
  box : G 13 = some (boxF 39373 824102)
  take : G 14 = some (takeF 39373)
  cells : G 15 = some cellsF
  of : G 16 = some ofF
  same : G 17 = some sameF2
  tags : G 18 = some (tagsF letters)
  hand : G 19 = some f_law_by_hand_right
  right : G 20 = some (turnsF 10 9 rightB)
  ofP : G 23 = some ofPF
  deedsP : G 24 = some deedsPF
  textP : G 28 = some textPF
  eqP : G 33 = some eqPF
  deeds : G 37 = some deedsF
  flat : G 41 = some flatF
  heard : G 42 = some heardF
  ist : G 43 = some istF
  law : p_law = lawF2 3
theorem wName_len (w : List Nat) : (wName w).length ≤ w.length := by unfold wName; split <;> first | exact Nat.le_refl _ | (rw [List.length_drop]; omega)
theorem heard_free (t : List Nat) : (heardD t).free = true := by
  unfold heardD
  split
  · have := progD_free ((wordsOf t).map wDd)
    simp only [progD, D.free, D.freeL, Bool.and_true] at this ⊢
    exact this
  · rfl
theorem hAll {G : Nat → Option Fn} (n : Nat) (g : GOk G) : HAll (callN G (n + 6)) where
  take := hTake (n + 5) (by decide) (by decide) g.take
  of := hOf (n + 4) (by decide) (by decide) g.take g.of
  tags := hTags (n + 3) (by decide) (by decide) letters rfl g.take g.of g.tags
  deeds := fun h j u k ts hj gu hk tn tl => by
    obtain ⟨ds, u', e1, l1, m1, g1⟩ := deeds_run (hTake (n + 4) (by decide) (by decide) g.take) (hOf (n + 3) (by decide) (by decide) g.take g.of) ts tn tl 10 (by decide) u k gu hk
    refine ⟨ds, u', ?_, l1, m1, g1⟩
    rw [callN_succ g.deeds]
    have fr : (D.tup (ds.map ddD)).free = true := by
      have := progD_free ds
      simpa only [progD, D.free, D.freeL, Bool.and_true] using this
    exact call_one (by simp only [D.freeL, D.free, free_str, Bool.and_self]) hj u.free e1 fr u'.free
  flat := fun ds h hl nm => by
    rw [callN_succ g.flat]
    have fr : (D.tup (ds.map ddD)).free = true := by
      have := progD_free ds
      simpa only [progD, D.free, D.freeL, Bool.and_true] using this
    exact call_pure (by simp only [D.freeL, fr, Bool.and_self]) (flat_run _ ds hl nm) rfl
  ofP := fun t h ht => hOfP (n + 2) g.name g.deed g.tup g.ofP t h ht
  tup := fun ds h hl => by rw [tupled_ok G g.tup 2 (n + 5) _ h (pl_ddsT (by omega)) (by omega), D.tpd, tpdL_map, tpd_dds]
  deedsP := fun ds h => hDeedsP (n + 5) g.deedsP ds h
  textP := fun ds h hl hb => hTextP (n + 5) g.textP ds h hl hb
  eqP := fun ds h => hEqP (n + 4) g.deedsP g.eqP ds h
  heard := fun t h ht => by
    rw [callN_succ g.heard]
    have lw := wordsOf_len t
    have pw := wordsOf_part t
    refine call_pure rfl (heard_run t (hOfP (n + 1) g.name g.deed g.tup g.ofP t [] ht) (fun ds h => hDeedsP (n + 4) g.deedsP ds h) ?_) (heard_free t)
    rw [hTextP (n + 4) g.textP _ [] (by rw [List.length_map]; omega) (by
      simp only [List.mem_map]
      rintro d ⟨w, hw, rfl⟩
      have := pw w hw
      have := wName_len w
      show (wName w).length ≤ 1000
      omega), text_words]
  ist := fun t h ht => by rw [callN_succ g.ist]; exact call_pure rfl (ist_run _ t ht) rfl
  same := fun d h p => same_refl2 G g.same 3 (n + 5) d h p (by omega)
theorem law_true {G : Nat → Option Fn} (n : Nat) (g : GOk G) (hand : isTrue (runFn (callN G (n + 6)) f_law_by_hand_right [] []) = true) (script : List Int) :
    ∃ h, runFn (callN G (n + 7)) p_law [.rol (isD script)] [] = .ok (.bl true) h := by
  rw [g.law]
  exact law_run2 3 (by decide) (by decide) (hand_ok (n + 6) g.hand hand) (hCells (n + 6) g.cells) (hBox (n + 6) 39373 824102 (by decide) (by decide) g.box (by decide) (by decide)) (hRight (n + 6) g.right (fun u gu => turns_run 10 9 rightB 1000 (by decide) (by decide) (fun u k xs r hl g0 hk => turn_run (hAll n g) u k xs r hl g0 hk) u gu)) script
def G0 : Nat → Option Fn := fun
  | 4 => some p_tupled | 5 => some p_is_name | 11 => some p_deed_in | 13 => some f_law_box | 14 => some f_law_take | 15 => some f_law_cells | 16 => some f_law_of | 17 => some f_law_same | 18 => some f_law_tags
  | 19 => some f_law_by_hand_right | 20 => some f_law_right | 23 => some p_of | 24 => some p_deeds | 26 => some p_writes | 27 => some p_streams | 28 => some p_text | 29 => some f__len__ | 33 => some f__eq__ | 37 => some f_law_deeds | 41 => some f_law_flat
  | 42 => some f_law_heard | 43 => some f_law_is_text | _ => none
theorem gok : GOk G0 := ⟨rfl, rfl, rfl, rfl, rfl, rfl, rfl, rfl, rfl, rfl, rfl, rfl, rfl, rfl, rfl, rfl, rfl, rfl, rfl, rfl⟩
theorem hand_true : isTrue (runFn (callN G0 11) f_law_by_hand_right [] []) = true := by decide +kernel
end K02
namespace K02
open Ls
theorem gokT : GOk tab.fns := ⟨rfl, rfl, rfl, rfl, rfl, rfl, rfl, rfl, rfl, rfl, rfl, rfl, rfl, rfl, rfl, rfl, rfl, rfl, rfl, rfl⟩
theorem handT : isTrue (runFn (callN tab.fns 11) f_law_by_hand_right [] []) = true := by decide +kernel
theorem law_ok (ns : List Int) : ∃ h, runFn (callN tab.fns 12) p_law [.rol (ns.map D.int)] [] = .ok (.bl true) h := law_true 5 gokT handT ns
end K02
open PySem PySem.W PyProof.Rows in
set_option maxHeartbeats 0 in
theorem PySem.Challenge.cw_lateshown_k02_programs_as_texts_holds : PySem.Challenge.rw_lateshown_k02_programs_as_texts.Holds := by
  w_on; o_law; k_head; (case hw => w_witness2)
  k_fill
  refine L2.walk_of (l := PySem.Challenge.rw_lateshown_k02_programs_as_texts) (n := 63) (k := 3 * 12 + 4) (x := "_law_script") (CX := fun w => L2.CX (PySem.W.OpenLaw.prog PySem.Challenge.rw_lateshown_k02_programs_as_texts) w) (sp := fun w => Ls.spR _ (Ls.runFn (Ls.callN K02.tab.fns 12) K02.p_law)) rfl (by decide) rfl ⟨rfl, by decide, by decide⟩ (fun w h Y => PySem.W.kIn_of Y) ?F (fun _ _ a ns hl _ hS => (K02.law_ok ns).elim fun _ e => Ls.law_sp e hS) (fun _ _ _ _ _ h => Ls.cx_none h)
  case F =>
    intro w mg fa h KX G hmg
    refine Ls.law_end (i := 21) (t := K02.txt) (d := K02.dp_law) ?S K02.tab_ok rfl rfl rfl K02.b_law hmg
    case S =>
    refine' Ls.stands_prog (d := K02.dp_tupled) KX G ⟨?at0, ?nil, ⟨?pg, ?ic, ?po, ?sa⟩, ⟨?sat, ?sget, ?stk, ?sty, ?six, by decide⟩, ⟨?ca, ?cn, ?ct, ?cm⟩, ⟨?mk, ?mi, ?mf, ?mk2⟩⟩ rfl rfl rfl rfl rfl ?kt ?ky ?kn (Ls.ini_mk ?il ?ic2 ?ilT K02.b_ini) (by decide +kernel) (by decide +kernel) ?gk ?E ?B ?X
    (case at0 => k_is)
    (case nil => k_is)
    (case pg => k_is)
    (case ic => k_is)
    (case po => k_is)
    (case sa => k_is)
    (case sat => k_is)
    (case sget => k_is)
    (case stk => k_is)
    (case sty => k_is)
    (case six => k_is)
    (case ca => k_is)
    (case cn => k_is)
    (case ct => k_is)
    (case cm => k_is)
    (case mk => k_is)
    (case mi => k_is)
    (case mf => k_is)
    (case mk2 => k_is)
    (case il => k_is)
    (case ic2 => k_is)
    (case ilT => k_is)
    case kt => intro u; cases u <;> kernel_rfl
    case ky => kernel_rfl
    case kn => rintro n (rfl | rfl | rfl | rfl | rfl | rfl) <;> kernel_rfl
    case gk =>
      refine' Ls.gc_s ?a ?_
      (case a => k_is)
      refine' Ls.gc_s ?a ?_
      (case a => k_is)
      refine' Ls.gc_s ?a ?_
      (case a => k_is)
      refine' Ls.gc_s ?a ?_
      (case a => k_is)
      refine' Ls.gc_s ?a ?_
      (case a => k_is)
      refine' Ls.gc_s ?a ?_
      (case a => k_is)
      refine' Ls.gc_i ?a ?_
      (case a => k_is)
      exact trivial
    case E =>
      refine ⟨?_, ?_⟩
      · refine' Ls.sd_mk KX G ?a ?l ?c ?k K02.b_tupled (by decide) K02.kb_tupled
        (case a => k_is); (case l => k_is); (case c => k_is); (case k => k_is)
      refine ⟨?_, ?_⟩
      · refine' Ls.sd_mk KX G ?a ?l ?c ?k K02.b_is_name (by decide) K02.kb_is_name
        (case a => k_is); (case l => k_is); (case c => k_is); (case k => k_is)
      refine ⟨?_, ?_⟩
      · refine' Ls.sd_mk KX G ?a ?l ?c ?k K02.b_deed_in (by decide) K02.kb_deed_in
        (case a => k_is); (case l => k_is); (case c => k_is); (case k => k_is)
      refine ⟨?_, ?_⟩
      · refine' Ls.sd_mk KX G ?a ?l ?c ?k K02.b__law_box (by decide) K02.kb__law_box
        (case a => k_is); (case l => k_is); (case c => k_is); (case k => k_is)
      refine ⟨?_, ?_⟩
      · refine' Ls.sd_mk KX G ?a ?l ?c ?k K02.b__law_take (by decide) K02.kb__law_take
        (case a => k_is); (case l => k_is); (case c => k_is); (case k => k_is)
      refine ⟨?_, ?_⟩
      · refine' Ls.sd_mk KX G ?a ?l ?c ?k K02.b__law_cells (by decide) K02.kb__law_cells
        (case a => k_is); (case l => k_is); (case c => k_is); (case k => k_is)
      refine ⟨?_, ?_⟩
      · refine' Ls.sd_mk KX G ?a ?l ?c ?k K02.b__law_of (by decide) K02.kb__law_of
        (case a => k_is); (case l => k_is); (case c => k_is); (case k => k_is)
      refine ⟨?_, ?_⟩
      · refine' Ls.sd_mk KX G ?a ?l ?c ?k K02.b__law_same (by decide) K02.kb__law_same
        (case a => k_is); (case l => k_is); (case c => k_is); (case k => k_is)
      refine ⟨?_, ?_⟩
      · refine' Ls.sd_mk KX G ?a ?l ?c ?k K02.b__law_tags (by decide) K02.kb__law_tags
        (case a => k_is); (case l => k_is); (case c => k_is); (case k => k_is)
      refine ⟨?_, ?_⟩
      · refine' Ls.sd_mk KX G ?a ?l ?c ?k K02.b__law_deeds (by decide) K02.kb__law_deeds
        (case a => k_is); (case l => k_is); (case c => k_is); (case k => k_is)
      refine ⟨?_, ?_⟩
      · refine' Ls.sd_mk KX G ?a ?l ?c ?k K02.b__law_flat (by decide) K02.kb__law_flat
        (case a => k_is); (case l => k_is); (case c => k_is); (case k => k_is)
      refine ⟨?_, ?_⟩
      · refine' Ls.sd_mk KX G ?a ?l ?c ?k K02.b__law_heard (by decide) K02.kb__law_heard
        (case a => k_is); (case l => k_is); (case c => k_is); (case k => k_is)
      refine ⟨?_, ?_⟩
      · refine' Ls.sd_mk KX G ?a ?l ?c ?k K02.b__law_is_text (by decide) K02.kb__law_is_text
        (case a => k_is); (case l => k_is); (case c => k_is); (case k => k_is)
      refine ⟨?_, ?_⟩
      · refine' Ls.sd_mk KX G ?a ?l ?c ?k K02.b__law_by_hand_right (by decide) K02.kb__law_by_hand_right
        (case a => k_is); (case l => k_is); (case c => k_is); (case k => k_is)
      refine ⟨?_, ?_⟩
      · refine' Ls.sd_mk KX G ?a ?l ?c ?k K02.b__law_right (by decide) K02.kb__law_right
        (case a => k_is); (case l => k_is); (case c => k_is); (case k => k_is)
      refine ⟨?_, ?_⟩
      · refine' Ls.sd_mk KX G ?a ?l ?c ?k K02.b_law (by decide) K02.kb_law
        (case a => k_is); (case l => k_is); (case c => k_is); (case k => k_is)
      refine ⟨?_, ?_⟩
      · refine' Ls.sd_prop ?at0 ?a1 ?a2 ?a3 ?a4 ?l ?c ?k K02.b_deeds
        (case at0 => k_is); (case a1 => k_is); (case a2 => k_is); (case a3 => k_is); (case a4 => k_is); (case l => k_is); (case c => k_is); (case k => k_is)
      refine ⟨?_, ?_⟩
      · refine' Ls.sd_prop ?at0 ?a1 ?a2 ?a3 ?a4 ?l ?c ?k K02.b_writes
        (case at0 => k_is); (case a1 => k_is); (case a2 => k_is); (case a3 => k_is); (case a4 => k_is); (case l => k_is); (case c => k_is); (case k => k_is)
      refine ⟨?_, ?_⟩
      · refine' Ls.sd_prop ?at0 ?a1 ?a2 ?a3 ?a4 ?l ?c ?k K02.b_streams
        (case at0 => k_is); (case a1 => k_is); (case a2 => k_is); (case a3 => k_is); (case a4 => k_is); (case l => k_is); (case c => k_is); (case k => k_is)
      refine ⟨?_, ?_⟩
      · refine' Ls.sd_prop ?at0 ?a1 ?a2 ?a3 ?a4 ?l ?c ?k K02.b_text
        (case at0 => k_is); (case a1 => k_is); (case a2 => k_is); (case a3 => k_is); (case a4 => k_is); (case l => k_is); (case c => k_is); (case k => k_is)
      refine ⟨?_, ?_⟩
      · refine' Ls.sd_sm ?at0 ?a1 ?a2 ?a3 ?a4 ?l ?c ?k K02.b_of (by decide) K02.kb_of
        (case at0 => k_is); (case a1 => k_is); (case a2 => k_is); (case a3 => k_is); (case a4 => k_is); (case l => k_is); (case c => k_is); (case k => k_is)
      refine ⟨?_, ?_⟩
      · refine' Ls.sd_spec ?at0 ?a1 ?a2 ?l ?c ?k K02.b___len__
        (case at0 => k_is); (case a1 => k_is); (case a2 => k_is); (case l => k_is); (case c => k_is); (case k => k_is)
      refine ⟨?_, ?_⟩
      · refine' Ls.sd_spec ?at0 ?a1 ?a2 ?l ?c ?k K02.b___eq__
        (case at0 => k_is); (case a1 => k_is); (case a2 => k_is); (case l => k_is); (case c => k_is); (case k => k_is)
      exact trivial
    case B =>
      intro x hx
      simp only [Ls.bltN, List.mem_cons, List.not_mem_nil, or_false] at hx
      rcases hx with rfl | rfl | rfl | rfl | rfl | rfl | rfl | rfl | rfl | rfl | rfl | rfl | rfl | rfl | rfl | rfl | rfl | rfl | rfl | rfl
      all_goals (refine PySem.W.mg_none_of KX G ?_; k_is)
    case X =>
      refine' Ls.xt_of KX G (l := [(1, _), (4, _)]) ?e rfl ?nil2 ?o ?m
      case e =>
        refine' Ls.eachX_cons ⟨?at0, ?kp, ?sub, ?ty, ?cl, ?hd, ?ga, ?gt, ?ca, ?gg, ?tk, ?mo, ?ki1, ?ki2, ?new, ?fld⟩ ?_
        (case at0 => show PySem.W.nsIn _ mainGlobals "NoPlace" = _; k_is)
        (case kp => k_is); (case sub => k_is); (case ty => k_is); (case cl => kernel_rfl); (case hd => kernel_rfl); (case ga => k_is); (case gt => k_is); (case ca => k_is); (case gg => k_is); (case tk => k_is); (case mo => k_is); (case ki1 => kernel_rfl); (case ki2 => kernel_rfl)
        (case new => first | (intro h; exact absurd h (by decide)) | (intro _; kernel_rfl))
        (case fld => intro f hf; simp only [Ls.exF, Ls.exT, List.getD, List.getElem?_cons_succ, List.getElem?_cons_zero, Option.getD_some, List.mem_cons, List.not_mem_nil, or_false] at hf; rcases hf with rfl <;> kernel_rfl)
        refine' Ls.eachX_cons ⟨?at0, ?kp, ?sub, ?ty, ?cl, ?hd, ?ga, ?gt, ?ca, ?gg, ?tk, ?mo, ?ki1, ?ki2, ?new, ?fld⟩ ?_
        (case at0 => show PySem.W.nsIn _ mainGlobals "BadText" = _; k_is)
        (case kp => k_is); (case sub => k_is); (case ty => k_is); (case cl => kernel_rfl); (case hd => kernel_rfl); (case ga => k_is); (case gt => k_is); (case ca => k_is); (case gg => k_is); (case tk => k_is); (case mo => k_is); (case ki1 => kernel_rfl); (case ki2 => kernel_rfl)
        (case new => first | (intro h; exact absurd h (by decide)) | (intro _; kernel_rfl))
        (case fld => intro f hf; simp only [Ls.exF, Ls.exT, List.getD, List.getElem?_cons_succ, List.getElem?_cons_zero, Option.getD_some, List.mem_cons, List.not_mem_nil, or_false] at hf)
        exact trivial
      (case nil2 => kernel_rfl); (case o => kernel_rfl); (case m => kernel_rfl)
