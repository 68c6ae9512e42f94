import PyProof.Rows.All
import Wide.All
import OpenK.AllK
import Wide.FinOn
import HandS.ForMost
import HandS.ForExc
import HandS.Walk
import HandS.IsInst
import HandS.Replace
import HandS.Strs
import HandS.SortInts
import HandS.Deep
import HandS.Conv
import HandS.TupLe
import HandS.TupAny
import HandS.More
import HandS.Style
import PySem.Challenge.RW_happenwords_k03_whole_where_sentences_ho
set_option linter.all false
/-! Mn: a small deterministic interpreter, for the part of the language that this program and its laws use. Core Lean alone. -/
namespace Mn

/-- the largest length of a list, a text -/
abbrev LINE : Nat := 16777216

/-- a value: tuples and lists that never change stand by value; ref n: the n-th object of the virtual heap; gd n: the n-th written dict -/
inductive D where
  | non | bl (b : Bool) | int (i : Int) | str (s : List Nat)
  | tup (xs : List D) | lst (xs : List D) | ref (n : Nat) | gd (n : Nat) | scr (xs : List Int)
  deriving Repr, Inhabited


mutual
def D.beq : D → D → Bool
  | .non, .non => true
  | .bl a, .bl b => a == b
  | .int a, .int b => a == b
  | .str a, .str b => a == b
  | .tup xs, .tup ys => D.beqs xs ys
  | .lst xs, .lst ys => D.beqs xs ys
  | .ref a, .ref b => a == b
  | .gd a, .gd b => a == b
  | .scr a, .scr b => a == b
  | _, _ => false
def D.beqs : List D → List D → Bool
  | [], [] => true
  | x :: xs, y :: ys => D.beq x y && D.beqs xs ys
  | _, _ => false
end
mutual
theorem D.beq_eq : ∀ a b : D, D.beq a b = true → a = b
  | .non, b, h => by cases b <;> simp_all [D.beq]
  | .bl _, b, h => by cases b <;> simp_all [D.beq]
  | .int _, b, h => by cases b <;> simp_all [D.beq]
  | .str _, b, h => by cases b <;> simp_all [D.beq]
  | .ref _, b, h => by cases b <;> simp_all [D.beq]
  | .gd _, b, h => by cases b <;> simp_all [D.beq]
  | .scr _, b, h => by cases b <;> simp_all [D.beq]
  | .tup xs, b, h => by
    cases b with
    | tup ys => rw [D.beqs_eq xs ys (by simpa [D.beq] using h)]
    | _ => simp [D.beq] at h
  | .lst xs, b, h => by
    cases b with
    | lst ys => rw [D.beqs_eq xs ys (by simpa [D.beq] using h)]
    | _ => simp [D.beq] at h
theorem D.beqs_eq : ∀ a b : List D, D.beqs a b = true → a = b
  | [], [], _ => rfl
  | [], _ :: _, h => by simp [D.beqs] at h
  | _ :: _, [], h => by simp [D.beqs] at h
  | x :: xs, y :: ys, h => by
    simp only [D.beqs, Bool.and_eq_true] at h
    rw [D.beq_eq x y h.1, D.beqs_eq xs ys h.2]
end
mutual
theorem D.beq_refl : ∀ a : D, D.beq a a = true
  | .non => rfl
  | .bl _ => by simp [D.beq]
  | .int _ => by simp [D.beq]
  | .str _ => by simp [D.beq]
  | .ref _ => by simp [D.beq]
  | .gd _ => by simp [D.beq]
  | .scr _ => by simp [D.beq]
  | .tup xs => by rw [D.beq]; exact D.beqs_refl xs
  | .lst xs => by rw [D.beq]; exact D.beqs_refl xs
theorem D.beqs_refl : ∀ a : List D, D.beqs a a = true
  | [] => rfl
  | x :: xs => by rw [D.beqs, D.beq_refl x, D.beqs_refl xs]; rfl
end
instance : DecidableEq D := fun a b => if h : D.beq a b = true then isTrue (D.beq_eq a b h) else isFalse fun e => h (by rw [e]; exact D.beq_refl b)

/-- an object that may change -/
inductive O where
  | lst (xs : List D)
  | dct (kvs : List (D × D))
  | ins (c : Nat) (fs : List (Nat × D))
  deriving Repr, Inhabited, DecidableEq

abbrev VH := List O
abbrev Env := List (Option D)

inductive R (α : Type) where
  | ok (a : α) (h : VH) | exc (c : Nat) (fs : List D) (h : VH) | bad
  deriving Repr, Inhabited

def R.bind {α β : Type} (x : R α) (f : α → VH → R β) : R β := match x with
  | .ok a h => f a h
  | .exc c fs h => .exc c fs h
  | .bad => .bad
def R.ofO {α : Type} (o : Option α) (h : VH) : R α := match o with
  | some a => .ok a h
  | none => .bad

/-! ### plain data -/
mutual
/-- == of plain data; a bool counts as a number -/
def eqv : D → D → Bool
  | .non, .non => true
  | .bl a, .bl b => a == b
  | .int a, .int b => a == b
  | .bl a, .int b => (if a then 1 else 0) == b
  | .int a, .bl b => a == (if b then 1 else 0)
  | .str a, .str b => a == b
  | .tup xs, .tup ys => eqvs xs ys
  | .lst xs, .lst ys => eqvs xs ys
  | _, _ => false
def eqvs : List D → List D → Bool
  | [], [] => true
  | x :: xs, y :: ys => eqv x y && eqvs xs ys
  | _, _ => false
end
mutual
/-- no object, no written dict within -/
def plain : D → Bool
  | .tup xs => plains xs
  | .lst xs => plains xs
  | .ref _ => false
  | .gd _ => false
  | .scr _ => false
  | _ => true
def plains : List D → Bool
  | [] => true
  | x :: xs => plain x && plains xs
end
mutual
/-- all objects within are among the first n -/
def clean (n : Nat) : D → Bool
  | .tup xs => cleans n xs
  | .lst xs => cleans n xs
  | .ref k => decide (k < n)
  | _ => true
def cleans (n : Nat) : List D → Bool
  | [] => true
  | x :: xs => clean n x && cleans n xs
end
mutual
/-- how deep -/
def deepD : D → Nat
  | .tup xs => deepDs xs + 1
  | .lst xs => deepDs xs + 1
  | _ => 0
def deepDs : List D → Nat
  | [] => 0
  | x :: xs => max (deepD x) (deepDs xs)
end
/-- a key of a dict: a number, a text -/
def isKey : D → Bool
  | .int _ => true
  | .str _ => true
  | _ => false
def flat : D → Bool
  | .non => true | .bl _ => true | .int _ => true | .str _ => true | _ => false

def asL (h : VH) : D → Option (List D)
  | .lst xs => some xs
  | .ref k => match h[k]? with | some (.lst xs) => some xs | _ => none
  | _ => none
def asLT (h : VH) : D → Option (List D)
  | .tup xs => some xs
  | d => asL h d
def intsD : List D → Option (List Int)
  | [] => some []
  | .int i :: r => (intsD r).map (i :: ·)
  | _ :: _ => none
def bools : List D → Option (List Bool)
  | [] => some []
  | .bl b :: r => (bools r).map (b :: ·)
  | _ :: _ => none
def strsD : List D → Option (List (List Nat))
  | [] => some []
  | .str b :: r => (strsD r).map (b :: ·)
  | _ :: _ => none

/-- the object at d, if it is a list that may change, by value -/
def res (h : VH) (d : D) : D := match d with
  | .ref k => match h[k]? with | some (.lst xs) => .lst xs | _ => d
  | d => d
def eqH (h : VH) (a b : D) : Option Bool :=
  let x := res h a
  let y := res h b
  if plain x && plain y && (decide (deepD x ≤ 60) || decide (deepD y ≤ 60)) then some (eqv x y) else none

def ixN (n : Nat) (i : Int) : Option Nat := if 0 ≤ i then (if i < n then some i.toNat else none) else if -(n : Int) ≤ i then some (i + n).toNat else none
def sIx (n d : Nat) : Option Int → Nat
  | none => d
  | some v => if v < 0 then (v + (n : Int)).toNat else min v.toNat n
def cut {α : Type} (xs : List α) (lo hi : Option Int) : List α := (xs.drop (sIx xs.length 0 lo)).take (sIx xs.length xs.length hi - sIx xs.length 0 lo)

def kfind (kvs : List (D × D)) (k : D) : Option D := match kvs with
  | [] => none
  | (a, v) :: r => if eqv a k then some v else kfind r k
def kput (kvs : List (D × D)) (k v : D) : List (D × D) := match kvs with
  | [] => [(k, v)]
  | (a, w) :: r => if eqv a k then (a, v) :: r else (a, w) :: kput r k v
def kdel (kvs : List (D × D)) (k : D) : List (D × D) := match kvs with
  | [] => []
  | (a, w) :: r => if eqv a k then r else (a, w) :: kdel r k

def fput (f : Nat) (v : D) : List (Nat × D) → List (Nat × D)
  | [] => [(f, v)]
  | (g, x) :: r => if g = f then (g, v) :: r else (g, x) :: fput f v r

mutual
/-- the order of plain data of like shape -/
def ltD : D → D → Bool
  | .int a, .int b => a < b
  | .str a, .str b => decide (a < b)
  | .tup xs, .tup ys => ltDs xs ys
  | _, _ => false
def ltDs : List D → List D → Bool
  | [], _ :: _ => true
  | x :: xs, y :: ys => if eqv x y then ltDs xs ys else ltD x y
  | _, _ => false
end
def insD (x : D) : List D → List D
  | [] => [x]
  | y :: r => if ltD x y then x :: y :: r else y :: insD x r
def sortD : List D → List D
  | [] => []
  | x :: r => insD x (sortD r)
def dedup : List D → List D
  | [] => []
  | x :: r => x :: (dedup r).filter fun y => !eqv x y

/-! ### texts -/
def okS (s : List Nat) : Bool := (s.all fun c => decide (c < 1114112)) && decide (s.length ≤ LINE)
def digitsN (n : Nat) : List Nat := (Nat.toDigits 10 n).map Char.toNat
def strI (i : Int) : List Nat := if i < 0 then 45 :: digitsN i.natAbs else digitsN i.natAbs
def joinS (sep : List Nat) : List (List Nat) → List Nat
  | [] => []
  | [x] => x
  | x :: y :: r => x ++ sep ++ joinS sep (y :: r)
def splitC (c : Nat) : List Nat → List (List Nat)
  | [] => [[]]
  | x :: r => if x = c then [] :: splitC c r else match splitC c r with
    | [] => [[x]]
    | w :: ws => (x :: w) :: ws
def isFig (c : Nat) : Bool := 48 ≤ c && c ≤ 57

/-! ### the syntax -/
inductive Op where | add | sub | mul | div | mod | pow deriving Repr, DecidableEq, Inhabited
inductive Cp where | eq | ne | lt | le | gt | ge | isin | notin | is_ | isnot deriving Repr, DecidableEq, Inhabited
/-- built-in functions -/
inductive Bi where | len | int | str | sum | max1 | min1 | max2 | min2 | sorted | tuple | sset | dict | all | any deriving Repr, DecidableEq, Inhabited
/-- methods of built-in types -/
inductive Bm where | append | extend | pop | popat | dpop | get | count | index | join | split | replace | update | reverse deriving Repr, DecidableEq, Inhabited
/-- types -/
inductive Ty where | int | bool | tuple | list | str deriving Repr, DecidableEq, Inhabited

mutual
inductive E where
  | c (d : D)
  | g (x : Nat) (d : D)
  | v (i : Nat)
  | tup (es : Es)
  | lst (es : Es)
  | dct (ks vs : Es)
  | op (o : Op) (a b : E)
  | neg (a : E)
  | not (a : E)
  | and (a b : E)
  | or (a b : E)
  | ite (t a b : E)
  | cmp (o : Cp) (a b : E)
  | chain (a : E) (o : Cp) (b : E) (o2 : Cp) (c : E)
  | ix (a i : E)
  | sl (a : E) (lo hi : Eo)
  | rev (a : E)
  | call (f : Nat) (es : Es)
  | meth (o : E) (m : Nat) (es : Es)
  | new (c : Nat) (es : Es)
  | fld (o : E) (f : Nat)
  | isi (a : E) (ts : List Ty)
  | bi (b : Bi) (es : Es)
  | listof (a : E)
  | bm (m : Bm) (o : E) (es : Es)
  | lc (elt : E) (t : T) (it : It) (cond : Eo) (own : List Nat)
inductive Es where
  | nil | cons (e : E) (r : Es)
inductive Eo where
  | none | some (e : E)
inductive T where
  | nm (i : Nat) | tup (is : List Nat) | sub (a i : E) | fld (o : E) (f : Nat)
inductive It where
  | val (e : E) | range (es : Es) | revd (e : E) | zip (a b : E)
end

mutual
inductive S where
  | asg (t : T) (e : E)
  | asgB (t : T) (e : E)
  | ex (e : E)
  | ret (e : E)
  | retF (e : E)
  | ite (c : E) (a b : Ss)
  | for_ (t : T) (it : It) (b : Ss)
  | while_ (c : E) (b : Ss)
  | raise (c : Nat) (es : Es)
  | cont
  | pass
  | par (i j : Nat) (a b : E)
  | never
inductive Ss where
  | nil | cons (s : S) (r : Ss)
end

structure Fn where
  np : Nat
  nl : Nat
  gc : Bool
  body : Ss

/-! ### operations on values -/
def opD (h : VH) (o : Op) (a b : D) : Option D := match o, a, b with
  | .add, .int i, .int j => some (.int (i + j))
  | .add, .str s, .str t => if s.length + t.length ≤ LINE then some (.str (s ++ t)) else none
  | .add, .tup xs, .tup ys => if xs.length + ys.length ≤ LINE then some (.tup (xs ++ ys)) else none
  | .add, x, y => match asL h x, asL h y with
    | some xs, some ys => if xs.length + ys.length ≤ LINE then some (.lst (xs ++ ys)) else none
    | _, _ => none
  | .sub, .int i, .int j => some (.int (i - j))
  | .mul, .int i, .int j => if -(2 ^ 64) < j ∧ j < 2 ^ 64 then some (.int (i * j)) else none
  | .div, .int i, .int j => if 0 < j ∧ j < 1073741824 then some (.int (i / j)) else none
  | .mod, .int i, .int j => if 0 < j then some (.int (i % j)) else none
  | .pow, .int i, .int j => if 0 ≤ j ∧ j ≤ 100 ∧ 0 ≤ i ∧ i ≤ 10 then some (.int (i ^ j.toNat)) else none
  | _, _, _ => none

/-- x in y -/
def inD (gds : Nat → List (D × D)) (h : VH) (x y : D) : Option Bool := match y with
  | .str t => match x with | .str [c] => some (decide (c ∈ t)) | _ => none
  | .gd 0 => match x with | .str s => some (kfind (gds 0) (.str s)).isSome | _ => none
  | .ref k => match h[k]? with
    | some (.dct kvs) => if isKey x then some (kfind kvs x).isSome else none
    | some (.lst ys) => if flat x && ys.all flat then some (ys.any fun y => eqv y x) else none
    | _ => none
  | .tup ys => if flat x && ys.all flat then some (ys.any fun y => eqv y x) else none
  | .lst ys => if flat x && ys.all flat then some (ys.any fun y => eqv y x) else none
  | _ => none

def cpD (gds : Nat → List (D × D)) (h : VH) (o : Cp) (a b : D) : Option Bool := match o with
  | .eq => eqH h a b
  | .ne => (eqH h a b).map (!·)
  | .lt => match a, b with | .int i, .int j => some (decide (i < j)) | _, _ => none
  | .le => match a, b with | .int i, .int j => some (decide (i ≤ j)) | _, _ => none
  | .gt => match a, b with | .int i, .int j => some (decide (j < i)) | _, _ => none
  | .ge => match a, b with | .int i, .int j => some (decide (j ≤ i)) | _, _ => none
  | .isin => inD gds h a b
  | .notin => (inD gds h a b).map (!·)
  | .is_ => match b with | .non => some (match a with | .non => true | _ => false) | _ => none
  | .isnot => match b with | .non => some (match a with | .non => false | _ => true) | _ => none

def ixL (xs : List D) (i : D) : Option D := match i with | .int i => (ixN xs.length i).bind fun j => xs[j]? | _ => none
def ixD (gds : Nat → List (D × D)) (h : VH) (a i : D) : Option D := match a with
  | .gd 0 => match i with | .str s => kfind (gds 0) (.str s) | _ => none
  | .str s => match i with | .int i => (ixN s.length i).bind fun j => (s[j]?).map fun c => .str [c] | _ => none
  | .ref k => match h[k]? with
    | some (.dct kvs) => if isKey i then kfind kvs i else none
    | some (.lst xs) => ixL xs i
    | _ => none
  | .tup xs => ixL xs i
  | .lst xs => ixL xs i
  | .scr xs => match i with | .int i => (ixN xs.length i).bind fun j => (xs[j]?).map .int | _ => none
  | _ => none

/-- a slice -/
def slD (h : VH) (a : D) (lo hi : Option Int) : Option D := match a with
  | .tup xs => some (.tup (cut xs lo hi))
  | a => (asL h a).map fun xs => .lst (cut xs lo hi)
def revD (h : VH) (a : D) : Option D := (asL h a).map fun xs => .lst xs.reverse

def tyD (h : VH) : D → Option Ty
  | .bl _ => some .bool | .int _ => some .int | .str _ => some .str | .tup _ => some .tuple | .lst _ => some .list
  | .ref k => match h[k]? with | some (.lst _) => some .list | _ => none
  | _ => none
def isiD (h : VH) (a : D) (ts : List Ty) : Option Bool := match a with
  | .non => some false
  | a => (tyD h a).map fun t => ts.contains t || (t == .bool && ts.contains .int)

def intsMax : List Int → Option Int
  | [] => none
  | x :: r => some (r.foldl max x)
def intsMin : List Int → Option Int
  | [] => none
  | x :: r => some (r.foldl min x)

def biD (h : VH) (b : Bi) (ds : List D) : Option D := match b, ds with
  | .len, [.str s] => some (.int s.length)
  | .len, [.ref k] => match h[k]? with
    | some (.lst xs) => some (.int xs.length)
    | some (.dct kvs) => some (.int kvs.length)
    | _ => none
  | .len, [.tup xs] => some (.int xs.length)
  | .len, [.lst xs] => some (.int xs.length)
  | .len, [.scr xs] => some (.int xs.length)
  | .int, [.int i] => some (.int i)
  | .int, [.bl b] => some (.int (if b then 1 else 0))
  | .int, [.str [c]] => if isFig c then some (.int ((c : Int) - 48)) else none
  | .str, [.int i] => if 0 ≤ i ∧ i < 10 then some (.str (strI i)) else none
  | .sum, [a] => ((asL h a).bind intsD).map fun ns => .int ns.sum
  | .max1, [a] => ((asL h a).bind intsD).bind fun ns => (intsMax ns).map .int
  | .min1, [a] => ((asL h a).bind intsD).bind fun ns => (intsMin ns).map .int
  | .max2, [.int i, .int j] => some (.int (max i j))
  | .min2, [.int i, .int j] => some (.int (min i j))
  | .sorted, [.ref k] => match h[k]? with
    | some (.lst xs) => some (.lst (sortD xs))
    | some (.dct kvs) => some (.lst (sortD (kvs.map (·.1))))
    | _ => none
  | .sorted, [.lst xs] => some (.lst (sortD xs))
  | .tuple, [.tup xs] => some (.tup xs)
  | .tuple, [a] => (asL h a).map .tup
  | .sset, [a] => ((asL h a).bind intsD).map fun ns => .lst (sortD (dedup (ns.map .int)))
  | _, _ => none

def firstAt (p : D → Bool) : List D → Option Nat
  | [] => none
  | x :: r => if p x then some 0 else (firstAt p r).map (· + 1)

def bmD (h : VH) (m : Bm) (o : D) (ds : List D) : R D := match m, ds with
  | .append, [x] => match o with
    | .ref k => match h[k]? with
      | some (.lst xs) => if xs.length < LINE then .ok .non (h.set k (.lst (xs ++ [x]))) else .bad
      | _ => .bad
    | _ => .bad
  | .extend, [x] => match o with
    | .ref k => match h[k]? with
      | some (.lst xs) => match x with
        | .lst ys => if xs.length + ys.length ≤ LINE then .ok .non (h.set k (.lst (xs ++ ys))) else .bad
        | _ => .bad
      | _ => .bad
    | _ => .bad
  | .pop, [] => match o with
    | .ref k => match h[k]? with
      | some (.lst xs) => match xs.getLast? with
        | some y => .ok y (h.set k (.lst xs.dropLast))
        | none => .bad
      | _ => .bad
    | _ => .bad
  | .popat, [i] => match o with
    | .ref k => match h[k]? with
      | some (.lst xs) => match i with
        | .int 0 => match xs with
          | y :: r => .ok y (h.set k (.lst r))
          | [] => .bad
        | _ => .bad
      | _ => .bad
    | _ => .bad
  | .dpop, [i] => match o with
    | .ref k => match h[k]? with
      | some (.dct kvs) => if isKey i then (match kfind kvs i with
        | some v => .ok v (h.set k (.dct (kdel kvs i)))
        | none => .bad) else .bad
      | _ => .bad
    | _ => .bad
  | .get, [k, d] => match o with
    | .ref a => match h[a]? with
      | some (.dct kvs) => if isKey k then .ok ((kfind kvs k).getD d) h else .bad
      | _ => .bad
    | _ => .bad
  | .join, [x] => match o with
    | .str sep => R.ofO (((asL h x).bind strsD).bind fun ws => if (joinS sep ws).length ≤ LINE then some (.str (joinS sep ws)) else none) h
    | _ => .bad
  | .split, [.str [c]] => match o with
    | .str s => if s.length + 2 ≤ LINE then .ok (.lst ((splitC c s).map .str)) h else .bad
    | _ => .bad
  | .replace, [.str [c], .str []] => match o with
    | .str s => if s.length ≤ 64 then .ok (.str (s.filter fun x => !(x == c))) h else .bad
    | _ => .bad
  | _, _ => .bad

/-- is it what a method's receiver must be -/
def bmT (h : VH) (m : Bm) (x : D) : Bool := match m with
  | .join => (match x with | .str _ => true | _ => false)
  | .split => (match x with | .str _ => true | _ => false)
  | .replace => (match x with | .str _ => true | _ => false)
  | .get => (match x with | .ref k => (match h[k]? with | some (.dct _) => true | _ => false) | _ => false)
  | .dpop => (match x with | .ref k => (match h[k]? with | some (.dct _) => true | _ => false) | _ => false)
  | .update => (match x with | .ref k => (match h[k]? with | some (.dct _) => true | _ => false) | _ => false)
  | _ => (match x with | .ref k => (match h[k]? with | some (.lst _) => true | _ => false) | .lst _ => true | _ => false)

/-! ### evaluation -/
/-- what a call hands back: a value, or a new list that no one else holds -/
inductive Rv where
  | val (d : D) | new (xs : List D)
  deriving Repr, Inhabited
def Rv.d : Rv → D
  | .val d => d
  | .new xs => .lst xs
abbrev Call := Nat → List D → VH → R Rv
/-- the classes' methods -/
abbrev MT := Nat → Nat → Option Nat
structure Cfg where
  mt : MT
  gds : Nat → List (D × D)
  wf : Nat

def setN (ρ : Env) : List Nat → List D → Option Env
  | [], [] => some ρ
  | i :: is, d :: ds => setN (ρ.set i (some d)) is ds
  | _, _ => none
/-- a target of a for: a name, names -/
def bindT (t : T) (d : D) (ρ : Env) : Option Env := match t with
  | .nm i => some (ρ.set i (some d))
  | .tup is => match d with | .tup ds => setN ρ is ds | _ => none
  | _ => none
def wipe (ρ : Env) : List Nat → Env
  | [] => ρ
  | i :: is => (wipe ρ is).set i none

def rangeL (lo hi c : Int) : List D :=
  if 0 < c then (List.range ((hi - lo + c - 1) / c).toNat).map fun k : Nat => .int (lo + k * c)
  else if c < 0 then (List.range ((lo - hi - c - 1) / (-c)).toNat).map fun k : Nat => .int (lo + k * c)
  else []
def inB (i : Int) : Bool := decide (-1000000000 ≤ i) && decide (i ≤ 1000000000)
def rangeD : List D → Option (List D)
  | [.int j] => if inB j then some ((List.range j.toNat).map fun k : Nat => .int k) else none
  | [.int i, .int j] => if inB i && inB j then some ((List.range (j - i).toNat).map fun k : Nat => .int (i + k)) else none
  | [.int i, .int j, .int c] => if inB i && inB j && c == -1 then some ((List.range (i - j).toNat).map fun k : Nat => .int (i + k * (-1))) else none
  | _ => none
def zipD : List D → List D → List D
  | x :: xs, y :: ys => .tup [x, y] :: zipD xs ys
  | _, _ => []
/-- what is walked; the object that must stay meanwhile -/
def valIt (h : VH) (d : D) : Option (List D × Option Nat) := match d with
  | .tup xs => some (xs, none)
  | .lst xs => some (xs, none)
  | .str s => some (s.map fun c => .str [c], none)
  | .ref k => match h[k]? with
    | some (.lst xs) => some (xs, some k)
    | _ => none
  | _ => none
/-- the object stands as it was -/
def stands (h h' : VH) : Option Nat → Bool
  | none => true
  | some k => decide (h'[k]? = h[k]?)

/-- a comprehension's turns -/
def lcL (g : Option Nat) (h0 : VH) (b : Env → VH → R D) (cd : Env → VH → R D) (t : T) (ρ : Env) : List D → List D → VH → R (List D)
  | [], acc, h => if stands h0 h g then .ok acc h else .bad
  | x :: xs, acc, h =>
    if stands h0 h g then
      match bindT t x ρ with
      | none => .bad
      | some ρ' => match cd ρ' h with
        | .ok (.bl true) h1 => match b ρ' h1 with
          | .ok y h2 => if acc.length < LINE then lcL g h0 b cd t ρ xs (acc ++ [y]) h2 else .bad
          | _ => .bad
        | .ok (.bl false) h1 => lcL g h0 b cd t ρ xs acc h1
        | _ => .bad
    else .bad

def rdict : List D → List D → Option (List (D × D))
  | [], [] => some []
  | k :: ks, v :: vs => if isKey k then (rdict ks vs).map fun r => (k, v) :: r else none
  | _, _ => none
def foldPut (kvs : List (D × D)) : List (D × D) → List (D × D)
  | [] => kvs
  | (k, v) :: r => foldPut (kput kvs k v) r

mutual
def evE (C : Cfg) (call : Call) : E → Env → VH → R D
  | .c d, _, h => .ok d h
  | .g _ d, _, h => .ok d h
  | .v i, ρ, h => match ρ[i]? with | some (some d) => .ok d h | _ => .bad
  | .tup es, ρ, h => (evEs C call es ρ h).bind fun ds h => if ds.length ≤ LINE then .ok (.tup ds) h else .bad
  | .lst es, ρ, h => (evEs C call es ρ h).bind fun ds h => if ds.length ≤ LINE then .ok (.lst ds) h else .bad
  | .dct ks vs, ρ, h => (evEs C call ks ρ h).bind fun ks h => (evEs C call vs ρ h).bind fun vs h => match rdict ks vs with
    | some kvs => .ok (.ref h.length) (h ++ [.dct (foldPut [] kvs)])
    | none => .bad
  | .op o a b, ρ, h => (evE C call a ρ h).bind fun x h => (evE C call b ρ h).bind fun y h => R.ofO (opD h o x y) h
  | .neg a, ρ, h => (evE C call a ρ h).bind fun x h => match x with | .int i => .ok (.int (-i)) h | _ => .bad
  | .not a, ρ, h => (evE C call a ρ h).bind fun x h => match x with | .bl b => .ok (.bl (!b)) h | _ => .bad
  | .and a b, ρ, h => (evE C call a ρ h).bind fun x h => match x with | .bl true => evE C call b ρ h | .bl false => .ok (.bl false) h | _ => .bad
  | .or a b, ρ, h => (evE C call a ρ h).bind fun x h => match x with | .bl false => evE C call b ρ h | .bl true => .ok (.bl true) h | _ => .bad
  | .ite t a b, ρ, h => (evE C call t ρ h).bind fun x h => match x with | .bl true => evE C call a ρ h | .bl false => evE C call b ρ h | _ => .bad
  | .cmp o a b, ρ, h => (evE C call a ρ h).bind fun x h => (evE C call b ρ h).bind fun y h => R.ofO ((cpD C.gds h o x y).map .bl) h
  | .chain a o b o2 c, ρ, h => (evE C call a ρ h).bind fun x h => (evE C call b ρ h).bind fun y h => match cpD C.gds h o x y with
    | some true => (evE C call c ρ h).bind fun z h => R.ofO ((cpD C.gds h o2 y z).map .bl) h
    | some false => .ok (.bl false) h
    | none => .bad
  | .ix a i, ρ, h => (evE C call a ρ h).bind fun x h => (evE C call i ρ h).bind fun y h => R.ofO (ixD C.gds h x y) h
  | .sl a lo hi, ρ, h => (evE C call a ρ h).bind fun x h => (evEo C call lo ρ h).bind fun l h => (evEo C call hi ρ h).bind fun u h => R.ofO (slD h x l u) h
  | .rev a, ρ, h => (evE C call a ρ h).bind fun x h => R.ofO (revD h x) h
  | .call f es, ρ, h => (evEs C call es ρ h).bind fun ds h => (call f ds h).bind fun r h => .ok r.d h
  | .meth o m es, ρ, h => (evE C call o ρ h).bind fun x h => match x with
    | .ref k => match h[k]? with
      | some (.ins c _) => match C.mt c m with
        | some f => (evEs C call es ρ h).bind fun ds h => (call f (.ref k :: ds) h).bind fun r h => .ok r.d h
        | none => .bad
      | _ => .bad
    | _ => .bad
  | .new c es, ρ, h => (evEs C call es ρ h).bind fun ds h => match C.mt c 0 with
    | some f => (call f (.ref h.length :: ds) (h ++ [.ins c []])).bind fun r h' => match r.d with
      | .non => .ok (.ref h.length) h'
      | _ => .bad
    | none => .bad
  | .fld o f, ρ, h => (evE C call o ρ h).bind fun x h => match x with
    | .ref k => match h[k]? with
      | some (.ins _ fs) => R.ofO (fs.lookup f) h
      | _ => .bad
    | _ => .bad
  | .isi a ts, ρ, h => (evE C call a ρ h).bind fun x h => R.ofO ((isiD h x ts).map .bl) h
  | .bi b es, ρ, h => (evEs C call es ρ h).bind fun ds h => R.ofO (biD h b ds) h
  | .listof a, ρ, h => (evE C call a ρ h).bind fun x h => R.ofO ((asLT h x).map .lst) h
  | .bm m o es, ρ, h => (evE C call o ρ h).bind fun x h => if bmT h m x then (evEs C call es ρ h).bind fun ds h => bmD h m x ds else .bad
  | .lc elt t it cond own, ρ, h => (evIt C call it ρ h).bind fun p h => (lcL p.2 h (evE C call elt) (fun ρ h => match cond with | .none => .ok (.bl true) h | .some c => evE C call c ρ h) t (wipe ρ own) p.1 [] h).bind fun ys h => .ok (.lst ys) h
def evEs (C : Cfg) (call : Call) : Es → Env → VH → R (List D)
  | .nil, _, h => .ok [] h
  | .cons e r, ρ, h => (evE C call e ρ h).bind fun x h => (evEs C call r ρ h).bind fun xs h => .ok (x :: xs) h
def evEo (C : Cfg) (call : Call) : Eo → Env → VH → R (Option Int)
  | .none, _, h => .ok none h
  | .some e, ρ, h => (evE C call e ρ h).bind fun x h => match x with | .int i => .ok (some i) h | _ => .bad
def evIt (C : Cfg) (call : Call) : It → Env → VH → R (List D × Option Nat)
  | .val e, ρ, h => (evE C call e ρ h).bind fun x h => R.ofO (valIt h x) h
  | .range es, ρ, h => (evEs C call es ρ h).bind fun ds h => R.ofO ((rangeD ds).map fun xs => (xs, none)) h
  | .revd e, ρ, h => (evE C call e ρ h).bind fun x h => match x with | .lst xs => .ok (xs.reverse, none) h | _ => .bad
  | .zip a b, ρ, h => (evE C call a ρ h).bind fun x h => (evE C call b ρ h).bind fun y h => match x, y with | .lst xs, .lst ys => .ok (zipD xs ys, none) h | _, _ => .bad
end

/-- a new list that no one else holds -/
def evF (C : Cfg) (call : Call) (e : E) (ρ : Env) (h : VH) : R (List D) := match e with
  | .call f es => (evEs C call es ρ h).bind fun ds h => (call f ds h).bind fun r h => match r with | .new xs => .ok xs h | .val _ => .bad
  | .meth o m es => (evE C call o ρ h).bind fun x h => match x with
    | .ref k => match h[k]? with
      | some (.ins c _) => match C.mt c m with
        | some f => (evEs C call es ρ h).bind fun ds h => (call f (.ref k :: ds) h).bind fun r h => match r with | .new xs => .ok xs h | .val _ => .bad
        | none => .bad
      | _ => .bad
    | _ => .bad
  | .lst es => (evEs C call es ρ h).bind fun ds h => if ds.length ≤ LINE then .ok ds h else .bad
  | .lc elt t it cond own => (evIt C call it ρ h).bind fun p h => (lcL p.2 h (evE C call elt) (fun ρ h => match cond with | .none => .ok (.bl true) h | .some c => evE C call c ρ h) t (wipe ρ own) p.1 [] h)
  | .listof a => (evE C call a ρ h).bind fun x h => R.ofO (asLT h x) h
  | .op .add a b => (evE C call a ρ h).bind fun x h => (evE C call b ρ h).bind fun y h => match asL h x, asL h y with
    | some xs, some ys => if xs.length + ys.length ≤ LINE then .ok (xs ++ ys) h else .bad
    | _, _ => .bad
  | _ => .bad

inductive Out where
  | nx (ρ : Env) | ct (ρ : Env) | rt (d : D) | rn (xs : List D)
  deriving Repr, Inhabited

def forL (g : Option Nat) (h0 : VH) (b : Env → VH → R Out) (t : T) : List D → Env → VH → R Out
  | [], ρ, h => if stands h0 h g then .ok (.nx ρ) h else .bad
  | x :: xs, ρ, h =>
    if stands h0 h g then
      match bindT t x ρ with
      | none => .bad
      | some ρ' => (b ρ' h).bind fun o h' => match o with
        | .nx ρ'' => forL g h0 b t xs ρ'' h'
        | .ct ρ'' => forL g h0 b t xs ρ'' h'
        | .rt d => .ok (.rt d) h'
        | .rn d => .ok (.rn d) h'
    else .bad
def whL (c : Env → VH → R D) (b : Env → VH → R Out) : Nat → Env → VH → R Out
  | 0, _, _ => .bad
  | n + 1, ρ, h => (c ρ h).bind fun x h => match x with
    | .bl true => (b ρ h).bind fun o h' => match o with
      | .nx ρ' => whL c b n ρ' h'
      | .ct ρ' => whL c b n ρ' h'
      | .rt d => .ok (.rt d) h'
      | .rn d => .ok (.rn d) h'
    | .bl false => .ok (.nx ρ) h
    | _ => .bad

/-- target = value -/
def asgT (C : Cfg) (call : Call) (t : T) (d : D) (ρ : Env) (h : VH) : R Out := match t with
  | .nm i => .ok (.nx (ρ.set i (some d))) h
  | .tup is => match d with
    | .tup ds => R.ofO ((setN ρ is ds).map .nx) h
    | _ => .bad
  | .sub a i => (evE C call a ρ h).bind fun x h => (evE C call i ρ h).bind fun y h => match x with
    | .ref k => match h[k]? with
      | some (.lst xs) => match y with
        | .int i => match ixN xs.length i with | some j => .ok (.nx ρ) (h.set k (.lst (xs.set j d))) | none => .bad
        | _ => .bad
      | _ => .bad
    | _ => .bad
  | .fld o f => (evE C call o ρ h).bind fun x h => match x with
    | .ref k => match h[k]? with
      | some (.ins c fs) => if fs.length < 100 then .ok (.nx ρ) (h.set k (.ins c (fput f d fs))) else .bad
      | _ => .bad
    | _ => .bad

mutual
def evS (C : Cfg) (call : Call) : S → Env → VH → R Out
  | .asg t e, ρ, h => (evE C call e ρ h).bind fun d h => asgT C call t d ρ h
  | .asgB t e, ρ, h => (evF C call e ρ h).bind fun xs h => asgT C call t (.ref h.length) ρ (h ++ [.lst xs])
  | .ex e, ρ, h => (evE C call e ρ h).bind fun _ h => .ok (.nx ρ) h
  | .ret e, ρ, h => (evE C call e ρ h).bind fun d h => .ok (.rt d) h
  | .retF e, ρ, h => (evF C call e ρ h).bind fun xs h => .ok (.rn xs) h
  | .ite c a b, ρ, h => (evE C call c ρ h).bind fun x h => match x with | .bl true => evSs C call a ρ h | .bl false => evSs C call b ρ h | _ => .bad
  | .for_ t it b, ρ, h => (evIt C call it ρ h).bind fun p h => forL p.2 h (evSs C call b) t p.1 ρ h
  | .while_ c b, ρ, h => whL (evE C call c) (evSs C call b) C.wf ρ h
  | .raise c es, ρ, h => (evEs C call es ρ h).bind fun ds h => .exc c ds h
  | .cont, ρ, h => .ok (.ct ρ) h
  | .pass, ρ, h => .ok (.nx ρ) h
  | .par i j a b, ρ, h => (evE C call a ρ h).bind fun x h => (evE C call b ρ h).bind fun y h => .ok (.nx ((ρ.set i (some x)).set j (some y))) h
  | .never, _, _ => .bad
def evSs (C : Cfg) (call : Call) : Ss → Env → VH → R Out
  | .nil, ρ, h => .ok (.nx ρ) h
  | .cons s r, ρ, h => (evS C call s ρ h).bind fun o h => match o with
    | .nx ρ' => evSs C call r ρ' h
    | o => .ok o h
end

/-! ### calls -/
def cleanO (n : Nat) : O → Bool
  | .lst xs => cleans n xs
  | .dct kvs => kvs.all fun p => clean n p.1 && clean n p.2
  | .ins _ fs => fs.all fun p => clean n p.2
/-- each of the first objects stands as it was, or has nothing of the new ones -/
def gcOk (h h' : VH) : Bool := decide (h.length ≤ h'.length) && (List.range h.length).all fun i => decide (h'[i]? = h[i]?) || (match h'[i]? with | some o => cleanO h.length o | none => false)
def freeze (n : Nat) (h : VH) (d : D) : Option Rv := match d with
  | .ref k => if k < n then some (.val d) else match h[k]? with
    | some (.lst xs) => if cleans n xs then some (.new xs) else none
    | _ => none
  | d => if clean n d then some (.val d) else none
def outV (n : Nat) (h : VH) : Out → Option Rv
  | .nx _ => some (.val .non)
  | .rt d => freeze n h d
  | .rn xs => if cleans n xs then some (.new xs) else none
  | .ct _ => none
def outV0 : Out → Option Rv
  | .nx _ => some (.val .non)
  | .rt d => some (.val d)
  | .rn xs => some (.new xs)
  | .ct _ => none
def finish (gc : Bool) (h : VH) (r : R Out) : R Rv := match r with
  | .ok o h' => if gc then (if gcOk h h' then R.ofO (outV h.length h' o) (h'.take h.length) else .bad) else R.ofO (outV0 o) h'
  | .exc c fs h' => if gc then (if gcOk h h' && cleans h.length fs then .exc c fs (h'.take h.length) else .bad) else .exc c fs h'
  | .bad => .bad

def run (C : Cfg) (tbl : Nat → Option Fn) : Nat → Call
  | 0, _, _, _ => .bad
  | n + 1, f, args, h => match tbl f with
    | none => .bad
    | some fn => if args.length = fn.np then finish fn.gc h (evSs C (run C tbl n) fn.body (args.map some ++ List.replicate (fn.nl - fn.np) none) h) else .bad
end Mn

set_option Elab.async false
set_option linter.all false
set_option autoImplicit false
set_option maxRecDepth 100000
set_option maxHeartbeats 2000000
/-! MnR: how the small interpreter's values and heap stand for HandS' values and heap. -/
namespace Mn
open PySem PySem.Spec PyProof.Rows L2
/-! ### the world: where the objects that may change stand; what is hidden -/
structure Wd where
  m : List Addr
  hid : List Addr
/-- the text's names and places -/
structure Sig where
  K : PySem.W.Frag
  P : Program
  w : World
  mg : Str → Option Value
  base : Heap
  fa : Nat → Addr
  fd : Nat → FuncData
  ps : Nat → List Str
  fnm : Nat → Str
  ca : Nat → Addr
  cnm : Nat → Str
  fl : Nat → Str
  mn : Nat → Str
  gn : Nat → Str
  gda : Nat → Addr
  gv : Nat → Option D
  FL : List Nat
  C : Cfg
  L : List Nat
  LA : List Nat
  CL : List Nat
  xok : Bool
/-- the script -/
def ScrAt (K : PySem.W.Frag) (H : Hp) (a : Addr) (xs : List Int) : Prop := (∃ o, H a = some (.frz o (.lst (xs.map V.int)))) ∨
  ∃ (o : Obj) (its : Array Value) (n : Nat), K.lookup a = some o ∧ o.cls = .type "list" ∧ o.dict = none ∧ o.data = .seq its n ∧ its.size ≤ sizeLine ∧ Vals (xs.map V.int) its.toList
theorem ScrAt.sq {K : PySem.W.Frag} {H : Hp} {a : Addr} {xs : List Int} (h : ScrAt K H a xs) : SqL K H a (xs.map V.int) := by
  rcases h with h | h
  · exact .inl (.inr h)
  · exact .inr h
mutual
inductive Rep (S : Sig) (W : Wd) (H : Hp) : D → V → Prop where
  | non : Rep S W H .non .non
  | bl (b : Bool) : Rep S W H (.bl b) (.bl b)
  | int (i : Int) : Rep S W H (.int i) (.int i)
  | str {s : List Nat} : okS s = true → Rep S W H (.str s) (.str ⟨s.toArray⟩)
  | tup {ds : List D} {vs : List V} {a : Addr} : SqT S.K H a vs → Reps S W H ds vs → Rep S W H (.tup ds) (.ref a)
  | lst {ds : List D} {vs : List V} {a : Addr} : H a = some (.lst vs) → a ∉ W.m → a ∉ W.hid → Reps S W H ds vs → Rep S W H (.lst ds) (.ref a)
  | ref {n : Nat} {a : Addr} : W.m[n]? = some a → Rep S W H (.ref n) (.ref a)
  | gd (n : Nat) : Rep S W H (.gd n) (.ref (S.gda n))
  | scr {xs : List Int} {a : Addr} : ScrAt S.K H a xs → Rep S W H (.scr xs) (.ref a)
inductive Reps (S : Sig) (W : Wd) (H : Hp) : List D → List V → Prop where
  | nil : Reps S W H [] []
  | cons {d : D} {v : V} {ds : List D} {vs : List V} : Rep S W H d v → Reps S W H ds vs → Reps S W H (d :: ds) (v :: vs)
end
/-- from one world to a later one -/
structure Ext (W W' : Wd) (H H' : Hp) : Prop where
  hid : W'.hid = W.hid
  pre : ∃ t, W'.m = W.m ++ t
  new : ∀ a ∈ W'.m, a ∈ W.m ∨ H a = none
  keep : ∀ a o, H a = some o → a ∉ W.m → (∀ ps, o ≠ .tbl ps) → H' a = some o
  tups : ∀ a xs, H a = some (.tup xs) → H' a = some (.tup xs)
  frzs : ∀ a o u, H a = some (.frz o u) → H' a = some (.frz o u)
  alive : ∀ a, H a ≠ none → H' a ≠ none
theorem Ext.refl (W : Wd) (H : Hp) : Ext W W H H := ⟨rfl, ⟨[], by simp⟩, fun _ h => .inl h, fun _ _ h _ _ => h, fun _ _ h => h, fun _ _ _ h => h, fun _ h => h⟩
theorem Ext.trans {W W' W'' : Wd} {H H' H'' : Hp} (a : Ext W W' H H') (b : Ext W' W'' H' H'') : Ext W W'' H H'' where
  hid := b.hid.trans a.hid
  pre := by
    obtain ⟨t, e⟩ := a.pre
    obtain ⟨u, e'⟩ := b.pre
    exact ⟨t ++ u, by rw [e', e, List.append_assoc]⟩
  new := fun x hx => by
    rcases b.new x hx with h | h
    · exact a.new x h
    · refine .inr ?_
      cases e : H x with
      | none => rfl
      | some o => exact absurd h (a.alive x (by rw [e]; simp))
  keep := fun x o h hm ht => by
    refine b.keep x o (a.keep x o h hm ht) (fun hx => ?_) ht
    rcases a.new x hx with q | q
    · exact hm q
    · rw [h] at q; cases q
  tups := fun x xs h => b.tups x xs (a.tups x xs h)
  frzs := fun x o u h => b.frzs x o u (a.frzs x o u h)
  alive := fun x h => b.alive x (a.alive x h)
theorem Ext.rd {W W' : Wd} {H H' : Hp} (e : Ext W W' H H') {a : Addr} {xs : List V} (h : Rd H a (.tup xs)) : Rd H' a (.tup xs) := by
  rcases h with h | ⟨o, h⟩
  · exact .inl (e.tups _ _ h)
  · exact .inr ⟨o, e.frzs _ _ _ h⟩
theorem Ext.sqT {S : Sig} {W W' : Wd} {H H' : Hp} (e : Ext W W' H H') {a : Addr} {xs : List V} (h : SqT S.K H a xs) : SqT S.K H' a xs := by
  rcases h with h | h
  · exact .inl (e.rd h)
  · exact .inr h
theorem Ext.scr {S : Sig} {W W' : Wd} {H H' : Hp} (e : Ext W W' H H') {a : Addr} {xs : List Int} (h : ScrAt S.K H a xs) : ScrAt S.K H' a xs := by
  rcases h with ⟨o, h⟩ | h
  · exact .inl ⟨o, e.frzs _ _ _ h⟩
  · exact .inr h
theorem Ext.old {W W' : Wd} {H H' : Hp} (e : Ext W W' H H') {a : Addr} (h : H a ≠ none) (hm : a ∉ W.m) : a ∉ W'.m := fun hx => by
  rcases e.new a hx with q | q
  · exact hm q
  · exact h q
mutual
theorem Rep.ext {S : Sig} {W W' : Wd} {H H' : Hp} (e : Ext W W' H H') : ∀ {d : D} {v : V}, Rep S W H d v → Rep S W' H' d v
  | _, _, .non => .non
  | _, _, .bl b => .bl b
  | _, _, .int i => .int i
  | _, _, .str s => .str s
  | _, _, .tup h r => .tup (e.sqT h) (Reps.ext e r)
  | _, _, .lst h hm hh r => .lst (e.keep _ _ h hm fun ps z => by cases z) (e.old (by rw [h]; simp) hm) (by rw [e.hid]; exact hh) (Reps.ext e r)
  | _, _, .ref h => by
    obtain ⟨t, q⟩ := e.pre
    refine .ref ?_
    rw [q, List.getElem?_append_left (List.getElem?_eq_some_iff.mp h).1]
    exact h
  | _, _, .gd n => .gd n
  | _, _, .scr h => .scr (e.scr h)
theorem Reps.ext {S : Sig} {W W' : Wd} {H H' : Hp} (e : Ext W W' H H') : ∀ {ds : List D} {vs : List V}, Reps S W H ds vs → Reps S W' H' ds vs
  | _, _, .nil => .nil
  | _, _, .cons h r => .cons (Rep.ext e h) (Reps.ext e r)
end
theorem Reps.length {S : Sig} {W : Wd} {H : Hp} : ∀ {ds : List D} {vs : List V}, Reps S W H ds vs → ds.length = vs.length
  | _, _, .nil => rfl
  | _, _, .cons _ r => by rw [List.length_cons, List.length_cons, r.length]
theorem Reps.get {S : Sig} {W : Wd} {H : Hp} : ∀ {ds : List D} {vs : List V} {i : Nat} {d : D}, Reps S W H ds vs → ds[i]? = some d → ∃ v, vs[i]? = some v ∧ Rep S W H d v
  | _, _, _, _, .nil, e => by simp at e
  | _, _, 0, _, .cons h _, e => by simp at e; subst e; exact ⟨_, rfl, h⟩
  | _, _, i + 1, _, .cons _ r, e => by
    obtain ⟨v, h1, h2⟩ := r.get (i := i) (by simpa using e)
    exact ⟨v, by simpa using h1, h2⟩
theorem Reps.append {S : Sig} {W : Wd} {H : Hp} : ∀ {ds es : List D} {vs us : List V}, Reps S W H ds vs → Reps S W H es us → Reps S W H (ds ++ es) (vs ++ us)
  | _, _, _, _, .nil, s => s
  | _, _, _, _, .cons h r, s => .cons h (r.append s)
theorem Reps.drop {S : Sig} {W : Wd} {H : Hp} : ∀ {ds : List D} {vs : List V} (n : Nat), Reps S W H ds vs → Reps S W H (ds.drop n) (vs.drop n)
  | _, _, 0, r => r
  | _, _, _ + 1, .nil => .nil
  | _, _, n + 1, .cons _ r => r.drop n
theorem Reps.take {S : Sig} {W : Wd} {H : Hp} : ∀ {ds : List D} {vs : List V} (n : Nat), Reps S W H ds vs → Reps S W H (ds.take n) (vs.take n)
  | _, _, 0, _ => .nil
  | _, _, _ + 1, .nil => .nil
  | _, _, n + 1, .cons h r => .cons h (r.take n)
theorem Reps.set {S : Sig} {W : Wd} {H : Hp} {d : D} {v : V} (h : Rep S W H d v) : ∀ {ds : List D} {vs : List V} (n : Nat), Reps S W H ds vs → Reps S W H (ds.set n d) (vs.set n v)
  | _, _, _, .nil => .nil
  | _, _, 0, .cons _ r => .cons h r
  | _, _, n + 1, .cons q r => .cons q (r.set h n)
theorem Reps.reverse {S : Sig} {W : Wd} {H : Hp} : ∀ {ds : List D} {vs : List V}, Reps S W H ds vs → Reps S W H ds.reverse vs.reverse
  | _, _, .nil => .nil
  | _, _, .cons h r => by
    rw [List.reverse_cons, List.reverse_cons]
    exact r.reverse.append (.cons h .nil)
theorem Reps.ints {S : Sig} {W : Wd} {H : Hp} : ∀ {ds : List D} {vs : List V} {ns : List Int}, Reps S W H ds vs → Mn.intsD ds = some ns → vs = ns.map V.int
  | _, _, _, .nil, e => by cases e; rfl
  | .int i :: ds, _, ns, .cons h r, e => by
    cases h
    cases q : Mn.intsD ds with
    | none => simp [Mn.intsD, q] at e
    | some ms =>
      simp [Mn.intsD, q] at e
      subst e
      rw [r.ints q]; rfl
  | .non :: _, _, _, .cons _ _, e => by simp [Mn.intsD] at e
  | .bl _ :: _, _, _, .cons _ _, e => by simp [Mn.intsD] at e
  | .str _ :: _, _, _, .cons _ _, e => by simp [Mn.intsD] at e
  | .tup _ :: _, _, _, .cons _ _, e => by simp [Mn.intsD] at e
  | .lst _ :: _, _, _, .cons _ _, e => by simp [Mn.intsD] at e
  | .ref _ :: _, _, _, .cons _ _, e => by simp [Mn.intsD] at e
  | .gd _ :: _, _, _, .cons _ _, e => by simp [Mn.intsD] at e
  | .scr _ :: _, _, _, .cons _ _, e => by simp [Mn.intsD] at e
theorem Reps.of_ints {S : Sig} {W : Wd} {H : Hp} : ∀ (ns : List Int), Reps S W H (ns.map D.int) (ns.map V.int)
  | [] => .nil
  | n :: r => .cons (.int n) (Reps.of_ints r)
def Sz (s : List Nat) : Str := ⟨s.toArray⟩
theorem Reps.strs {S : Sig} {W : Wd} {H : Hp} : ∀ {ds : List D} {vs : List V} {ns : List (List Nat)}, Reps S W H ds vs → Mn.strsD ds = some ns → vs = ns.map fun s => V.str (Sz s)
  | _, _, _, .nil, e => by cases e; rfl
  | .str i :: ds, _, ns, .cons h r, e => by
    cases h
    cases q : Mn.strsD ds with
    | none => simp [Mn.strsD, q] at e
    | some ms =>
      simp [Mn.strsD, q] at e
      subst e
      rw [r.strs q]; rfl
  | .non :: _, _, _, .cons _ _, e => by simp [Mn.strsD] at e
  | .bl _ :: _, _, _, .cons _ _, e => by simp [Mn.strsD] at e
  | .int _ :: _, _, _, .cons _ _, e => by simp [Mn.strsD] at e
  | .tup _ :: _, _, _, .cons _ _, e => by simp [Mn.strsD] at e
  | .lst _ :: _, _, _, .cons _ _, e => by simp [Mn.strsD] at e
  | .ref _ :: _, _, _, .cons _ _, e => by simp [Mn.strsD] at e
  | .gd _ :: _, _, _, .cons _ _, e => by simp [Mn.strsD] at e
  | .scr _ :: _, _, _, .cons _ _, e => by simp [Mn.strsD] at e
theorem Reps.of_strs {S : Sig} {W : Wd} {H : Hp} : ∀ (ns : List (List Nat)), (∀ s ∈ ns, okS s = true) → Reps S W H (ns.map D.str) (ns.map fun s => V.str (Sz s))
  | [], _ => .nil
  | n :: r, h => .cons (.str (h n (by simp))) (Reps.of_strs r fun s hs => h s (by simp [hs]))
theorem Reps.strs_ok {S : Sig} {W : Wd} {H : Hp} : ∀ {ds : List D} {vs : List V} {ns : List (List Nat)}, Reps S W H ds vs → Mn.strsD ds = some ns → ∀ s ∈ ns, okS s = true
  | _, _, _, .nil, e => by cases e; intro s hs; cases hs
  | .str i :: ds, _, ns, .cons h r, e => by
    cases h with
    | str ho =>
    cases q : Mn.strsD ds with
    | none => simp [Mn.strsD, q] at e
    | some ms =>
      simp [Mn.strsD, q] at e
      subst e
      intro s hs
      rcases List.mem_cons.mp hs with rfl | hs
      · exact ho
      · exact r.strs_ok q s hs
  | .non :: _, _, _, .cons _ _, e => by simp [Mn.strsD] at e
  | .bl _ :: _, _, _, .cons _ _, e => by simp [Mn.strsD] at e
  | .int _ :: _, _, _, .cons _ _, e => by simp [Mn.strsD] at e
  | .tup _ :: _, _, _, .cons _ _, e => by simp [Mn.strsD] at e
  | .lst _ :: _, _, _, .cons _ _, e => by simp [Mn.strsD] at e
  | .ref _ :: _, _, _, .cons _ _, e => by simp [Mn.strsD] at e
  | .gd _ :: _, _, _, .cons _ _, e => by simp [Mn.strsD] at e
  | .scr _ :: _, _, _, .cons _ _, e => by simp [Mn.strsD] at e

/-! ### objects -/
/-- a key of a dict with numbers and texts -/
def keyOf : D → Option L2.Key
  | .int i => some (.inl i)
  | .str s => some (.inr ⟨s.toArray⟩)
  | _ => none
inductive KvR (S : Sig) (W : Wd) (H : Hp) : List (D × D) → List (L2.Key × V) → Prop where
  | nil : KvR S W H [] []
  | cons {k d : D} {q : L2.Key} {v : V} {r : List (D × D)} {t : List (L2.Key × V)} : keyOf k = some q → Rep S W H d v → KvR S W H r t → KvR S W H ((k, d) :: r) ((q, v) :: t)
inductive FsR (S : Sig) (W : Wd) (H : Hp) : List (Nat × D) → List (Str × V) → Prop where
  | nil : FsR S W H [] []
  | cons {f : Nat} {d : D} {v : V} {r : List (Nat × D)} {t : List (Str × V)} : Rep S W H d v → FsR S W H r t → FsR S W H ((f, d) :: r) ((S.fl f, v) :: t)
/-- the object o of the virtual heap stands at a -/
def ObR (S : Sig) (W : Wd) (H : Hp) (a : Addr) : O → Prop
  | .lst xs => ∃ vs, H a = some (.lst vs) ∧ Reps S W H xs vs
  | .dct kvs => ∃ t, H a = some (.dK t) ∧ KvR S W H kvs t
  | .ins c fs => ∃ dx t, H a = some (.ins (S.ca c) dx t) ∧ FsR S W H fs t ∧ S.CL.contains c = true
theorem KvR.ext {S : Sig} {W W' : Wd} {H H' : Hp} (e : Ext W W' H H') : ∀ {l t}, KvR S W H l t → KvR S W' H' l t
  | _, _, .nil => .nil
  | _, _, .cons k h r => .cons k (h.ext e) (r.ext e)
theorem FsR.ext {S : Sig} {W W' : Wd} {H H' : Hp} (e : Ext W W' H H') : ∀ {l t}, FsR S W H l t → FsR S W' H' l t
  | _, _, .nil => .nil
  | _, _, .cons h r => .cons (h.ext e) (r.ext e)
theorem ObR.ne {S : Sig} {W : Wd} {H : Hp} {a : Addr} {o : O} (h : ObR S W H a o) : H a ≠ none := by
  cases o with
  | lst xs => obtain ⟨vs, e, _⟩ := h; rw [e]; simp
  | dct kvs => obtain ⟨t, e, _⟩ := h; rw [e]; simp
  | ins c fs => obtain ⟨dx, t, e, _⟩ := h; rw [e]; simp
/-- what is said of an object stays where the object itself does -/
theorem ObR.ext {S : Sig} {W W' : Wd} {H H' : Hp} {a : Addr} {o : O} (h : ObR S W H a o) (e : Ext W W' H H') (k : H' a = H a) : ObR S W' H' a o := by
  cases o with
  | lst xs => obtain ⟨vs, q, r⟩ := h; exact ⟨vs, k.trans q, r.ext e⟩
  | dct kvs =>
    obtain ⟨t, q, r⟩ := h
    exact ⟨t, k.trans q, r.ext e⟩
  | ins c fs => obtain ⟨dx, t, q, r, hc⟩ := h; exact ⟨dx, t, k.trans q, r.ext e, hc⟩

structure HR (S : Sig) (W : Wd) (H : Hp) (h : VH) : Prop where
  len : W.m.length = h.length
  nd : W.m.Nodup
  dis : ∀ a ∈ W.m, a ∉ W.hid
  hidA : ∀ a ∈ W.hid, H a ≠ none
  obj : ∀ (i : Nat) (a : Addr) (o : O), W.m[i]? = some a → h[i]? = some o → ObR S W H a o
theorem HR.at {S : Sig} {W : Wd} {H : Hp} {h : VH} (r : HR S W H h) {k : Nat} {o : O} (e : h[k]? = some o) : ∃ a, W.m[k]? = some a ∧ ObR S W H a o := by
  have hk : k < W.m.length := by rw [r.len]; exact (List.getElem?_eq_some_iff.mp e).1
  exact ⟨W.m[k], List.getElem?_eq_getElem hk, r.obj k _ o (List.getElem?_eq_getElem hk) e⟩
theorem HR.ref {S : Sig} {W : Wd} {H : Hp} {h : VH} (r : HR S W H h) {k : Nat} {o : O} {v : V} (e : h[k]? = some o) (p : Rep S W H (.ref k) v) : ∃ a, v = .ref a ∧ W.m[k]? = some a ∧ ObR S W H a o := by
  cases p with
  | ref q => exact ⟨_, rfl, q, r.obj k _ o q e⟩
theorem HR.mem {S : Sig} {W : Wd} {H : Hp} {h : VH} (r : HR S W H h) : ∀ a ∈ W.m, H a ≠ none := fun a ha => by
  obtain ⟨i, hi, e⟩ := List.getElem_of_mem ha
  have hi' : i < h.length := by rw [← r.len]; exact hi
  have := r.obj i a h[i] (by rw [List.getElem?_eq_getElem hi, e]) (List.getElem?_eq_getElem hi')
  exact this.ne
/-- a new object that is not among those that may change: a list, a tuple -/
theorem Ext.fresh {W : Wd} {H : Hp} {p : Addr} {o : HO} (hp : H p = none) : Ext W W H (upd H p o) where
  hid := rfl
  pre := ⟨[], by simp⟩
  new := fun _ h => .inl h
  keep := fun a x h _ _ => by rw [upd_ne (ne_of_none h hp)]; exact h
  tups := fun a x h => by rw [upd_ne (ne_of_none h hp)]; exact h
  frzs := fun a x u h => by rw [upd_ne (ne_of_none h hp)]; exact h
  alive := fun a h => by
    unfold upd
    split
    · simp
    · exact h
theorem HR.fresh {S : Sig} {W : Wd} {H : Hp} {h : VH} {p : Addr} {o : HO} (r : HR S W H h) (hp : H p = none) : HR S W (upd H p o) h where
  len := r.len
  nd := r.nd
  dis := r.dis
  hidA := fun a ha => (Ext.fresh (W := W) hp).alive a (r.hidA a ha)
  obj := fun i a x h1 h2 => by
    have q := r.obj i a x h1 h2
    refine q.ext (Ext.fresh hp) (upd_ne fun z => ?_)
    rw [z] at q
    exact q.ne hp
theorem HR.not_mem {S : Sig} {W : Wd} {H : Hp} {h : VH} {p : Addr} (r : HR S W H h) (hp : H p = none) : p ∉ W.m := fun z => r.mem p z hp
theorem HR.not_hid {S : Sig} {W : Wd} {H : Hp} {h : VH} {p : Addr} (r : HR S W H h) (hp : H p = none) : p ∉ W.hid := fun z => r.hidA p z hp
/-- the world with one object more -/
def Wd.add (W : Wd) (p : Addr) : Wd := ⟨W.m ++ [p], W.hid⟩
theorem Ext.add {W : Wd} {H : Hp} {p : Addr} {o : HO} (hp : H p = none) : Ext W (W.add p) H (upd H p o) where
  hid := rfl
  pre := ⟨[p], rfl⟩
  new := fun a h => by
    rcases List.mem_append.mp h with h | h
    · exact .inl h
    · rw [List.mem_singleton.mp h]; exact .inr hp
  keep := (Ext.fresh hp).keep
  tups := (Ext.fresh (W := W) hp).tups
  frzs := (Ext.fresh (W := W) hp).frzs
  alive := (Ext.fresh (W := W) hp).alive
theorem HR.add {S : Sig} {W : Wd} {H : Hp} {h : VH} {p : Addr} {o : HO} {x : O} (r : HR S W H h) (hp : H p = none) (hx : Ext W (W.add p) H (upd H p o) → ObR S (W.add p) (upd H p o) p x) : HR S (W.add p) (upd H p o) (h ++ [x]) := by
  have e := Ext.add (W := W) (o := o) hp
  have nm := r.not_mem hp
  refine ⟨by simp [Wd.add, r.len], ?_, fun a ha => ?_, fun a ha => e.alive a (r.hidA a ha), fun i a y h1 h2 => ?_⟩
  · show (W.m ++ [p]).Nodup
    rw [List.nodup_append]
    refine ⟨r.nd, by simp, fun a ha b hb => ?_⟩
    rw [List.mem_singleton.mp hb]
    rintro rfl
    exact nm ha
  · rcases List.mem_append.mp ha with ha | ha
    · exact r.dis a ha
    · rw [List.mem_singleton.mp ha]; exact r.not_hid hp
  · by_cases hi : i < W.m.length
    · have h1' : W.m[i]? = some a := by
        rw [show (W.add p).m = W.m ++ [p] from rfl, List.getElem?_append_left hi] at h1; exact h1
      have h2' : h[i]? = some y := by
        rw [List.getElem?_append_left (by rw [← r.len]; exact hi)] at h2; exact h2
      have q := r.obj i a y h1' h2'
      exact q.ext e (upd_ne fun z => q.ne (by rw [z]; exact hp))
    · have hl : i < (W.m ++ [p]).length := (List.getElem?_eq_some_iff.mp h1).1
      have ei : i = W.m.length := by simp at hl; omega
      subst ei
      rw [show (W.add p).m = W.m ++ [p] from rfl, List.getElem?_append_right (Nat.le_refl _)] at h1
      rw [r.len, List.getElem?_append_right (Nat.le_refl _)] at h2
      simp at h1 h2
      subst h1 h2
      exact hx e
theorem Wd.add_get {S : Sig} {W : Wd} {H : Hp} {h : VH} {p : Addr} (r : HR S W H h) : (W.add p).m[h.length]? = some p := by
  rw [← r.len]
  show (W.m ++ [p])[W.m.length]? = some p
  simp
/-- an object of the virtual heap changes -/
theorem Ext.write {S : Sig} {W : Wd} {H : Hp} {h : VH} {k : Nat} {a : Addr} {o : HO} (r : HR S W H h) (ha : W.m[k]? = some a) (ht : ∀ xs, H a ≠ some (.tup xs)) (hf : ∀ x u, H a ≠ some (.frz x u)) : Ext W W H (upd H a o) where
  hid := rfl
  pre := ⟨[], by simp⟩
  new := fun _ h => .inl h
  keep := fun b x h hm _ => by
    rw [upd_ne fun z => hm (by rw [z]; exact List.mem_of_getElem? ha)]
    exact h
  tups := fun b x h => by
    rw [upd_ne fun z => ht x (by rw [← z]; exact h)]
    exact h
  frzs := fun b x u h => by
    rw [upd_ne fun z => hf x u (by rw [← z]; exact h)]
    exact h
  alive := fun b h => by
    unfold upd
    split
    · simp
    · exact h
theorem ObR.notT {S : Sig} {W : Wd} {H : Hp} {a : Addr} {o : O} (h : ObR S W H a o) : (∀ xs, H a ≠ some (.tup xs)) ∧ ∀ x u, H a ≠ some (.frz x u) := by
  cases o with
  | lst xs => obtain ⟨vs, e, _⟩ := h; rw [e]; exact ⟨fun _ z => (by cases z), fun _ _ z => (by cases z)⟩
  | dct kvs => obtain ⟨t, e, _⟩ := h; rw [e]; exact ⟨fun _ z => (by cases z), fun _ _ z => (by cases z)⟩
  | ins c fs => obtain ⟨dx, t, e, _⟩ := h; rw [e]; exact ⟨fun _ z => (by cases z), fun _ _ z => (by cases z)⟩
theorem HR.write {S : Sig} {W : Wd} {H : Hp} {h : VH} {k : Nat} {a : Addr} {o : HO} {x y : O} (r : HR S W H h) (ha : W.m[k]? = some a) (hy : h[k]? = some y) (hx : Ext W W H (upd H a o) → ObR S W (upd H a o) a x) : Ext W W H (upd H a o) ∧ HR S W (upd H a o) (h.set k x) := by
  have q := r.obj k a y ha hy
  have e : Ext W W H (upd H a o) := Ext.write r ha q.notT.1 q.notT.2
  refine ⟨e, by rw [List.length_set]; exact r.len, r.nd, r.dis, fun b hb => e.alive b (r.hidA b hb), fun i b z h1 h2 => ?_⟩
  by_cases hi : i = k
  · subst hi
    rw [ha] at h1
    cases h1
    have hk : i < h.length := (List.getElem?_eq_some_iff.mp hy).1
    rw [List.getElem?_set_self hk] at h2
    cases h2
    exact hx e
  · rw [List.getElem?_set_ne (Ne.symm hi)] at h2
    have p := r.obj i b z h1 h2
    refine p.ext e (upd_ne fun ee => hi ?_)
    subst ee
    obtain ⟨l1, e1⟩ := List.getElem?_eq_some_iff.mp h1
    obtain ⟨l2, e2⟩ := List.getElem?_eq_some_iff.mp ha
    exact (List.getElem_inj r.nd).mp (e1.trans e2.symm)

/-! ### a def's names -/
structure ER (S : Sig) (W : Wd) (H : Hp) (σ : L2.St) (ρ : Env) : Prop where
  len : σ.length = ρ.length
  at_ : ∀ (i : Nat) (d : D), ρ[i]? = some (some d) → ∃ v, σ[i]? = some (some v) ∧ Rep S W H d v
theorem ER.ext {S : Sig} {W W' : Wd} {H H' : Hp} {σ : L2.St} {ρ : Env} (h : ER S W H σ ρ) (e : Ext W W' H H') : ER S W' H' σ ρ :=
  ⟨h.len, fun i d q => let ⟨v, q1, q2⟩ := h.at_ i d q; ⟨v, q1, q2.ext e⟩⟩
theorem ER.set {S : Sig} {W : Wd} {H : Hp} {σ : L2.St} {ρ : Env} (h : ER S W H σ ρ) {d : D} {v : V} (r : Rep S W H d v) (i : Nat) : ER S W H (σ.set i (some v)) (ρ.set i (some d)) := by
  refine ⟨by rw [List.length_set, List.length_set]; exact h.len, fun j e q => ?_⟩
  by_cases hj : j = i
  · subst hj
    have hl : j < ρ.length := by
      have := (List.getElem?_eq_some_iff.mp q).1
      rwa [List.length_set] at this
    rw [List.getElem?_set_self hl] at q
    cases q
    exact ⟨v, by rw [List.getElem?_set_self (by rw [h.len]; exact hl)], r⟩
  · rw [List.getElem?_set_ne (Ne.symm hj)] at q ⊢
    exact h.at_ j e q
theorem ER.wipe {S : Sig} {W : Wd} {H : Hp} {σ : L2.St} {ρ : Env} (h : ER S W H σ ρ) : ∀ vs : List Nat, ER S W H (L2.wipe σ vs) (Mn.wipe ρ vs)
  | [] => h
  | i :: is => by
    have q := h.wipe is
    refine ⟨by simp only [L2.wipe, Mn.wipe, List.length_set]; exact q.len, fun j d e => ?_⟩
    simp only [L2.wipe, Mn.wipe] at e ⊢
    by_cases hj : j = i
    · subst hj
      by_cases hl : j < (Mn.wipe ρ is).length
      · rw [List.getElem?_set_self hl] at e; cases e
      · rw [List.getElem?_eq_none (by simpa using hl)] at e; cases e
    · rw [List.getElem?_set_ne (Ne.symm hj)] at e ⊢
      exact q.at_ j d e

/-! ### what is wanted of an end -/
/-- an exception stands for (c, fs) -/
def XR (S : Sig) (W : Wd) (H : Hp) (c : Nat) (fs : List D) (cls : Value) (dd : Option Addr) : Prop :=
  cls = .ref (S.ca c) ∧ ∀ v, fs = [v] → (∃ s, v = .str s) ∨ ∃ d x, dd = some d ∧ H d = some (.xd [((("place" : Str)), x)]) ∧ Rep S W H v x
def QE (S : Sig) (EX : XK) (W : Wd) (H : Hp) (Q : VK) : R D → Prop
  | .ok d h' => ∀ W' H' v, Ext W W' H H' → HR S W' H' h' → Rep S W' H' d v → Q v H'
  | .exc c fs h' => S.xok = true ∧ ∀ W' H' cls dd, Ext W W' H H' → HR S W' H' h' → XR S W' H' c fs cls dd → EX cls dd H'
  | .bad => False
theorem QE.mono {S : Sig} {EX : XK} {W : Wd} {H : Hp} {Q Q' : VK} {r : R D} (h : QE S EX W H Q r) (k : ∀ v H', Q v H' → Q' v H') : QE S EX W H Q' r := by
  cases r with
  | ok d h' => exact fun W' H' v e a b => k _ _ (h W' H' v e a b)
  | exc c fs h' => exact h
  | bad => exact h
theorem QE.world {S : Sig} {EX : XK} {W W1 : Wd} {H H1 : Hp} {Q : VK} {r : R D} (h : QE S EX W H Q r) (e : Ext W W1 H H1) : QE S EX W1 H1 Q r := by
  cases r with
  | ok d h' => exact fun W' H' v e' a b => h W' H' v (e.trans e') a b
  | exc c fs h' => exact ⟨h.1, fun W' H' cls dd e' a b => h.2 W' H' cls dd (e.trans e') a b⟩
  | bad => exact h
/-- a value has come, at a later world -/
def Then (S : Sig) (W : Wd) (H : Hp) (k : Wd → D → VH → Hp → Prop) : VK := fun v H1 => ∃ W1 d h1, Ext W W1 H H1 ∧ HR S W1 H1 h1 ∧ Rep S W1 H1 d v ∧ k W1 d h1 H1
theorem QE.bind {S : Sig} {EX : XK} {W : Wd} {H : Hp} {Q : VK} {x : R D} {f : D → VH → R D} (h : QE S EX W H Q (x.bind f)) : QE S EX W H (Then S W H fun W1 d h1 H1 => QE S EX W1 H1 Q (f d h1)) x := by
  cases x with
  | ok d h' => exact fun W' H' v e a b => ⟨W', d, h', e, a, b, QE.world h e⟩
  | exc c fs h' => exact h
  | bad => exact h
theorem QE.ofO {S : Sig} {EX : XK} {W : Wd} {H : Hp} {Q : VK} {o : Option D} {h : VH} (q : QE S EX W H Q (R.ofO o h)) : ∃ d, o = some d ∧ ∀ W' H' v, Ext W W' H H' → HR S W' H' h → Rep S W' H' d v → Q v H' := by
  cases o with
  | none => exact q.elim
  | some d => exact ⟨d, rfl, q⟩

/-! ### new lists, hidden till they are settled -/
def Wd.hide (W : Wd) (a : Addr) : Wd := ⟨W.m, a :: W.hid⟩
mutual
theorem Rep.unhide {S : Sig} {W : Wd} {H : Hp} {a : Addr} : ∀ {d : D} {v : V}, Rep S (W.hide a) H d v → Rep S W H d v
  | _, _, .non => .non
  | _, _, .bl b => .bl b
  | _, _, .int i => .int i
  | _, _, .str s => .str s
  | _, _, .tup h r => .tup h (Reps.unhide r)
  | _, _, .lst h hm hh r => .lst h hm (fun z => hh (List.mem_cons_of_mem _ z)) (Reps.unhide r)
  | _, _, .ref h => .ref h
  | _, _, .gd n => .gd n
  | _, _, .scr h => .scr h
theorem Reps.unhide {S : Sig} {W : Wd} {H : Hp} {a : Addr} : ∀ {ds : List D} {vs : List V}, Reps S (W.hide a) H ds vs → Reps S W H ds vs
  | _, _, .nil => .nil
  | _, _, .cons h r => .cons (Rep.unhide h) (Reps.unhide r)
end
theorem KvR.unhide {S : Sig} {W : Wd} {H : Hp} {a : Addr} : ∀ {l t}, KvR S (W.hide a) H l t → KvR S W H l t
  | _, _, .nil => .nil
  | _, _, .cons k h r => .cons k h.unhide r.unhide
theorem FsR.unhide {S : Sig} {W : Wd} {H : Hp} {a : Addr} : ∀ {l t}, FsR S (W.hide a) H l t → FsR S W H l t
  | _, _, .nil => .nil
  | _, _, .cons h r => .cons h.unhide r.unhide
theorem ObR.unhide {S : Sig} {W : Wd} {H : Hp} {a b : Addr} {o : O} (h : ObR S (W.hide a) H b o) : ObR S W H b o := by
  cases o with
  | lst xs => obtain ⟨vs, e, r⟩ := h; exact ⟨vs, e, r.unhide⟩
  | dct kvs => obtain ⟨t, e, r⟩ := h; exact ⟨t, e, r.unhide⟩
  | ins c fs => obtain ⟨dx, t, e, r, hc⟩ := h; exact ⟨dx, t, e, r.unhide, hc⟩
theorem HR.unhide {S : Sig} {W : Wd} {H : Hp} {a : Addr} {h : VH} (r : HR S (W.hide a) H h) : HR S W H h :=
  ⟨r.len, r.nd, fun b hb z => r.dis b hb (List.mem_cons_of_mem _ z), fun b hb => r.hidA b (List.mem_cons_of_mem _ hb), fun i b o h1 h2 => (r.obj i b o h1 h2).unhide⟩
mutual
theorem Rep.hide {S : Sig} {W : Wd} {H : Hp} {a : Addr} (ha : H a = none) : ∀ {d : D} {v : V}, Rep S W H d v → Rep S (W.hide a) H d v
  | _, _, .non => .non
  | _, _, .bl b => .bl b
  | _, _, .int i => .int i
  | _, _, .str s => .str s
  | _, _, .tup h r => .tup h (Reps.hide ha r)
  | _, _, .lst h hm hh r => .lst h hm (fun z => (List.mem_cons.mp z).elim (fun e => by rw [e, ha] at h; cases h) hh) (Reps.hide ha r)
  | _, _, .ref h => .ref h
  | _, _, .gd n => .gd n
  | _, _, .scr h => .scr h
theorem Reps.hide {S : Sig} {W : Wd} {H : Hp} {a : Addr} (ha : H a = none) : ∀ {ds : List D} {vs : List V}, Reps S W H ds vs → Reps S (W.hide a) H ds vs
  | _, _, .nil => .nil
  | _, _, .cons h r => .cons (Rep.hide ha h) (Reps.hide ha r)
end
theorem KvR.hide {S : Sig} {W : Wd} {H : Hp} {a : Addr} (ha : H a = none) : ∀ {l t}, KvR S W H l t → KvR S (W.hide a) H l t
  | _, _, .nil => .nil
  | _, _, .cons k h r => .cons k (h.hide ha) (r.hide ha)
theorem FsR.hide {S : Sig} {W : Wd} {H : Hp} {a : Addr} (ha : H a = none) : ∀ {l t}, FsR S W H l t → FsR S (W.hide a) H l t
  | _, _, .nil => .nil
  | _, _, .cons h r => .cons (h.hide ha) (r.hide ha)
theorem ObR.hide {S : Sig} {W : Wd} {H : Hp} {a b : Addr} {o : O} (ha : H a = none) (h : ObR S W H b o) : ObR S (W.hide a) H b o := by
  cases o with
  | lst xs => obtain ⟨vs, e, r⟩ := h; exact ⟨vs, e, r.hide ha⟩
  | dct kvs => obtain ⟨t, e, r⟩ := h; exact ⟨t, e, r.hide ha⟩
  | ins c fs => obtain ⟨dx, t, e, r, hc⟩ := h; exact ⟨dx, t, e, r.hide ha, hc⟩
/-- a new list at p, hidden -/
theorem Ext.hidden {W : Wd} {H : Hp} {p : Addr} {o : HO} (hp : H p = none) : Ext (W.hide p) (W.hide p) H (upd H p o) :=
  ⟨rfl, ⟨[], by simp⟩, fun _ h => .inl h, (Ext.fresh (W := W) hp).keep, (Ext.fresh (W := W) hp).tups, (Ext.fresh (W := W) hp).frzs, (Ext.fresh (W := W) hp).alive⟩
theorem HR.hidden {S : Sig} {W : Wd} {H : Hp} {h : VH} {p : Addr} {o : HO} (r : HR S W H h) (hp : H p = none) : HR S (W.hide p) (upd H p o) h where
  len := r.len
  nd := r.nd
  dis := fun a ha z => (List.mem_cons.mp z).elim (fun e => r.not_mem hp (e ▸ ha)) (r.dis a ha)
  hidA := fun a ha => by
    rcases List.mem_cons.mp ha with e | ha
    · rw [e, upd_same]; simp
    · exact (Ext.fresh (W := W) hp).alive a (r.hidA a ha)
  obj := fun i a x h1 h2 => by
    have q := r.obj i a x h1 h2
    refine (q.hide hp).ext (Ext.hidden hp) (upd_ne fun z => ?_)
    rw [z] at q
    exact q.ne hp
/-! a hidden list becomes one that may change -/
mutual
theorem Rep.own {S : Sig} {W : Wd} {H : Hp} {a : Addr} : ∀ {d : D} {v : V}, Rep S (W.hide a) H d v → Rep S (W.add a) H d v
  | _, _, .non => .non
  | _, _, .bl b => .bl b
  | _, _, .int i => .int i
  | _, _, .str s => .str s
  | _, _, .tup h r => .tup h (Reps.own r)
  | _, _, .lst h hm hh r => .lst h (fun z => (List.mem_append.mp z).elim hm fun e => hh (by rw [List.mem_singleton.mp e]; exact List.mem_cons_self)) (fun z => hh (List.mem_cons_of_mem _ z)) (Reps.own r)
  | _, _, .ref h => .ref (by
      have h' : W.m[_]? = some _ := h
      show (W.m ++ [a])[_]? = _
      rw [List.getElem?_append_left (List.getElem?_eq_some_iff.mp h').1]
      exact h')
  | _, _, .gd n => .gd n
  | _, _, .scr h => .scr h
theorem Reps.own {S : Sig} {W : Wd} {H : Hp} {a : Addr} : ∀ {ds : List D} {vs : List V}, Reps S (W.hide a) H ds vs → Reps S (W.add a) H ds vs
  | _, _, .nil => .nil
  | _, _, .cons h r => .cons (Rep.own h) (Reps.own r)
end
theorem KvR.own {S : Sig} {W : Wd} {H : Hp} {a : Addr} : ∀ {l t}, KvR S (W.hide a) H l t → KvR S (W.add a) H l t
  | _, _, .nil => .nil
  | _, _, .cons k h r => .cons k h.own r.own
theorem FsR.own {S : Sig} {W : Wd} {H : Hp} {a : Addr} : ∀ {l t}, FsR S (W.hide a) H l t → FsR S (W.add a) H l t
  | _, _, .nil => .nil
  | _, _, .cons h r => .cons h.own r.own
theorem ObR.own {S : Sig} {W : Wd} {H : Hp} {a b : Addr} {o : O} (h : ObR S (W.hide a) H b o) : ObR S (W.add a) H b o := by
  cases o with
  | lst xs => obtain ⟨vs, e, r⟩ := h; exact ⟨vs, e, r.own⟩
  | dct kvs => obtain ⟨t, e, r⟩ := h; exact ⟨t, e, r.own⟩
  | ins c fs => obtain ⟨dx, t, e, r, hc⟩ := h; exact ⟨dx, t, e, r.own, hc⟩
theorem HR.own {S : Sig} {W : Wd} {H : Hp} {h : VH} {a : Addr} {xs : List D} {vs : List V} (r : HR S (W.hide a) H h) (hw : a ∉ W.hid) (ha : H a = some (.lst vs)) (p : Reps S (W.hide a) H xs vs) : HR S (W.add a) H (h ++ [.lst xs]) := by
  have nm : a ∉ W.m := fun z => r.dis a z List.mem_cons_self
  refine ⟨by simp [Wd.add, show W.m.length = h.length from r.len], ?_, fun b hb => ?_, fun b hb => r.hidA b (List.mem_cons_of_mem _ hb), fun i b y h1 h2 => ?_⟩
  · show (W.m ++ [a]).Nodup
    rw [List.nodup_append]
    refine ⟨r.nd, by simp, fun c hc b hb => ?_⟩
    rw [List.mem_singleton.mp hb]
    rintro rfl
    exact nm hc
  · rcases List.mem_append.mp hb with hb | hb
    · exact fun z => r.dis b hb (List.mem_cons_of_mem _ z)
    · rw [List.mem_singleton.mp hb]; exact hw
  · by_cases hi : i < W.m.length
    · have h1' : W.m[i]? = some b := by
        rw [show (W.add a).m = W.m ++ [a] from rfl, List.getElem?_append_left hi] at h1; exact h1
      have h2' : h[i]? = some y := by
        rw [List.getElem?_append_left (by rw [← show W.m.length = h.length from r.len]; exact hi)] at h2; exact h2
      exact (r.obj i b y h1' h2').own
    · have hl : i < (W.m ++ [a]).length := (List.getElem?_eq_some_iff.mp h1).1
      have ei : i = W.m.length := by simp at hl; omega
      subst ei
      rw [show (W.add a).m = W.m ++ [a] from rfl, List.getElem?_append_right (Nat.le_refl _)] at h1
      rw [show W.m.length = h.length from r.len, List.getElem?_append_right (Nat.le_refl _)] at h2
      simp at h1 h2
      subst h1 h2
      exact ⟨vs, ha, p.own⟩
/-- what is wanted of a call's end -/
def QN (S : Sig) (W : Wd) (H : Hp) (Q : VK) (xs : List D) (h' : VH) : Prop := ∀ W' H' a vs, H a = none → Ext W W' H H' → HR S (W'.hide a) H' h' → H' a = some (.lst vs) → Reps S (W'.hide a) H' xs vs → Q (.ref a) H'
def QX (S : Sig) (EX : XK) (W : Wd) (H : Hp) (c : Nat) (fs : List D) (h' : VH) : Prop := S.xok = true ∧ ∀ W' H' cls dd, Ext W W' H H' → HR S W' H' h' → XR S W' H' c fs cls dd → EX cls dd H'
def QR (S : Sig) (EX : XK) (W : Wd) (H : Hp) (Q : VK) : R Rv → Prop
  | .ok (.val d) h' => ∀ W' H' v, Ext W W' H H' → HR S W' H' h' → Rep S W' H' d v → Q v H'
  | .ok (.new xs) h' => QN S W H Q xs h'
  | .exc c fs h' => QX S EX W H c fs h'
  | .bad => False
def QF (S : Sig) (EX : XK) (W : Wd) (H : Hp) (Q : VK) : R (List D) → Prop
  | .ok xs h' => QN S W H Q xs h'
  | .exc c fs h' => QX S EX W H c fs h'
  | .bad => False
theorem QN.of {S : Sig} {W : Wd} {H : Hp} {Q : VK} {xs : List D} {h' : VH} (hW : ∀ a ∈ W.hid, H a ≠ none) (k : ∀ W' H' v, Ext W W' H H' → HR S W' H' h' → Rep S W' H' (.lst xs) v → Q v H') : QN S W H Q xs h' := fun W' H' a vs ha e r ea p =>
  k W' H' _ e r.unhide (.lst ea (fun z => r.dis a z List.mem_cons_self) (fun z => by
    rw [e.hid] at z
    exact hW a z ha) p.unhide)
theorem QR.of {S : Sig} {EX : XK} {W : Wd} {H : Hp} {Q : VK} {r : R Rv} (hW : ∀ a ∈ W.hid, H a ≠ none) (k : QE S EX W H Q (r.bind fun v h => .ok v.d h)) : QR S EX W H Q r := by
  cases r with
  | ok v h' =>
    cases v with
    | val d => exact k
    | new xs => exact QN.of hW k
  | exc c fs h' => exact k
  | bad => exact k
end Mn

set_option Elab.async false
set_option linter.all false
set_option autoImplicit false
set_option maxRecDepth 100000
set_option maxHeartbeats 4000000
/-! MnO: the operators on values. -/
namespace Mn
open PySem PySem.Spec PyProof.Rows L2
theorem LINE_eq : LINE = sizeLine := by rw [sizeLine_eq]
/-- what is wanted of a value, when it comes -/
def Fin (S : Sig) (W : Wd) (H : Hp) (h : VH) (d : D) (Q : VK) : Prop := ∀ W' H' v, Ext W W' H H' → HR S W' H' h → Rep S W' H' d v → Q v H'
section
variable {S : Sig} {W : Wd} {H : Hp} {h : VH} {d : D} {Q : VK} {v : V}
theorem Fin.val (k : Fin S W H h d Q) (r : HR S W H h) (p : Rep S W H d v) : Q v H := k W H v (Ext.refl W H) r p
theorem Fin.tup {ds : List D} {vs : List V} (k : Fin S W H h (.tup ds) Q) (r : HR S W H h) (p : Reps S W H ds vs) : ∀ a, H a = none → Q (.ref a) (upd H a (.tup vs)) := fun a ha =>
  k W _ _ (Ext.fresh ha) (r.fresh ha) (.tup (SqT.of upd_same) (p.ext (Ext.fresh ha)))
theorem Fin.lst {ds : List D} {vs : List V} (k : Fin S W H h (.lst ds) Q) (r : HR S W H h) (p : Reps S W H ds vs) : ∀ a, H a = none → Q (.ref a) (upd H a (.lst vs)) := fun a ha =>
  k W _ _ (Ext.fresh ha) (r.fresh ha) (.lst upd_same (r.not_mem ha) (r.not_hid ha) (p.ext (Ext.fresh ha)))
theorem asL_sq {xs : List D} (r : HR S W H h) (p : Rep S W H d v) (e : asL h d = some xs) : ∃ a vs, v = .ref a ∧ H a = some (.lst vs) ∧ Reps S W H xs vs := by
  cases p with
  | lst h1 h2 h3 h4 => cases e; exact ⟨_, _, rfl, h1, h4⟩
  | @ref n a h1 =>
    cases q : h[n]? with
    | none => simp [asL, q] at e
    | some o =>
      cases o with
      | lst ys =>
        simp only [asL, q, Option.some.injEq] at e
        subst e
        obtain ⟨vs, g1, g2⟩ := r.obj n a _ h1 q
        exact ⟨a, vs, rfl, g1, g2⟩
      | dct _ => simp [asL, q] at e
      | ins _ _ => simp [asL, q] at e
  | _ => simp [asL] at e
end

/-! ### plain data -/
mutual
def toP : D → PyData
  | .non => .none
  | .bl b => .bool b
  | .int i => .int i
  | .str s => .str ⟨s.toArray⟩
  | .tup xs => .tuple (toPs xs)
  | .lst xs => .list (toPs xs)
  | .ref _ => .none
  | .gd _ => .none
  | .scr _ => .none
def toPs : List D → List PyData
  | [] => []
  | x :: xs => toP x :: toPs xs
end
theorem str_beq (a b : List Nat) : ((⟨a.toArray⟩ : Str) == ⟨b.toArray⟩) = (a == b) := by
  rw [Bool.eq_iff_iff]
  simp
mutual
theorem eqv_toP : ∀ a b : D, plain a = true → plain b = true → PyData.eqv (toP a) (toP b) = eqv a b
  | .non, b, _, hb => by cases b <;> simp_all [toP, eqv, PyData.eqv, plain]
  | .bl _, b, _, hb => by cases b <;> simp_all [toP, eqv, PyData.eqv, plain]
  | .int _, b, _, hb => by cases b <;> simp_all [toP, eqv, PyData.eqv, plain]
  | .str s, b, _, hb => by
    cases b with
    | str t => simp only [toP, eqv, PyData.eqv]; exact str_beq s t
    | _ => simp_all [toP, eqv, PyData.eqv, plain]
  | .tup xs, b, ha, hb => by
    cases b with
    | tup ys => simp only [toP, eqv, PyData.eqv]; exact eqvs_toP xs ys (by simpa [plain] using ha) (by simpa [plain] using hb)
    | _ => simp_all [toP, eqv, PyData.eqv, plain]
  | .lst xs, b, ha, hb => by
    cases b with
    | lst ys => simp only [toP, eqv, PyData.eqv]; exact eqvs_toP xs ys (by simpa [plain] using ha) (by simpa [plain] using hb)
    | _ => simp_all [toP, eqv, PyData.eqv, plain]
  | .ref _, b, ha, _ => by simp [plain] at ha
  | .gd _, b, ha, _ => by simp [plain] at ha
  | .scr _, b, ha, _ => by simp [plain] at ha
theorem eqvs_toP : ∀ a b : List D, plains a = true → plains b = true → PyData.eqvAll (toPs a) (toPs b) = eqvs a b
  | [], [], _, _ => rfl
  | [], _ :: _, _, _ => rfl
  | _ :: _, [], _, _ => rfl
  | x :: xs, y :: ys, ha, hb => by
    simp only [plains, Bool.and_eq_true] at ha hb
    simp only [toPs, eqvs, PyData.eqvAll]
    rw [eqv_toP x y ha.1 hb.1, eqvs_toP xs ys ha.2 hb.2]
end
mutual
theorem depth_toP : ∀ a : D, (toP a).depth ≤ deepD a
  | .non => Nat.le_refl _
  | .bl _ => Nat.le_refl _
  | .int _ => Nat.le_refl _
  | .str _ => Nat.le_refl _
  | .tup xs => by simp only [toP, deepD, PyData.depth]; exact Nat.succ_le_succ (depths_toP xs)
  | .lst xs => by simp only [toP, deepD, PyData.depth]; exact Nat.succ_le_succ (depths_toP xs)
  | .ref _ => Nat.le_refl _
  | .gd _ => Nat.le_refl _
  | .scr _ => Nat.le_refl _
theorem depths_toP : ∀ a : List D, PyData.depthAll (toPs a) ≤ deepDs a
  | [] => Nat.le_refl _
  | x :: xs => by
    simp only [toPs, deepDs, PyData.depthAll]
    have h1 := depth_toP x
    have h2 := depths_toP xs
    omega
end
theorem okS_strOk {s : List Nat} (h : okS s = true) : PySem.PyData.strOk ⟨s.toArray⟩ = true := by
  unfold okS at h
  rw [Bool.and_eq_true] at h
  unfold PySem.PyData.strOk
  simpa using h.1
theorem okS_len {s : List Nat} (h : okS s = true) : s.length ≤ LINE := by
  unfold okS at h
  rw [Bool.and_eq_true, decide_eq_true_eq] at h
  exact h.2
theorem okS_mem {s : List Nat} (h : okS s = true) : ∀ c ∈ s, c < 1114112 := by
  unfold okS at h
  rw [Bool.and_eq_true, List.all_eq_true] at h
  exact fun c hc => of_decide_eq_true (h.1 c hc)
theorem okS_of {s : List Nat} (h : ∀ c ∈ s, c < 1114112) (hl : s.length ≤ LINE) : okS s = true := by
  unfold okS
  rw [Bool.and_eq_true, List.all_eq_true]
  exact ⟨fun c hc => decide_eq_true (h c hc), decide_eq_true hl⟩
mutual
theorem lay_toP {S : Sig} {W : Wd} {H : Hp} : ∀ {d : D} {v : V}, plain d = true → Rep S W H d v → (toP d).canLay0 = true
  | .non, _, _, _ => rfl
  | .bl _, _, _, _ => rfl
  | .int _, _, _, _ => rfl
  | .str s, _, _, .str ho => by simp only [toP, PyData.canLay0]; exact okS_strOk ho
  | .tup xs, _, hp, .tup _ r => by simp only [toP, PyData.canLay0]; exact lays_toP (by simpa [plain] using hp) r
  | .lst xs, _, hp, .lst _ _ _ r => by simp only [toP, PyData.canLay0]; exact lays_toP (by simpa [plain] using hp) r
  | .ref _, _, hp, _ => by simp [plain] at hp
  | .gd _, _, hp, _ => by simp [plain] at hp
  | .scr _, _, hp, _ => by simp [plain] at hp
theorem lays_toP {S : Sig} {W : Wd} {H : Hp} : ∀ {ds : List D} {vs : List V}, plains ds = true → Reps S W H ds vs → PyData.canLayAll0 (toPs ds) = true
  | [], _, _, _ => rfl
  | x :: xs, _, hp, .cons h r => by
    simp only [plains, Bool.and_eq_true] at hp
    simp only [toPs, PyData.canLayAll0, Bool.and_eq_true]
    exact ⟨lay_toP hp.1 h, lays_toP hp.2 r⟩
end
mutual
theorem dp_toP {S : Sig} {W : Wd} {H : Hp} : ∀ {d : D} {v : V}, plain d = true → Rep S W H d v → Dp S.K H v (toP d)
  | _, _, _, .non => .non
  | _, _, _, .bl b => .bl b
  | _, _, _, .int i => .int i
  | _, _, _, .str _ => .str _
  | _, _, hp, .tup h r => .tup h (dps_toP (by simpa [plain] using hp) r)
  | _, _, hp, .lst h _ _ r => .lst (SqL.of h) (dps_toP (by simpa [plain] using hp) r)
  | _, _, hp, .ref _ => by simp [plain] at hp
  | _, _, hp, .gd _ => by simp [plain] at hp
  | _, _, hp, .scr _ => by simp [plain] at hp
theorem dps_toP {S : Sig} {W : Wd} {H : Hp} : ∀ {ds : List D} {vs : List V}, plains ds = true → Reps S W H ds vs → DpAll S.K H vs (toPs ds)
  | _, _, _, .nil => .nil
  | _, _, hp, .cons h r => by
    simp only [plains, Bool.and_eq_true] at hp
    exact .cons (dp_toP hp.1 h) (dps_toP hp.2 r)
end
/-- a list that may change, as plain data -/
theorem dp_res {S : Sig} {W : Wd} {H : Hp} {h : VH} {d : D} {v : V} (r : HR S W H h) (p : Rep S W H d v) (hp : plain (res h d) = true) : Dp S.K H v (toP (res h d)) ∧ (toP (res h d)).canLay0 = true := by
  by_cases hd : ∃ n, d = .ref n
  · obtain ⟨n, rfl⟩ := hd
    cases q : h[n]? with
    | none => simp [res, q, plain] at hp
    | some o =>
      cases o with
      | lst xs =>
        have e : res h (.ref n) = .lst xs := by simp [res, q]
        rw [e] at hp ⊢
        obtain ⟨a, rfl, hm, vs, g1, g2⟩ := r.ref q p
        refine ⟨.lst (SqL.of g1) (dps_toP (by simpa [plain] using hp) g2), ?_⟩
        simp only [toP, PyData.canLay0]
        exact lays_toP (by simpa [plain] using hp) g2
      | dct _ => simp [res, q, plain] at hp
      | ins _ _ => simp [res, q, plain] at hp
  · have e : res h d = d := by
      cases d with
      | ref n => exact absurd ⟨n, rfl⟩ hd
      | _ => rfl
    rw [e] at hp ⊢
    exact ⟨dp_toP hp p, lay_toP hp p⟩

/-! ### the operators -/
/-- two values in, by f -/
def r2 (S : Sig) (EX : XK) (f : VH → D → D → Option D) : R2 := fun x y H Q => ∃ W h d e, HR S W H h ∧ Rep S W H d x ∧ Rep S W H e y ∧ QE S EX W H Q (R.ofO (f h d e) h)
theorem opR_of {S : Sig} {EX : XK} {X : Cx} {g : Value → Value → Sem Value} {f : VH → D → D → Option D}
    (k : ∀ (W : Wd) (H : Hp) (h : VH) (d e d' : D) (x y : V) (Q : VK), HR S W H h → Rep S W H d x → Rep S W H e y → f h d e = some d' → Fin S W H h d' Q → ∃ r : R2, OpR X g r ∧ r x y H Q) : OpR X g (r2 S EX f) := by
  intro pins s σ H x y v u Q I rx ry q
  obtain ⟨W, h, d, e, r, p1, p2, q⟩ := q
  obtain ⟨d', e1, q⟩ := QE.ofO q
  obtain ⟨r', ok, q'⟩ := k W H h d e d' x y Q r p1 p2 e1 q
  exact ok pins s σ H x y v u Q I rx ry q'
def opOf : Op → Operator
  | .add => .Add | .sub => .Sub | .mul => .Mult | .div => .FloorDiv | .mod => .Mod | .pow => .Pow
theorem Sz_app (s t : List Nat) : Sz s ++ Sz t = Sz (s ++ t) := by
  show Str.mk (s.toArray ++ t.toArray) = Str.mk _
  congr 1
  simp
theorem Sz_len (s : List Nat) : (Sz s).length = s.length := by simp [Sz, Str.length]
theorem okS_app {s t : List Nat} (h1 : okS s = true) (h2 : okS t = true) (hl : s.length + t.length ≤ LINE) : okS (s ++ t) = true :=
  okS_of (fun c hc => (List.mem_append.mp hc).elim (okS_mem h1 c) (okS_mem h2 c)) (by rw [List.length_append]; exact hl)
theorem op_ok {S : Sig} {EX : XK} {X : Cx} (hK : X.K = S.K) (o : Op) : OpR X (binaryOp (opOf o)) (r2 S EX fun h d e => opD h o d e) := by
  refine opR_of fun W H h d e d' x y Q r p1 p2 eq k => ?_
  have lists : ∀ {xs ys : List D}, asL h d = some xs → asL h e = some ys → xs.length + ys.length ≤ LINE → d' = .lst (xs ++ ys) → ∃ r : R2, OpR X (binaryOp .Add) r ∧ r x y H Q := by
    intro xs ys e1 e2 hz ed
    obtain ⟨a, vs, rfl, g1, g2⟩ := asL_sq r p1 e1
    obtain ⟨b, us, rfl, g3, g4⟩ := asL_sq r p2 e2
    subst ed
    exact ⟨_, op_cat, a, b, vs, us, rfl, rfl, g1, g3, by rw [← g2.length, ← g4.length, ← LINE_eq]; exact hz, k.lst r (g2.append g4)⟩
  have byL : o = .add → (opD h .add d e = match asL h d, asL h e with
    | some xs, some ys => if xs.length + ys.length ≤ LINE then some (.lst (xs ++ ys)) else none
    | _, _ => none) → ∃ r : R2, OpR X (binaryOp (opOf o)) r ∧ r x y H Q := by
    intro eo z
    subst eo
    have eq : opD h .add d e = some d' := eq
    rw [z] at eq
    cases q1 : asL h d with
    | none => simp [q1] at eq
    | some xs =>
      cases q2 : asL h e with
      | none => simp [q1, q2] at eq
      | some ys =>
        simp only [q1, q2] at eq
        split at eq
        · rename_i hz
          exact lists q1 q2 hz (Option.some.inj eq).symm
        · cases eq
  cases o with
  | add =>
    cases d with
    | int i =>
      cases e with
      | int j =>
        cases p1; cases p2
        cases (show d' = .int (i + j) from (Option.some.inj (show some (D.int (i + j)) = some d' from eq)).symm)
        exact ⟨_, op_add, i, j, rfl, rfl, k.val r (.int _)⟩
      | _ => exact byL rfl rfl
    | str s =>
      cases e with
      | str t =>
        cases p1 with
        | str h1 =>
        cases p2 with
        | str h2 =>
        have eq : (if s.length + t.length ≤ LINE then some (D.str (s ++ t)) else none) = some d' := eq
        split at eq
        · rename_i hz
          cases eq
          refine ⟨_, op_add_str, Sz s, Sz t, rfl, rfl, by rw [Sz_len, Sz_len, ← LINE_eq]; exact hz, ?_⟩
          rw [Sz_app]
          exact k.val r (.str (okS_app h1 h2 hz))
        · cases eq
      | _ => exact byL rfl rfl
    | tup xs =>
      cases e with
      | tup ys =>
        cases p1 with
        | tup g1 g2 =>
        cases p2 with
        | tup g3 g4 =>
        have eq : (if xs.length + ys.length ≤ LINE then some (D.tup (xs ++ ys)) else none) = some d' := eq
        split at eq
        · rename_i hz
          cases eq
          refine ⟨_, op_catA, _, _, _, _, rfl, rfl, by rw [hK]; exact g1, by rw [hK]; exact g3, by rw [← g2.length, ← g4.length, ← LINE_eq]; exact hz, fun e => ?_, fun _ e => ?_, fun _ _ => k.tup r (g2.append g4)⟩
          · subst e
            cases g2
            exact k.val r (.tup g3 g4)
          · subst e
            cases g4
            rw [List.append_nil] at k
            exact k.val r (.tup g1 g2)
        · cases eq
      | _ => exact byL rfl rfl
    | _ => exact byL rfl rfl
  | sub =>
    cases d <;> try (simp [opD] at eq; done)
    cases e <;> try (simp [opD] at eq; done)
    cases p1; cases p2
    simp only [opD, Option.some.injEq] at eq
    subst eq
    exact ⟨_, op_sub, _, _, rfl, rfl, k.val r (.int _)⟩
  | mul =>
    cases d <;> try (simp [opD] at eq; done)
    cases e <;> try (simp [opD] at eq; done)
    cases p1; cases p2
    simp only [opD] at eq
    split at eq
    · rename_i hz
      cases eq
      exact ⟨_, op_mul, _, _, rfl, rfl, .inr hz, k.val r (.int _)⟩
    · cases eq
  | div =>
    cases d <;> try (simp [opD] at eq; done)
    cases e <;> try (simp [opD] at eq; done)
    cases p1; cases p2
    simp only [opD] at eq
    split at eq
    · rename_i hz
      cases eq
      exact ⟨_, op_fdiv, _, _, rfl, rfl, hz, k.val r (.int _)⟩
    · cases eq
  | mod =>
    cases d <;> try (simp [opD] at eq; done)
    cases e <;> try (simp [opD] at eq; done)
    cases p1; cases p2
    simp only [opD] at eq
    split at eq
    · rename_i hz
      cases eq
      exact ⟨_, op_mod, _, _, rfl, rfl, hz, k.val r (.int _)⟩
    · cases eq
  | pow =>
    cases d <;> try (simp [opD] at eq; done)
    cases e <;> try (simp [opD] at eq; done)
    cases p1; cases p2
    simp only [opD] at eq
    split at eq
    · rename_i hz
      cases eq
      exact ⟨_, op_pow, _, _, rfl, rfl, ⟨hz.1, by omega, by omega⟩, k.val r (.int _)⟩
    · cases eq

/-! ### comparisons -/
def cpOf : Cp → CmpOp
  | .eq => .Eq | .ne => .NotEq | .lt => .Lt | .le => .LtE | .gt => .Gt | .ge => .GtE | .isin => .In | .notin => .NotIn | .is_ => .Is | .isnot => .IsNot
/-- what the text must say of its written dicts, for look-ups -/
def GdOk (S : Sig) (X : Cx) : Prop := ∃ es k, KDict X.K X.w (S.gda 0) es k ∧ ∀ s, ∃ r, PySem.W.nsIn X.K (S.gda 0) (Sz s) = some r ∧
    ((r = none ∧ kfind (S.C.gds 0) (.str s) = none) ∨ ∃ u t, r = some u ∧ kfind (S.C.gds 0) (.str s) = some (.str t) ∧ okS t = true ∧ RelV (.str (Sz t)) u)
theorem eqH_dp {S : Sig} {X : Cx} {W : Wd} {H : Hp} {h : VH} {d e : D} {x y : V} {v u : Value} {pins : List (Addr × Obj)} {σ : L2.St} {s : Shared} {b : Bool} (hK : X.K = S.K) (hu : X.A.units + 64 < cLine) (I : Inv X pins σ H s) (r : HR S W H h)
    (p1 : Rep S W H d x) (p2 : Rep S W H e y) (rx : RelV x v) (ry : RelV y u) (eq : eqH h d e = some b) {Q : Value → Shared → Prop} {E : Value → Shared → Prop} :
    (Q (.bool b) s → wpAny (model X.prog X.w) X.A (compareOp .Eq v u) Q E s) ∧ (Q (.bool (!b)) s → wpAny (model X.prog X.w) X.A (compareOp .NotEq v u) Q E s) := by
  unfold eqH at eq
  simp only at eq
  split at eq
  · rename_i hc
    simp only [Bool.and_eq_true, Bool.or_eq_true, decide_eq_true_eq] at hc
    obtain ⟨⟨h1, h2⟩, h3⟩ := hc
    cases eq
    obtain ⟨q1, l1⟩ := dp_res r p1 h1
    obtain ⟨q2, l2⟩ := dp_res r p2 h2
    rw [← hK] at q1 q2
    obtain ⟨as, r1⟩ := Dp.reads I _ x v q1 rx
    obtain ⟨bs, r2⟩ := Dp.reads I _ y u q2 ry
    have m1 := depth_toP (res h d)
    have m2 := depth_toP (res h e)
    have hm : X.A.units + min (toP (res h d)).depth (toP (res h e)).depth < cLine := by omega
    rw [← eqv_toP _ _ h1 h2]
    exact ⟨fun q => SeqAt.compareEq_reads r1 r2 l1 l2 hm q, fun q => SeqAt.compareNe_reads r1 r2 l1 l2 hm q⟩
  · cases eq
theorem flat_rep {S : Sig} {W : Wd} {H : Hp} {d : D} {v : V} (p : Rep S W H d v) (f : flat d = true) : flatV v = true := by
  cases p <;> simp_all [flat, flatV]
theorem flats_rep {S : Sig} {W : Wd} {H : Hp} : ∀ {ds : List D} {vs : List V}, Reps S W H ds vs → ds.all flat = true → vs.all flatV = true
  | _, _, .nil, _ => rfl
  | _, _, .cons h r, f => by
    rw [List.all_cons, Bool.and_eq_true] at f ⊢
    exact ⟨flat_rep h f.1, flats_rep r f.2⟩
theorem Sz_beq (a b : List Nat) : (Sz a == Sz b) = (a == b) := str_beq a b
theorem eqv_flat {S : Sig} {W : Wd} {H : Hp} {d e : D} {v u : V} (p : Rep S W H d v) (q : Rep S W H e u) (f : flat d = true) (g : flat e = true) : eqV v u = eqv d e := by
  cases p <;> cases q <;> simp_all [flat, eqV, eqv]
  exact str_beq _ _
theorem any_flat {S : Sig} {W : Wd} {H : Hp} {d : D} {v : V} (p : Rep S W H d v) (f : flat d = true) : ∀ {ds : List D} {vs : List V}, Reps S W H ds vs → ds.all flat = true → inV v vs = ds.any fun y => eqv y d
  | _, _, .nil, _ => rfl
  | _, _, .cons h r, g => by
    rw [List.all_cons, Bool.and_eq_true] at g
    unfold inV
    rw [List.any_cons, List.any_cons, eqv_flat h p g.1 f]
    congr 1
    exact any_flat p f r g.2
theorem sq_of_lt {S : Sig} {W : Wd} {H : Hp} {h : VH} {ys : List D} {k : Nat} {y : V} (r : HR S W H h) (p : Rep S W H (.ref k) y) (e : h[k]? = some (.lst ys)) : ∃ a vs, y = .ref a ∧ H a = some (.lst vs) ∧ Reps S W H ys vs := by
  obtain ⟨a, rfl, _, vs, g1, g2⟩ := r.ref e p
  exact ⟨a, vs, rfl, g1, g2⟩

/-! ### dicts with number and text keys -/
theorem eqv_key {a b : D} {ka kb : L2.Key} (h1 : keyOf a = some ka) (h2 : keyOf b = some kb) : (eqv a b = true ↔ ka = kb) := by
  cases a <;> simp [keyOf] at h1 <;> cases b <;> simp [keyOf] at h2 <;> subst h1 <;> subst h2 <;> simp [eqv]
theorem kfind_val {S : Sig} {W : Wd} {H : Hp} {k : D} {q : L2.Key} (hk : keyOf k = some q) : ∀ {l : List (D × D)} {t : List (L2.Key × V)}, KvR S W H l t →
    (kfind l k = none ∧ valV t q = none) ∨ ∃ d v, kfind l k = some d ∧ valV t q = some v ∧ Rep S W H d v
  | _, _, .nil => .inl ⟨rfl, rfl⟩
  | _, _, .cons (k := k') (d := d) (q := q') (v := v) (t := t) (r := r) e p r' => by
    have ih := kfind_val hk r'
    have z := eqv_key e hk
    by_cases c : q' = q
    · refine .inr ⟨d, v, ?_, ?_, p⟩
      · simp only [kfind, z.mpr c, if_true]
      · subst c; simp [valV]
    · have nz : eqv k' k = false := by
        cases w : eqv k' k with
        | false => rfl
        | true => exact absurd (z.mp w) c
      have e1 : kfind ((k', d) :: r) k = kfind r k := by simp only [kfind, nz, Bool.false_eq_true, if_false]
      have e2 : valV ((q', v) :: t) q = valV t q := by simp [valV, c]
      rw [e1, e2]
      exact ih

/-- the result of a comparison: a truth value -/
theorem bl_of {o : Option Bool} {d : D} (h : o.map D.bl = some d) : ∃ b, o = some b ∧ d = .bl b := by
  cases o with
  | none => cases h
  | some b => exact ⟨b, rfl, (Option.some.inj h).symm⟩
theorem keyOf_rep {S : Sig} {W : Wd} {H : Hp} {d : D} {x : V} (hk : isKey d = true) (p : Rep S W H d x) : ∃ q, keyOf d = some q ∧ x = kV q := by
  cases p <;> simp_all [isKey, keyOf, kV]
/-- a key is looked up in a dict -/
theorem dget_rep {S : Sig} {W : Wd} {H : Hp} {h : VH} {k : Nat} {a : Addr} {kvs : List (D × D)} {d : D} {x : V} (hd : isKey d = true) (r : HR S W H h) (hk : W.m[k]? = some a) (q : h[k]? = some (.dct kvs)) (p : Rep S W H d x) :
    ∃ o, DGet H a x o ∧ o.isSome = (kfind kvs d).isSome ∧ ∀ e, kfind kvs d = some e → ∃ v, o = some v ∧ Rep S W H e v := by
  obtain ⟨t, e1, kr⟩ := r.obj k a _ hk q
  obtain ⟨z, hz, rfl⟩ := keyOf_rep hd p
  refine ⟨_, DGet.k (k := z) e1, ?_⟩
  rcases kfind_val hz kr with ⟨f1, f2⟩ | ⟨d', v, f1, f2, f3⟩
  · rw [f1, f2]; exact ⟨rfl, fun e he => by cases he⟩
  · rw [f1, f2]; exact ⟨rfl, fun e he => by cases he; exact ⟨v, rfl, f3⟩⟩
theorem in_ok {S : Sig} {X : Cx} (hK : X.K = S.K) (hu : X.A.units + 64 < cLine) (hg : GdOk S X) {W : Wd} {H : Hp} {h : VH} {d e : D} {x y : V} {b : Bool} (r : HR S W H h) (p1 : Rep S W H d x) (p2 : Rep S W H e y)
    (eq : inD S.C.gds h d e = some b) {pins : List (Addr × Obj)} {σ : L2.St} {s : Shared} {v u : Value} {Q : VK} (I : Inv X pins σ H s) (rx : RelV x v) (ry : RelV y u) :
    (Q (.bl b) H → wpAny (model X.prog X.w) X.A (compareOp .In v u) (EP X pins σ Q) X.xe s) ∧ (Q (.bl (!b)) H → wpAny (model X.prog X.w) X.A (compareOp .NotIn v u) (EP X pins σ Q) X.xe s) := by
  have seqs : ∀ {ys : List D} {us : List V} {a : Addr}, y = .ref a → (SqL X.K H a us ∨ SqT X.K H a us) → Reps S W H ys us → (if flat d && ys.all flat then some (ys.any fun z => eqv z d) else none) = some b →
      (Q (.bl b) H → wpAny (model X.prog X.w) X.A (compareOp .In v u) (EP X pins σ Q) X.xe s) ∧ (Q (.bl (!b)) H → wpAny (model X.prog X.w) X.A (compareOp .NotIn v u) (EP X pins σ Q) X.xe s) := by
    intro ys us a ey hs g z
    split at z
    · rename_i hc
      simp only [Bool.and_eq_true] at hc
      cases z
      have f := any_flat p1 hc.1 g hc.2
      subst ey
      refine ⟨fun q => op_in_seq pins s σ H x _ v u Q I rx ry ⟨a, us, rfl, hs, flat_rep p1 hc.1, flats_rep g hc.2, ?_⟩, fun q => op_notIn_seq pins s σ H x _ v u Q I rx ry ⟨a, us, rfl, hs, flat_rep p1 hc.1, flats_rep g hc.2, ?_⟩⟩
      · show Q (.bl (inV x us)) H
        rw [f]; exact q
      · show Q (.bl (!inV x us)) H
        rw [f]; exact q
    · cases z
  cases p2 with
  | @str t ht =>
    cases p1 with
    | @str s1 h1 =>
      match s1, h1, eq with
      | [c], h1, eq =>
        have eq : some (decide (c ∈ t)) = some b := eq
        cases eq
        refine ⟨fun q => op_in_sign pins s σ H _ _ v u Q I rx ry ⟨c, Sz t, rfl, rfl, ?_⟩, fun q => op_notIn_sign pins s σ H _ _ v u Q I rx ry ⟨c, Sz t, rfl, rfl, ?_⟩⟩
        · rw [show decide (c ∈ (Sz t).cps.toList) = decide (c ∈ t) from decide_eq_decide.mpr (by simp [Sz])]; exact q
        · rw [show decide (c ∈ (Sz t).cps.toList) = decide (c ∈ t) from decide_eq_decide.mpr (by simp [Sz])]; exact q
      | [], _, eq => cases eq
      | _ :: _ :: _, _, eq => cases eq
    | _ => cases eq
  | gd n =>
    match n, eq with
    | 0, eq =>
      cases p1 with
      | @str s1 h1 =>
        have eq : some (kfind (S.C.gds 0) (.str s1)).isSome = some b := eq
        cases eq
        obtain ⟨es, k, D, z⟩ := hg
        obtain ⟨o, e1, z⟩ := z s1
        have er : o.isSome = (kfind (S.C.gds 0) (.str s1)).isSome := by
          rcases z with ⟨z1, z2⟩ | ⟨u0, t, z1, z2, _⟩
          · rw [z1, z2]; rfl
          · rw [z1, z2]; rfl
        rw [← er]
        exact ⟨fun q => op_in_kd D pins s σ H _ _ v u Q I rx ry ⟨Sz s1, o, rfl, rfl, e1, q⟩, fun q => op_notIn_kd D pins s σ H _ _ v u Q I rx ry ⟨Sz s1, o, rfl, rfl, e1, q⟩⟩
      | _ => cases eq
    | n + 1, eq => cases eq
  | @ref k a hk =>
    cases q : h[k]? with
    | none => simp [inD, q] at eq
    | some o =>
      cases o with
      | lst ys =>
        obtain ⟨vs, g1, g2⟩ := r.obj k a _ hk q
        exact seqs rfl (.inl (SqL.of g1)) g2 (by simpa [inD, q] using eq)
      | dct kvs =>
        have eq : (if isKey d then some (kfind kvs d).isSome else none) = some b := by simpa only [inD, q] using eq
        split at eq
        · rename_i hd
          cases eq
          obtain ⟨o, g, eo, _⟩ := dget_rep hd r hk q p1
          rw [← eo]
          have hu1 : X.A.units + 1 < cLine := by omega
          cases ry
          exact ⟨fun z => d_in (Q := EP X pins σ Q) hu1 I g rx fun s' I' => ⟨.bl o.isSome, H, I', rfl, z⟩, fun z => d_notIn (Q := EP X pins σ Q) hu1 I g rx fun s' I' => ⟨.bl (!o.isSome), H, I', rfl, z⟩⟩
        · cases eq
      | ins _ _ => simp [inD, q] at eq
  | tup g1 g2 => exact seqs rfl (.inr (by rw [hK]; exact g1)) g2 eq
  | lst g1 _ _ g2 => exact seqs rfl (.inl (SqL.of g1)) g2 eq
  | _ => cases eq
theorem cp_ok {S : Sig} {EX : XK} {X : Cx} (hK : X.K = S.K) (hu : X.A.units + 64 < cLine) (hg : GdOk S X) (o : Cp) : OpR X (compareOp (cpOf o)) (r2 S EX fun h d e => (cpD S.C.gds h o d e).map .bl) := by
  cases o with
  | eq =>
    intro pins s σ H x y v u Q I rx ry q
    obtain ⟨W, h, d, e, r, p1, p2, q⟩ := q
    obtain ⟨d', e1, q⟩ := QE.ofO q
    obtain ⟨b, e2, rfl⟩ := bl_of e1
    exact (eqH_dp hK hu I r p1 p2 rx ry e2).1 ⟨.bl b, H, I, rfl, q W H _ (Ext.refl W H) r (.bl b)⟩
  | ne =>
    intro pins s σ H x y v u Q I rx ry q
    obtain ⟨W, h, d, e, r, p1, p2, q⟩ := q
    obtain ⟨d', e1, q⟩ := QE.ofO q
    obtain ⟨b, e2, rfl⟩ := bl_of e1
    have e2 : (eqH h d e).map (!·) = some b := e2
    cases e3 : eqH h d e with
    | none => rw [e3] at e2; cases e2
    | some c =>
      rw [e3] at e2
      cases e2
      exact (eqH_dp hK hu I r p1 p2 rx ry e3).2 ⟨.bl _, H, I, rfl, q W H _ (Ext.refl W H) r (.bl _)⟩
  | isin =>
    intro pins s σ H x y v u Q I rx ry q
    obtain ⟨W, h, d, e, r, p1, p2, q⟩ := q
    obtain ⟨d', e1, q⟩ := QE.ofO q
    obtain ⟨b, e2, rfl⟩ := bl_of e1
    exact (in_ok hK hu hg r p1 p2 e2 I rx ry).1 (q W H _ (Ext.refl W H) r (.bl b))
  | notin =>
    intro pins s σ H x y v u Q I rx ry q
    obtain ⟨W, h, d, e, r, p1, p2, q⟩ := q
    obtain ⟨d', e1, q⟩ := QE.ofO q
    obtain ⟨b, e2, rfl⟩ := bl_of e1
    have e2 : (inD S.C.gds h d e).map (!·) = some b := e2
    cases e3 : inD S.C.gds h d e with
    | none => rw [e3] at e2; cases e2
    | some c =>
      rw [e3] at e2
      cases e2
      exact (in_ok hK hu hg r p1 p2 e3 I rx ry).2 (q W H _ (Ext.refl W H) r (.bl _))
  | is_ =>
    refine opR_of fun W H h d e d' x y Q r p1 p2 eq k => ?_
    obtain ⟨b, e2, rfl⟩ := bl_of eq
    cases p2 <;> try (simp [cpD] at e2; done)
    refine ⟨_, op_isN, rfl, ?_⟩
    have e3 : decide (x = V.non) = b := by
      cases p1 <;> simp_all [cpD]
    rw [e3]
    exact k.val r (.bl b)
  | isnot =>
    refine opR_of fun W H h d e d' x y Q r p1 p2 eq k => ?_
    obtain ⟨b, e2, rfl⟩ := bl_of eq
    cases p2 <;> try (simp [cpD] at e2; done)
    refine ⟨_, op_notN, rfl, ?_⟩
    have e3 : (!decide (x = V.non)) = b := by
      cases p1 <;> simp_all [cpD]
    rw [e3]
    exact k.val r (.bl b)
  | lt =>
    refine opR_of fun W H h d e d' x y Q r p1 p2 eq k => ?_
    cases d <;> try (simp [cpD] at eq; done)
    cases e <;> try (simp [cpD] at eq; done)
    cases p1; cases p2
    simp only [cpD, Option.map_some, Option.some.injEq] at eq
    subst eq
    exact ⟨_, op_lt, _, _, rfl, rfl, k.val r (.bl _)⟩
  | le =>
    refine opR_of fun W H h d e d' x y Q r p1 p2 eq k => ?_
    cases d <;> try (simp [cpD] at eq; done)
    cases e <;> try (simp [cpD] at eq; done)
    cases p1; cases p2
    simp only [cpD, Option.map_some, Option.some.injEq] at eq
    subst eq
    exact ⟨_, op_le, _, _, rfl, rfl, k.val r (.bl _)⟩
  | gt =>
    refine opR_of fun W H h d e d' x y Q r p1 p2 eq k => ?_
    cases d <;> try (simp [cpD] at eq; done)
    cases e <;> try (simp [cpD] at eq; done)
    cases p1; cases p2
    simp only [cpD, Option.map_some, Option.some.injEq] at eq
    subst eq
    exact ⟨_, op_gt, _, _, rfl, rfl, k.val r (.bl _)⟩
  | ge =>
    refine opR_of fun W H h d e d' x y Q r p1 p2 eq k => ?_
    cases d <;> try (simp [cpD] at eq; done)
    cases e <;> try (simp [cpD] at eq; done)
    cases p1; cases p2
    simp only [cpD, Option.map_some, Option.some.injEq] at eq
    subst eq
    exact ⟨_, op_ge, _, _, rfl, rfl, k.val r (.bl _)⟩
end Mn

set_option Elab.async false
set_option linter.all false
set_option autoImplicit false
set_option maxRecDepth 100000
set_option maxHeartbeats 4000000
/-! MnB: subscripts, slices, built-in calls and methods on values. -/
namespace Mn
open PySem PySem.Spec PyProof.Rows L2
theorem ixN_eq (n : Nat) (i : Int) : Mn.ixN n i = L2.ixN n i := rfl
theorem sIx_eq (n d : Nat) (o : Option Int) : Mn.sIx n d o = HT.sIx n d o := by cases o <;> rfl
theorem atI_rep {S : Sig} {W : Wd} {H : Hp} {ds : List D} {vs : List V} {i : Int} {d : D} (r : Reps S W H ds vs) (e : ((Mn.ixN ds.length i).bind fun j => ds[j]?) = some d) : ∃ v, atI vs i = some v ∧ Rep S W H d v := by
  rw [ixN_eq, r.length] at e
  unfold atI
  cases q : L2.ixN vs.length i with
  | none => rw [q] at e; cases e
  | some j =>
    rw [q] at e
    have e : ds[j]? = some d := e
    obtain ⟨v, h1, h2⟩ := r.get e
    exact ⟨v, h1, h2⟩
/-- the case analysis of a subscript -/
theorem ix_ok {S : Sig} {EX : XK} {X : Cx} (hK : X.K = S.K) (hu : X.A.units + 64 < cLine) (hg : GdOk S X) : IxR X (r2 S EX fun h d e => ixD S.C.gds h d e) := by
  intro value slice pins s σ H x y v u Q I rx ry q hs
  obtain ⟨W, h, d, e, r, p1, p2, q⟩ := q
  obtain ⟨d', e1, q⟩ := QE.ofO q
  have k : Fin S W H h d' Q := q
  have seqs : ∀ {ys : List D} {us : List V} {a : Addr}, x = .ref a → (SqL X.K H a us ∨ SqT X.K H a us) → Reps S W H ys us → ixL ys e = some d' →
      wpAny (model X.prog X.w) X.A (subscriptTail value slice v u) (EP X pins σ Q) X.xe s := by
    intro ys us a ex hq g z
    cases p2 with
    | int i =>
      obtain ⟨w, h1, h2⟩ := atI_rep g (show ((Mn.ixN ys.length i).bind fun j => ys[j]?) = some d' from z)
      subst ex
      rcases hq with hq | hq
      · exact ix_list value slice pins s σ H _ _ v u Q I rx ry ⟨a, us, i, w, rfl, rfl, hq, h1, k.val r h2⟩ hs
      · exact ix_tup value slice pins s σ H _ _ v u Q I rx ry ⟨a, us, i, w, rfl, rfl, hq, h1, k.val r h2⟩ hs
    | _ => cases z
  cases p1 with
  | @str t ht =>
    cases p2 with
    | int i =>
      have e1 : ((Mn.ixN t.length i).bind fun j => (t[j]?).map fun c => D.str [c]) = some d' := e1
      cases q1 : Mn.ixN t.length i with
      | none => rw [q1] at e1; cases e1
      | some j =>
        rw [q1] at e1
        have e1 : (t[j]?).map (fun c => D.str [c]) = some d' := e1
        cases q2 : t[j]? with
        | none => rw [q2] at e1; cases e1
        | some c =>
          rw [q2] at e1
          cases e1
          refine ix_str value slice pins s σ H _ _ v u Q I rx ry ⟨Sz t, i, c, rfl, rfl, by rw [Sz_len, ← LINE_eq]; exact okS_len ht, ?_, ?_⟩ hs
          · unfold atI
            rw [show (Sz t).cps.toList = t by simp [Sz], ← ixN_eq, q1]
            exact q2
          · exact k.val r (.str (okS_of (fun z hz => okS_mem ht z (by rw [List.mem_singleton.mp hz]; exact List.mem_of_getElem? q2)) (by show 1 ≤ LINE; decide)))
    | _ => cases e1
  | gd n =>
    match n, e1 with
    | 0, e1 =>
      cases p2 with
      | @str s1 h1 =>
        have e1 : kfind (S.C.gds 0) (.str s1) = some d' := e1
        obtain ⟨es, k0, D0, z⟩ := hg
        obtain ⟨o, e2, z⟩ := z s1
        rcases z with ⟨_, z2⟩ | ⟨u0, t, z1, z2, z3, z4⟩
        · rw [z2] at e1; cases e1
        · rw [z2] at e1
          cases e1
          subst z1
          exact ix_kdict value slice pins s σ H _ _ v u Q I rx ry ⟨_, Sz s1, _, rfl, rfl, ⟨es, k0, u0, D0.at_, D0.lit, e2, z4⟩, k.val r (.str z3)⟩ hs
      | _ => cases e1
    | n + 1, e1 => cases e1
  | @ref n a hk =>
    cases q0 : h[n]? with
    | none => simp [ixD, q0] at e1
    | some o =>
      cases o with
      | lst ys =>
        obtain ⟨vs, g1, g2⟩ := r.obj n a _ hk q0
        exact seqs rfl (.inl (SqL.of g1)) g2 (by simpa only [ixD, q0] using e1)
      | dct kvs =>
        have e1 : (if isKey e then kfind kvs e else none) = some d' := by simpa only [ixD, q0] using e1
        split at e1
        · rename_i hd
          obtain ⟨o, g, _, eo⟩ := dget_rep hd r hk q0 p2
          obtain ⟨w, rfl, hw⟩ := eo d' e1
          cases rx
          have hu1 : X.A.units + 1 < cLine := by omega
          exact tail_any (dict_typeIs I g) PySem.F.slot_dict_getitem.lookup (d_getItem (Q := EP X pins σ Q) hu1 I g ry fun w' s' I' rw' => ⟨w, H, I', rw', k.val r hw⟩) hs
        · cases e1
      | ins _ _ => simp [ixD, q0] at e1
  | tup g1 g2 => exact seqs rfl (.inr (by rw [hK]; exact g1)) g2 e1
  | lst g1 _ _ g2 => exact seqs rfl (.inl (SqL.of g1)) g2 e1
  | @scr xs a g1 =>
    refine seqs (ys := xs.map D.int) rfl (.inl (by rw [hK]; exact g1.sq)) (Reps.of_ints xs) ?_
    cases p2 with
    | int i =>
      have e1 : ((Mn.ixN xs.length i).bind fun j => (xs[j]?).map D.int) = some d' := e1
      show ((Mn.ixN (xs.map D.int).length i).bind fun j => (xs.map D.int)[j]?) = some d'
      rw [List.length_map, ← e1]
      simp only [List.getElem?_map]
    | _ => cases e1
  | _ => cases e1
theorem cut_rep {S : Sig} {W : Wd} {H : Hp} {ds : List D} {vs : List V} (r : Reps S W H ds vs) (lo hi : Option Int) : Reps S W H (Mn.cut ds lo hi) (cutV vs lo hi) := by
  unfold Mn.cut cutV
  rw [sIx_eq, sIx_eq, r.length]
  exact (r.drop _).take _
/-- a slice, by values -/
def rSl (S : Sig) (EX : XK) : V → Option Int → Option Int → Hp → VK → Prop := fun x lo hi H Q => ∃ W h d, HR S W H h ∧ Rep S W H d x ∧ QE S EX W H Q (R.ofO (slD h d lo hi) h)
theorem sl_ok {S : Sig} {EX : XK} {X : Cx} (hK : X.K = S.K) : SlR X (rSl S EX) := by
  intro pins s σ H x v vl vu lo hi sl Q I rx hs pl pu q
  obtain ⟨W, h, d, r, p1, q⟩ := q
  obtain ⟨d', e1, q⟩ := QE.ofO q
  have k : Fin S W H h d' Q := q
  have lists : (asL h d).map (fun xs => D.lst (Mn.cut xs lo hi)) = some d' → ∃ T id, typeLookup (.type T) "__getitem__" = pure (some (.builtin id)) ∧ s.TypeIs v T ∧ wpAny (model X.prog X.w) X.A (getItem v (.ref sl)) (EP X pins σ Q) X.xe s := by
    intro z
    cases q0 : asL h d with
    | none => rw [q0] at z; cases z
    | some xs =>
      rw [q0] at z
      cases z
      obtain ⟨a, vs, rfl, g1, g2⟩ := asL_sq r p1 q0
      exact sl_list pins s σ H _ v vl vu lo hi sl Q I rx hs pl pu ⟨a, vs, rfl, SqL.of g1, k.lst r (cut_rep g2 lo hi)⟩
  cases p1 with
  | @tup ds vs a g1 g2 =>
    have e1 : some (D.tup (Mn.cut ds lo hi)) = some d' := e1
    cases e1
    refine sl_tupA pins s σ H _ v vl vu lo hi sl Q I rx hs pl pu ⟨a, vs, rfl, by rw [hK]; exact g1, fun z => ?_, fun _ => k.tup r (cut_rep g2 lo hi)⟩
    have e2 : Mn.cut ds lo hi = ds := by
      unfold Mn.cut
      rw [sIx_eq, sIx_eq, g2.length, z.1, z.2, List.drop_zero, Nat.sub_zero, ← g2.length, List.take_length]
    rw [e2] at k
    exact k.val r (.tup g1 g2)
  | _ => exact lists e1
end Mn

set_option Elab.async false
set_option linter.all false
set_option autoImplicit false
set_option maxRecDepth 100000
set_option maxHeartbeats 4000000
/-! MnC: built-in calls and methods on values. -/
namespace Mn
open PySem PySem.Spec PyProof.Rows L2
def rBi (S : Sig) (EX : XK) (b : Bi) : List V → Hp → VK → Prop := fun vs H Q => ∃ W h ds, HR S W H h ∧ Reps S W H ds vs ∧ QE S EX W H Q (R.ofO (biD h b ds) h)
theorem callR_of {S : Sig} {EX : XK} {X : Cx} {f : Value} {b : Bi}
    (k : ∀ (W : Wd) (H : Hp) (h : VH) (ds : List D) (d' : D) (vs : List V) (Q : VK), HR S W H h → Reps S W H ds vs → biD h b ds = some d' → Fin S W H h d' Q → ∃ r : List V → Hp → VK → Prop, CallR X f r ∧ r vs H Q) : CallR X f (rBi S EX b) := by
  intro pins s σ H vs us Q I rs q
  obtain ⟨W, h, ds, r, p, q⟩ := q
  obtain ⟨d', e1, q⟩ := QE.ofO q
  obtain ⟨r', ok, q'⟩ := k W H h ds d' vs Q r p e1 q
  exact ok pins s σ H vs us Q I rs q'
theorem one_rep {S : Sig} {W : Wd} {H : Hp} {d : D} {vs : List V} (p : Reps S W H [d] vs) : ∃ v, vs = [v] ∧ Rep S W H d v := by
  cases p with
  | cons h r => cases r; exact ⟨_, rfl, h⟩
theorem two_rep {S : Sig} {W : Wd} {H : Hp} {d e : D} {vs : List V} (p : Reps S W H [d, e] vs) : ∃ v u, vs = [v, u] ∧ Rep S W H d v ∧ Rep S W H e u := by
  cases p with
  | cons h r => cases r with
    | cons h2 r => cases r; exact ⟨_, _, rfl, h, h2⟩
theorem bi_len {S : Sig} {EX : XK} {X : Cx} (hK : X.K = S.K) : CallR X (.builtin "len") (rBi S EX .len) := by
  intro pins s σ H vs us Q I rs q
  obtain ⟨W, h, ds, r, p, q⟩ := q
  obtain ⟨d', e1, q⟩ := QE.ofO q
  have k : Fin S W H h d' Q := q
  rcases ds with _ | ⟨d, _ | ⟨d2, ds⟩⟩
  · simp [biD] at e1
  rotate_left
  · simp [biD] at e1
  · obtain ⟨v, rfl, p1⟩ := one_rep p
    cases p1 with
    | @str t ht =>
      simp only [biD, Option.some.injEq] at e1
      subst e1
      exact call_len_str pins s σ H _ us Q I rs ⟨Sz t, rfl, by rw [Sz_len, ← LINE_eq]; exact okS_len ht, by rw [Sz_len]; exact k.val r (.int _)⟩
    | @ref n a hk =>
      cases q0 : h[n]? with
      | none => simp [biD, q0] at e1
      | some o =>
        cases o with
        | lst ys =>
          simp only [biD, q0, Option.some.injEq] at e1
          subst e1
          obtain ⟨us', g1, g2⟩ := r.obj n a _ hk q0
          exact call_len_seq pins s σ H _ us Q I rs ⟨a, us', rfl, .inl (SqL.of g1), by rw [← g2.length]; exact k.val r (.int _)⟩
        | dct kvs =>
          simp only [biD, q0, Option.some.injEq] at e1
          subst e1
          obtain ⟨t, g1, g2⟩ := r.obj n a _ hk q0
          have hl : kvs.length = t.length := by
            clear q0 k q g1 hk
            induction g2 with
            | nil => rfl
            | cons _ _ _ ih => rw [List.length_cons, List.length_cons, ih]
          obtain ⟨u, rfl, ru⟩ := rs.one
          cases ru
          exact d_len (Q := EP X pins σ Q) I (.inl g1) fun tk s' I' => ⟨.int t.length, H, I', ⟨_, rfl⟩, by rw [← hl]; exact k.val r (.int _)⟩
        | ins _ _ => simp [biD, q0] at e1
    | tup g1 g2 =>
      simp only [biD, Option.some.injEq] at e1
      subst e1
      exact call_len_seq pins s σ H _ us Q I rs ⟨_, _, rfl, .inr (by rw [hK]; exact g1), by rw [← g2.length]; exact k.val r (.int _)⟩
    | lst g1 _ _ g2 =>
      simp only [biD, Option.some.injEq] at e1
      subst e1
      exact call_len_seq pins s σ H _ us Q I rs ⟨_, _, rfl, .inl (SqL.of g1), by rw [← g2.length]; exact k.val r (.int _)⟩
    | @scr xs a g1 =>
      simp only [biD, Option.some.injEq] at e1
      subst e1
      have e : (xs.map V.int).length = xs.length := List.length_map _
      exact call_len_seq pins s σ H _ us Q I rs ⟨_, _, rfl, .inl (by rw [hK]; exact g1.sq), by rw [e]; exact k.val r (.int _)⟩
    | _ => simp [biD] at e1
theorem fig_text (c : Nat) (h : isFig c = true) : PySem.intText? ⟨#[c]⟩ = some ((c : Int) - 48) := by
  simp only [isFig, Bool.and_eq_true, decide_eq_true_eq] at h
  have e : c = 48 ∨ c = 49 ∨ c = 50 ∨ c = 51 ∨ c = 52 ∨ c = 53 ∨ c = 54 ∨ c = 55 ∨ c = 56 ∨ c = 57 := by omega
  rcases e with rfl | rfl | rfl | rfl | rfl | rfl | rfl | rfl | rfl | rfl <;> decide +kernel
theorem bi_int {S : Sig} {EX : XK} {X : Cx} : CallR X (.type "int") (rBi S EX .int) := by
  refine callR_of fun W H h ds d' vs Q r p e1 k => ?_
  rcases ds with _ | ⟨d, _ | ⟨d2, ds⟩⟩
  · simp [biD] at e1
  rotate_left
  · simp [biD] at e1
  · obtain ⟨v, rfl, p1⟩ := one_rep p
    cases p1 with
    | int i =>
      simp only [biD, Option.some.injEq] at e1
      subst e1
      exact ⟨_, call_int1, .inl ⟨i, rfl, k.val r (.int _)⟩⟩
    | bl b =>
      simp only [biD, Option.some.injEq] at e1
      subst e1
      exact ⟨_, call_int1, .inr ⟨b, rfl, k.val r (.int _)⟩⟩
    | @str t ht =>
      rcases t with _ | ⟨c, _ | ⟨c2, t⟩⟩
      · simp [biD] at e1
      · simp only [biD] at e1
        split at e1
        · rename_i hc
          cases e1
          exact ⟨_, call_int_str, ⟨#[c]⟩, _, rfl, fig_text c hc, by show 1 ≤ 640; decide, k.val r (.int _)⟩
        · cases e1
      · simp [biD] at e1
    | _ => simp [biD] at e1
theorem strI_str (i : Int) (h : 0 ≤ i ∧ i < 10) : (toString i : Str) = Sz (strI i) ∧ okS (strI i) = true := by
  have e : i = 0 ∨ i = 1 ∨ i = 2 ∨ i = 3 ∨ i = 4 ∨ i = 5 ∨ i = 6 ∨ i = 7 ∨ i = 8 ∨ i = 9 := by omega
  rcases e with rfl | rfl | rfl | rfl | rfl | rfl | rfl | rfl | rfl | rfl <;> decide +kernel
theorem bi_str {S : Sig} {EX : XK} {X : Cx} : CallR X (.type "str") (rBi S EX .str) := by
  refine callR_of fun W H h ds d' vs Q r p e1 k => ?_
  rcases ds with _ | ⟨d, _ | ⟨d2, ds⟩⟩
  · simp [biD] at e1
  rotate_left
  · simp [biD] at e1
  · obtain ⟨v, rfl, p1⟩ := one_rep p
    cases p1 with
    | int i =>
      simp only [biD] at e1
      split at e1
      · rename_i hi
        cases e1
        obtain ⟨q1, q2⟩ := strI_str i hi
        refine ⟨_, call_str_int, i, rfl, ?_, ?_⟩
        · have : i.natAbs < 10 := by omega
          exact Nat.lt_of_le_of_lt (Nat.log2_le_self _) (by omega)
        · rw [q1]; exact k.val r (.str q2)
      · cases e1
    | _ => simp [biD] at e1
theorem bi_tuple {S : Sig} {EX : XK} {X : Cx} (hK : X.K = S.K) : CallR X (.type "tuple") (rBi S EX .tuple) := by
  refine callR_of fun W H h ds d' vs Q r p e1 k => ?_
  have lists : ∀ {d : D} {v : V}, vs = [v] → Rep S W H d v → (asL h d).map D.tup = some d' → ∃ r : List V → Hp → VK → Prop, CallR X (.type "tuple") r ∧ r vs H Q := by
    intro d v ev p z
    cases q0 : asL h d with
    | none => rw [q0] at z; cases z
    | some xs =>
      rw [q0] at z
      cases z
      obtain ⟨a, us, rfl, g1, g2⟩ := asL_sq r p q0
      subst ev
      exact ⟨_, call_tuple_of, a, us, rfl, .inl ⟨SqL.of g1, k.tup r g2⟩⟩
  rcases ds with _ | ⟨d, _ | ⟨d2, ds⟩⟩
  · simp [biD] at e1
  rotate_left
  · simp [biD] at e1
  · obtain ⟨v, rfl, p1⟩ := one_rep p
    cases p1 with
    | tup g1 g2 =>
      simp only [biD, Option.some.injEq] at e1
      subst e1
      exact ⟨_, call_tuple_of, _, _, rfl, .inr ⟨by rw [hK]; exact g1, k.val r (.tup g1 g2)⟩⟩
    | non => exact lists rfl .non (by simpa [biD] using e1)
    | bl b => exact lists rfl (.bl b) (by simpa [biD] using e1)
    | int b => exact lists rfl (.int b) (by simpa [biD] using e1)
    | str b => exact lists rfl (.str b) (by simpa [biD] using e1)
    | gd b => exact lists rfl (.gd b) (by simpa [biD] using e1)
    | scr b => exact lists rfl (.scr b) (by simpa [biD] using e1)
    | lst g1 g2 g3 g4 => exact lists rfl (.lst g1 g2 g3 g4) (by simpa [biD] using e1)
    | ref b => exact lists rfl (.ref b) (by simpa [biD] using e1)
theorem ints_sq {S : Sig} {W : Wd} {H : Hp} {h : VH} {d : D} {v : V} {ns : List Int} (r : HR S W H h) (p : Rep S W H d v) (e : (asL h d).bind Mn.intsD = some ns) : ∃ a, v = .ref a ∧ H a = some (.lst (ns.map V.int)) := by
  cases q : asL h d with
  | none => rw [q] at e; cases e
  | some xs =>
    rw [q] at e
    obtain ⟨a, vs, rfl, g1, g2⟩ := asL_sq r p q
    exact ⟨a, rfl, by rw [g1, g2.ints e]⟩
theorem bi_sum {S : Sig} {EX : XK} {X : Cx} (hc : X.calm = true) : CallR X (.builtin "sum") (rBi S EX .sum) := by
  refine callR_of fun W H h ds d' vs Q r p e1 k => ?_
  rcases ds with _ | ⟨d, _ | ⟨d2, ds⟩⟩
  · simp [biD] at e1
  rotate_left
  · simp [biD] at e1
  · obtain ⟨v, rfl, p1⟩ := one_rep p
    simp only [biD] at e1
    cases q : (asL h d).bind Mn.intsD with
    | none => rw [q] at e1; cases e1
    | some ns =>
      rw [q] at e1
      cases e1
      obtain ⟨a, rfl, g⟩ := ints_sq r p1 q
      exact ⟨_, cr_sum hc, a, ns, rfl, SqL.of g, k.val r (.int _)⟩
theorem foldl_max_mem : ∀ (l : List Int) (x : Int), l.foldl max x ∈ x :: l ∧ ∀ y ∈ x :: l, y ≤ l.foldl max x
  | [], x => ⟨by simp, fun y hy => by simp at hy; subst hy; exact Int.le_refl _⟩
  | z :: r, x => by
    obtain ⟨h1, h2⟩ := foldl_max_mem r (max x z)
    have h3 := h2 (max x z) (by simp)
    refine ⟨?_, fun y hy => ?_⟩
    · rcases List.mem_cons.mp h1 with e | e
      · rw [List.foldl_cons, e]
        have : max x z = x ∨ max x z = z := by omega
        rcases this with q | q <;> rw [q] <;> simp
      · simp [e]
    · rw [List.foldl_cons]
      rcases List.mem_cons.mp hy with e | hy
      · subst e; omega
      · rcases List.mem_cons.mp hy with e | hy
        · subst e; omega
        · exact h2 y (by simp [hy])
theorem foldl_min_mem : ∀ (l : List Int) (x : Int), l.foldl min x ∈ x :: l ∧ ∀ y ∈ x :: l, l.foldl min x ≤ y
  | [], x => ⟨by simp, fun y hy => by simp at hy; subst hy; exact Int.le_refl _⟩
  | z :: r, x => by
    obtain ⟨h1, h2⟩ := foldl_min_mem r (min x z)
    have h3 := h2 (min x z) (by simp)
    refine ⟨?_, fun y hy => ?_⟩
    · rcases List.mem_cons.mp h1 with e | e
      · rw [List.foldl_cons, e]
        have : min x z = x ∨ min x z = z := by omega
        rcases this with q | q <;> rw [q] <;> simp
      · simp [e]
    · rw [List.foldl_cons]
      rcases List.mem_cons.mp hy with e | hy
      · subst e; omega
      · rcases List.mem_cons.mp hy with e | hy
        · subst e; omega
        · exact h2 y (by simp [hy])
theorem bi_max1 {S : Sig} {EX : XK} {X : Cx} (hc : X.calm = true) : CallR X (.builtin "max") (rBi S EX .max1) := by
  refine callR_of fun W H h ds d' vs Q r p e1 k => ?_
  rcases ds with _ | ⟨d, _ | ⟨d2, ds⟩⟩
  · simp [biD] at e1
  rotate_left
  · simp [biD] at e1
  · obtain ⟨v, rfl, p1⟩ := one_rep p
    simp only [biD] at e1
    cases q : (asL h d).bind Mn.intsD with
    | none => rw [q] at e1; cases e1
    | some ns =>
      rw [q] at e1
      obtain ⟨a, rfl, g⟩ := ints_sq r p1 q
      cases ns with
      | nil => cases e1
      | cons x l =>
        cases e1
        obtain ⟨h1, h2⟩ := foldl_max_mem l x
        refine ⟨_, cr_max hc, a, x :: l, rfl, SqL.of g, by simp, fun m hm hle => ?_⟩
        have e : m = l.foldl max x := Int.le_antisymm (h2 m hm) (hle _ h1)
        rw [e]
        exact k.val r (.int _)
theorem bi_min1 {S : Sig} {EX : XK} {X : Cx} (hc : X.calm = true) : CallR X (.builtin "min") (rBi S EX .min1) := by
  refine callR_of fun W H h ds d' vs Q r p e1 k => ?_
  rcases ds with _ | ⟨d, _ | ⟨d2, ds⟩⟩
  · simp [biD] at e1
  rotate_left
  · simp [biD] at e1
  · obtain ⟨v, rfl, p1⟩ := one_rep p
    simp only [biD] at e1
    cases q : (asL h d).bind Mn.intsD with
    | none => rw [q] at e1; cases e1
    | some ns =>
      rw [q] at e1
      obtain ⟨a, rfl, g⟩ := ints_sq r p1 q
      cases ns with
      | nil => cases e1
      | cons x l =>
        cases e1
        obtain ⟨h1, h2⟩ := foldl_min_mem l x
        refine ⟨_, cr_min hc, a, x :: l, rfl, SqL.of g, by simp, fun m hm hle => ?_⟩
        have e : m = l.foldl min x := Int.le_antisymm (hle _ h1) (h2 m hm)
        rw [e]
        exact k.val r (.int _)
theorem bi_max2 {S : Sig} {EX : XK} {X : Cx} (hc : X.calm = true) : CallR X (.builtin "max") (rBi S EX .max2) := by
  refine callR_of fun W H h ds d' vs Q r p e1 k => ?_
  rcases ds with _ | ⟨d, _ | ⟨e, _ | ⟨d3, ds⟩⟩⟩
  · simp [biD] at e1
  · simp [biD] at e1
  rotate_left
  · simp [biD] at e1
  · obtain ⟨v, u, rfl, p1, p2⟩ := two_rep p
    cases d <;> try (simp [biD] at e1; done)
    cases e <;> try (simp [biD] at e1; done)
    rename_i i j
    cases p1; cases p2
    simp only [biD, Option.some.injEq] at e1
    subst e1
    refine ⟨_, call_max2 hc, i, j, rfl, ?_⟩
    rw [show (if j > i then j else i) = max i j by omega]
    exact k.val r (.int _)
theorem bi_min2 {S : Sig} {EX : XK} {X : Cx} (hc : X.calm = true) : CallR X (.builtin "min") (rBi S EX .min2) := by
  refine callR_of fun W H h ds d' vs Q r p e1 k => ?_
  rcases ds with _ | ⟨d, _ | ⟨e, _ | ⟨d3, ds⟩⟩⟩
  · simp [biD] at e1
  · simp [biD] at e1
  rotate_left
  · simp [biD] at e1
  · obtain ⟨v, u, rfl, p1, p2⟩ := two_rep p
    cases d <;> try (simp [biD] at e1; done)
    cases e <;> try (simp [biD] at e1; done)
    rename_i i j
    cases p1; cases p2
    simp only [biD, Option.some.injEq] at e1
    subst e1
    refine ⟨_, call_min2 hc, i, j, rfl, ?_⟩
    rw [show (if j < i then j else i) = min i j by omega]
    exact k.val r (.int _)
end Mn

set_option Elab.async false
set_option linter.all false
set_option autoImplicit false
set_option maxRecDepth 100000
set_option maxHeartbeats 4000000
/-! MnM: methods of built-in types on values. -/
namespace Mn
open PySem PySem.Spec PyProof.Rows L2
def rBm (S : Sig) (EX : XK) (m : Bm) : V → List V → Hp → VK → Prop := fun x vs H Q => ∃ W h d ds, HR S W H h ∧ Rep S W H d x ∧ Reps S W H ds vs ∧ QE S EX W H Q (bmD h m d ds)
/-- the receiver is a list that may change -/
theorem bm_list {S : Sig} {W : Wd} {H : Hp} {h : VH} {d : D} {x : V} {m : Bm} (r : HR S W H h) (p : Rep S W H d x) (hd : ∃ n xs, d = .ref n ∧ h[n]? = some (.lst xs)) : ∃ n xs a vs, d = .ref n ∧ h[n]? = some (.lst xs) ∧ x = .ref a ∧ W.m[n]? = some a ∧ H a = some (.lst vs) ∧ Reps S W H xs vs := by
  obtain ⟨n, xs, rfl, q⟩ := hd
  obtain ⟨a, rfl, hm, vs, g1, g2⟩ := r.ref q p
  exact ⟨n, xs, a, vs, rfl, q, rfl, hm, g1, g2⟩
/-- the list changes -/
theorem put_list {S : Sig} {EX : XK} {W : Wd} {H : Hp} {h : VH} {n : Nat} {xs ys : List D} {a : Addr} {us : List V} {Q : VK} {d : D} {v : V} (r : HR S W H h) (hm : W.m[n]? = some a) (q : h[n]? = some (.lst xs)) (g : Reps S W H ys us) (p : Rep S W H d v)
    (k : QE S EX W H Q (.ok d (h.set n (.lst ys)))) : Q v (upd H a (.lst us)) := by
  obtain ⟨e, r'⟩ := r.write (x := .lst ys) (o := .lst us) hm q fun e => ⟨us, upd_same, g.ext e⟩
  exact k W _ _ e r' (p.ext e)
theorem bm_append {S : Sig} {EX : XK} {X : Cx} : MtR X "list.append" (rBm S EX .append) := by
  intro pins s σ H x vs v us Q I rx rs q
  obtain ⟨W, h, d, ds, r, p, ps, q⟩ := q
  rcases ds with _ | ⟨e, _ | ⟨e2, ds⟩⟩
  · exact False.elim (by simpa [bmD, QE] using q)
  · obtain ⟨u, rfl, p1⟩ := one_rep ps
    cases d <;> try exact False.elim (by simpa [bmD, QE] using q)
    rename_i n
    cases q0 : h[n]? with
    | none => exact False.elim (by simpa [bmD, QE, q0] using q)
    | some o =>
      cases o with
      | lst xs =>
        have q : QE S EX W H Q (if xs.length < LINE then R.ok D.non (h.set n (.lst (xs ++ [e]))) else R.bad) := by simpa only [bmD, q0] using q
        split at q
        · rename_i hz
          obtain ⟨a, rfl, hm, ws, g1, g2⟩ := r.ref q0 p
          exact mt_append pins s σ H _ _ v us Q I rx rs ⟨a, ws, u, rfl, rfl, g1, by rw [← g2.length, ← LINE_eq]; exact hz, put_list r hm q0 (g2.append (.cons p1 .nil)) .non q⟩
        · exact q.elim
      | dct _ => exact False.elim (by simpa [bmD, QE, q0] using q)
      | ins _ _ => exact False.elim (by simpa [bmD, QE, q0] using q)
  · exact False.elim (by simpa [bmD, QE] using q)
theorem bm_extend {S : Sig} {EX : XK} {X : Cx} : MtR X "list.extend" (rBm S EX .extend) := by
  intro pins s σ H x vs v us Q I rx rs q
  obtain ⟨W, h, d, ds, r, p, ps, q⟩ := q
  rcases ds with _ | ⟨e, _ | ⟨e2, ds⟩⟩
  · exact False.elim (by simpa [bmD, QE] using q)
  · obtain ⟨u, rfl, p1⟩ := one_rep ps
    cases d <;> try exact False.elim (by simpa [bmD, QE] using q)
    rename_i n
    cases q0 : h[n]? with
    | none => exact False.elim (by simpa [bmD, QE, q0] using q)
    | some o =>
      cases o with
      | lst xs =>
        cases p1 <;> try exact False.elim (by simpa [bmD, QE, q0] using q)
        rename_i ys zs b h1 h2 h3 h4
        have q : QE S EX W H Q (if xs.length + ys.length ≤ LINE then R.ok D.non (h.set n (.lst (xs ++ ys))) else R.bad) := by simpa only [bmD, q0] using q
        split at q
        · rename_i hz
          obtain ⟨a, rfl, hm, ws, g1, g2⟩ := r.ref q0 p
          exact mt_extend pins s σ H _ _ v us Q I rx rs ⟨a, b, ws, zs, rfl, rfl, g1, h1, by rw [← g2.length, ← h4.length, ← LINE_eq]; exact hz, put_list r hm q0 (g2.append h4) .non q⟩
        · exact q.elim
      | dct _ => exact False.elim (by simpa [bmD, QE, q0] using q)
      | ins _ _ => exact False.elim (by simpa [bmD, QE, q0] using q)
  · exact False.elim (by simpa [bmD, QE] using q)
theorem Reps.dropLast {S : Sig} {W : Wd} {H : Hp} {ds : List D} {vs : List V} (r : Reps S W H ds vs) : Reps S W H ds.dropLast vs.dropLast := by
  rw [List.dropLast_eq_take, List.dropLast_eq_take, r.length]
  exact r.take _
theorem bm_pop {S : Sig} {EX : XK} {X : Cx} : MtR X "list.pop" (rBm S EX .pop) := by
  intro pins s σ H x vs v us Q I rx rs q
  obtain ⟨W, h, d, ds, r, p, ps, q⟩ := q
  rcases ds with _ | ⟨e, ds⟩
  · cases ps
    cases d <;> try exact False.elim (by simpa [bmD, QE] using q)
    rename_i n
    cases q0 : h[n]? with
    | none => exact False.elim (by simpa [bmD, QE, q0] using q)
    | some o =>
      cases o with
      | lst xs =>
        cases q1 : xs.getLast? with
        | none => exact False.elim (by simpa [bmD, QE, q0, q1] using q)
        | some y =>
          have q : QE S EX W H Q (R.ok y (h.set n (.lst xs.dropLast))) := by simpa only [bmD, q0, q1] using q
          obtain ⟨a, rfl, hm, ws, g1, g2⟩ := r.ref q0 p
          have q2 : xs[xs.length - 1]? = some y := by rw [← List.getLast?_eq_getElem?]; exact q1
          obtain ⟨w, e1, e2⟩ := g2.get q2
          exact mt_pop pins s σ H _ _ v us Q I rx rs ⟨a, ws, w, rfl, rfl, g1, by rw [← g2.length]; exact e1, put_list r hm q0 g2.dropLast e2 q⟩
      | dct _ => exact False.elim (by simpa [bmD, QE, q0] using q)
      | ins _ _ => exact False.elim (by simpa [bmD, QE, q0] using q)
  · exact False.elim (by simpa [bmD, QE] using q)
theorem bm_popat {S : Sig} {EX : XK} {X : Cx} : MtR X "list.pop" (rBm S EX .popat) := by
  intro pins s σ H x vs v us Q I rx rs q
  obtain ⟨W, h, d, ds, r, p, ps, q⟩ := q
  rcases ds with _ | ⟨e, _ | ⟨e2, ds⟩⟩
  · exact False.elim (by simpa [bmD, QE] using q)
  · obtain ⟨u, rfl, p1⟩ := one_rep ps
    cases d <;> try exact False.elim (by simpa [bmD, QE] using q)
    rename_i n
    cases q0 : h[n]? with
    | none => exact False.elim (by simpa [bmD, QE, q0] using q)
    | some o =>
      cases o with
      | lst xs =>
        cases p1 <;> try exact False.elim (by simpa [bmD, QE, q0] using q)
        rename_i i
        by_cases hi : i = 0
        · subst hi
          rcases xs with _ | ⟨y, l⟩
          · exact False.elim (by simpa [bmD, QE, q0] using q)
          · have q : QE S EX W H Q (R.ok y (h.set n (.lst l))) := by simpa only [bmD, q0] using q
            obtain ⟨a, rfl, hm, ws, g1, g2⟩ := r.ref q0 p
            cases g2 with
            | cons e1 g3 =>
              rename_i w ws
              exact mt_popAt pins s σ H _ _ v us Q I rx rs ⟨a, w :: ws, 0, 0, w, rfl, rfl, g1, by decide, by decide, by
                have hl : (0 : Int) < ((w :: ws).length : Nat) := by simp
                rw [seqIndex_of (Int.le_refl 0) hl]; rfl, rfl, put_list r hm q0 g3 e1 q⟩
        · exact False.elim (by
            revert q
            simp only [bmD, q0]
            split
            · rename_i z; exact absurd (by injection z) hi
            · exact fun q => q)
      | dct _ => exact False.elim (by simpa [bmD, QE, q0] using q)
      | ins _ _ => exact False.elim (by simpa [bmD, QE, q0] using q)
  · exact False.elim (by simpa [bmD, QE] using q)
end Mn

set_option Elab.async false
set_option linter.all false
set_option autoImplicit false
set_option maxRecDepth 100000
set_option maxHeartbeats 4000000
/-! MnK: is an expression of the text what the small syntax says. -/
namespace Mn
open PySem PySem.Spec PyProof.Rows L2
def nameOk (x : Str) : Bool := !(x == ("__debug__" : Str)) && !(x == ("__classdict__" : Str)) && !(x == ("__name__" : Str))
def visB (sc : Scope) (x : Str) : Bool := match sc.names.lookup x with
  | some .local => true | some .cell => true | some .free => true | _ => false
def globB (sc : Scope) (x : Str) : Bool := match sc.names.lookup x with
  | some .globalImplicit => true | _ => false
def notCall0 : Expr → Bool
  | .Call _ [] _ _ => false
  | _ => true
def notSlice : Expr → Bool
  | .Slice _ _ _ _ => false
  | _ => true
def chkL (f : Expr → E → Bool) : List Expr → Es → Bool
  | [], .nil => true
  | x :: xs, .cons e es => f x e && chkL f xs es
  | _, _ => false
def chkO (f : Expr → E → Bool) : Option Expr → Eo → Bool
  | none, .none => true
  | some x, .some e => f x e
  | _, _ => false
def chkOn (f : Expr → E → Bool) : List Expr → Eo → Bool
  | [], .none => true
  | [x], .some e => f x e
  | _, _ => false
def biName : Bi → Str
  | .len => "len" | .int => "int" | .str => "str" | .sum => "sum" | .max1 => "max" | .max2 => "max" | .min1 => "min" | .min2 => "min" | .tuple => "tuple" | .sorted => "sorted" | .sset => "sorted" | .dict => "dict" | .all => "all" | .any => "any"
def biOk : Bi → Bool
  | .len => true | .int => true | .str => true | .sum => true | .max1 => true | .max2 => true | .min1 => true | .min2 => true | .tuple => true | _ => false
def bmName : Bm → Str
  | .append => "append" | .extend => "extend" | .pop => "pop" | .popat => "pop" | .dpop => "pop" | .get => "get" | .count => "count" | .index => "index" | .join => "join" | .split => "split" | .replace => "replace" | .update => "update" | .reverse => "reverse"
def bmOk : Bm → Bool
  | .append => true | .extend => true | .pop => true | .popat => true | _ => false
def tyName : Ty → Str
  | .int => "int" | .bool => "bool" | .tuple => "tuple" | .list => "list" | .str => "str"
def chkTys (sc : Scope) : List Expr → List Ty → Bool
  | [], [] => true
  | .Name n _ :: xs, t :: ts => n == tyName t && globB sc n && chkTys sc xs ts
  | _, _ => false
def chkTy1 (sc : Scope) : Expr → List Ty → Bool
  | .Tuple ys _ _, ts => chkTys sc ys ts
  | .Name n _, [t] => n == tyName t && globB sc n
  | _, _ => false
/-- a name that a store goes to -/
def locB (sc : Scope) (ow : Str → Bool) (x : Str) : Bool := match sc.names.lookup x with
  | some .local => true
  | some .cell => ow x
  | _ => false
def chkNames (N : List Str) (sc : Scope) (ow : Str → Bool) : List Expr → List Nat → Bool
  | [], [] => true
  | .Name n _ :: xs, i :: is => (match N[i]? with | some m => m == n | none => false) && locB sc ow n && chkNames N sc ow xs is
  | _, _ => false
/-- a target of a for -/
def chkB (N : List Str) (sc : Scope) (ow : Str → Bool) : Expr → T → Bool
  | .Name n _, .nm i => (match N[i]? with | some m => m == n | none => false) && locB sc ow n
  | .Tuple xs _ _, .tup is => chkNames N sc ow xs is
  | _, _ => false
def tIn : T → List Nat → Bool
  | .nm i, own => own.contains i
  | .tup is, own => is.all own.contains
  | _, _ => false
def ownN (N : List Str) : List Nat → List (Str × Nat)
  | [] => []
  | i :: is => (N.getD i "", i) :: ownN N is
mutual
def chkE (S : Sig) (N : List Str) : Nat → Scope → Expr → E → Bool
  | 0, _, _, _ => false
  | n + 1, sc, e, c => match c with
    | .c d => (match e with
      | .Constant (.int i) _ _ => (match d with | .int j => i == j | _ => false)
      | .Constant (.bool i) _ _ => (match d with | .bl j => i == j | _ => false)
      | .Constant .none _ _ => (match d with | .non => true | _ => false)
      | .Constant (.str x) _ _ => (match d with | .str t => x.cps.toList == t && okS t | _ => false)
      | _ => false)
    | .g x d => (match e with
      | .Name m _ => m == S.gn x && decide (S.gv x = some d) && globB sc m && nameOk m
      | _ => false)
    | .v i => (match e with
      | .Name m _ => (match N[i]? with | some y => y == m | none => false) && visB sc m && nameOk m
      | _ => false)
    | .tup es => (match e with | .Tuple xs _ _ => chkL (chkE S N n sc) xs es | _ => false)
    | .lst es => (match e with | .List xs _ => chkL (chkE S N n sc) xs es | _ => false)
    | .dct _ _ => false
    | .op o a b => (match e with | .BinOp x p y _ => decide (p = opOf o) && chkE S N n sc x a && chkE S N n sc y b | _ => false)
    | .neg a => (match e with | .UnaryOp .USub x _ => chkE S N n sc x a | _ => false)
    | .not a => (match e with | .UnaryOp .Not x _ => chkE S N n sc x a | _ => false)
    | .and a b => (match e with
      | .BoolOp .And [x, y] _ => chkE S N n sc x a && chkE S N n sc y b
      | .BoolOp .And (x :: y :: z :: r) p => chkE S N n sc x a && chkE S N n sc (.BoolOp .And (y :: z :: r) p) b
      | _ => false)
    | .or a b => (match e with
      | .BoolOp .Or [x, y] _ => chkE S N n sc x a && chkE S N n sc y b
      | .BoolOp .Or (x :: y :: z :: r) p => chkE S N n sc x a && chkE S N n sc (.BoolOp .Or (y :: z :: r) p) b
      | _ => false)
    | .ite t a b => (match e with | .IfExp x y z _ => chkE S N n sc x t && chkE S N n sc y a && chkE S N n sc z b | _ => false)
    | .cmp o a b => (match e with | .Compare x [p] [y] _ => decide (p = cpOf o) && chkE S N n sc x a && chkE S N n sc y b | _ => false)
    | .chain a o b o2 d => (match e with | .Compare x [p, q] [y, z] _ => decide (p = cpOf o) && decide (q = cpOf o2) && chkE S N n sc x a && chkE S N n sc y b && chkE S N n sc z d | _ => false)
    | .ix a i => (match e with | .Subscript x y _ => notSlice y && chkE S N n sc x a && chkE S N n sc y i | _ => false)
    | .sl a lo hi => (match e with | .Subscript x (.Slice l u none _) _ => chkE S N n sc x a && chkO (chkE S N n sc) l lo && chkO (chkE S N n sc) u hi | _ => false)
    | .rev a => (match e with | .Subscript x (.Slice none none (some (.UnaryOp .USub (.Constant (.int 1) _ _) _)) _) _ => chkE S N n sc x a | _ => false)
    | .call f es => (match e with | .Call (.Name m _) xs [] _ => m == S.fnm f && S.L.contains f && globB sc m && nameOk m && chkL (chkE S N n sc) xs es | _ => false)
    | .meth o m es => (match e with | .Call (.Attribute x y ap) xs [] cp => y == S.mn m && (ap.endLine == cp.line) && decide (xs.length < 20) && notCall0 x && chkE S N n sc x o && chkL (chkE S N n sc) xs es | _ => false)
    | .new f es => (match e with | .Call (.Name m _) xs [] _ => m == S.cnm f && (S.C.mt f 0).isSome && S.CL.contains f && globB sc m && nameOk m && chkL (chkE S N n sc) xs es | _ => false)
    | .fld o f => (match e with | .Attribute x y _ => y == S.fl f && S.FL.contains f && notCall0 x && chkE S N n sc x o | _ => false)
    | .isi a ts => (match e with
      | .Call (.Name m _) [x, t] [] _ => m == ("isinstance" : Str) && globB sc m && decide (ts.length ≤ 9) && chkE S N n sc x a && chkTy1 sc t ts
      | _ => false)
    | .bi b es => (match e with | .Call (.Name m _) (x :: xs) [] _ => biOk b && m == biName b && globB sc m && chkL (chkE S N n sc) (x :: xs) es | _ => false)
    | .listof a => (match e with | .Call (.Name m _) [x] [] _ => m == ("list" : Str) && globB sc m && chkE S N n sc x a | _ => false)
    | .bm m o es => (match e with | .Call (.Attribute x y ap) xs [] cp => bmOk m && y == bmName m && (ap.endLine == cp.line) && notCall0 x && decide (xs.length < 20) && chkE S N n sc x o && chkL (chkE S N n sc) xs es | _ => false)
    | .lc elt t it cond own => (match e with
      | .ListComp x [⟨tg, iter, ifs, 0⟩] scope _ => decide (N.Nodup) && tIn t own && (match iter with | .Set _ _ _ => false | _ => true) && blkC N sc scope (ownN N own) && chkB N (relS scope sc) (fun y => scope.names.lookup y == some .cell) tg t && chkI S N n sc iter it &&
          chkOn (chkE S N n (relS scope sc)) ifs cond && chkE S N n (relS scope sc) x elt
      | _ => false)
def chkI (S : Sig) (N : List Str) : Nat → Scope → Expr → It → Bool
  | 0, _, _, _ => false
  | n + 1, sc, e, c => match c with
    | .val a => chkE S N n sc e a && (match e with | .Set _ _ _ => false | _ => true)
    | .range es => (match e with | .Call (.Name m _) (x :: xs) [] _ => m == ("range" : Str) && globB sc m && decide (xs.length ≤ 2) && chkL (chkE S N n sc) (x :: xs) es | _ => false)
    | .revd a => (match e with | .Call (.Name m _) [x] [] _ => m == ("reversed" : Str) && globB sc m && chkE S N n sc x a | _ => false)
    | .zip _ _ => false
end
end Mn

set_option Elab.async false
set_option linter.all false
set_option autoImplicit false
set_option maxRecDepth 100000
set_option maxHeartbeats 4000000
/-! MnE: an expression of the text does what the small interpreter says. -/
namespace Mn
open PySem PySem.Spec PyProof.Rows L2
/-- a def's promise -/
def spF (S : Sig) (call : Call) (f : Nat) : Sp := fun vs H Q EX => ∃ W ds h, HR S W H h ∧ Reps S W H ds vs ∧ vs.length = (S.ps f).length ∧ QR S EX W H Q (call f ds h)
def QA (S : Sig) (EX : XK) (W : Wd) (H : Hp) (Q : List V → Hp → Prop) : R (List D) → Prop
  | .ok ds h' => ∀ W' H' vs, Ext W W' H H' → HR S W' H' h' → Reps S W' H' ds vs → Q vs H'
  | .exc c fs h' => QX S EX W H c fs h'
  | .bad => False
section
variable (S : Sig) (call : Call) (EX : XK)
def tE (c : E) : TE := fun σ H Q => ∃ W ρ h, HR S W H h ∧ ER S W H σ ρ ∧ QE S EX W H Q (evE S.C call c ρ h)
def tT (c : E) : TT := fun σ H Q => tE S call EX c σ H fun v H' => ∃ b, v = .bl b ∧ Q b H'
def tA (es : Es) : TA := fun σ H Q => ∃ W ρ h, HR S W H h ∧ ER S W H σ ρ ∧ QA S EX W H Q (evEs S.C call es ρ h)
def tF (c : E) : TE := fun σ H Q => ∃ W ρ h, HR S W H h ∧ ER S W H σ ρ ∧ QF S EX W H Q (evF S.C call c ρ h)
end
/-- the context, as the text's facts go -/
structure GX (S : Sig) (N : List Str) (call : Call) (k : Nat) (EX : XK) (X : Cx) : Prop where
  hK : X.K = S.K
  calm : X.calm = true
  room : Room (k + 1) X.A
  hN : X.N = N
  hx : Passes (L2.CX X.prog X.w) X EX
  gd : GdOk S X
  glob : ∀ x d, S.gv x = some d → ∃ u v, X.mg (S.gn x) = some u ∧ RelV v u ∧ ∀ W H, Rep S W H d v
  blt : ∀ x ∈ (["len", "int", "str", "sum", "max", "min", "sorted", "tuple", "dict", "isinstance", "list", "range", "reversed", "bool", "set"] : List Str), X.mg x = none
  fn : ∀ f, S.L.contains f = true → X.mg (S.fnm f) = some (.ref (S.fa f)) ∧ PySem.W.keepIn X.K (.ref (S.fa f)) = true
  ok : ∀ f, S.LA.contains f = true → FnOk X.prog X.w X.K X.mg X.base (L2.CX X.prog X.w) k (S.fa f) (S.fd f) (S.ps f) (spF S call f) ∧ Binds X.K (S.fd f) (S.ps f) []
  ar : ∀ f ds h, ds.length ≠ (S.ps f).length → call f ds h = .bad
  mtLA : ∀ c m f, S.C.mt c m = some f → S.LA.contains f = true
  cls : ∀ c, S.CL.contains c = true → X.mg (S.cnm c) = some (.ref (S.ca c)) ∧ ∀ f, S.C.mt c 0 = some f → Mk X.K (S.ca c) (S.fa f)
  inst : ∀ c, S.CL.contains c = true → Cls X.K (S.ca c) ∧ (∀ m f, S.C.mt c m = some f → Meth X.K (S.ca c) (S.mn m) (S.fa f)) ∧ ∀ f, S.FL.contains f = true → NoAttr X.K (S.ca c) (S.fl f)
  LLA : ∀ f, S.L.contains f = true → S.LA.contains f = true
  mnfl : ∀ m f, S.mn m ≠ S.fl f
  flinj : ∀ f g, S.fl f = S.fl g → f = g
section
variable {S : Sig} {N : List Str} {call : Call} {k : Nat} {EX : XK} {X : Cx}
theorem _root_.L2.PE.imp {e : Expr} {t t' : TE} (h : PE X e t) (i : ∀ σ H Q, t' σ H Q → t σ H Q) : PE X e t' := ⟨fun pins s σ H Q I q => h.run pins s σ H Q I (i σ H Q q)⟩
theorem _root_.L2.PT.imp {e : Expr} {t t' : TT} (h : PT X e t) (i : ∀ σ H Q, t' σ H Q → t σ H Q) : PT X e t' := ⟨fun pins s σ H Q I q => h.run pins s σ H Q I (i σ H Q q)⟩
theorem _root_.L2.PA.imp {es : List Expr} {t t' : TA} (h : PA X es t) (i : ∀ σ H Q, t' σ H Q → t σ H Q) : PA X es t' := ⟨fun pos pins s σ H Q I q => h.run pos pins s σ H Q I (i σ H Q q)⟩
theorem _root_.L2.PS.imp {st : Stmt} {t t' : TS} (h : PS X st t) (i : ∀ D σ H, t' D σ H → t D σ H) : PS X st t' := ⟨fun pins s σ H D I q => h.run pins s σ H D I (i D σ H q)⟩
theorem _root_.L2.PSs.imp {st : List Stmt} {t t' : TS} (h : PSs X st t) (i : ∀ D σ H, t' D σ H → t D σ H) : PSs X st t' := ⟨fun pins s σ H D I q => h.run pins s σ H D I (i D σ H q)⟩
/-- one evaluation, then the rest -/
theorem seqE {c : E} {W : Wd} {H : Hp} {σ : L2.St} {ρ : Env} {h : VH} {Q Q' : VK} {f : D → VH → R D} (hr : HR S W H h) (er : ER S W H σ ρ) (q : QE S EX W H Q ((evE S.C call c ρ h).bind f))
    (k : ∀ W1 d h1 H1 v, Ext W W1 H H1 → HR S W1 H1 h1 → ER S W1 H1 σ ρ → Rep S W1 H1 d v → QE S EX W1 H1 Q (f d h1) → Q' v H1) : tE S call EX c σ H Q' :=
  ⟨W, ρ, h, hr, er, (QE.bind q).mono fun v H1 ⟨W1, d, h1, e1, hr1, p1, q1⟩ => k W1 d h1 H1 v e1 hr1 (er.ext e1) p1 q1⟩
theorem QA.bindE {W : Wd} {H : Hp} {Q : VK} {x : R (List D)} {f : List D → VH → R D} (q : QE S EX W H Q (x.bind f)) :
    QA S EX W H (fun vs H1 => ∃ W1 ds h1, Ext W W1 H H1 ∧ HR S W1 H1 h1 ∧ Reps S W1 H1 ds vs ∧ QE S EX W1 H1 Q (f ds h1)) x := by
  cases x with
  | ok ds h' => exact fun W' H' vs e a b => ⟨W', ds, h', e, a, b, QE.world q e⟩
  | exc c fs h' => exact q
  | bad => exact q
theorem QA.mono {W : Wd} {H : Hp} {Q Q' : List V → Hp → Prop} {r : R (List D)} (q : QA S EX W H Q r) (k : ∀ v H', Q v H' → Q' v H') : QA S EX W H Q' r := by
  cases r with
  | ok d h' => exact fun W' H' v e a b => k _ _ (q W' H' v e a b)
  | exc c fs h' => exact q
  | bad => exact q
theorem QA.world {W W1 : Wd} {H H1 : Hp} {Q : List V → Hp → Prop} {r : R (List D)} (q : QA S EX W H Q r) (e : Ext W W1 H H1) : QA S EX W1 H1 Q r := by
  cases r with
  | ok d h' => exact fun W' H' v e' a b => q W' H' v (e.trans e') a b
  | exc c fs h' => exact ⟨q.1, fun W' H' cls dd e' a b => q.2 W' H' cls dd (e.trans e') a b⟩
  | bad => exact q
theorem seqA {es : Es} {W : Wd} {H : Hp} {σ : L2.St} {ρ : Env} {h : VH} {Q : VK} {Q' : List V → Hp → Prop} {f : List D → VH → R D} (hr : HR S W H h) (er : ER S W H σ ρ) (q : QE S EX W H Q ((evEs S.C call es ρ h).bind f))
    (k : ∀ W1 ds h1 H1 vs, Ext W W1 H H1 → HR S W1 H1 h1 → ER S W1 H1 σ ρ → Reps S W1 H1 ds vs → QE S EX W1 H1 Q (f ds h1) → Q' vs H1) : tA S call EX es σ H Q' :=
  ⟨W, ρ, h, hr, er, (QA.bindE q).mono fun v H1 ⟨W1, d, h1, e1, hr1, p1, q1⟩ => k W1 d h1 H1 v e1 hr1 (er.ext e1) p1 q1⟩
theorem evE_A {W : Wd} {H : Hp} {Q : List V → Hp → Prop} {x : R D} {f : D → VH → R (List D)} (q : QA S EX W H Q (x.bind f)) :
    QE S EX W H (fun v H1 => ∃ W1 d h1, Ext W W1 H H1 ∧ HR S W1 H1 h1 ∧ Rep S W1 H1 d v ∧ QA S EX W1 H1 Q (f d h1)) x := by
  cases x with
  | ok ds h' => exact fun W' H' vs e a b => ⟨W', ds, h', e, a, b, QA.world q e⟩
  | exc c fs h' => exact q
  | bad => exact q
theorem evA_A {W : Wd} {H : Hp} {Q : List V → Hp → Prop} {x : R (List D)} {f : List D → VH → R (List D)} (q : QA S EX W H Q (x.bind f)) :
    QA S EX W H (fun v H1 => ∃ W1 d h1, Ext W W1 H H1 ∧ HR S W1 H1 h1 ∧ Reps S W1 H1 d v ∧ QA S EX W1 H1 Q (f d h1)) x := by
  cases x with
  | ok ds h' => exact fun W' H' vs e a b => ⟨W', ds, h', e, a, b, QA.world q e⟩
  | exc c fs h' => exact q
  | bad => exact q
theorem notStar {n : Nat} {sc : Scope} {x : Expr} {c : E} (h : chkE S N n sc x c = true) : ∀ y p, x ≠ .Starred y p := by
  rintro y p rfl
  cases n with
  | zero => simp [chkE] at h
  | succ n => cases c <;> simp [chkE] at h
theorem star_cons {x : Expr} {xs : List Expr} {env : PySem.Env} (h : ∀ y p, x ≠ .Starred y p) : starEach (x :: xs) env = (false, eval x env) :: starEach xs env := by
  cases x <;> first | rfl | exact absurd rfl (h _ _)
/-- what is shown of all expressions at a depth -/
structure IH (S : Sig) (N : List Str) (call : Call) (k n : Nat) : Prop where
  e : ∀ {EX : XK} {X : Cx} {e : Expr} {c : E}, GX S N call k EX X → chkE S N n X.env.scope e c = true → PE X e (tE S call EX c)
  t : ∀ {EX : XK} {X : Cx} {e : Expr} {c : E}, GX S N call k EX X → chkE S N n X.env.scope e c = true → PT X e (tT S call EX c)
variable {n : Nat}
theorem args_ok (ih : IH S N call k n) (g : GX S N call k EX X) : ∀ {xs : List Expr} {es : Es}, chkL (chkE S N n X.env.scope) xs es = true → PA X xs (tA S call EX es)
  | [], .nil, _ => pa_nil.imp fun σ H Q ⟨W, ρ, h, hr, er, q⟩ => (show QA S EX W H Q (.ok [] h) from q) W H [] (Ext.refl W H) hr .nil
  | x :: xs, .cons e es, h => by
    simp only [chkL, Bool.and_eq_true] at h
    refine (pa_cons (ih.e g h.1) (args_ok ih g h.2) (star_cons (notStar h.1))).imp fun σ H Q ⟨W, ρ, h0, hr, er, q⟩ => ?_
    simp only [evEs] at q
    refine ⟨W, ρ, h0, hr, er, (evE_A q).mono fun v H1 ⟨W1, d, h1, e1, hr1, p1, q1⟩ => ?_⟩
    refine ⟨W1, ρ, h1, hr1, er.ext e1, (evA_A q1).mono fun vs H2 ⟨W2, ds, h2, e2, hr2, p2, q2⟩ => ?_⟩
    exact q2 W2 H2 _ (Ext.refl W2 H2) hr2 (.cons (p1.ext e2) p2)
  | [], .cons _ _, h => by simp [chkL] at h
  | _ :: _, .nil, h => by simp [chkL] at h
theorem stars_plain (pos : Pos) (env : PySem.Env) : ∀ {xs : List Expr} {es : Es}, chkL (chkE S N n env.scope) xs es = true → (backTo pos (starEach xs env)).any (·.1) = false
  | [], _, _ => rfl
  | x :: xs, .cons e es, h => by
    simp only [chkL, Bool.and_eq_true] at h
    rw [star_cons (notStar h.1)]
    have q := stars_plain pos env h.2
    show (false || (backTo pos (starEach xs env)).any (·.1)) = false
    rw [q]; rfl
  | _ :: _, .nil, h => by simp [chkL] at h
theorem nameOk_debug {x : Str} (h : nameOk x = true) : (x == ("__debug__" : Str)) = false ∧ (x == ("__classdict__" : Str)) = false ∧ x ≠ "__name__" := by
  simp only [nameOk, Bool.and_eq_true, Bool.not_eq_true', ] at h
  exact ⟨h.1.1, h.1.2, fun e => by rw [e] at h; simp at h⟩
theorem vis_of {sc : Scope} {x : Str} (h : visB sc x = true) : Vis sc x := by
  unfold visB at h
  split at h
  · exact .inl (by assumption)
  · exact .inr (.inl (by assumption))
  · exact .inr (.inr (by assumption))
  · cases h
theorem glob_of {X : Cx} {x : Str} (h : globB X.env.scope x = true) : Gl X x := by
  unfold globB at h
  split at h
  · rename_i q; exact q
  · cases h
end
end Mn

set_option Elab.async false
set_option linter.all false
set_option autoImplicit false
set_option maxRecDepth 100000
set_option maxHeartbeats 4000000
/-! MnE2: the expressions, kind by kind. -/
namespace Mn
open PySem PySem.Spec PyProof.Rows L2
section
variable {S : Sig} {N : List Str} {call : Call} {k n : Nat} {EX : XK} {X : Cx} {e : Expr}
theorem GX.units (g : GX S N call k EX X) : X.A.units + 64 < cLine := g.room.units
theorem s_const (g : GX S N call k EX X) {d : D} (h : chkE S N (n + 1) X.env.scope e (.c d) = true) : PE X e (tE S call EX (.c d)) := by
  simp only [chkE] at h
  split at h
  · split at h
    · simp only [beq_iff_eq] at h
      subst h
      exact pe_int.imp fun σ H Q ⟨W, ρ, h, hr, er, q⟩ => (show QE S EX W H Q (.ok _ h) from q) W H _ (Ext.refl W H) hr (.int _)
    · cases h
  · split at h
    · simp only [beq_iff_eq] at h
      subst h
      exact pe_bl.imp fun σ H Q ⟨W, ρ, h, hr, er, q⟩ => (show QE S EX W H Q (.ok _ h) from q) W H _ (Ext.refl W H) hr (.bl _)
    · cases h
  · split at h
    · exact pe_non.imp fun σ H Q ⟨W, ρ, h, hr, er, q⟩ => (show QE S EX W H Q (.ok _ h) from q) W H _ (Ext.refl W H) hr .non
    · cases h
  · split at h
    · rename_i x _ _ _ t
      simp only [Bool.and_eq_true, beq_iff_eq] at h
      obtain ⟨h1, h2⟩ := h
      subst h1
      refine pe_str.imp fun σ H Q ⟨W, ρ, h, hr, er, q⟩ => ?_
      have p : Rep S W H (.str x.cps.toList) (.str x) := by
        have z := Rep.str (S := S) (W := W) (H := H) h2
        have ex : (⟨x.cps.toList.toArray⟩ : Str) = x := by cases x; simp
        rw [ex] at z
        exact z
      exact (show QE S EX W H Q (.ok _ h) from q) W H _ (Ext.refl W H) hr p
    · cases h
  · cases h
theorem s_glob (g : GX S N call k EX X) {x : Nat} {d : D} (h : chkE S N (n + 1) X.env.scope e (.g x d) = true) : PE X e (tE S call EX (.g x d)) := by
  simp only [chkE] at h
  split at h
  · simp only [Bool.and_eq_true, beq_iff_eq, decide_eq_true_eq] at h
    obtain ⟨⟨⟨h1, h2⟩, h3⟩, h4⟩ := h
    subst h1
    obtain ⟨u, v, q1, q2, q3⟩ := g.glob x d h2
    exact (pe_glob (glob_of h3) q1 q2 (nameOk_debug h4).1).imp fun σ H Q ⟨W, ρ, h, hr, er, q⟩ => (show QE S EX W H Q (.ok _ h) from q) W H _ (Ext.refl W H) hr (q3 W H)
  · cases h
theorem s_var (g : GX S N call k EX X) {i : Nat} (h : chkE S N (n + 1) X.env.scope e (.v i) = true) : PE X e (tE S call EX (.v i)) := by
  simp only [chkE] at h
  split at h
  · simp only [Bool.and_eq_true] at h
    obtain ⟨⟨h1, h2⟩, h3⟩ := h
    split at h1
    · rename_i y hy
      simp only [beq_iff_eq] at h1
      subst h1
      refine (pe_var (i := i) (by rw [g.hN]; exact hy) (vis_of h2) (nameOk_debug h3).1 (nameOk_debug h3).2.1).imp fun σ H Q ⟨W, ρ, h, hr, er, q⟩ => ?_
      simp only [evE] at q
      split at q
      · rename_i d hd
        obtain ⟨v, e1, e2⟩ := er.at_ i d hd
        exact ⟨v, e1, q W H v (Ext.refl W H) hr e2⟩
      · exact q.elim
    · cases h1
  · cases h
theorem s_tup (ih : IH S N call k n) (g : GX S N call k EX X) {es : Es} (h : chkE S N (n + 1) X.env.scope e (.tup es) = true) : PE X e (tE S call EX (.tup es)) := by
  simp only [chkE] at h
  split at h
  · refine (pe_tup (args_ok ih g h)).imp fun σ H Q ⟨W, ρ, h, hr, er, q⟩ => ?_
    simp only [evE] at q
    refine seqA hr er q fun W1 ds h1 H1 vs e1 hr1 er1 p1 q1 => ?_
    split at q1
    · rename_i hz
      exact ⟨by rw [← p1.length, ← LINE_eq]; exact hz, Fin.tup (h := h1) (fun W' H' v e a b => q1 W' H' v e a b) hr1 p1⟩
    · exact q1.elim
  · cases h
theorem s_lst (ih : IH S N call k n) (g : GX S N call k EX X) {es : Es} (h : chkE S N (n + 1) X.env.scope e (.lst es) = true) : PE X e (tE S call EX (.lst es)) := by
  simp only [chkE] at h
  split at h
  · refine (pe_lst (args_ok ih g h)).imp fun σ H Q ⟨W, ρ, h, hr, er, q⟩ => ?_
    simp only [evE] at q
    refine seqA hr er q fun W1 ds h1 H1 vs e1 hr1 er1 p1 q1 => ?_
    split at q1
    · rename_i hz
      exact ⟨by rw [← p1.length, ← LINE_eq]; exact hz, Fin.lst (h := h1) (fun W' H' v e a b => q1 W' H' v e a b) hr1 p1⟩
    · exact q1.elim
  · cases h
/-- two values, then an operator -/
theorem two_ok {a b : E} {f : VH → D → D → Option D} {σ : L2.St} {H : Hp} {Q : VK} {W : Wd} {ρ : Env} {h : VH} (hr : HR S W H h) (er : ER S W H σ ρ)
    (q : QE S EX W H Q ((evE S.C call a ρ h).bind fun x h => (evE S.C call b ρ h).bind fun y h => R.ofO (f h x y) h)) :
    tE S call EX a σ H fun x H1 => tE S call EX b σ H1 fun y H2 => r2 S EX f x y H2 Q :=
  seqE hr er q fun W1 d h1 H1 v e1 hr1 er1 p1 q1 => seqE hr1 er1 q1 fun W2 d2 h2 H2 v2 e2 hr2 er2 p2 q2 => ⟨W2, h2, d, d2, hr2, p1.ext e2, p2, q2⟩
theorem s_op (ih : IH S N call k n) (g : GX S N call k EX X) {o : Op} {a b : E} (h : chkE S N (n + 1) X.env.scope e (.op o a b) = true) : PE X e (tE S call EX (.op o a b)) := by
  simp only [chkE] at h
  split at h
  · simp only [Bool.and_eq_true, decide_eq_true_eq] at h
    obtain ⟨⟨h1, h2⟩, h3⟩ := h
    subst h1
    refine (pe_op (op_ok (EX := EX) g.hK o) (ih.e g h2) (ih.e g h3)).imp fun σ H Q ⟨W, ρ, h, hr, er, q⟩ => ?_
    simp only [evE] at q
    exact two_ok hr er q
  · cases h
theorem s_neg (ih : IH S N call k n) (g : GX S N call k EX X) {a : E} (h : chkE S N (n + 1) X.env.scope e (.neg a) = true) : PE X e (tE S call EX (.neg a)) := by
  simp only [chkE] at h
  split at h
  · refine (pe_un un_neg (ih.e g h)).imp fun σ H Q ⟨W, ρ, h, hr, er, q⟩ => ?_
    simp only [evE] at q
    refine seqE hr er q fun W1 d h1 H1 v e1 hr1 er1 p1 q1 => ?_
    cases d <;> try exact q1.elim
    cases p1
    exact ⟨_, rfl, q1 W1 H1 _ (Ext.refl W1 H1) hr1 (.int _)⟩
  · cases h
theorem s_not (ih : IH S N call k n) (g : GX S N call k EX X) {a : E} (h : chkE S N (n + 1) X.env.scope e (.not a) = true) : PE X e (tE S call EX (.not a)) := by
  simp only [chkE] at h
  split at h
  · refine (pe_not (ih.e g h)).imp fun σ H Q ⟨W, ρ, h, hr, er, q⟩ => ?_
    simp only [evE] at q
    refine seqE hr er q fun W1 d h1 H1 v e1 hr1 er1 p1 q1 => ?_
    cases d <;> try exact q1.elim
    cases p1
    exact ⟨_, rfl, q1 W1 H1 _ (Ext.refl W1 H1) hr1 (.bl _)⟩
  · cases h
theorem and_read {a b : E} {σ : L2.St} {H : Hp} {Q : VK} (h : tE S call EX (.and a b) σ H Q) : tE S call EX a σ H fun x H1 => ∃ c, x = .bl c ∧ if c = true then tE S call EX b σ H1 Q else Q (.bl false) H1 := by
  obtain ⟨W, ρ, h, hr, er, q⟩ := h
  simp only [evE] at q
  refine seqE hr er q fun W1 d h1 H1 v e1 hr1 er1 p1 q1 => ?_
  cases d <;> try exact q1.elim
  rename_i c
  cases p1
  refine ⟨c, rfl, ?_⟩
  cases c with
  | true => exact ⟨W1, ρ, h1, hr1, er1, q1⟩
  | false => exact (show QE S EX W1 H1 Q (.ok (.bl false) h1) from q1) W1 H1 _ (Ext.refl W1 H1) hr1 (.bl _)
theorem or_read {a b : E} {σ : L2.St} {H : Hp} {Q : VK} (h : tE S call EX (.or a b) σ H Q) : tE S call EX a σ H fun x H1 => ∃ c, x = .bl c ∧ if c = true then Q (.bl true) H1 else tE S call EX b σ H1 Q := by
  obtain ⟨W, ρ, h, hr, er, q⟩ := h
  simp only [evE] at q
  refine seqE hr er q fun W1 d h1 H1 v e1 hr1 er1 p1 q1 => ?_
  cases d <;> try exact q1.elim
  rename_i c
  cases p1
  refine ⟨c, rfl, ?_⟩
  cases c with
  | true => exact (show QE S EX W1 H1 Q (.ok (.bl true) h1) from q1) W1 H1 _ (Ext.refl W1 H1) hr1 (.bl _)
  | false => exact ⟨W1, ρ, h1, hr1, er1, q1⟩
theorem s_and (ih : IH S N call k n) (g : GX S N call k EX X) {a b : E} (h : chkE S N (n + 1) X.env.scope e (.and a b) = true) : PE X e (tE S call EX (.and a b)) := by
  simp only [chkE] at h
  split at h
  · simp only [Bool.and_eq_true] at h
    exact (pe_and (ih.e g h.1) (pe_one (ih.e g h.2))).imp fun σ H Q q => and_read q
  · simp only [Bool.and_eq_true] at h
    exact (pe_and (ih.e g h.1) (ih.e g h.2)).imp fun σ H Q q => and_read q
  · cases h
theorem s_or (ih : IH S N call k n) (g : GX S N call k EX X) {a b : E} (h : chkE S N (n + 1) X.env.scope e (.or a b) = true) : PE X e (tE S call EX (.or a b)) := by
  simp only [chkE] at h
  split at h
  · simp only [Bool.and_eq_true] at h
    exact (pe_or (ih.e g h.1) (pe_one (ih.e g h.2))).imp fun σ H Q q => or_read q
  · simp only [Bool.and_eq_true] at h
    exact (pe_or (ih.e g h.1) (ih.e g h.2)).imp fun σ H Q q => or_read q
  · cases h
theorem ite_read {t a b : E} {σ : L2.St} {H : Hp} {Q : VK} (h : tE S call EX (.ite t a b) σ H Q) : tT S call EX t σ H fun c H1 => if c = true then tE S call EX a σ H1 Q else tE S call EX b σ H1 Q := by
  obtain ⟨W, ρ, h, hr, er, q⟩ := h
  simp only [evE] at q
  refine seqE hr er q fun W1 d h1 H1 v e1 hr1 er1 p1 q1 => ?_
  cases d <;> try exact q1.elim
  rename_i c
  cases p1
  refine ⟨c, rfl, ?_⟩
  cases c with
  | true => exact ⟨W1, ρ, h1, hr1, er1, q1⟩
  | false => exact ⟨W1, ρ, h1, hr1, er1, q1⟩
theorem s_ite (ih : IH S N call k n) (g : GX S N call k EX X) {t a b : E} (h : chkE S N (n + 1) X.env.scope e (.ite t a b) = true) : PE X e (tE S call EX (.ite t a b)) := by
  simp only [chkE] at h
  split at h
  · simp only [Bool.and_eq_true] at h
    exact (pe_ifExp (ih.t g h.1.1) (ih.e g h.1.2) (ih.e g h.2)).imp fun σ H Q q => ite_read q
  · cases h
theorem behind_no {o : CmpOp} {y : Expr} {b : E} {sc : Scope} (h : chkE S N n sc y b = true) : behindInMarks o y = false := by
  cases y <;> first | rfl | (exfalso; cases n with
    | zero => simp [chkE] at h
    | succ n => cases b <;> simp [chkE] at h)
theorem s_cmp (ih : IH S N call k n) (g : GX S N call k EX X) {o : Cp} {a b : E} (h : chkE S N (n + 1) X.env.scope e (.cmp o a b) = true) : PE X e (tE S call EX (.cmp o a b)) := by
  simp only [chkE] at h
  split at h
  · simp only [Bool.and_eq_true, decide_eq_true_eq] at h
    obtain ⟨⟨h1, h2⟩, h3⟩ := h
    subst h1
    refine (pe_cmpR (cp_ok (EX := EX) g.hK g.units g.gd o) (ih.e g h2) (ih.e g h3) (behind_no h3)).imp fun σ H Q ⟨W, ρ, h, hr, er, q⟩ => ?_
    simp only [evE] at q
    exact two_ok (f := fun h d e => (cpD S.C.gds h o d e).map .bl) hr er q
  · cases h
theorem chain_read {a b c : E} {o o2 : Cp} {σ : L2.St} {H : Hp} {Q : VK} (h : tE S call EX (.chain a o b o2 c) σ H Q) :
    tChain (r2 S EX fun h d e => (cpD S.C.gds h o d e).map .bl) (r2 S EX fun h d e => (cpD S.C.gds h o2 d e).map .bl) (tE S call EX a) (tE S call EX b) (tE S call EX c) σ H Q := by
  obtain ⟨W, ρ, h, hr, er, q⟩ := h
  simp only [evE] at q
  refine seqE hr er q fun W1 d h1 H1 v e1 hr1 er1 p1 q1 => seqE hr1 er1 q1 fun W2 d2 h2 H2 v2 e2 hr2 er2 p2 q2 => ?_
  refine ⟨W2, h2, d, d2, hr2, p1.ext e2, p2, ?_⟩
  cases q0 : cpD S.C.gds h2 o d d2 with
  | none => rw [q0] at q2; exact q2.elim
  | some z =>
    rw [q0] at q2
    show QE S EX W2 H2 _ (R.ofO ((cpD S.C.gds h2 o d d2).map D.bl) h2)
    rw [q0]
    intro W3 H3 v3 e3 hr3 p3
    cases p3
    refine ⟨z, rfl, ?_⟩
    cases z with
    | true =>
      rw [if_pos rfl]
      exact seqE hr3 (er2.ext e3) (QE.world q2 e3) fun W4 d4 h4 H4 v4 e4 hr4 er4 p4 q4 => ⟨W4, h4, d2, d4, hr4, (p2.ext e3).ext e4, p4, q4⟩
    | false =>
      rw [if_neg Bool.false_ne_true]
      exact (QE.world (show QE S EX W2 H2 Q (.ok (.bl false) h2) from q2) e3) W3 H3 _ (Ext.refl W3 H3) hr3 (.bl _)
theorem s_chain (ih : IH S N call k n) (g : GX S N call k EX X) {a b c : E} {o o2 : Cp} (h : chkE S N (n + 1) X.env.scope e (.chain a o b o2 c) = true) : PE X e (tE S call EX (.chain a o b o2 c)) := by
  simp only [chkE] at h
  split at h
  · simp only [Bool.and_eq_true, decide_eq_true_eq] at h
    obtain ⟨⟨⟨⟨h1, h2⟩, h3⟩, h4⟩, h5⟩ := h
    subst h1 h2
    exact (pe_chain (cp_ok (EX := EX) g.hK g.units g.gd o) (cp_ok (EX := EX) g.hK g.units g.gd o2) (ih.e g h3) (ih.e g h4) (ih.e g h5) (by show behindInMarks _ _ = false; exact behind_no h5)).imp fun σ H Q q => chain_read q
  · cases h
theorem plainIx_of {y : Expr} (h : notSlice y = true) : PlainIx y := by
  intro o i
  cases y <;> first | rfl | (simp [notSlice] at h)
theorem s_ix (ih : IH S N call k n) (g : GX S N call k EX X) {a i : E} (h : chkE S N (n + 1) X.env.scope e (.ix a i) = true) : PE X e (tE S call EX (.ix a i)) := by
  simp only [chkE] at h
  split at h
  · simp only [Bool.and_eq_true] at h
    obtain ⟨⟨h1, h2⟩, h3⟩ := h
    refine (pe_ix (ix_ok (EX := EX) g.hK g.units g.gd) (ih.e g h2) (ih.e g h3) (plainIx_of h1)).imp fun σ H Q ⟨W, ρ, h, hr, er, q⟩ => ?_
    simp only [evE] at q
    exact two_ok (f := fun h d e => ixD S.C.gds h d e) hr er q
  · cases h
/-- a slice's bound -/
def tEo (S : Sig) (call : Call) (EX : XK) (c : Eo) : TO := fun σ H Q => ∃ W ρ h, HR S W H h ∧ ER S W H σ ρ ∧ match evEo S.C call c ρ h with
  | .ok o h' => ∀ W' H', Ext W W' H H' → HR S W' H' h' → Q o H'
  | .exc c fs h' => QX S EX W H c fs h'
  | .bad => False
theorem _root_.L2.PO.imp {o : Option Expr} {t t' : TO} (h : PO X o t) (i : ∀ σ H Q, t' σ H Q → t σ H Q) : PO X o t' := ⟨fun pins s σ H Q I q => h.run pins s σ H Q I (i σ H Q q)⟩
theorem opt_ok (ih : IH S N call k n) (g : GX S N call k EX X) {o : Option Expr} {c : Eo} (h : chkO (chkE S N n X.env.scope) o c = true) : PO X o (tEo S call EX c) := by
  cases o with
  | none =>
    cases c with
    | none => exact po_none.imp fun σ H Q ⟨W, ρ, h, hr, er, q⟩ => by simp only [evEo] at q; exact q W H (Ext.refl W H) hr
    | some _ => simp [chkO] at h
  | some x =>
    cases c with
    | none => simp [chkO] at h
    | some c =>
      refine (po_some (ih.e g (by simpa [chkO] using h))).imp fun σ H Q ⟨W, ρ, h, hr, er, q⟩ => ?_
      simp only [evEo] at q
      refine ⟨W, ρ, h, hr, er, ?_⟩
      cases q0 : evE S.C call c ρ h with
      | ok d h' =>
        rw [q0] at q
        intro W' H' v e a p
        cases d <;> try exact q.elim
        cases p
        exact ⟨_, rfl, q W' H' e a⟩
      | exc c fs h' => rw [q0] at q; exact q
      | bad => rw [q0] at q; exact q
theorem seqO {c : Eo} {W : Wd} {H : Hp} {σ : L2.St} {ρ : Env} {h : VH} {Q : VK} {Q' : Option Int → Hp → Prop} {f : Option Int → VH → R D} (hr : HR S W H h) (er : ER S W H σ ρ) (q : QE S EX W H Q ((evEo S.C call c ρ h).bind f))
    (k : ∀ W1 o h1 H1, Ext W W1 H H1 → HR S W1 H1 h1 → ER S W1 H1 σ ρ → QE S EX W1 H1 Q (f o h1) → Q' o H1) : tEo S call EX c σ H Q' := by
  refine ⟨W, ρ, h, hr, er, ?_⟩
  cases q0 : evEo S.C call c ρ h with
  | ok o h' =>
    rw [q0] at q
    exact fun W' H' e a => k W' o h' H' e a (er.ext e) (QE.world q e)
  | exc c fs h' => rw [q0] at q; exact q
  | bad => rw [q0] at q; exact q
theorem s_sl (ih : IH S N call k n) (g : GX S N call k EX X) {a : E} {lo hi : Eo} (h : chkE S N (n + 1) X.env.scope e (.sl a lo hi) = true) : PE X e (tE S call EX (.sl a lo hi)) := by
  simp only [chkE] at h
  split at h
  · simp only [Bool.and_eq_true] at h
    obtain ⟨⟨h1, h2⟩, h3⟩ := h
    refine (pe_slice (sl_ok (EX := EX) g.hK) (ih.e g h1) (opt_ok ih g h2) (opt_ok ih g h3)).imp fun σ H Q ⟨W, ρ, h, hr, er, q⟩ => ?_
    simp only [evE] at q
    exact seqE hr er q fun W1 d h1 H1 v e1 hr1 er1 p1 q1 => seqO hr1 er1 q1 fun W2 l h2 H2 e2 hr2 er2 q2 => seqO hr2 er2 q2 fun W3 u h3 H3 e3 hr3 er3 q3 => ⟨W3, h3, d, hr3, (p1.ext e2).ext e3, q3⟩
  · cases h
theorem s_rev (ih : IH S N call k n) (g : GX S N call k EX X) {a : E} (h : chkE S N (n + 1) X.env.scope e (.rev a) = true) : PE X e (tE S call EX (.rev a)) := by
  simp only [chkE] at h
  split at h
  · refine (pe_revL (ih.e g h)).imp fun σ H Q ⟨W, ρ, h, hr, er, q⟩ => ?_
    simp only [evE] at q
    refine seqE hr er q fun W1 d h1 H1 v e1 hr1 er1 p1 q1 => ?_
    obtain ⟨d', e2, q2⟩ := QE.ofO q1
    cases q0 : asL h1 d with
    | none => simp [revD, q0] at e2
    | some xs =>
      simp only [revD, q0, Option.map_some, Option.some.injEq] at e2
      subst e2
      obtain ⟨a, vs, rfl, g1, g2⟩ := asL_sq hr1 p1 q0
      exact ⟨a, vs, rfl, SqL.of g1, Fin.lst (h := h1) q2 hr1 g2.reverse⟩
  · cases h
end
end Mn

set_option Elab.async false
set_option linter.all false
set_option autoImplicit false
set_option maxRecDepth 100000
set_option maxHeartbeats 4000000
/-! MnE3: calls. -/
namespace Mn
open PySem PySem.Spec PyProof.Rows L2
section
variable {S : Sig} {N : List Str} {call : Call} {k n : Nat} {EX : XK} {X : Cx} {e : Expr}
theorem base_of {x : Expr} {f : Str} {env : PySem.Env} (h : notCall0 x = true) : attributeBase x f env (eval x env) = eval x env := by
  cases x <;> try rfl
  rename_i fn as kws pos
  cases as with
  | nil => simp [notCall0] at h
  | cons a as =>
    cases fn <;> rfl
theorem form_of {xs : List Expr} {es : Es} {env : PySem.Env} (pos : Pos) (h : chkL (chkE S N n env.scope) xs es = true) (hl : xs.length < 20) :
    methodCallForm (xs.length + ([] : List Keyword).length) (backTo pos (starEach xs env)) (backToKw pos (keywordEach [] env)) = true := by
  have a : ∀ {xs : List Expr} {es : Es}, chkL (chkE S N n env.scope) xs es = true → (backTo pos (starEach xs env)).all (fun x => !x.1) = true := by
    intro xs
    induction xs with
    | nil => intro es h; rfl
    | cons x xs ih =>
      intro es h
      cases es with
      | nil => simp [chkL] at h
      | cons e es =>
        simp only [chkL, Bool.and_eq_true] at h
        rw [star_cons (notStar h.1)]
        show (true && (backTo pos (starEach xs env)).all (fun x => !x.1)) = true
        rw [ih h.2]; rfl
  unfold methodCallForm
  rw [a h]
  show (true && true && decide (xs.length + 0 + 0 < 30)) = true
  simp
  omega
/-- the arguments, then the callee -/
def tG (call : Call) (S : Sig) (EX : XK) (f : Nat) (first : List V) (t : TA) : TE := fun σ H Q => t σ H fun vs H1 => spF S call f (first ++ vs) H1 Q EX
/-- o.m(..), the class as it comes -/
theorem pe_methD {o : Expr} {xs : List Expr} {es : Es} {m : Str} {apos pos : Pos} {ta : TE} (ih : IH S N call k n) (g : GX S N call k EX X) (he : PE X o ta) (hc : chkL (chkE S N n X.env.scope) xs es = true) (hl : xs.length < 20)
    (hn : notCall0 o = true) (hline : (apos.endLine == pos.line) = true) :
    PE X (.Call (.Attribute o m apos) xs [] pos) (fun σ H Q => ta σ H fun x H1 => ∃ a C dx fs f, x = .ref a ∧ H1 a = some (.ins C dx fs) ∧ Cls X.K C ∧ Meth X.K C m (S.fa f) ∧ fs.lookup m = none ∧ S.LA.contains f = true ∧ tG call S EX f [.ref a] (tA S call EX es) σ H1 Q) := by
  refine ⟨fun pins s σ H Q I h => ?_⟩
  rw [arm_eval_Call, base_of hn]
  refine wpAny_bind (thn (he.run pins s σ H _ I h) fun u s1 ⟨x, H1, I1, rx, a, C, dx, fs, f, ex, ea, c, hm, l, hf, q⟩ => ?_)
  subst ex
  obtain rfl : u = Value.ref a := rx
  refine wpAny_bind (wpAny_standAt ?_)
  have hpos : methodCallPos true o X.env apos pos = pure pos := by unfold methodCallPos; simp [hline]
  unfold methodCall
  rw [form_of pos hc hl]
  obtain ⟨F, B⟩ := g.ok f hf
  have hr : Room k X.A := g.room.mono (Nat.le_succ k)
  refine wpAny_bind (wpAny_holding (show wpAny _ _ (getMethod (.ref a) m (do return (← importBound o X.env).getD true)) _ _ _ from getmeth_ok I1 ea c hm l ?_))
  refine wpAny_bind (wpAny_of_eq hpos ?_)
  cases xs with
  | nil =>
    refine PySem.W.callWith_K0 (first := [.ref a]) I1.kIn hm.kp ?_
    cases es with
    | cons c0 es => simp [chkL] at hc
    | nil =>
      obtain ⟨W, ρ, h0, hr0, er, q⟩ := q
      have q2 := (show QA S EX W H1 _ (.ok [] h0) from q) W H1 [] (Ext.refl W H1) hr0 .nil
      exact run_fn (us := [.ref a]) (vs := [.ref a]) (dvs := []) (ds := []) F hr B .nil g.hx I1 (.cons rfl .nil) (by simpa using q2)
  | cons y ys =>
    cases es with
    | nil => simp [chkL] at hc
    | cons c0 es =>
      have ha := args_ok ih g hc
      simp only [chkL, Bool.and_eq_true] at hc
      refine PySem.W.callWith_K (first := [.ref a]) (h₀ := X.base) I1.ok.mod.kin hm.kp (thn (ha.run pos pins s1 σ H1 _ I1 q) fun us s2 ⟨vs, H2, I2, r2, q2⟩ => ⟨I2.kIn, ?_⟩) (star_cons (notStar hc.1)) (stars_plain pos X.env hc.2)
      exact run_fn (us := .ref a :: us) (vs := .ref a :: vs) (dvs := []) (ds := []) F hr B .nil g.hx I2 (.cons rfl r2) (by simpa using q2)
theorem mn_lookup {S : Sig} {W : Wd} {H : Hp} (hne : ∀ m f, S.mn m ≠ S.fl f) (m : Nat) : ∀ {l : List (Nat × D)} {t : List (Str × V)}, FsR S W H l t → t.lookup (S.mn m) = none
  | _, _, .nil => rfl
  | _, _, .cons (f := f) _ r => by
    rw [List.lookup_cons]
    have e : (S.mn m == S.fl f) = false := beq_eq_false_iff_ne.mpr (hne m f)
    rw [e]
    exact mn_lookup hne m r
theorem fl_lookup {S : Sig} {W : Wd} {H : Hp} (hinj : ∀ f g, S.fl f = S.fl g → f = g) (f : Nat) : ∀ {l : List (Nat × D)} {t : List (Str × V)} {d : D}, FsR S W H l t → l.lookup f = some d → ∃ v, t.lookup (S.fl f) = some v ∧ Rep S W H d v
  | _, _, _, .nil, e => by simp at e
  | _, _, _, .cons (f := g) (d := d0) (v := v0) p r, e => by
    rw [List.lookup_cons] at e ⊢
    by_cases h : f = g
    · subst h
      simp only [beq_self_eq_true] at e ⊢
      cases e
      exact ⟨_, rfl, p⟩
    · have e1 : (f == g) = false := beq_eq_false_iff_ne.mpr h
      have e2 : (S.fl f == S.fl g) = false := beq_eq_false_iff_ne.mpr fun z => h (hinj f g z)
      rw [e1] at e
      rw [e2]
      exact fl_lookup hinj f r e
/-- a callee's promise, when its arguments have come -/
theorem call_now {f : Nat} {ds : List D} {vs : List V} {W : Wd} {H : Hp} {h : VH} {Q : VK} (g : GX S N call k EX X) (hr : HR S W H h) (p : Reps S W H ds vs) (q : QE S EX W H Q ((call f ds h).bind fun r h => .ok r.d h)) : spF S call f vs H Q EX := by
  refine ⟨W, ds, h, hr, p, ?_, QR.of hr.hidA q⟩
  by_cases hl : ds.length = (S.ps f).length
  · rw [← p.length]; exact hl
  · rw [g.ar f ds h hl] at q
    exact q.elim
theorem call_nowF {f : Nat} {ds : List D} {vs : List V} {W : Wd} {H : Hp} {h : VH} {Q : VK} (g : GX S N call k EX X) (hr : HR S W H h) (p : Reps S W H ds vs) (q : QR S EX W H Q (call f ds h)) : spF S call f vs H Q EX := by
  refine ⟨W, ds, h, hr, p, ?_, q⟩
  by_cases hl : ds.length = (S.ps f).length
  · rw [← p.length]; exact hl
  · rw [g.ar f ds h hl] at q
    exact q.elim
/-- the call of a def by its name -/
theorem pe_callD {m : Str} {p pos : Pos} {xs : List Expr} {es : Es} {f : Nat} (ih : IH S N call k n) (g : GX S N call k EX X) (hm : m = S.fnm f) (hL : S.L.contains f = true) (hg : globB X.env.scope m = true) (hn : nameOk m = true)
    (hc : chkL (chkE S N n X.env.scope) xs es = true) : PE X (.Call (.Name m p) xs [] pos) (tG call S EX f [] (tA S call EX es)) := by
  subst hm
  obtain ⟨F, B⟩ := g.ok f (g.LLA f hL)
  obtain ⟨h1, h2⟩ := g.fn f hL
  have hr : Room k X.A := g.room.mono (Nat.le_succ k)
  cases xs with
  | nil =>
    cases es with
    | cons c0 es => simp [chkL] at hc
    | nil =>
      refine (pe_call0 F hr (glob_of hg) h1 h2 B .nil g.hx (nameOk_debug hn).1).imp fun σ H Q ⟨W, ρ, h0, hr0, er, q⟩ => ?_
      have q2 := (show QA S EX W H _ (.ok [] h0) from q) W H [] (Ext.refl W H) hr0 .nil
      show spF S call f ([] ++ []) H Q EX
      exact q2
  | cons y ys =>
    cases es with
    | nil => simp [chkL] at hc
    | cons c0 es =>
      have ha := args_ok ih g hc
      simp only [chkL, Bool.and_eq_true] at hc
      refine (pe_call F hr (glob_of hg) h1 h2 B .nil g.hx ha (nameOk_debug hn).1 (star_cons (notStar hc.1)) (stars_plain pos X.env hc.2)).imp fun σ H Q ⟨W, ρ, h0, hr0, er, q⟩ => ?_
      exact ⟨W, ρ, h0, hr0, er, q.mono fun vs H' q => by rw [List.append_nil]; exact q⟩
theorem s_call (ih : IH S N call k n) (g : GX S N call k EX X) {f : Nat} {es : Es} (h : chkE S N (n + 1) X.env.scope e (.call f es) = true) : PE X e (tE S call EX (.call f es)) := by
  simp only [chkE] at h
  split at h
  · simp only [Bool.and_eq_true, beq_iff_eq] at h
    obtain ⟨⟨⟨⟨h1, h2⟩, h3⟩, h4⟩, h5⟩ := h
    refine (pe_callD ih g h1 h2 h3 h4 h5).imp fun σ H Q ⟨W, ρ, h0, hr0, er, q⟩ => ?_
    simp only [evE] at q
    exact seqA hr0 er q fun W1 ds h1 H1 vs e1 hr1 er1 p1 q1 => call_now g hr1 p1 q1
  · cases h
theorem s_meth (ih : IH S N call k n) (g : GX S N call k EX X) {o : E} {m : Nat} {es : Es} (h : chkE S N (n + 1) X.env.scope e (.meth o m es) = true) : PE X e (tE S call EX (.meth o m es)) := by
  simp only [chkE] at h
  split at h
  · simp only [Bool.and_eq_true, beq_iff_eq, decide_eq_true_eq] at h
    obtain ⟨⟨⟨⟨⟨h1, h2⟩, h3⟩, h4⟩, h5⟩, h6⟩ := h
    subst h1
    refine (pe_methD ih g (ih.e g h5) h6 h3 h4 (by simpa using h2)).imp fun σ H Q ⟨W, ρ, h0, hr0, er, q⟩ => ?_
    simp only [evE] at q
    refine seqE hr0 er q fun W1 d h1 H1 v e1 hr1 er1 p1 q1 => ?_
    cases d <;> try exact q1.elim
    rename_i i
    simp only at q1
    split at q1
    · rename_i c fs hi
      split at q1
      · rename_i f hf
        obtain ⟨a, rfl, hm, dx, t, g1, g2, g3⟩ := hr1.ref hi p1
        obtain ⟨i1, i2, i3⟩ := g.inst c g3
        refine ⟨a, S.ca c, dx, t, f, rfl, g1, i1, i2 m f hf, mn_lookup g.mnfl m g2, g.mtLA c m f hf, ?_⟩
        exact seqA hr1 er1 q1 fun W2 ds h2 H2 vs e2 hr2 er2 p2 q2 => call_now g hr2 (.cons (p1.ext e2) p2) q2
      · exact q1.elim
    · exact q1.elim
  · cases h
theorem s_fld (ih : IH S N call k n) (g : GX S N call k EX X) {o : E} {f : Nat} (h : chkE S N (n + 1) X.env.scope e (.fld o f) = true) : PE X e (tE S call EX (.fld o f)) := by
  simp only [chkE] at h
  split at h
  · simp only [Bool.and_eq_true, beq_iff_eq] at h
    obtain ⟨⟨⟨h1, h2⟩, h3⟩, h4⟩ := h
    subst h1
    refine (pe_fld (ih.e g h4) (base_of h3)).imp fun σ H Q ⟨W, ρ, h0, hr0, er, q⟩ => ?_
    simp only [evE] at q
    refine seqE hr0 er q fun W1 d h1 H1 v e1 hr1 er1 p1 q1 => ?_
    cases d <;> try exact q1.elim
    rename_i i
    simp only at q1
    split at q1
    · rename_i c fs hi
      obtain ⟨d', ed, q2⟩ := QE.ofO q1
      obtain ⟨a, rfl, hm, dx, t, g1, g2, g3⟩ := hr1.ref hi p1
      obtain ⟨w, w1, w2⟩ := fl_lookup g.flinj f g2 ed
      obtain ⟨i1, i2, i3⟩ := g.inst c g3
      exact ⟨a, S.ca c, dx, t, w, rfl, g1, i1, i3 f h2, w1, q2 W1 H1 _ (Ext.refl W1 H1) hr1 w2⟩
    · exact q1.elim
  · cases h
/-- a new instance -/
theorem HR.inst {W : Wd} {H : Hp} {h : VH} {c : Nat} {x dx : Addr} (r : HR S W H h) (hc : S.CL.contains c = true) (hx : H x = none) (hd : H dx = none) (ne : dx ≠ x) :
    Ext W (W.add x) H (upd (upd H dx (.own x)) x (.ins (S.ca c) dx [])) ∧ HR S (W.add x) (upd (upd H dx (.own x)) x (.ins (S.ca c) dx [])) (h ++ [.ins c []]) := by
  have e1 := Ext.fresh (W := W) (o := .own x) hd
  have r1 := r.fresh (o := .own x) hd
  have hx1 : (upd H dx (.own x)) x = none := by rw [upd_ne (Ne.symm ne)]; exact hx
  exact ⟨e1.trans (Ext.add hx1), r1.add hx1 fun e => ⟨dx, [], upd_same, .nil, hc⟩⟩
theorem QR.bindE {W : Wd} {H : Hp} {Q : VK} {x : R Rv} {f : D → VH → R D} (hW : ∀ a ∈ W.hid, H a ≠ none) (q : QE S EX W H Q (x.bind fun r h => f r.d h)) :
    QR S EX W H (Then S W H fun W1 d h1 H1 => QE S EX W1 H1 Q (f d h1)) x := by
  refine QR.of hW ?_
  cases x with
  | ok v h' => exact fun W' H' v' e a b => ⟨W', v.d, h', e, a, b, QE.world q e⟩
  | exc c fs h' => exact q
  | bad => exact q
theorem s_new (ih : IH S N call k n) (g : GX S N call k EX X) {c : Nat} {es : Es} (h : chkE S N (n + 1) X.env.scope e (.new c es) = true) : PE X e (tE S call EX (.new c es)) := by
  simp only [chkE] at h
  split at h
  · simp only [Bool.and_eq_true, beq_iff_eq] at h
    obtain ⟨⟨⟨⟨⟨h1, h0⟩, h2⟩, h3⟩, h4⟩, h5⟩ := h
    subst h1
    obtain ⟨c1, c2⟩ := g.cls c h2
    -- the reading, once the arguments have come
    have now : ∀ {f : Nat}, S.C.mt c 0 = some f → ∀ {W : Wd} {H : Hp} {h : VH} {ds : List D} {vs : List V} {Q : VK}, HR S W H h → Reps S W H ds vs →
        QE S EX W H Q ((call f (.ref h.length :: ds) (h ++ [.ins c []])).bind fun r h' => match r.d with | .non => .ok (.ref h.length) h' | _ => .bad) →
        ∀ x dx, H x = none → H dx = none → dx ≠ x → spF S call f (.ref x :: vs) (upd (upd H dx (.own x)) x (.ins (S.ca c) dx [])) (fun v H2 => v = .non ∧ Q (.ref x) H2) EX := by
      intro f hf W H h ds vs Q hr p q x dx hx hd ne
      obtain ⟨e1, r1⟩ := hr.inst h2 hx hd ne
      have q1 := QR.bindE (f := fun d h' => match d with | .non => .ok (.ref h.length) h' | _ => .bad) r1.hidA (QE.world q e1)
      have px : Rep S (W.add x) (upd (upd H dx (.own x)) x (.ins (S.ca c) dx [])) (.ref h.length) (.ref x) := .ref (Wd.add_get hr)
      refine call_nowF g r1 (.cons px (p.ext e1)) ?_
      have mono : ∀ {r : R Rv} {Q1 Q2 : VK}, (∀ v H', Q1 v H' → Q2 v H') → QR S EX (W.add x) (upd (upd H dx (.own x)) x (.ins (S.ca c) dx [])) Q1 r → QR S EX (W.add x) (upd (upd H dx (.own x)) x (.ins (S.ca c) dx [])) Q2 r := by
        intro r Q1 Q2 hq z
        cases r with
        | ok v h' =>
          cases v with
          | val d => exact fun W' H' v e a b => hq _ _ (z W' H' v e a b)
          | new xs => exact fun W' H' a vs ha e r ea p => hq _ _ (z W' H' a vs ha e r ea p)
        | exc c fs h' => exact z
        | bad => exact z
      refine mono ?_ q1
      rintro v H' ⟨W1, d, h1, e2, r2, p2, q2⟩
      cases d <;> try exact q2.elim
      cases p2
      exact ⟨rfl, q2 W1 H' _ (Ext.refl W1 H') r2 (px.ext e2)⟩
    cases hf : S.C.mt c 0 with
    | none =>
      rw [hf] at h0
      cases h0
    | some f =>
      obtain ⟨F, B⟩ := g.ok f (g.mtLA c 0 f hf)
      have M := c2 f hf
      rename_i xs _
      cases xs with
      | nil =>
        cases es with
        | cons c0 es => simp [chkL] at h5
        | nil =>
          refine (pe_make0 M F g.room (glob_of h3) c1 B .nil g.hx (nameOk_debug h4).1).imp fun σ H Q ⟨W, ρ, h0, hr0, er, q⟩ => ?_
          simp only [evE, evEs, hf] at q
          show ∀ x dx, H x = none → H dx = none → dx ≠ x → _
          intro x dx hx hd ne
          exact now hf hr0 .nil q x dx hx hd ne
      | cons y ys =>
        cases es with
        | nil => simp [chkL] at h5
        | cons c0 es =>
          have ha := args_ok ih g h5
          simp only [chkL, Bool.and_eq_true] at h5
          refine (pe_make M F g.room (glob_of h3) c1 B .nil g.hx ha (nameOk_debug h4).1 (star_cons (notStar h5.1)) (stars_plain _ X.env h5.2)).imp fun σ H Q ⟨W, ρ, h0, hr0, er, q⟩ => ?_
          simp only [evE, hf] at q
          refine seqA hr0 er q fun W1 ds h1 H1 vs e1 hr1 er1 p1 q1 x dx hx hd ne => ?_
          rw [List.append_nil]
          exact now hf hr1 p1 q1 x dx hx hd ne
  · cases h
end
end Mn

set_option Elab.async false
set_option linter.all false
set_option autoImplicit false
set_option maxRecDepth 100000
set_option maxHeartbeats 4000000
/-! MnE4: isinstance, built-in functions, list(..), methods of lists, tests. -/
namespace Mn
open PySem PySem.Spec PyProof.Rows L2
section
variable {S : Sig} {N : List Str} {call : Call} {k n : Nat} {EX : XK} {X : Cx} {e : Expr}
theorem QF.world {W W1 : Wd} {H H1 : Hp} {Q : VK} {r : R (List D)} (q : QF S EX W H Q r) (e : Ext W W1 H H1) : QF S EX W1 H1 Q r := by
  cases r with
  | ok d h' => exact fun W' H' a vs ha e' b c => q W' H' a vs (by
      cases z : H a with
      | none => rfl
      | some o => exact absurd ha (e.alive a (by rw [z]; simp))) (e.trans e') b c
  | exc c fs h' => exact ⟨q.1, fun W' H' cls dd e' a b => q.2 W' H' cls dd (e.trans e') a b⟩
  | bad => exact q
/-- a value first, then a new list -/
theorem QF.bindE {W : Wd} {H : Hp} {Q : VK} {x : R D} {f : D → VH → R (List D)} (q : QF S EX W H Q (x.bind f)) :
    QE S EX W H (fun v H1 => ∃ W1 d h1, Ext W W1 H H1 ∧ HR S W1 H1 h1 ∧ Rep S W1 H1 d v ∧ QF S EX W1 H1 Q (f d h1)) x := by
  cases x with
  | ok d h' => exact fun W' H' v e a b => ⟨W', d, h', e, a, b, QF.world q e⟩
  | exc c fs h' => exact q
  | bad => exact q
theorem QF.bindA {W : Wd} {H : Hp} {Q : VK} {x : R (List D)} {f : List D → VH → R (List D)} (q : QF S EX W H Q (x.bind f)) :
    QA S EX W H (fun v H1 => ∃ W1 d h1, Ext W W1 H H1 ∧ HR S W1 H1 h1 ∧ Reps S W1 H1 d v ∧ QF S EX W1 H1 Q (f d h1)) x := by
  cases x with
  | ok d h' => exact fun W' H' v e a b => ⟨W', d, h', e, a, b, QF.world q e⟩
  | exc c fs h' => exact q
  | bad => exact q
/-- a new list as a plain value -/
theorem QF.of {W : Wd} {H : Hp} {Q : VK} {r : R (List D)} (hW : ∀ a ∈ W.hid, H a ≠ none) (k : QE S EX W H Q (r.bind fun v h => .ok (.lst v) h)) : QF S EX W H Q r := by
  cases r with
  | ok v h' => exact QN.of hW k
  | exc c fs h' => exact k
  | bad => exact k
/-! isinstance -/
def tyS : Ty → String
  | .int => "int" | .bool => "bool" | .tuple => "tuple" | .list => "list" | .str => "str"
theorem ty_boot (t : Ty) : bootBuiltins (tyName t) = some (.type (tyS t)) := by cases t <;> decide +kernel
theorem ty_name (t : Ty) : tyName t ≠ "__name__" ∧ (tyName t == ("__debug__" : Str)) = false := by cases t <;> decide +kernel
theorem ty_mem (t : Ty) : tyName t ∈ (["len", "int", "str", "sum", "max", "min", "sorted", "tuple", "dict", "isinstance", "list", "range", "reversed", "bool", "set"] : List Str) := by cases t <;> simp [tyName]
theorem ty_kit (a b : Ty) : kitB (tyS a) (tyS b) = some (a == b || (a == .bool && b == .int)) := by cases a <;> cases b <;> decide +kernel
theorem ty_kitN (b : Ty) : kitB "NoneType" (tyS b) = some false := by cases b <;> decide +kernel
theorem kit_all {K : PySem.W.Frag} (a : Ty) : ∀ ts : List Ty, PySem.W.kitAny K (.type (tyS a)) (ts.map fun t => .type (tyS t)) = some (ts.contains a || (a == .bool && ts.contains .int))
  | [] => by cases a <;> rfl
  | t :: ts => by
    refine kitAny_cons (b := (a == t || (a == .bool && t == .int))) (kit_ty (ty_kit a t)) (fun hb => ?_) (fun hb => ?_)
    · rw [kit_all a ts]
      cases a <;> cases t <;> first | (exact absurd hb (by decide)) | (simp only [List.contains_cons]; rfl) | simp [List.contains_cons]
    · cases a <;> cases t <;> first | (exact absurd hb (by decide)) | simp [List.contains_cons]
theorem kit_allN {K : PySem.W.Frag} : ∀ ts : List Ty, PySem.W.kitAny K (.type "NoneType") (ts.map fun t => .type (tyS t)) = some false
  | [] => rfl
  | t :: ts => kitAny_cons (b := false) (kit_ty (ty_kitN t)) (fun _ => kit_allN ts) (fun h => by cases h)
theorem cls_all : ∀ ts : List Ty, Paired ClsV (ts.map fun t => V.ty (tyS t)) (ts.map fun t => .type (tyS t))
  | [] => .nil
  | t :: ts => .cons (.ty _) (cls_all ts)
theorem isi_ty {K : PySem.W.Frag} {W : Wd} {H : Hp} {h : VH} {d : D} {v : V} {ts : List Ty} {b : Bool} (hK : K = S.K) (r : HR S W H h) (p : Rep S W H d v) (e : isiD h d ts = some b) :
    ∃ t, TyX K H v t ∧ PySem.W.kitAny K t (ts.map fun t => .type (tyS t)) = some b ∧ ∀ t0, ts = [t0] → PySem.W.kitOne K t (.type (tyS t0)) = some b := by
  subst hK
  have fin : ∀ {t : Ty}, tyD h d = some t → isiD h d ts = (tyD h d).map (fun t => ts.contains t || (t == .bool && ts.contains .int)) → PySem.W.kitAny S.K (.type (tyS t)) (ts.map fun t => .type (tyS t)) = some b ∧ ∀ t0, ts = [t0] → PySem.W.kitOne S.K (.type (tyS t)) (.type (tyS t0)) = some b := fun {t} e1 e2 => by
    rw [e2, e1] at e
    simp only [Option.map_some, Option.some.injEq] at e
    refine ⟨by rw [kit_all, e], ?_⟩
    rintro t0 rfl
    rw [← e]
    refine (kit_ty (ty_kit t t0)).trans ?_
    cases t <;> cases t0 <;> rfl
  cases p with
  | non =>
    refine ⟨_, .base .non, ?_⟩
    simp only [isiD, Option.some.injEq] at e
    rw [← e]
    exact ⟨kit_allN ts, fun t0 _ => kit_ty (ty_kitN t0)⟩
  | bl x => exact ⟨_, .base (.bl x), fin (t := .bool) rfl rfl⟩
  | int x => exact ⟨_, .base (.int x), fin (t := .int) rfl rfl⟩
  | str x => exact ⟨_, .base (.str _), fin (t := .str) rfl rfl⟩
  | tup q _ =>
    refine ⟨.type "tuple", ?_, fin (t := .tuple) rfl rfl⟩
    rcases q with (q | ⟨o, q⟩) | ⟨o, its, n, q, c, _⟩
    · exact .base (.tup q)
    · exact .fTuple q
    · exact .kTuple q c
  | lst q _ _ _ => exact ⟨.type "list", .base (.lst q), fin (t := .list) rfl rfl⟩
  | @ref i a q =>
    cases q0 : h[i]? with
    | none => simp [isiD, tyD, q0] at e
    | some o =>
      obtain ⟨xs, rfl⟩ | ⟨kvs, rfl⟩ | ⟨c, fs, rfl⟩ : (∃ xs, o = .lst xs) ∨ (∃ kvs, o = .dct kvs) ∨ (∃ c fs, o = .ins c fs) := by
        cases o
        · exact .inl ⟨_, rfl⟩
        · exact .inr (.inl ⟨_, rfl⟩)
        · exact .inr (.inr ⟨_, _, rfl⟩)
      · have := r.obj i a _ q q0
        obtain ⟨us, u1, u2⟩ := this
        exact ⟨.type "list", .base (.lst u1), fin (t := .list) (by simp [tyD, q0]) rfl⟩
      · simp [isiD, tyD, q0] at e
      · simp [isiD, tyD, q0] at e
  | gd n => simp [isiD, tyD] at e
  | scr _ => simp [isiD, tyD] at e
theorem TyX.up {K : PySem.W.Frag} {H : Hp} {p : Addr} {o : HO} {v : V} {t : Value} (hp : H p = none) (h : TyX K H v t) : TyX K (upd H p o) v t := by
  have up : ∀ {a : Addr} {u : HO}, H a = some u → (upd H p o) a = some u := fun {a u} z => by rw [upd_ne (ne_of_none z hp)]; exact z
  cases h with
  | base z =>
    cases z with
    | non => exact .base .non
    | bl x => exact .base (.bl x)
    | int x => exact .base (.int x)
    | str x => exact .base (.str x)
    | flt x => exact .base (.flt x)
    | lst z => exact .base (.lst (up z))
    | frz z => exact .base (.frz (up z))
    | tup z => exact .base (.tup (up z))
    | dK z => exact .base (.dK (up z))
    | dT z => exact .base (.dT (up z))
    | ins z a b c d f => exact .base (.ins (up z) a b c d f)
  | byt b => exact .byt b
  | set z => exact .set (up z)
  | kList z c => exact .kList z c
  | kTuple z c => exact .kTuple z c
  | kDict z c => exact .kDict z c
  | fTuple z => exact .fTuple (up z)
  | fDict z => exact .fDict (up z)
def tTys (ts : List Ty) : TA := fun σ H Q => Q (ts.map fun t => V.ty (tyS t)) H
theorem pe_ty (g : GX S N call k EX X) (t : Ty) {p : Pos} (h : globB X.env.scope (tyName t) = true) : PE X (.Name (tyName t) p) (tC (V.ty (tyS t))) :=
  pe_bltn (glob_of h) (g.blt _ (ty_mem t)) (ty_boot t) rfl (ty_name t).1 (ty_name t).2
theorem pa_tys (g : GX S N call k EX X) : ∀ {xs : List Expr} {ts : List Ty}, chkTys X.env.scope xs ts = true → PA X xs (tTys ts)
  | [], [], _ => pa_nil.imp fun σ H Q q => q
  | [], _ :: _, h => by simp [chkTys] at h
  | x :: xs, ts, h => by
    cases x <;> try (cases ts <;> simp [chkTys] at h)
    rename_i n p t ts
    obtain ⟨⟨h1, h2⟩, h3⟩ := h
    subst h1
    exact (pa_cons (pe_ty g t h2) (pa_tys g h3) rfl).imp fun σ H Q q => q
theorem s_isi (ih : IH S N call k n) (g : GX S N call k EX X) {a : E} {ts : List Ty} (h : chkE S N (n + 1) X.env.scope e (.isi a ts) = true) : PE X e (tE S call EX (.isi a ts)) := by
  simp only [chkE] at h
  split at h
  · rename_i m _ x t _
    simp only [Bool.and_eq_true, beq_iff_eq] at h
    obtain ⟨⟨⟨⟨h1, h2⟩, h0⟩, h3⟩, h4⟩ := h
    simp only [decide_eq_true_eq] at h0
    subst h1
    have hb : bootBuiltins "isinstance" = some (.builtin "isinstance") := by decide +kernel
    have hm := g.blt "isinstance" (by simp)
    have pa := ih.e g h3
    have fin : ∀ {σ : L2.St} {H : Hp} {Q : VK}, tE S call EX (.isi a ts) σ H Q → tE S call EX a σ H fun v H1 => ∃ t b, TyX X.K H1 v t ∧ PySem.W.kitAny X.K t (ts.map fun t => .type (tyS t)) = some b ∧ (∀ t0, ts = [t0] → PySem.W.kitOne X.K t (.type (tyS t0)) = some b) ∧ (∀ tp, H1 tp = none → ∀ zs, TyX X.K (upd H1 tp (.tup zs)) v t ∧ Q (.bl b) (upd H1 tp (.tup zs))) ∧ Q (.bl b) H1 := by
      rintro σ H Q ⟨W, ρ, h0, hr, er, q⟩
      simp only [evE] at q
      refine seqE hr er q fun W1 d h1 H1 v e1 hr1 er1 p1 q1 => ?_
      obtain ⟨d', ed, q2⟩ := QE.ofO q1
      obtain ⟨b, eb, rfl⟩ := bl_of ed
      obtain ⟨t, t1, t2, t3⟩ := isi_ty g.hK hr1 p1 eb
      exact ⟨t, b, t1, t2, t3, fun tp ht zs => ⟨TyX.up ht t1, q2 _ _ _ (Ext.fresh ht) (hr1.fresh ht) (.bl b)⟩, q2 W1 H1 _ (Ext.refl W1 H1) hr1 (.bl b)⟩
    unfold chkTy1 at h4
    split at h4
    · rename_i ys kk tp
      have pt := pe_tup (x1 := kk) (pos := tp) (pa_tys g h4)
      have ph := pa_cons pa (pa_cons pt pa_nil rfl) (star_cons (notStar h3))
      refine (pe_callB call_isiT (glob_of h2) hm hb ph (by decide) (by decide) (star_cons (notStar h3)) rfl).imp fun σ H Q q => ?_
      obtain ⟨W, ρ, h0, hr, er, q⟩ := fin q
      refine ⟨W, ρ, h0, hr, er, q.mono fun v H1 ⟨t, b, t1, t2, _, q1, _⟩ => ?_⟩
      refine ⟨?_, fun tp ht => ?_⟩
      · rw [List.length_map, sizeLine_eq]
        omega
      · exact ⟨v, tp, _, t, _, b, rfl, upd_same, cls_all _, (q1 tp ht _).1, t2, (q1 tp ht _).2⟩
    · rename_i nn pp t0
      simp only [Bool.and_eq_true, beq_iff_eq] at h4
      obtain ⟨h5, h6⟩ := h4
      subst h5
      have ph := pa_cons pa (pa_cons (pe_ty (p := pp) g t0 h6) pa_nil rfl) (star_cons (notStar h3))
      refine (pe_callB call_isi (glob_of h2) hm hb ph (by decide) (by decide) (star_cons (notStar h3)) rfl).imp fun σ H Q q => ?_
      obtain ⟨W, ρ, h0, hr, er, q⟩ := fin q
      refine ⟨W, ρ, h0, hr, er, q.mono fun v H1 ⟨t, b, t1, t2, t3, _, q1⟩ => ?_⟩
      exact ⟨v, .ty (tyS t0), t, .type (tyS t0), b, rfl, .ty _, t1, t3 t0 rfl, q1⟩
    · cases h4
  · cases h
/-! built-in functions -/
theorem s_bi (ih : IH S N call k n) (g : GX S N call k EX X) {b : Bi} {es : Es} (h : chkE S N (n + 1) X.env.scope e (.bi b es) = true) : PE X e (tE S call EX (.bi b es)) := by
  simp only [chkE] at h
  split at h
  · rename_i m _ x xs _
    simp only [Bool.and_eq_true, beq_iff_eq] at h
    obtain ⟨⟨⟨h0, h1⟩, h2⟩, h3⟩ := h
    subst h1
    have ha := args_ok ih g h3
    have hs : ∀ y p, x ≠ .Starred y p := by
      cases es with
      | nil => simp [chkL] at h3
      | cons c0 es =>
        simp only [chkL, Bool.and_eq_true] at h3
        exact notStar h3.1
    have hp : (backTo ‹Pos› (starEach xs X.env)).any (·.1) = false := by
      cases es with
      | nil => simp [chkL] at h3
      | cons c0 es =>
        simp only [chkL, Bool.and_eq_true] at h3
        exact stars_plain _ X.env h3.2
    have fin : ∀ {σ : L2.St} {H : Hp} {Q : VK}, tE S call EX (.bi b es) σ H Q → tCB (rBi S EX b) (tA S call EX es) σ H Q := by
      rintro σ H Q ⟨W, ρ, h0, hr, er, q⟩
      simp only [evE] at q
      exact seqA hr er q fun W1 ds h1 H1 vs e1 hr1 er1 p1 q1 => ⟨W1, h1, ds, hr1, p1, q1⟩
    cases b <;> (try (exact absurd h0 (by decide)))
    · exact (pe_callB (bi_len g.hK) (glob_of h2) (g.blt _ (by simp [biName])) (by decide +kernel) ha (by decide) (by decide) (star_cons hs) hp).imp fun σ H Q q => fin q
    · exact (pe_callTy bi_int (glob_of h2) (g.blt _ (by simp [biName])) (by decide +kernel) ha (by decide) (by decide) (star_cons hs) hp).imp fun σ H Q q => fin q
    · exact (pe_callTy bi_str (glob_of h2) (g.blt _ (by simp [biName])) (by decide +kernel) ha (by decide) (by decide) (star_cons hs) hp).imp fun σ H Q q => fin q
    · exact (pe_callB (bi_sum g.calm) (glob_of h2) (g.blt _ (by simp [biName])) (by decide +kernel) ha (by decide) (by decide) (star_cons hs) hp).imp fun σ H Q q => fin q
    · exact (pe_callB (bi_max1 g.calm) (glob_of h2) (g.blt _ (by simp [biName])) (by decide +kernel) ha (by decide) (by decide) (star_cons hs) hp).imp fun σ H Q q => fin q
    · exact (pe_callB (bi_min1 g.calm) (glob_of h2) (g.blt _ (by simp [biName])) (by decide +kernel) ha (by decide) (by decide) (star_cons hs) hp).imp fun σ H Q q => fin q
    · exact (pe_callB (bi_max2 g.calm) (glob_of h2) (g.blt _ (by simp [biName])) (by decide +kernel) ha (by decide) (by decide) (star_cons hs) hp).imp fun σ H Q q => fin q
    · exact (pe_callB (bi_min2 g.calm) (glob_of h2) (g.blt _ (by simp [biName])) (by decide +kernel) ha (by decide) (by decide) (star_cons hs) hp).imp fun σ H Q q => fin q
    · exact (pe_callTy (bi_tuple g.hK) (glob_of h2) (g.blt _ (by simp [biName])) (by decide +kernel) ha (by decide) (by decide) (star_cons hs) hp).imp fun σ H Q q => fin q
  · cases h
/-! list(..) -/
theorem asLT_sq {K : PySem.W.Frag} {W : Wd} {H : Hp} {h : VH} {d : D} {v : V} {xs : List D} (hK : K = S.K) (r : HR S W H h) (p : Rep S W H d v) (e : asLT h d = some xs) : ∃ a vs, v = .ref a ∧ (SqL K H a vs ∨ SqT K H a vs) ∧ Reps S W H xs vs := by
  subst hK
  by_cases ht : ∃ ys, d = .tup ys
  · obtain ⟨ys, rfl⟩ := ht
    simp only [asLT, Option.some.injEq] at e
    subst e
    cases p with
    | tup q z => exact ⟨_, _, rfl, .inr q, z⟩
  · have e' : asL h d = some xs := by
      cases d <;> first | exact e | exact absurd ⟨_, rfl⟩ ht
    obtain ⟨a, vs, h1, h2, h3⟩ := asL_sq r p e'
    exact ⟨a, vs, h1, .inl (SqL.of h2), h3⟩
theorem s_listofF (ih : IH S N call k n) (g : GX S N call k EX X) {a : E} (h : chkE S N (n + 1) X.env.scope e (.listof a) = true) : PE X e (tF S call EX (.listof a)) := by
  simp only [chkE] at h
  split at h
  · simp only [Bool.and_eq_true, beq_iff_eq] at h
    obtain ⟨⟨h1, h2⟩, h3⟩ := h
    subst h1
    refine (pe_callTy call_list_of (glob_of h2) (g.blt _ (by simp)) (by decide +kernel) (pa_cons (ih.e g h3) pa_nil (star_cons (notStar h3))) (by decide) (by decide) (star_cons (notStar h3)) rfl).imp fun σ H Q ⟨W, ρ, h0, hr, er, q⟩ => ?_
    simp only [evF] at q
    refine ⟨W, ρ, h0, hr, er, ?_⟩
    refine (QF.bindE q).mono fun v H1 ⟨W1, d, h1, e1, hr1, p1, q1⟩ => ?_
    cases hx : asLT h1 d with
    | none => rw [hx] at q1; exact q1.elim
    | some xs =>
      rw [hx] at q1
      obtain ⟨p, vs, rfl, z1, z2⟩ := asLT_sq g.hK hr1 p1 hx
      refine ⟨p, vs, rfl, z1, fun l hl => ?_⟩
      exact q1 W1 _ l vs hl (Ext.fresh hl) (hr1.hidden hl) upd_same ((z2.hide hl).ext (Ext.hidden hl))
  · cases h
end
end Mn

set_option Elab.async false
set_option linter.all false
set_option autoImplicit false
set_option maxRecDepth 100000
set_option maxHeartbeats 4000000
/-! MnE5: methods of lists, tests. -/
namespace Mn
open PySem PySem.Spec PyProof.Rows L2
section
variable {S : Sig} {N : List Str} {call : Call} {k n : Nat} {EX : XK} {X : Cx} {e : Expr}
theorem bmT_ty {K : PySem.W.Frag} {W : Wd} {H : Hp} {h : VH} {d : D} {v : V} {m : Bm} (hK : K = S.K) (r : HR S W H h) (p : Rep S W H d v) (ok : bmOk m = true) (e : bmT h m d = true) : tyV K "list" v H := by
  have fin : ∀ {i : Nat} {xs : List D}, d = .ref i → h[i]? = some (.lst xs) → tyV K "list" v H := fun {i xs} e1 e2 => by
    rw [e1] at p
    obtain ⟨a, ev, _, vs, h1, _⟩ := r.ref e2 p
    rw [ev]
    exact .inl ⟨rfl, vs, SqL.of h1⟩
  cases p with
  | lst q _ _ _ => exact .inl ⟨rfl, _, SqL.of q⟩
  | @ref i a q =>
    cases q0 : h[i]? with
    | none => cases m <;> first | (exact absurd ok (by decide)) | (simp [bmT, q0] at e)
    | some o =>
      cases o with
      | lst xs => exact fin rfl q0
      | dct _ => cases m <;> first | (exact absurd ok (by decide)) | (simp [bmT, q0] at e)
      | ins _ _ => cases m <;> first | (exact absurd ok (by decide)) | (simp [bmT, q0] at e)
  | _ => cases m <;> first | (exact absurd ok (by decide)) | (simp [bmT] at e)
theorem s_bm (ih : IH S N call k n) (g : GX S N call k EX X) {m : Bm} {o : E} {es : Es} (h : chkE S N (n + 1) X.env.scope e (.bm m o es) = true) : PE X e (tE S call EX (.bm m o es)) := by
  simp only [chkE] at h
  split at h
  · rename_i x y ap xs cp
    simp only [Bool.and_eq_true, beq_iff_eq, decide_eq_true_eq] at h
    obtain ⟨⟨⟨⟨⟨⟨h0, h1⟩, h2⟩, h3⟩, h4⟩, h5⟩, h6⟩ := h
    subst h1
    have hl : (ap.endLine == cp.line) = true := by simpa using h2
    have rd : ∀ {σ : L2.St} {H : Hp} {Q : VK}, tE S call EX (.bm m o es) σ H Q → tBM X.K "list" (rBm S EX m) (tE S call EX o) (tA S call EX es) σ H Q := by
      rintro σ H Q ⟨W, ρ, h0', hr, er, q⟩
      simp only [evE] at q
      refine seqE hr er q fun W1 d h1 H1 v e1 hr1 er1 p1 q1 => ?_
      split at q1
      · rename_i hb
        exact ⟨bmT_ty g.hK hr1 p1 h0 hb, seqA hr1 er1 q1 fun W2 ds h2 H2 vs e2 hr2 er2 p2 q2 => ⟨W2, h2, d, ds, hr2, p1.ext e2, p2, q2⟩⟩
      · exact q1.elim
    have fm := form_of cp h6 h4
    cases xs with
    | nil =>
      cases es with
      | cons c0 es => simp [chkL] at h6
      | nil =>
        cases m <;> (try (exact absurd h0 (by decide)))
        · exact (pe_bm0 PySem.F.plainAttrs_list PySem.F.slot_list_append PySem.F.type_list_append (bm_append (S := S) (EX := EX)) (ih.e g h5) (base_of h3) hl).imp fun σ H Q q => by
            obtain ⟨W, ρ, h0', hr, er, q⟩ := rd q
            exact ⟨W, ρ, h0', hr, er, q.mono fun v H1 ⟨t, W, ρ, h, a, b, q⟩ => ⟨t, (show QA S EX W H1 _ (.ok [] h) from q) W H1 [] (Ext.refl W H1) a .nil⟩⟩
        · exact (pe_bm0 PySem.F.plainAttrs_list PySem.F.slot_list_extend PySem.F.type_list_extend (bm_extend (S := S) (EX := EX)) (ih.e g h5) (base_of h3) hl).imp fun σ H Q q => by
            obtain ⟨W, ρ, h0', hr, er, q⟩ := rd q
            exact ⟨W, ρ, h0', hr, er, q.mono fun v H1 ⟨t, W, ρ, h, a, b, q⟩ => ⟨t, (show QA S EX W H1 _ (.ok [] h) from q) W H1 [] (Ext.refl W H1) a .nil⟩⟩
        · exact (pe_bm0 PySem.F.plainAttrs_list PySem.F.slot_list_pop PySem.F.type_list_pop (bm_pop (S := S) (EX := EX)) (ih.e g h5) (base_of h3) hl).imp fun σ H Q q => by
            obtain ⟨W, ρ, h0', hr, er, q⟩ := rd q
            exact ⟨W, ρ, h0', hr, er, q.mono fun v H1 ⟨t, W, ρ, h, a, b, q⟩ => ⟨t, (show QA S EX W H1 _ (.ok [] h) from q) W H1 [] (Ext.refl W H1) a .nil⟩⟩
        · exact (pe_bm0 PySem.F.plainAttrs_list PySem.F.slot_list_pop PySem.F.type_list_pop (bm_popat (S := S) (EX := EX)) (ih.e g h5) (base_of h3) hl).imp fun σ H Q q => by
            obtain ⟨W, ρ, h0', hr, er, q⟩ := rd q
            exact ⟨W, ρ, h0', hr, er, q.mono fun v H1 ⟨t, W, ρ, h, a, b, q⟩ => ⟨t, (show QA S EX W H1 _ (.ok [] h) from q) W H1 [] (Ext.refl W H1) a .nil⟩⟩
    | cons y ys =>
      cases es with
      | nil => simp [chkL] at h6
      | cons c0 es =>
        have ha := args_ok ih g h6
        simp only [chkL, Bool.and_eq_true] at h6
        have hs := star_cons (xs := ys) (env := X.env) (notStar h6.1)
        have hp := stars_plain cp X.env h6.2
        have fm' : ((backTo cp (starEach (y :: ys) X.env)).all (fun x => !x.1) && (backToKw cp (keywordEach [] X.env)).all (fun x => x.1.isSome)
            && decide ((y :: ys).length + ([] : List Keyword).length + (if ([] : List Keyword).isEmpty then 0 else 1) < 30)) = true := fm
        cases m <;> (try (exact absurd h0 (by decide)))
        · exact (pe_bm PySem.F.plainAttrs_list PySem.F.slot_list_append PySem.F.type_list_append (bm_append (S := S) (EX := EX)) (ih.e g h5) ha (base_of h3) fm' hl hs hp).imp fun σ H Q q => rd q
        · exact (pe_bm PySem.F.plainAttrs_list PySem.F.slot_list_extend PySem.F.type_list_extend (bm_extend (S := S) (EX := EX)) (ih.e g h5) ha (base_of h3) fm' hl hs hp).imp fun σ H Q q => rd q
        · exact (pe_bm PySem.F.plainAttrs_list PySem.F.slot_list_pop PySem.F.type_list_pop (bm_pop (S := S) (EX := EX)) (ih.e g h5) ha (base_of h3) fm' hl hs hp).imp fun σ H Q q => rd q
        · exact (pe_bm PySem.F.plainAttrs_list PySem.F.slot_list_pop PySem.F.type_list_pop (bm_popat (S := S) (EX := EX)) (ih.e g h5) ha (base_of h3) fm' hl hs hp).imp fun σ H Q q => rd q
  · cases h
/-! ### tests -/
def notTest : Expr → Bool
  | .UnaryOp .Not _ _ => false
  | .BoolOp _ _ _ => false
  | .IfExp _ _ _ _ => false
  | .Compare _ _ _ _ => false
  | _ => true
theorem test_plain {env : PySem.Env} (h : notTest e = true) : ∀ whole, isTrue e env whole = (do let v ← whole; standAt e.pos; holding [v] (truthy v)) := by
  intro whole
  cases e <;> try rfl
  · simp [notTest] at h
  · rename_i o x p
    cases o <;> first | rfl | (simp [notTest] at h)
  · simp [notTest] at h
  · simp [notTest] at h
theorem pt_ifX {t x y : Expr} {p : Pos} {tt ta tb : TT} (ht : PT X t tt) (ha : PT X x ta) (hb : PT X y tb) : PT X (.IfExp t x y p) (fun σ H Q => tt σ H fun c H1 => if c = true then ta σ H1 Q else tb σ H1 Q) := by
  refine ⟨fun pins s σ H Q I h => ?_⟩
  rw [arm_isTrue_IfExp]
  refine wpAny_bind (thn (ht.run pins s σ H _ I h) fun c s1 ⟨H1, I1, q1⟩ => ?_)
  cases c with
  | true => exact ha.run pins s1 σ H1 Q I1 q1
  | false => exact hb.run pins s1 σ H1 Q I1 q1
theorem pw_of {op : PySem.BoolOp} {xs : List Expr} {p : Pos} {t : TT} (h : PT X (.BoolOp op xs p) t) : PW X (.BoolOp op xs p) t := ⟨fun _ => h.run⟩
theorem t_step (ih : IH S N call k n) (g : GX S N call k EX X) {c : E} (pe : PE X e (tE S call EX c)) (h : chkE S N (n + 1) X.env.scope e c = true) : PT X e (tT S call EX c) := by
  by_cases hn : notTest e = true
  · exact pt_val pe (test_plain hn)
  · cases c with
    | not a =>
      simp only [chkE] at h
      split at h
      · refine (pt_not (ih.t g h)).imp fun σ H Q ⟨W, ρ, h, hr, er, q⟩ => ?_
        simp only [evE] at q
        refine seqE hr er q fun W1 d h1 H1 v e1 hr1 er1 p1 q1 => ?_
        cases d <;> try exact q1.elim
        cases p1
        obtain ⟨b, e2, q2⟩ := (show QE S EX W1 H1 _ (.ok (.bl _) h1) from q1) W1 H1 _ (Ext.refl W1 H1) hr1 (.bl _)
        cases e2
        exact ⟨_, rfl, q2⟩
      · cases h
    | and a b =>
      have rd : ∀ {σ : L2.St} {H : Hp} {Q : Bool → Hp → Prop}, tT S call EX (.and a b) σ H Q → tAnd (tT S call EX a) (tT S call EX b) σ H Q := by
        rintro σ H Q q
        obtain ⟨W, ρ, h, hr, er, q⟩ := and_read q
        refine ⟨W, ρ, h, hr, er, q.mono fun v H1 ⟨c, e1, q1⟩ => ⟨c, e1, ?_⟩⟩
        cases c with
        | true => exact q1
        | false =>
          obtain ⟨b, e2, q2⟩ := q1
          cases e2
          exact q2
      simp only [chkE] at h
      split at h
      · simp only [Bool.and_eq_true] at h
        exact (pw_and (ih.t g h.1) (pw_and1 (ih.t g h.2))).pt.imp fun σ H Q q => rd q
      · simp only [Bool.and_eq_true] at h
        exact (pw_and (ih.t g h.1) (pw_of (ih.t g h.2))).pt.imp fun σ H Q q => rd q
      · cases h
    | or a b =>
      have rd : ∀ {σ : L2.St} {H : Hp} {Q : Bool → Hp → Prop}, tT S call EX (.or a b) σ H Q → tOr (tT S call EX a) (tT S call EX b) σ H Q := by
        rintro σ H Q q
        obtain ⟨W, ρ, h, hr, er, q⟩ := or_read q
        refine ⟨W, ρ, h, hr, er, q.mono fun v H1 ⟨c, e1, q1⟩ => ⟨c, e1, ?_⟩⟩
        cases c with
        | false => exact q1
        | true =>
          obtain ⟨b, e2, q2⟩ := q1
          cases e2
          exact q2
      simp only [chkE] at h
      split at h
      · simp only [Bool.and_eq_true] at h
        exact (pw_or (ih.t g h.1) (pw_or1 (ih.t g h.2))).pt.imp fun σ H Q q => rd q
      · simp only [Bool.and_eq_true] at h
        exact (pw_or (ih.t g h.1) (pw_of (ih.t g h.2))).pt.imp fun σ H Q q => rd q
      · cases h
    | ite t a b =>
      simp only [chkE] at h
      split at h
      · simp only [Bool.and_eq_true] at h
        exact (pt_ifX (ih.t g h.1.1) (ih.t g h.1.2) (ih.t g h.2)).imp fun σ H Q q => ite_read q
      · cases h
    | cmp o a b =>
      simp only [chkE] at h
      split at h
      · simp only [Bool.and_eq_true, decide_eq_true_eq] at h
        obtain ⟨⟨h1, h2⟩, h3⟩ := h
        subst h1
        refine (pt_cmpR (cp_ok (EX := EX) g.hK g.units g.gd o) (ih.e g h2) (ih.e g h3) (behind_no h3)).imp fun σ H Q ⟨W, ρ, h, hr, er, q⟩ => ?_
        simp only [evE] at q
        exact two_ok (f := fun h d e => (cpD S.C.gds h o d e).map .bl) hr er q
      · cases h
    | chain a o b o2 c =>
      simp only [chkE] at h
      split at h
      · simp only [Bool.and_eq_true, decide_eq_true_eq] at h
        obtain ⟨⟨⟨⟨h1, h2⟩, h3⟩, h4⟩, h5⟩ := h
        subst h1 h2
        exact (pt_chain (cp_ok (EX := EX) g.hK g.units g.gd o) (cp_ok (EX := EX) g.hK g.units g.gd o2) (ih.e g h3) (ih.e g h4) (ih.e g h5) (by show behindInMarks _ _ = false; exact behind_no h5)).imp fun σ H Q q => chain_read q
      · cases h
    | _ =>
      exfalso
      cases e <;> first
        | exact hn rfl
        | (simp only [chkE] at h; cases h; done)
        | (simp [chkE] at h; done)
        | (rename_i o _ _; cases o <;> first | exact hn rfl | (simp [chkE] at h; done))
end
end Mn

set_option Elab.async false
set_option linter.all false
set_option autoImplicit false
set_option maxRecDepth 100000
set_option maxHeartbeats 4000000
/-! MnI: what a loop walks. -/
namespace Mn
open PySem PySem.Spec PyProof.Rows L2
/-- a later world; more may be hidden -/
structure Lt (W W' : Wd) (H H' : Hp) : Prop where
  ext : Ext ⟨W.m, W'.hid⟩ W' H H'
  hid : ∀ a ∈ W'.hid, a ∈ W.hid ∨ H a = none
theorem Lt.of {W W' : Wd} {H H' : Hp} (e : Ext W W' H H') : Lt W W' H H' := by
  obtain ⟨m, hid⟩ := W
  have q := e.hid
  exact ⟨by rw [q]; exact e, fun a ha => .inl (by rw [q] at ha; exact ha)⟩
theorem Lt.trans {W W1 W2 : Wd} {H H1 H2 : Hp} (a : Lt W W1 H H1) (b : Ext W1 W2 H1 H2) : Lt W W2 H H2 :=
  ⟨by rw [b.hid]; exact a.ext.trans b, fun x hx => a.hid x (by rw [b.hid] at hx; exact hx)⟩
mutual
theorem Rep.rehid {S : Sig} {W : Wd} {H : Hp} {hid : List Addr} (k : ∀ a ∈ hid, a ∈ W.hid ∨ H a = none) : ∀ {d : D} {v : V}, Rep S W H d v → Rep S ⟨W.m, hid⟩ H d v
  | _, _, .non => .non
  | _, _, .bl b => .bl b
  | _, _, .int i => .int i
  | _, _, .str s => .str s
  | _, _, .tup h r => .tup h (Reps.rehid k r)
  | _, _, .lst h hm hh r => .lst h hm (fun z => (k _ z).elim hh fun e => by rw [h] at e; cases e) (Reps.rehid k r)
  | _, _, .ref h => .ref h
  | _, _, .gd n => .gd n
  | _, _, .scr h => .scr h
theorem Reps.rehid {S : Sig} {W : Wd} {H : Hp} {hid : List Addr} (k : ∀ a ∈ hid, a ∈ W.hid ∨ H a = none) : ∀ {ds : List D} {vs : List V}, Reps S W H ds vs → Reps S ⟨W.m, hid⟩ H ds vs
  | _, _, .nil => .nil
  | _, _, .cons h r => .cons (Rep.rehid k h) (Reps.rehid k r)
end
theorem Rep.lt {S : Sig} {W W' : Wd} {H H' : Hp} {d : D} {v : V} (l : Lt W W' H H') (p : Rep S W H d v) : Rep S W' H' d v := (p.rehid l.hid).ext l.ext
theorem Reps.lt {S : Sig} {W W' : Wd} {H H' : Hp} {d : List D} {v : List V} (l : Lt W W' H H') (p : Reps S W H d v) : Reps S W' H' d v := (p.rehid l.hid).ext l.ext
/-- an iterator gives ds -/
def ItOk (S : Sig) (W : Wd) (H : Hp) (ds : List D) (g : Option Nat) (h : VH) (J : L2.It) : Prop := ∃ (G : Hp → Prop) (Y : Nat → Hp → V → Hp → Prop), Walk J ds.length G Y ∧
  (∀ W1 H1 h1, Lt W W1 H H1 → HR S W1 H1 h1 → stands h h1 g = true → G H1) ∧
  ∀ i H1 x H2 d, Y i H1 x H2 → ds[i]? = some d → H2 = H1 ∧ ∀ W1 h1, Lt W W1 H H1 → HR S W1 H1 h1 → stands h h1 g = true → Rep S W1 H1 d x
def QI (S : Sig) (EX : XK) (W : Wd) (H : Hp) (R' : L2.It → Hp → Prop) : R (List D × Option Nat) → Prop
  | .ok p h' => ∀ W' H' J, Ext W W' H H' → HR S W' H' h' → ItOk S W' H' p.1 p.2 h' J → R' J H'
  | .exc c fs h' => QX S EX W H c fs h'
  | .bad => False
def tI (S : Sig) (call : Call) (EX : XK) (c : It) : TI := fun σ H R => ∃ W ρ h, HR S W H h ∧ ER S W H σ ρ ∧ QI S EX W H R (evIt S.C call c ρ h)
section
variable {S : Sig} {N : List Str} {call : Call} {k n : Nat} {EX : XK} {X : Cx} {e tg : Expr}
theorem it_lst {W : Wd} {H : Hp} {h : VH} {a : Addr} {ds : List D} {vs : List V} (q : H a = some (.lst vs)) (hm : a ∉ W.m) (p : Reps S W H ds vs) : ItOk S W H ds none h (Itl S.K a) := by
  refine ⟨_, _, p.length ▸ walk_list, fun W1 H1 h1 l r s => SqL.of (l.ext.keep a _ q hm fun ps z => by cases z), fun i H1 x H2 d y hd => ⟨y.1, fun W1 h1 l r s => ?_⟩⟩
  obtain ⟨v, e1, e2⟩ := p.get hd
  rw [y.2] at e1
  cases e1
  exact e2.lt l
theorem it_tup {W : Wd} {H : Hp} {h : VH} {a : Addr} {ds : List D} {vs : List V} (q : SqT S.K H a vs) (p : Reps S W H ds vs) : ItOk S W H ds none h (Itt S.K a) := by
  refine ⟨_, _, p.length ▸ walk_tup, fun W1 H1 h1 l r s => l.ext.sqT (S := S) q, fun i H1 x H2 d y hd => ⟨y.1, fun W1 h1 l r s => ?_⟩⟩
  obtain ⟨v, e1, e2⟩ := p.get hd
  rw [y.2] at e1
  cases e1
  exact e2.lt l
theorem it_rev {W : Wd} {H : Hp} {h : VH} {a : Addr} {ds : List D} {vs : List V} (q : H a = some (.lst vs)) (hm : a ∉ W.m) (p : Reps S W H ds vs) : ItOk S W H ds.reverse none h (Itv S.K a vs.length) := by
  have wk : Walk (Itv S.K a vs.length) ds.reverse.length (fun H => SqL S.K H a vs) (fun i H x H' => H' = H ∧ vs[vs.length - 1 - i]? = some x) := by
    rw [List.length_reverse, p.length]; exact walk_rev
  refine ⟨_, _, wk, fun W1 H1 h1 l r s => SqL.of (l.ext.keep a _ q hm fun ps z => by cases z), fun i H1 x H2 d y hd => ⟨y.1, fun W1 h1 l r s => ?_⟩⟩
  have hi : i < ds.length := by
    have := (List.getElem?_eq_some_iff.mp hd).1
    simpa using this
  rw [List.getElem?_reverse hi] at hd
  obtain ⟨v, e1, e2⟩ := p.get hd
  rw [p.length, y.2] at e1
  cases e1
  exact e2.lt l
theorem it_box {W : Wd} {H : Hp} {h : VH} {a : Addr} {j : Nat} {ds : List D} (hm : W.m[j]? = some a) (hj : h[j]? = some (.lst ds)) (r : HR S W H h) : ItOk S W H ds (some j) h (Itl S.K a) := by
  have at_ : ∀ {W1 H1 h1}, Lt W W1 H H1 → HR S W1 H1 h1 → stands h h1 (some j) = true → ∃ vs, H1 a = some (.lst vs) ∧ Reps S W1 H1 ds vs := by
    intro W1 H1 h1 l r s
    simp only [stands, decide_eq_true_eq] at s
    obtain ⟨t, e⟩ := l.ext.pre
    have e' : W1.m[j]? = some a := by
      rw [e]
      exact (List.getElem?_append_left (List.getElem?_eq_some_iff.mp hm).1).trans hm
    exact r.obj j a _ e' (s.trans hj)
  refine ⟨fun H1 => ∃ vs, H1 a = some (.lst vs) ∧ vs.length = ds.length, fun i H1 x H2 => H2 = H1 ∧ ∀ vs, H1 a = some (.lst vs) → vs[i]? = some x, ⟨?_, ?_, ?_⟩, ?_, ?_⟩
  · rintro i H1 hi ⟨vs, q, hl⟩
    exact ⟨vs, vs[i], SqL.of q, by simp⟩
  · rintro H1 ⟨vs, q, hl⟩
    exact ⟨vs, SqL.of q, by omega⟩
  · rintro i H1 x H2 hi _ ⟨y1, y2⟩
    exact ⟨y1, fun vs q => y2 vs (SqL.of q)⟩
  · intro W1 H1 h1 l r s
    obtain ⟨vs, q, p⟩ := at_ l r s
    exact ⟨vs, q, p.length.symm⟩
  · rintro i H1 x H2 d ⟨y1, y2⟩ hd
    refine ⟨y1, fun W1 h1 l r s => ?_⟩
    obtain ⟨vs, q, p⟩ := at_ l r s
    obtain ⟨v, e1, e2⟩ := p.get hd
    rw [y2 vs q] at e1
    cases e1
    exact e2
theorem it_str {W : Wd} {H : Hp} {h : VH} {s : List Nat} (hs : okS s = true) : ItOk S W H (s.map fun c => .str [c]) none h (Its ⟨s.toArray⟩) := by
  have hl : (s.map fun c => D.str [c]).length = (⟨s.toArray⟩ : Str).cps.size := by simp
  refine ⟨_, _, hl ▸ walk_str, fun W1 H1 h1 l r s => True.intro, fun i H1 x H2 d y hd => ⟨y.1, fun W1 h1 l r st => ?_⟩⟩
  obtain ⟨_, c, h1, rfl⟩ := y
  have h1' : s[i]? = some c := by simpa using h1
  rw [List.getElem?_map, h1'] at hd
  simp only [Option.map_some, Option.some.injEq] at hd
  subst hd
  exact .str (okS_of (by
    intro c' hc
    rw [List.mem_singleton.mp hc]
    exact okS_mem hs c (List.mem_of_getElem? h1')) (by show 1 ≤ LINE; decide))
theorem it_fn {W : Wd} {H : Hp} {h : VH} {J : L2.It} {m : Nat} {f : Nat → Int} (w : Walk J m (fun _ => True) (YFn fun i => .int (f i))) : ItOk S W H ((List.range m).map fun i => .int (f i)) none h J := by
  refine ⟨_, _, (by simp : ((List.range m).map fun i => D.int (f i)).length = m) ▸ w, fun _ _ _ _ _ _ => True.intro, fun i H1 x H2 d y hd => ⟨y.1, fun W1 h1 l r st => ?_⟩⟩
  obtain ⟨_, rfl⟩ := y
  rw [List.getElem?_map] at hd
  cases q : (List.range m)[i]? with
  | none => rw [q] at hd; cases hd
  | some j =>
    rw [q] at hd
    have : j = i := by
      have z := List.getElem?_eq_some_iff.mp q
      obtain ⟨z1, z2⟩ := z
      simpa using z2.symm
    subst this
    cases hd
    exact .int _
/-- what comes is walked -/
theorem pi_any {te : TE} (hK : X.K = S.K) (he : PE X e te) : PI X tg e (fun σ H R => te σ H fun x H1 =>
    (∃ a, x = .ref a ∧ (∃ xs, SqL S.K H1 a xs) ∧ R (Itl S.K a) H1) ∨ (∃ a, x = .ref a ∧ (∃ xs, SqT S.K H1 a xs) ∧ R (Itt S.K a) H1) ∨ ∃ z, x = .str z ∧ R (Its z) H1) := by
  rw [← hK]
  refine ⟨fun pins s σ H R I h => ?_⟩
  refine thn (he.run pins s σ H _ I h) fun v s1 ⟨x, H1, I1, r1, q1⟩ => ?_
  rcases q1 with ⟨a, ex, ⟨xs, hq⟩, q⟩ | ⟨a, ex, ⟨xs, hq⟩, q⟩ | ⟨z, ex, q⟩
  · subst ex
    cases r1
    obtain ⟨its, rv, p, hz⟩ := I1.list hq
    refine wpAny_pyIter_list p.isList ?_
    refine ⟨s1.heap.objs.size, [s1.heap.objs.size], _, _, H1, rfl, I1.kept (t' := s1.toks) fun b o e => Heap.get?_push_of_some _ e, turn_list a _, ⟨_, Heap.get?_push_size _ rfl, rfl, rfl⟩, fun b hb => ?_, q⟩
    have e : b = s1.heap.objs.size := by simpa using hb
    subst e
    exact I1.fpOk (Nat.le_refl _) (I1.hok.fresh (Nat.le_refl _))
  · subst ex
    cases r1
    obtain ⟨its, rv, p, hz⟩ := I1.tuple hq
    refine wpAny_pyIter_tuple (show s1.heap.IsTuple a its.toArray from p) ?_
    refine ⟨s1.heap.objs.size, [s1.heap.objs.size], _, _, H1, rfl, I1.kept (t' := s1.toks) fun b o e => Heap.get?_push_of_some _ e, turn_tuple a _, ⟨_, Heap.get?_push_size _ rfl, rfl, rfl⟩, fun b hb => ?_, q⟩
    have e : b = s1.heap.objs.size := by simpa using hb
    subst e
    exact I1.fpOk (Nat.le_refl _) (I1.hok.fresh (Nat.le_refl _))
  · subst ex
    obtain ⟨t, rfl⟩ := r1
    cases ha : z.cps.all (· < 128)
    · exact wpAny_pyIter_wide ha (pi_one (tk := s1.toks) I1 _ (turn_str _ z t "str_iterator" (.inr rfl)) ⟨_, Heap.get?_push_size _ rfl, rfl, rfl⟩ q)
    · exact wpAny_pyIter_ascii ha (pi_one (tk := s1.toks) I1 _ (turn_str _ z t "str_ascii_iterator" (.inl rfl)) ⟨_, Heap.get?_push_size _ rfl, rfl, rfl⟩ q)
theorem QI.bindE {W : Wd} {H : Hp} {R' : L2.It → Hp → Prop} {x : R D} {f : D → VH → R (List D × Option Nat)} (q : QI S EX W H R' (x.bind f)) :
    QE S EX W H (fun v H1 => ∃ W1 d h1, Ext W W1 H H1 ∧ HR S W1 H1 h1 ∧ Rep S W1 H1 d v ∧ QI S EX W1 H1 R' (f d h1)) x := by
  have wd : ∀ {W1 H1 r}, QI S EX W H R' r → Ext W W1 H H1 → QI S EX W1 H1 R' r := by
    intro W1 H1 r q e
    cases r with
    | ok d h' => exact fun W' H' J e' a b => q W' H' J (e.trans e') a b
    | exc c fs h' => exact ⟨q.1, fun W' H' cls dd e' a b => q.2 W' H' cls dd (e.trans e') a b⟩
    | bad => exact q
  cases x with
  | ok d h' => exact fun W' H' v e a b => ⟨W', d, h', e, a, b, wd q e⟩
  | exc c fs h' => exact q
  | bad => exact q
def esLen : Es → Nat
  | .nil => 0
  | .cons _ r => esLen r + 1
theorem evEs_len {C : Cfg} : ∀ {es : Es} {ρ : Env} {h : VH} {ds : List D} {h' : VH}, evEs C call es ρ h = .ok ds h' → ds.length = esLen es
  | .nil, ρ, h, ds, h', e => by simp only [evEs, R.ok.injEq] at e; rw [← e.1]; rfl
  | .cons e r, ρ, h, ds, h', q => by
    simp only [evEs] at q
    cases q1 : evE C call e ρ h with
    | ok x h1 =>
      rw [q1] at q
      simp only [R.bind] at q
      cases q2 : evEs C call r ρ h1 with
      | ok xs h2 =>
        rw [q2] at q
        simp only [R.ok.injEq] at q
        rw [← q.1, List.length_cons, evEs_len q2]; rfl
      | exc c fs h2 => rw [q2] at q; cases q
      | bad => rw [q2] at q; cases q
    | exc c fs h2 => rw [q1] at q; cases q
    | bad => rw [q1] at q; cases q
theorem chkL_len {f : Expr → E → Bool} : ∀ {xs : List Expr} {es : Es}, chkL f xs es = true → xs.length = esLen es
  | [], .nil, _ => rfl
  | x :: xs, .cons e es, h => by
    simp only [chkL, Bool.and_eq_true] at h
    rw [List.length_cons, chkL_len h.2]; rfl
  | [], .cons _ _, h => by simp [chkL] at h
  | _ :: _, .nil, h => by simp [chkL] at h
theorem inB_lt {i : Int} (h : inB i = true) : -(2 ^ 62) ≤ i ∧ i < 2 ^ 62 := by
  simp only [inB, Bool.and_eq_true, decide_eq_true_eq] at h
  omega
theorem i_step (ih : IH S N call k n) (g : GX S N call k EX X) {c : It} (h : chkI S N (n + 1) X.env.scope e c = true) : PI X tg e (tI S call EX c) := by
  simp only [chkI] at h
  split at h
  · rename_i a
    simp only [Bool.and_eq_true] at h
    refine ⟨fun pins s σ H R I q => (pi_any (S := S) g.hK (ih.e g h.1)).run pins s σ H R I ?_⟩
    obtain ⟨W, ρ, h0, hr, er, q⟩ := q
    simp only [evIt] at q
    refine ⟨W, ρ, h0, hr, er, (QI.bindE q).mono fun v H1 ⟨W1, d, h1, e1, hr1, p1, q1⟩ => ?_⟩
    cases hv : valIt h1 d with
    | none => rw [hv] at q1; exact q1.elim
    | some p =>
      rw [hv] at q1
      have q1' : ∀ W' H' J, Ext W1 W' H1 H' → HR S W' H' h1 → ItOk S W' H' p.1 p.2 h1 J → R J H' := q1
      cases p1 with
      | tup z1 z2 =>
        simp only [valIt, Option.some.injEq] at hv
        subst hv
        exact .inr (.inl ⟨_, rfl, ⟨_, z1⟩, q1' W1 H1 _ (Ext.refl W1 H1) hr1 (it_tup z1 z2)⟩)
      | lst z1 z2 z3 z4 =>
        simp only [valIt, Option.some.injEq] at hv
        subst hv
        exact .inl ⟨_, rfl, ⟨_, SqL.of z1⟩, q1' W1 H1 _ (Ext.refl W1 H1) hr1 (it_lst z1 z2 z4)⟩
      | str z1 =>
        simp only [valIt, Option.some.injEq] at hv
        subst hv
        exact .inr (.inr ⟨_, rfl, q1' W1 H1 _ (Ext.refl W1 H1) hr1 (it_str z1)⟩)
      | @ref i a z =>
        cases q0 : h1[i]? with
        | none => simp [valIt, q0] at hv
        | some o =>
          cases o with
          | lst xs =>
            simp only [valIt, q0, Option.some.injEq] at hv
            subst hv
            obtain ⟨vs, g1, g2⟩ := hr1.obj i a _ z q0
            exact .inl ⟨_, rfl, ⟨_, SqL.of g1⟩, q1' W1 H1 _ (Ext.refl W1 H1) hr1 (it_box z q0 hr1)⟩
          | dct kvs => simp [valIt, q0] at hv
          | ins c fs => simp [valIt, q0] at hv
      | _ => simp [valIt] at hv
  · split at h
    · rename_i es _ m _ x xs _
      simp only [Bool.and_eq_true, beq_iff_eq] at h
      obtain ⟨⟨⟨h1, h2⟩, h9⟩, h3⟩ := h
      simp only [decide_eq_true_eq] at h9
      subst h1
      have hm := g.blt "range" (by simp)
      have hl := chkL_len h3
      have pa := args_ok ih g h3
      have rd : ∀ {σ : L2.St} {H : Hp} {R : L2.It → Hp → Prop}, tI S call EX (.range es) σ H R → tA S call EX es σ H fun vs H1 => ∃ W1 ds h1 zs, HR S W1 H1 h1 ∧ Reps S W1 H1 ds vs ∧ ds.length = esLen es ∧ rangeD ds = some zs ∧ ∀ J, ItOk S W1 H1 zs none h1 J → R J H1 := by
        rintro σ H R ⟨W, ρ, h0, hr, er, q⟩
        simp only [evIt] at q
        refine ⟨W, ρ, h0, hr, er, ?_⟩
        cases q0 : evEs S.C call es ρ h0 with
        | ok ds h' =>
          rw [q0] at q
          intro W' H' vs e a b
          cases q2 : rangeD ds with
          | none => simp only [Mn.R.bind, q2, Option.map_none] at q; exact q.elim
          | some zs =>
            simp only [Mn.R.bind, q2, Option.map_some] at q
            exact ⟨W', ds, h', zs, a, b, evEs_len q0, q2, fun J hJ => q W' H' J e a hJ⟩
        | exc c fs h' => rw [q0] at q; exact q
        | bad => rw [q0] at q; exact q
      have hs : ∀ y p, x ≠ .Starred y p := by
        cases es with
        | nil => simp [chkL] at h3
        | cons c0 es =>
          simp only [chkL, Bool.and_eq_true] at h3
          exact notStar h3.1
      have hp : (backTo ‹Pos› (starEach xs X.env)).any (·.1) = false := by
        cases es with
        | nil => simp [chkL] at h3
        | cons c0 es =>
          simp only [chkL, Bool.and_eq_true] at h3
          exact stars_plain _ X.env h3.2
      have hs2 : ∀ {x2 xs'}, xs = x2 :: xs' → ∀ y p, x2 ≠ .Starred y p := by
        rintro x2 xs' rfl
        rcases es with _ | ⟨c0, _ | ⟨c1, es⟩⟩
        · simp [chkL] at h3
        · simp [chkL] at h3
        · simp only [chkL, Bool.and_eq_true] at h3
          exact notStar h3.2.1
      rcases xs with _ | ⟨x2, _ | ⟨x3, _ | ⟨x4, xs⟩⟩⟩
      · refine ⟨fun pins s σ H R I q => (pi_range1 (tg := tg) (glob_of h2) hm pa (star_cons hs)).run pins s σ H R I ?_⟩
        obtain ⟨W, ρ, h0, hr, er, q⟩ := rd q
        refine ⟨W, ρ, h0, hr, er, q.mono fun vs H1 ⟨W1, ds, h1, zs, a, b, l, rr, kk⟩ => ?_⟩
        rw [← hl] at l
        rcases ds with _ | ⟨d, _ | ⟨d2, ds⟩⟩ <;> simp at l
        obtain ⟨v, rfl, b1⟩ := one_rep b
        have hd : ∃ j, d = .int j := by cases d <;> first | exact ⟨_, rfl⟩ | (simp [rangeD] at rr; done)
        obtain ⟨j, rfl⟩ := hd
        simp [rangeD] at rr
        cases b1
        obtain ⟨i1, rr⟩ := rr
        obtain ⟨i2, i3⟩ := inB_lt i1
        refine ⟨_, rfl, i2, i3, kk _ ?_⟩
        rw [← rr]
        have := it_fn (S := S) (W := W1) (H := H1) (h := h1) (f := fun i => (0 : Int) + i) (walk_range (lo := 0) (n := j.toNat))
        simpa using this
      · refine ⟨fun pins s σ H R I q => (pi_range2 (tg := tg) (glob_of h2) hm pa ?_ ?_).run pins s σ H R I ?_⟩
        · rw [star_cons hs, star_cons (hs2 rfl)]; rfl
        · rw [star_cons (hs2 rfl)]; rfl
        obtain ⟨W, ρ, h0, hr, er, q⟩ := rd q
        refine ⟨W, ρ, h0, hr, er, q.mono fun vs H1 ⟨W1, ds, h1, zs, a, b, l, rr, kk⟩ => ?_⟩
        rw [← hl] at l
        rcases ds with _ | ⟨d, _ | ⟨d2, _ | ⟨d3, ds⟩⟩⟩ <;> simp at l
        obtain ⟨v, u, rfl, b1, b2⟩ := two_rep b
        have hd : ∃ i j, d = .int i ∧ d2 = .int j := by cases d <;> cases d2 <;> first | exact ⟨_, _, rfl, rfl⟩ | (simp [rangeD] at rr; done)
        obtain ⟨i, j, rfl, rfl⟩ := hd
        simp [rangeD] at rr
        cases b1
        cases b2
        obtain ⟨⟨i1, j1⟩, rr⟩ := rr
        obtain ⟨i2, i3⟩ := inB_lt i1
        obtain ⟨j2, j3⟩ := inB_lt j1
        refine ⟨_, _, rfl, ⟨i2, i3, j2, j3⟩, kk _ ?_⟩
        rw [← rr]
        exact it_fn (S := S) (W := W1) (H := H1) (h := h1) (f := fun t => i + t) walk_range
      · refine ⟨fun pins s σ H R I q => (pi_range3 (tg := tg) (glob_of h2) hm pa (star_cons hs) ?_).run pins s σ H R I ?_⟩
        · exact hp
        obtain ⟨W, ρ, h0, hr, er, q⟩ := rd q
        refine ⟨W, ρ, h0, hr, er, q.mono fun vs H1 ⟨W1, ds, h1, zs, a, b, l, rr, kk⟩ => ?_⟩
        rw [← hl] at l
        rcases ds with _ | ⟨d, _ | ⟨d2, _ | ⟨d3, _ | ⟨d4, ds⟩⟩⟩⟩ <;> simp at l
        cases b with
        | cons b1 b =>
        obtain ⟨v, u, rfl, b2, b3⟩ := two_rep b
        have hd : ∃ i j c, d = .int i ∧ d2 = .int j ∧ d3 = .int c := by cases d <;> cases d2 <;> cases d3 <;> first | exact ⟨_, _, _, rfl, rfl, rfl⟩ | (simp [rangeD] at rr; done)
        obtain ⟨i, j, c, rfl, rfl, rfl⟩ := hd
        simp [rangeD] at rr
        cases b1
        cases b2
        cases b3
        obtain ⟨⟨⟨i1, j1⟩, rfl⟩, rr⟩ := rr
        obtain ⟨i2, i3⟩ := inB_lt i1
        obtain ⟨j2, j3⟩ := inB_lt j1
        refine ⟨i, j, -1, (i - j).toNat, rfl, RgC.neg i2 i3 j2 j3, kk _ ?_⟩
        rw [← rr]
        have := it_fn (S := S) (W := W1) (H := H1) (h := h1) (f := fun t => i + t * (-1)) (walk_rangeC (n := (i - j).toNat))
        simpa using this
      · simp at h9
    · cases h
  · split at h
    · rename_i a _ m _ x _
      simp only [Bool.and_eq_true, beq_iff_eq] at h
      obtain ⟨⟨h1, h2⟩, h3⟩ := h
      subst h1
      have hs := notStar h3
      refine ⟨fun pins s σ H R I q => (pi_reversed (tg := tg) (glob_of h2) (g.blt "reversed" (by simp)) (pa_cons (ih.e g h3) pa_nil (star_cons hs)) (star_cons hs)).run pins s σ H R I ?_⟩
      obtain ⟨W, ρ, h0, hr, er, q⟩ := q
      simp only [evIt] at q
      refine ⟨W, ρ, h0, hr, er, (QI.bindE q).mono fun v H1 ⟨W1, d, h1, e1, hr1, p1, q1⟩ => ?_⟩
      cases d <;> try exact q1.elim
      cases p1 with
      | lst z1 z2 z3 z4 =>
        refine ⟨_, _, rfl, SqL.of z1, ?_⟩
        rw [g.hK]
        exact (show ∀ W' H' J, Ext W1 W' H1 H' → HR S W' H' h1 → ItOk S W' H' _ none h1 J → R J H' from q1) W1 H1 _ (Ext.refl W1 H1) hr1 (it_rev z1 z2 z4)
    · cases h
  · cases h
end
end Mn

set_option Elab.async false
set_option linter.all false
set_option autoImplicit false
set_option maxRecDepth 100000
set_option maxHeartbeats 4000000
/-! MnL: a list comprehension. -/
namespace Mn
open PySem PySem.Spec PyProof.Rows L2
section
variable {S : Sig} {N : List Str} {call : Call} {k n : Nat} {EX : XK} {X : Cx} {e tg : Expr}
theorem GX.E0 (g : GX S N call k EX X) {Y : Cx} (h1 : Y.prog = X.prog) (h2 : Y.w = X.w) (h3 : Y.K = X.K) (h4 : Y.mg = X.mg) (h5 : Y.base = X.base) (h6 : Y.A = X.A) (h7 : Y.N = X.N) (h8 : Y.calm = X.calm) : GX S N call k L2.E0 Y := by
  obtain ⟨a1, a2, a3, a4, a5, a6, a7, a8, a9, a10, a11, a12, a13, a14, a15, a16, a17⟩ := g
  refine ⟨by rw [h3]; exact a1, by rw [h8]; exact a2, by rw [h6]; exact a3, by rw [h7]; exact a4, passL, ?_, by rw [h4]; exact a7, by rw [h4]; exact a8, by rw [h4, h3]; exact a9, by rw [h1, h2, h3, h4, h5]; exact a10, a11, a12, by rw [h4, h3]; exact a13, by rw [h3]; exact a14, a15, a16, a17⟩
  unfold GdOk at a6 ⊢
  rw [h2, h3]
  exact a6
/-! ### targets -/
def gNs : List Nat → TGs
  | [] => gNil
  | i :: is => gCons (gName i) (gNs is)
def gB (S : Sig) (t : T) : TG := match t with
  | .nm i => gName i
  | .tup is => gTup S.K is.length (gNs is)
  | _ => fun _ _ _ _ => False
theorem loc_of {sc : Scope} {ow : Str → Bool} {x : Str} (h : locB sc ow x = true) : Loc sc x ∧ (ow x = true ∨ sc.names.lookup x = some .local) := by
  unfold locB at h
  split at h
  · rename_i q; exact ⟨.inl q, .inr q⟩
  · rename_i q; exact ⟨.inr q, .inl h⟩
  · cases h
theorem at_of {N : List Str} {i : Nat} {n : Str} (h : (match N[i]? with | some m => m == n | none => false) = true) : N[i]? = some n := by
  split at h
  · rename_i m q
    rw [q, eq_of_beq h]
  · cases h
theorem pgs_of (hN : X.N.Nodup) (hn : X.N = N) : ∀ {xs : List Expr} {is : List Nat}, chkNames N X.env.scope X.fn xs is = true → PGs X xs (gNs is) ∧ (assignEach xs X.env).length = is.length ∧ (assignEach xs X.env).findIdx? (·.1) = none
  | [], [], _ => ⟨pgs_nil, rfl, rfl⟩
  | [], _ :: _, h => by simp [chkNames] at h
  | x :: xs, [], h => by cases x <;> simp [chkNames] at h
  | x :: xs, i :: is, h => by
    cases x with
    | Name m p =>
      simp only [chkNames, Bool.and_eq_true] at h
      obtain ⟨⟨h1, h2⟩, h3⟩ := h
      obtain ⟨q1, q2, q3⟩ := pgs_of hN hn h3
      obtain ⟨l1, l2⟩ := loc_of h2
      refine ⟨pgs_cons (pg_name hN (by rw [hn]; exact at_of h1) l1 l2) q1, ?_, ?_⟩
      · show (assignEach xs X.env).length + 1 = is.length + 1
        rw [q2]
      · show List.findIdx? (·.1) ((false, _) :: assignEach xs X.env) = none
        rw [List.findIdx?_cons]
        simp only [Bool.false_eq_true, if_false]
        rw [q3]; rfl
    | _ => simp [chkNames] at h
theorem pg_of (hc : X.calm = true) (hK : X.K = S.K) (hN : X.N.Nodup) (hn : X.N = N) {t : T} (h : chkB N X.env.scope X.fn tg t = true) : PG X tg (gB S t) := by
  cases t with
  | nm i =>
    cases tg with
    | Name m p =>
      simp only [chkB, Bool.and_eq_true] at h
      obtain ⟨l1, l2⟩ := loc_of h.2
      exact pg_name hN (by rw [hn]; exact at_of h.1) l1 l2
    | _ => simp [chkB] at h
  | tup is =>
    cases tg with
    | Tuple xs kk p =>
      simp only [chkB] at h
      obtain ⟨q1, q2, q3⟩ := pgs_of hN hn h
      have := pg_tup (pos := p) (k := kk) hc q1 q2 q3
      rw [hK] at this
      exact this
    | _ => simp [chkB] at h
  | sub a i => cases tg <;> simp [chkB] at h
  | fld o f => cases tg <;> simp [chkB] at h
theorem wipe_set (x : Option V) (i : Nat) : ∀ (own : List Nat) (σ : L2.St), i ∈ own → L2.wipe (σ.set i x) own = L2.wipe σ own := by
  have gen : ∀ (own : List Nat) (σ : L2.St), (L2.wipe (σ.set i x) own).set i none = (L2.wipe σ own).set i none := by
    intro own
    induction own with
    | nil => intro σ; simp [L2.wipe, List.set_set]
    | cons v vs ih =>
      intro σ
      simp only [L2.wipe]
      by_cases hv : v = i
      · subst hv
        rw [List.set_set, List.set_set]
        exact ih σ
      · rw [List.set_comm _ _ hv, ih σ, List.set_comm _ _ (Ne.symm hv)]
  intro own
  induction own with
  | nil => intro σ h; cases h
  | cons v vs ih =>
    intro σ h
    simp only [L2.wipe]
    by_cases hv : i = v
    · subst hv; exact gen vs σ
    · rw [ih σ ((List.mem_cons.mp h).resolve_left hv)]
theorem wipe_wipe : ∀ (own : List Nat) (σ : L2.St), L2.wipe (L2.wipe σ own) own = L2.wipe σ own := by
  have get : ∀ (own : List Nat) (σ : L2.St) (j : Nat), (L2.wipe σ own)[j]? = if j ∈ own ∧ j < σ.length then some none else σ[j]? := by
    intro own
    induction own with
    | nil => intro σ j; simp [L2.wipe]
    | cons v vs ih =>
      intro σ j
      simp only [L2.wipe]
      rw [List.getElem?_set]
      by_cases hv : v = j
      · subst hv
        rw [L2.wipe_length]
        by_cases hl : v < σ.length
        · simp [hl]
        · simp [hl]
      · rw [if_neg hv, ih σ j]
        simp [Ne.symm hv]
  intro own σ
  apply List.ext_getElem?
  intro j
  rw [get own _ j, get own σ j, L2.wipe_length]
  split <;> rfl
theorem ns_read {W : Wd} {H : Hp} : ∀ {is : List Nat} {ds : List D} {vs : List V} {σ : L2.St} {ρ ρ' : Env} {Q : L2.St → Hp → Prop}, setN ρ is ds = some ρ' → Reps S W H ds vs → ER S W H σ ρ →
    (∀ σ', ER S W H σ' ρ' → (∀ own : List Nat, (∀ i ∈ is, i ∈ own) → L2.wipe σ' own = L2.wipe σ own) → Q σ' H) → gNs is vs σ H Q
  | [], [], _, σ, ρ, ρ', Q, e, .nil, er, k => by
    cases e
    exact ⟨rfl, k σ er fun own _ => rfl⟩
  | i :: is, d :: ds, _, σ, ρ, ρ', Q, e, .cons p ps, er, k => by
    simp only [setN] at e
    refine ⟨_, _, rfl, ?_⟩
    show gNs is _ _ H Q
    refine ns_read e ps (er.set p i) fun σ' er' w => k σ' er' fun own ho => ?_
    rw [w own fun j hj => ho j (List.mem_cons_of_mem _ hj), wipe_set _ _ own σ (ho i List.mem_cons_self)]
  | [], _ :: _, _, σ, ρ, ρ', Q, e, _, er, k => by simp [setN] at e
  | _ :: _, [], _, σ, ρ, ρ', Q, e, _, er, k => by simp [setN] at e
theorem setN_len : ∀ {is : List Nat} {ds : List D} {ρ ρ' : Env}, setN ρ is ds = some ρ' → ds.length = is.length
  | [], [], _, _, _ => rfl
  | i :: is, d :: ds, ρ, ρ', e => by
    simp only [setN] at e
    rw [List.length_cons, List.length_cons, setN_len e]
  | [], _ :: _, _, _, e => by simp [setN] at e
  | _ :: _, [], _, _, e => by simp [setN] at e
theorem gB_read {W : Wd} {H : Hp} {t : T} {d : D} {v : V} {σ : L2.St} {ρ ρ' : Env} {Q : L2.St → Hp → Prop} (e : bindT t d ρ = some ρ') (p : Rep S W H d v) (er : ER S W H σ ρ)
    (k : ∀ σ', ER S W H σ' ρ' → (∀ own, tIn t own = true → L2.wipe σ' own = L2.wipe σ own) → Q σ' H) : gB S t v σ H Q := by
  cases t with
  | nm i =>
    simp only [bindT, Option.some.injEq] at e
    subst e
    exact k _ (er.set p i) fun own ho => wipe_set _ _ own σ (by simpa [tIn] using ho)
  | tup is =>
    cases d <;> try (simp [bindT] at e; done)
    simp only [bindT] at e
    cases p with
    | tup q ps =>
      refine ⟨_, _, rfl, q, ?_, ?_⟩
      · rw [← ps.length, setN_len e]
      · exact ns_read e ps er fun σ' er' w => k σ' er' fun own ho => w own fun i hi => by
          simp only [tIn, List.all_eq_true] at ho
          simpa using ho i hi
  | sub a i => simp [bindT] at e
  | fld o f => simp [bindT] at e
/-! ### the new list, hidden -/
mutual
theorem Rep.updH {W : Wd} {H : Hp} {D0 : Addr} {ys : List V} {o : HO} (hD : D0 ∈ W.hid) (hy : H D0 = some (.lst ys)) : ∀ {d : D} {v : V}, Rep S W H d v → Rep S W (upd H D0 o) d v
  | _, _, .non => .non
  | _, _, .bl b => .bl b
  | _, _, .int i => .int i
  | _, _, .str s => .str s
  | _, _, .tup h r => .tup (by
      rcases h with (h | ⟨x, h⟩) | h
      · exact .inl (.inl (by rw [upd_ne (fun z => by rw [z, hy] at h; cases h)]; exact h))
      · exact .inl (.inr ⟨x, by rw [upd_ne (fun z => by rw [z, hy] at h; cases h)]; exact h⟩)
      · exact .inr h) (Reps.updH hD hy r)
  | _, _, .lst h hm hh r => .lst (by rw [upd_ne (fun z => hh (by rw [z]; exact hD))]; exact h) hm hh (Reps.updH hD hy r)
  | _, _, .ref h => .ref h
  | _, _, .gd n => .gd n
  | _, _, .scr h => .scr (by
      rcases h with ⟨x, h⟩ | h
      · exact .inl ⟨x, by rw [upd_ne (fun z => by rw [z, hy] at h; cases h)]; exact h⟩
      · exact .inr h)
theorem Reps.updH {W : Wd} {H : Hp} {D0 : Addr} {ys : List V} {o : HO} (hD : D0 ∈ W.hid) (hy : H D0 = some (.lst ys)) : ∀ {ds : List D} {vs : List V}, Reps S W H ds vs → Reps S W (upd H D0 o) ds vs
  | _, _, .nil => .nil
  | _, _, .cons h r => .cons (Rep.updH hD hy h) (Reps.updH hD hy r)
end
theorem KvR.updH {W : Wd} {H : Hp} {D0 : Addr} {ys : List V} {o : HO} (hD : D0 ∈ W.hid) (hy : H D0 = some (.lst ys)) : ∀ {l t}, KvR S W H l t → KvR S W (upd H D0 o) l t
  | _, _, .nil => .nil
  | _, _, .cons k h r => .cons k (h.updH hD hy) (r.updH hD hy)
theorem FsR.updH {W : Wd} {H : Hp} {D0 : Addr} {ys : List V} {o : HO} (hD : D0 ∈ W.hid) (hy : H D0 = some (.lst ys)) : ∀ {l t}, FsR S W H l t → FsR S W (upd H D0 o) l t
  | _, _, .nil => .nil
  | _, _, .cons h r => .cons (h.updH hD hy) (r.updH hD hy)
theorem HR.updH {W : Wd} {H : Hp} {h : VH} {D0 : Addr} {ys : List V} {zs : HO} (hD : D0 ∈ W.hid) (hy : H D0 = some (.lst ys)) (r : HR S W H h) : HR S W (upd H D0 zs) h where
  len := r.len
  nd := r.nd
  dis := r.dis
  hidA := fun a ha => by
    unfold upd
    split
    · simp
    · exact r.hidA a ha
  obj := fun i a o h1 h2 => by
    have q := r.obj i a o h1 h2
    have ne : a ≠ D0 := fun z => r.dis a (List.mem_of_getElem? h1) (by rw [z]; exact hD)
    cases o with
    | lst xs => obtain ⟨vs, e, p⟩ := q; exact ⟨vs, by rw [upd_ne ne]; exact e, p.updH hD hy⟩
    | dct kvs => obtain ⟨t, e, p⟩ := q; exact ⟨t, by rw [upd_ne ne]; exact e, p.updH hD hy⟩
    | ins c fs => obtain ⟨dx, t, e, p, hc⟩ := q; exact ⟨dx, t, by rw [upd_ne ne]; exact e, p.updH hD hy, hc⟩
theorem Ext.updH {W W1 : Wd} {H H1 : Hp} {D0 : Addr} {o : HO} (h0 : H D0 = none) (e : Ext W W1 H H1) : Ext W W1 H (upd H1 D0 o) where
  hid := e.hid
  pre := e.pre
  new := e.new
  keep := fun a x h hm ht => by rw [upd_ne (ne_of_none h h0)]; exact e.keep a x h hm ht
  tups := fun a x h => by rw [upd_ne (ne_of_none h h0)]; exact e.tups a x h
  frzs := fun a x u h => by rw [upd_ne (ne_of_none h h0)]; exact e.frzs a x u h
  alive := fun a h => by
    unfold upd
    split
    · simp
    · exact e.alive a h
theorem Wd.eta {W : Wd} {l : List Addr} (h : W.hid = l) : W = ⟨W.m, l⟩ := by cases W; cases h; rfl
/-! ### the comprehension -/
def tCd (S : Sig) (call : Call) (EX : XK) : Eo → TT
  | .none => tYes
  | .some c => tT S call EX c
def cdF (C : Cfg) (call : Call) : Eo → Env → VH → R D
  | .none => fun _ h => .ok (.bl true) h
  | .some c => fun ρ h => evE C call c ρ h
theorem cd_read {W : Wd} {H : Hp} {σ : L2.St} {ρ : Env} {h h' : VH} {cond : Eo} {b : Bool} {K : Bool → Hp → Prop} (hr : HR S W H h) (er : ER S W H σ ρ) (e : cdF S.C call cond ρ h = .ok (.bl b) h')
    (k : ∀ W3 H3, Ext W W3 H H3 → HR S W3 H3 h' → K b H3) : tCd S call L2.E0 cond σ H K := by
  cases cond with
  | none =>
    simp only [cdF, R.ok.injEq, D.bl.injEq] at e
    obtain ⟨e1, e2⟩ := e
    subst e1 e2
    exact k W H (Ext.refl W H) hr
  | some c =>
    refine ⟨W, ρ, h, hr, er, ?_⟩
    simp only [cdF] at e
    rw [e]
    intro W3 H3 v e3 hr3 p3
    cases p3
    exact ⟨b, rfl, k W3 H3 e3 hr3⟩
theorem own_snd {N : List Str} : ∀ own : List Nat, (ownN N own).map (·.2) = own
  | [] => rfl
  | i :: is => by rw [ownN, List.map_cons, own_snd is]
theorem lc_parts (ih : IH S N call k n) (ii : ∀ {EX : XK} {X : Cx} {e tg : Expr} {c : It}, GX S N call k EX X → chkI S N n X.env.scope e c = true → PI X tg e (tI S call EX c)) (g : GX S N call k EX X)
    {elt : E} {t : T} {it : It} {cond : Eo} {own : List Nat} (h : chkE S N (n + 1) X.env.scope e (.lc elt t it cond own) = true) :
    ∃ x tg iter ifs scope pos, e = .ListComp x [⟨tg, iter, ifs, 0⟩] scope pos ∧ X.N.Nodup ∧ PI X tg iter (tI S call EX it) ∧ BlkOk X.N X.env.scope scope (ownN N own) ∧
      (∀ (s : Shared) (H : Hp) (C : Addr) (cl : List (Str × Addr)) (fp : List Addr), PG (X.blk s H scope (compEnvC scope cl C X.env) fp) tg (gB S t)) ∧
      (∀ (s : Shared) (H : Hp) (C : Addr) (cl : List (Str × Addr)) (fp : List Addr), PTs (X.blk s H scope (compEnvC scope cl C X.env) fp) ifs (tCd S call L2.E0 cond)) ∧
      (∀ (s : Shared) (H : Hp) (C : Addr) (cl : List (Str × Addr)) (fp : List Addr), PE (X.blk s H scope (compEnvC scope cl C X.env) fp) x (tE S call L2.E0 elt)) ∧
      (∀ x, foldedSetIterable iter X.env x = pure x) ∧
      ∀ σ H Q, tF S call EX (.lc elt t it cond own) σ H Q → tLc (tI S call EX it) (gB S t) (tCd S call L2.E0 cond) (tE S call L2.E0 elt) ((ownN N own).map (·.2)) σ H Q := by
  simp only [chkE] at h
  split at h
  · rename_i x tg iter ifs scope pos
    simp only [Bool.and_eq_true, decide_eq_true_eq] at h
    obtain ⟨⟨⟨⟨⟨⟨⟨h1, ho⟩, h3⟩, h4⟩, h5⟩, h6⟩, h7⟩, h8⟩ := h
    have hN : X.N.Nodup := by rw [g.hN]; exact h1
    have bo : BlkOk X.N X.env.scope scope (ownN N own) := by rw [g.hN]; exact blkOk_by h4
    have gx : ∀ (s : Shared) (H : Hp) (C : Addr) (cl : List (Str × Addr)) (fp : List Addr), GX S N call k L2.E0 (X.blk s H scope (compEnvC scope cl C X.env) fp) := fun s H C cl fp => g.E0 rfl rfl rfl rfl rfl rfl rfl rfl
    have hs : ∀ x, foldedSetIterable iter X.env x = pure x := by
      intro x
      cases iter <;> first | rfl | (simp at h3)
    have pg : ∀ (s : Shared) (H : Hp) (C : Addr) (cl : List (Str × Addr)) (fp : List Addr), PG (X.blk s H scope (compEnvC scope cl C X.env) fp) tg (gB S t) := fun s H C cl fp =>
      pg_of (X := X.blk s H scope (compEnvC scope cl C X.env) fp) (N := N) g.calm g.hK hN g.hN h5
    have pt : ∀ (s : Shared) (H : Hp) (C : Addr) (cl : List (Str × Addr)) (fp : List Addr), PTs (X.blk s H scope (compEnvC scope cl C X.env) fp) ifs (tCd S call L2.E0 cond) := fun s H C cl fp => by
      rcases ifs with _ | ⟨i, _ | ⟨i2, ifs⟩⟩
      · cases cond with
        | none => exact pts_nil
        | some c => simp [chkOn] at h7
      · cases cond with
        | none => simp [chkOn] at h7
        | some c => exact pts_one (ih.t (gx s H C cl fp) (show chkE S N n (relS scope X.env.scope) i c = true from h7))
      · cases cond <;> simp [chkOn] at h7
    refine ⟨_, _, _, _, _, _, rfl, hN, ii g h6, bo, pg, pt, fun s H C cl fp => ih.e (gx s H C cl fp) h8, hs, fun σ H Q ⟨W, ρ, h0, hr, er, q⟩ => ?_⟩
    simp only [evF] at q
    refine ⟨W, ρ, h0, hr, er, ?_⟩
    rw [own_snd]
    cases q0 : evIt S.C call it ρ h0 with
    | exc c fs h' => rw [q0] at q; exact q
    | bad => rw [q0] at q; exact q
    | ok p h' =>
      rw [q0] at q
      simp only [Mn.R.bind] at q
      intro W' H' J e' hr' io D0 hD
      have q' : QF S EX W' H' Q (lcL p.2 h' (evE S.C call elt) (cdF S.C call cond) t (Mn.wipe ρ own) p.1 [] h') := by
        cases cond <;> exact QF.world q e'
      clear q
      obtain ⟨G, Y, wk, hG, hY⟩ := io
      have er' : ER S W' H' (L2.wipe σ own) (Mn.wipe ρ own) := (er.ext e').wipe own
      refine lc_it wk (fun i H2 => ∃ m acc accV h2, Lt W' ⟨m, D0 :: W'.hid⟩ H' H2 ∧ HR S ⟨m, D0 :: W'.hid⟩ H2 h2 ∧ H2 D0 = some (.lst accV) ∧ Reps S ⟨m, D0 :: W'.hid⟩ H2 acc accV ∧
        QF S EX W' H' Q (lcL p.2 h' (evE S.C call elt) (cdF S.C call cond) t (Mn.wipe ρ own) (p.1.drop i) acc h2)) ?_ ?_ ?_ ?_
      · refine ⟨W'.m, [], [], h', ⟨Ext.hidden hD, fun a ha => ?_⟩, hr'.hidden hD, upd_same, .nil, q'⟩
        rcases List.mem_cons.mp ha with rfl | ha
        · exact .inr hD
        · exact .inl ha
      · rintro i H2 hi ⟨m, acc, accV, h2, l, hr2, hD2, ps, q2⟩
        refine hG _ H2 h2 l hr2 ?_
        generalize p.1.drop i = xs at q2
        rcases xs with _ | ⟨d, ds⟩
        · simp only [lcL] at q2
          split at q2
          · assumption
          · exact q2.elim
        · simp only [lcL] at q2
          split at q2
          · assumption
          · exact q2.elim
      · rintro i x H2 H2' hi ⟨m, acc, accV, h2, l, hr2, hD2, ps, q2⟩ y
        have ei : p.1[i]? = some p.1[i] := by simp [hi]
        obtain ⟨rfl, rp⟩ := hY i H2 x H2' _ y ei
        rw [List.drop_eq_getElem_cons hi] at q2
        simp only [lcL] at q2
        split at q2
        rotate_left
        · exact q2.elim
        rename_i st
        have pd := rp _ h2 l hr2 st
        cases hb : bindT t p.1[i] (Mn.wipe ρ own) with
        | none => rw [hb] at q2; exact q2.elim
        | some ρ' =>
        rw [hb] at q2
        simp only at q2
        have er2 : ER S ⟨m, D0 :: W'.hid⟩ H2' (L2.wipe σ own) (Mn.wipe ρ own) := ⟨er'.len, fun j d ej => let ⟨v, a, b⟩ := er'.at_ j d ej; ⟨v, a, b.lt l⟩⟩
        refine gB_read hb pd er2 fun σ2 er3 w => ⟨by rw [w own ho, wipe_wipe], ?_⟩
        have nm : D0 ∉ m := fun z => hr2.dis D0 z List.mem_cons_self
        cases qc : cdF S.C call cond ρ' h2 with
        | exc c fs h3 => rw [qc] at q2; exact q2.elim
        | bad => rw [qc] at q2; exact q2.elim
        | ok b h3 =>
        rw [qc] at q2
        cases b <;> try exact q2.elim
        rename_i b
        refine cd_read hr2 er3 qc fun W3 H3 e3 hr3 => ?_
        have w3 : W3 = ⟨W3.m, D0 :: W'.hid⟩ := Wd.eta e3.hid
        have hD3 : H3 D0 = some (.lst accV) := e3.keep D0 _ hD2 nm fun ps z => by cases z
        have l3 := l.trans e3
        cases b with
        | false =>
          rw [if_neg Bool.false_ne_true]
          refine ⟨W3.m, acc, accV, h3, by rw [← w3]; exact l3, by rw [← w3]; exact hr3, hD3, by rw [← w3]; exact ps.ext e3, q2⟩
        | true =>
          rw [if_pos rfl]
          cases qe : evE S.C call elt ρ' h3 with
          | exc c fs h4 => simp only [qe] at q2; exact q2.elim
          | bad => simp only [qe] at q2; exact q2.elim
          | ok y0 h4 =>
          simp only [qe] at q2
          have q2 : QF S EX W' H' Q (if acc.length < LINE then lcL p.2 h' (evE S.C call elt) (cdF S.C call cond) t (Mn.wipe ρ own) (p.1.drop (i + 1)) (acc ++ [y0]) h4 else .bad) := q2
          split at q2
          rotate_left
          · exact q2.elim
          rename_i hlen
          refine ⟨W3, ρ', h3, hr3, er3.ext e3, ?_⟩
          rw [qe]
          intro W4 H4 v e4 hr4 p4
          have w4 : W4 = ⟨W4.m, D0 :: W'.hid⟩ := Wd.eta (e4.hid.trans e3.hid)
          have nm3 : D0 ∉ W3.m := fun z => hr3.dis D0 z (by rw [w3]; exact List.mem_cons_self)
          have hD4 : H4 D0 = some (.lst accV) := e4.keep D0 _ hD3 nm3 fun ps z => by cases z
          have l4 := l3.trans e4
          have ps4 := (ps.ext e3).ext e4
          have mh : D0 ∈ W4.hid := by rw [w4]; exact List.mem_cons_self
          refine ⟨accV, hD4, by rw [← ps.length, ← LINE_eq]; exact hlen, W4.m, acc ++ [y0], accV ++ [v], h4, ?_, ?_, upd_same, ?_, q2⟩
          · rw [← w4]
            exact ⟨l4.ext.updH hD, l4.hid⟩
          · rw [← w4]; exact hr4.updH mh hD4
          · rw [← w4]; exact (ps4.append (.cons p4 .nil)).updH mh hD4
      · rintro H2 ⟨m, acc, accV, h2, l, hr2, hD2, ps, q2⟩
        rw [List.drop_length] at q2
        simp only [lcL] at q2
        split at q2
        rotate_left
        · exact q2.elim
        exact q2 ⟨m, W'.hid⟩ H2 D0 accV hD ⟨rfl, l.ext.pre, l.ext.new, l.ext.keep, l.ext.tups, l.ext.frzs, l.ext.alive⟩ hr2 hD2 ps
  · cases h
theorem s_lcF (ih : IH S N call k n) (ii : ∀ {EX : XK} {X : Cx} {e tg : Expr} {c : It}, GX S N call k EX X → chkI S N n X.env.scope e c = true → PI X tg e (tI S call EX c)) (g : GX S N call k EX X)
    {elt : E} {t : T} {it : It} {cond : Eo} {own : List Nat} (h : chkE S N (n + 1) X.env.scope e (.lc elt t it cond own) = true) : PE X e (tF S call EX (.lc elt t it cond own)) := by
  obtain ⟨x, tg, iter, ifs, scope, pos, rfl, hN, hi, bo, pg, pt, pe, hs, rd⟩ := lc_parts ih ii g h
  exact (pe_lc g.calm hN hi bo pg pt pe hs).imp rd
end
end Mn

set_option Elab.async false
set_option linter.all false
set_option autoImplicit false
set_option maxRecDepth 100000
set_option maxHeartbeats 4000000
/-! MnF: new lists; all expressions. -/
namespace Mn
open PySem PySem.Spec PyProof.Rows L2
section
variable {S : Sig} {N : List Str} {call : Call} {k n : Nat} {EX : XK} {X : Cx} {e tg : Expr}
def frB : E → Bool
  | .call _ _ => true | .meth _ _ _ => true | .lst _ => true | .lc _ _ _ _ _ => true | .listof _ => true | .op .add _ _ => true | _ => false
theorem QF.toR {W : Wd} {H : Hp} {Q : VK} {x : R Rv} (q : QF S EX W H Q (x.bind fun r h => match r with | .new xs => .ok xs h | .val _ => .bad)) : QR S EX W H Q x := by
  cases x with
  | ok v h' =>
    cases v with
    | val d => exact q.elim
    | new xs => exact q
  | exc c fs h' => exact q
  | bad => exact q
theorem seqAF {es : Es} {W : Wd} {H : Hp} {σ : L2.St} {ρ : Env} {h : VH} {Q : VK} {Q' : List V → Hp → Prop} {f : List D → VH → R (List D)} (hr : HR S W H h) (er : ER S W H σ ρ) (q : QF S EX W H Q ((evEs S.C call es ρ h).bind f))
    (k : ∀ W1 ds h1 H1 vs, Ext W W1 H H1 → HR S W1 H1 h1 → ER S W1 H1 σ ρ → Reps S W1 H1 ds vs → QF S EX W1 H1 Q (f ds h1) → Q' vs H1) : tA S call EX es σ H Q' :=
  ⟨W, ρ, h, hr, er, (QF.bindA q).mono fun v H1 ⟨W1, d, h1, e1, hr1, p1, q1⟩ => k W1 d h1 H1 v e1 hr1 (er.ext e1) p1 q1⟩
theorem seqEF {c : E} {W : Wd} {H : Hp} {σ : L2.St} {ρ : Env} {h : VH} {Q Q' : VK} {f : D → VH → R (List D)} (hr : HR S W H h) (er : ER S W H σ ρ) (q : QF S EX W H Q ((evE S.C call c ρ h).bind f))
    (k : ∀ W1 d h1 H1 v, Ext W W1 H H1 → HR S W1 H1 h1 → ER S W1 H1 σ ρ → Rep S W1 H1 d v → QF S EX W1 H1 Q (f d h1) → Q' v H1) : tE S call EX c σ H Q' :=
  ⟨W, ρ, h, hr, er, (QF.bindE q).mono fun v H1 ⟨W1, d, h1, e1, hr1, p1, q1⟩ => k W1 d h1 H1 v e1 hr1 (er.ext e1) p1 q1⟩
/-- a new list laid -/
theorem QF.lay {W : Wd} {H : Hp} {Q : VK} {xs : List D} {vs : List V} {h : VH} (q : QF S EX W H Q (.ok xs h)) (r : HR S W H h) (p : Reps S W H xs vs) : ∀ l, H l = none → Q (.ref l) (upd H l (.lst vs)) := fun l hl =>
  (show QN S W H Q xs h from q) W _ l vs hl (Ext.fresh hl) (r.hidden hl) upd_same ((p.hide hl).ext (Ext.hidden hl))
theorem s_callF (ih : IH S N call k n) (g : GX S N call k EX X) {f : Nat} {es : Es} (h : chkE S N (n + 1) X.env.scope e (.call f es) = true) : PE X e (tF S call EX (.call f es)) := by
  simp only [chkE] at h
  split at h
  · simp only [Bool.and_eq_true, beq_iff_eq] at h
    obtain ⟨⟨⟨⟨h1, h2⟩, h3⟩, h4⟩, h5⟩ := h
    refine (pe_callD ih g h1 h2 h3 h4 h5).imp fun σ H Q ⟨W, ρ, h0, hr0, er, q⟩ => ?_
    simp only [evF] at q
    exact seqAF hr0 er q fun W1 ds h1 H1 vs e1 hr1 er1 p1 q1 => call_nowF g hr1 p1 (QF.toR q1)
  · cases h
theorem s_methF (ih : IH S N call k n) (g : GX S N call k EX X) {o : E} {m : Nat} {es : Es} (h : chkE S N (n + 1) X.env.scope e (.meth o m es) = true) : PE X e (tF S call EX (.meth o m es)) := by
  simp only [chkE] at h
  split at h
  · simp only [Bool.and_eq_true, beq_iff_eq, decide_eq_true_eq] at h
    obtain ⟨⟨⟨⟨⟨h1, h2⟩, h3⟩, h4⟩, h5⟩, h6⟩ := h
    subst h1
    refine (pe_methD ih g (ih.e g h5) h6 h3 h4 (by simpa using h2)).imp fun σ H Q ⟨W, ρ, h0, hr0, er, q⟩ => ?_
    simp only [evF] at q
    refine seqEF hr0 er q fun W1 d h1 H1 v e1 hr1 er1 p1 q1 => ?_
    cases d <;> try exact q1.elim
    rename_i i
    simp only at q1
    split at q1
    · rename_i c fs hi
      split at q1
      · rename_i f hf
        obtain ⟨a, rfl, hm, dx, t, g1, g2, g3⟩ := hr1.ref hi p1
        obtain ⟨i1, i2, i3⟩ := g.inst c g3
        refine ⟨a, S.ca c, dx, t, f, rfl, g1, i1, i2 m f hf, mn_lookup g.mnfl m g2, g.mtLA c m f hf, ?_⟩
        exact seqAF hr1 er1 q1 fun W2 ds h2 H2 vs e2 hr2 er2 p2 q2 => call_nowF g hr2 (.cons (p1.ext e2) p2) (QF.toR q2)
      · exact q1.elim
    · exact q1.elim
  · cases h
theorem s_lstF (ih : IH S N call k n) (g : GX S N call k EX X) {es : Es} (h : chkE S N (n + 1) X.env.scope e (.lst es) = true) : PE X e (tF S call EX (.lst es)) := by
  simp only [chkE] at h
  split at h
  · refine (pe_lst (args_ok ih g h)).imp fun σ H Q ⟨W, ρ, h, hr, er, q⟩ => ?_
    simp only [evF] at q
    refine seqAF hr er q fun W1 ds h1 H1 vs e1 hr1 er1 p1 q1 => ?_
    split at q1
    · rename_i hz
      exact ⟨by rw [← p1.length, ← LINE_eq]; exact hz, QF.lay q1 hr1 p1⟩
    · exact q1.elim
  · cases h
theorem s_addF (ih : IH S N call k n) (g : GX S N call k EX X) {a b : E} (h : chkE S N (n + 1) X.env.scope e (.op .add a b) = true) : PE X e (tF S call EX (.op .add a b)) := by
  simp only [chkE] at h
  split at h
  · simp only [Bool.and_eq_true, decide_eq_true_eq] at h
    obtain ⟨⟨h1, h2⟩, h3⟩ := h
    subst h1
    refine (pe_op op_cat (ih.e g h2) (ih.e g h3)).imp fun σ H Q ⟨W, ρ, h, hr, er, q⟩ => ?_
    simp only [evF] at q
    refine seqEF hr er q fun W1 d h1 H1 v e1 hr1 er1 p1 q1 => seqEF hr1 er1 q1 fun W2 d2 h2 H2 v2 e2 hr2 er2 p2 q2 => ?_
    cases z1 : asL h2 d with
    | none => rw [z1] at q2; exact q2.elim
    | some xs =>
      cases z2 : asL h2 d2 with
      | none => rw [z1, z2] at q2; exact q2.elim
      | some ys =>
        rw [z1, z2] at q2
        simp only at q2
        split at q2
        · rename_i hz
          obtain ⟨a, vs, ea, g1, g2⟩ := asL_sq hr2 (p1.ext e2) z1
          obtain ⟨b, us, eb, g3, g4⟩ := asL_sq hr2 p2 z2
          exact ⟨a, b, vs, us, ea, eb, g1, g3, by rw [← g2.length, ← g4.length, ← LINE_eq]; exact hz, QF.lay q2 hr2 (g2.append g4)⟩
        · exact q2.elim
  · cases h
theorem R.bind_assoc {α β γ : Type} (x : R α) (f : α → VH → R β) (g : β → VH → R γ) : (x.bind f).bind g = x.bind fun a h => (f a h).bind g := by cases x <;> rfl
theorem s_lc (ih : IH S N call k n) (ii : ∀ {EX : XK} {X : Cx} {e tg : Expr} {c : It}, GX S N call k EX X → chkI S N n X.env.scope e c = true → PI X tg e (tI S call EX c)) (g : GX S N call k EX X)
    {elt : E} {t : T} {it : It} {cond : Eo} {own : List Nat} (h : chkE S N (n + 1) X.env.scope e (.lc elt t it cond own) = true) : PE X e (tE S call EX (.lc elt t it cond own)) :=
  (s_lcF ih ii g h).imp fun σ H Q ⟨W, ρ, h, hr, er, q⟩ => ⟨W, ρ, h, hr, er, QF.of hr.hidA (by
    simp only [evE] at q
    simp only [evF, R.bind_assoc]
    exact q)⟩
theorem s_listof (ih : IH S N call k n) (g : GX S N call k EX X) {a : E} (h : chkE S N (n + 1) X.env.scope e (.listof a) = true) : PE X e (tE S call EX (.listof a)) :=
  (s_listofF ih g h).imp fun σ H Q ⟨W, ρ, h, hr, er, q⟩ => ⟨W, ρ, h, hr, er, QF.of hr.hidA (by
    simp only [evE] at q
    simp only [evF, R.bind_assoc]
    have e : (fun (x : D) (h1 : VH) => (R.ofO (asLT h1 x) h1).bind fun v h => (.ok (.lst v) h : R D)) = fun x h1 => R.ofO ((asLT h1 x).map D.lst) h1 := by
      funext x h1
      cases asLT h1 x <;> rfl
    rw [e]
    exact q)⟩
structure AllE (S : Sig) (N : List Str) (call : Call) (k n : Nat) : Prop where
  ih : IH S N call k n
  i : ∀ {EX : XK} {X : Cx} {e tg : Expr} {c : It}, GX S N call k EX X → chkI S N n X.env.scope e c = true → PI X tg e (tI S call EX c)
  f : ∀ {EX : XK} {X : Cx} {e : Expr} {c : E}, GX S N call k EX X → frB c = true → chkE S N n X.env.scope e c = true → PE X e (tF S call EX c)
theorem e_step (a : AllE S N call k n) (g : GX S N call k EX X) {c : E} (h : chkE S N (n + 1) X.env.scope e c = true) : PE X e (tE S call EX c) := by
  have ih := a.ih
  cases c with
  | c d => exact s_const g h
  | g x d => exact s_glob g h
  | v i => exact s_var g h
  | tup es => exact s_tup ih g h
  | lst es => exact s_lst ih g h
  | dct ks vs => simp [chkE] at h
  | op o x y => exact s_op ih g h
  | neg x => exact s_neg ih g h
  | not x => exact s_not ih g h
  | and x y => exact s_and ih g h
  | or x y => exact s_or ih g h
  | ite t x y => exact s_ite ih g h
  | cmp o x y => exact s_cmp ih g h
  | chain x o y o2 z => exact s_chain ih g h
  | ix x i => exact s_ix ih g h
  | sl x lo hi => exact s_sl ih g h
  | rev x => exact s_rev ih g h
  | call f es => exact s_call ih g h
  | meth o m es => exact s_meth ih g h
  | new c es => exact s_new ih g h
  | fld o f => exact s_fld ih g h
  | isi x ts => exact s_isi ih g h
  | bi b es => exact s_bi ih g h
  | listof x => exact s_listof ih g h
  | bm m o es => exact s_bm ih g h
  | lc elt t it cond own => exact s_lc ih a.i g h
theorem f_step (a : AllE S N call k n) (g : GX S N call k EX X) {c : E} (hf : frB c = true) (h : chkE S N (n + 1) X.env.scope e c = true) : PE X e (tF S call EX c) := by
  have ih := a.ih
  cases c with
  | call f es => exact s_callF ih g h
  | meth o m es => exact s_methF ih g h
  | lst es => exact s_lstF ih g h
  | lc elt t it cond own => exact s_lcF ih a.i g h
  | listof x => exact s_listofF ih g h
  | op o x y => cases o <;> first | exact s_addF ih g h | (simp [frB] at hf)
  | _ => simp [frB] at hf
theorem allE : ∀ n, AllE S N call k n
  | 0 => ⟨⟨fun _ h => by simp [chkE] at h, fun _ h => by simp [chkE] at h⟩, fun _ h => by simp [chkI] at h, fun _ _ h => by simp [chkE] at h⟩
  | n + 1 => by
    have a := allE n
    exact ⟨⟨fun g h => e_step a g h, fun g h => t_step a.ih g (e_step a g h) h⟩, fun g h => i_step a.ih g h, fun g hf h => f_step a g hf h⟩
end
end Mn

set_option Elab.async false
set_option linter.all false
set_option autoImplicit false
set_option maxRecDepth 100000
set_option maxHeartbeats 4000000
/-! MnS: statements. -/
namespace Mn
open PySem PySem.Spec PyProof.Rows L2
/-! ### the checker -/
def notComp : Expr → Bool
  | .ListComp _ _ _ _ => false | .SetComp _ _ _ _ => false | .DictComp _ _ _ _ _ => false | _ => true
def notTup : Expr → Bool
  | .Tuple _ _ _ => false | _ => true
def notSet : Expr → Bool
  | .Set _ _ _ => false | _ => true
def lcSet (sc : Scope) (e : Expr) (y : Str) (py : Pos) : Bool := match e with
  | .ListComp _ _ scope pos => (match sc.names.lookup y with | some .local => true | _ => false) && py.line == pos.line && !(scope.names.any fun (n, k) => n == y && (k == .local || k == .cell))
  | _ => false
def all_ : Str → Bool := fun _ => true
def nameAt (N : List Str) (i : Nat) (n : Str) : Bool := match N[i]? with | some m => m == n | none => false
def isLocal (sc : Scope) (y : Str) : Bool := match sc.names.lookup y with | some .local => true | _ => false
def isLC : Expr → Bool
  | .ListComp _ _ _ _ => true | _ => false
/-- two names, one of them not a plain local -/
def cellIn (sc : Scope) : List Expr → Bool
  | [.Name x _, .Name y _] => !(sc.names.lookup x == some .local) || !(sc.names.lookup y == some .local)
  | _ => false
/-- target = value -/
def chkA (S : Sig) (N : List Str) (m : Nat) (sc : Scope) (v : Expr) : T → Expr → Bool
  | .nm i, .Name y py => nameAt N i y && locB sc all_ y && (notComp v || isLC v)
  | .tup is, .Tuple xs _ _ => chkNames N sc all_ xs is && (notTup v || cellIn sc xs)
  | .sub a i, .Subscript o x _ => chkE S N m sc o a && notSlice x && chkE S N m sc x i
  | .fld o f, .Attribute x y _ => y == S.fl f && S.FL.contains f && chkE S N m sc x o
  | _, _ => false
mutual
def chkS (S : Sig) (N : List Str) (m : Nat) (sc : Scope) : Mn.S → Stmt → Bool
  | .asg t e, st => (match st with | .Assign [tg] v _ => chkE S N m sc v e && chkA S N m sc v t tg | _ => false)
  | .asgB t e, st => (match st with | .Assign [tg] v _ => frB e && chkE S N m sc v e && chkA S N m sc v t tg | _ => false)
  | .ex e, st => (match st with | .Expr v _ => chkE S N m sc v e && notComp v | _ => false)
  | .ret e, st => (match st with | .Return (some v) _ => chkE S N m sc v e | .Return none _ => (match e with | .c .non => true | _ => false) | _ => false)
  | .retF e, st => (match st with | .Return (some v) _ => frB e && chkE S N m sc v e | _ => false)
  | .ite c a b, st => (match st with | .If x p q _ => chkE S N m sc x c && chkSs S N m sc a p && chkSs S N m sc b q | _ => false)
  | .for_ t it b, st => (match st with | .For tg iter p [] _ => notSet iter && chkB N sc all_ tg t && chkI S N m sc iter it && chkSs S N m sc b p | _ => false)
  | .while_ c b, st => (match st with | .While x p [] _ => chkE S N m sc x c && chkSs S N m sc b p | _ => false)
  | .raise _ _, _ => !S.xok
  | .cont, st => (match st with | .Continue _ => true | _ => false)
  | .pass, st => (match st with | .Pass _ => true | _ => false)
  | .par i j a b, st => (match st with
    | .Assign [.Tuple [.Name x px, .Name y py] _ _] (.Tuple [u, v] _ _) _ => nameAt N i x && nameAt N j y && decide (i ≠ j) && decide (x ≠ y) && isLocal sc x && isLocal sc y && py.line == px.line && !(foldedForSure 8 u && foldedForSure 8 v) && !(constantsAlone 8 u && constantsAlone 8 v) &&
        chkE S N m sc u a && chkE S N m sc v b
    | _ => false)
  | .never, _ => true
def chkSs (S : Sig) (N : List Str) (m : Nat) (sc : Scope) : Ss → List Stmt → Bool
  | .nil, [] => true
  | .cons s r, st :: rest => chkS S N m sc s st && chkSs S N m sc r rest
  | _, _ => false
end
/-! ### readings -/
def QS (S : Sig) (W : Wd) (H : Hp) (D : Ends) : R Out → Prop
  | .ok (.nx ρ) h' => ∀ W' σ' H', Ext W W' H H' → HR S W' H' h' → ER S W' H' σ' ρ → D.nx σ' H'
  | .ok (.ct ρ) h' => ∀ W' σ' H', Ext W W' H H' → HR S W' H' h' → ER S W' H' σ' ρ → D.ct σ' H'
  | .ok (.rt d) h' => ∀ W' H' v, Ext W W' H H' → HR S W' H' h' → Rep S W' H' d v → D.rt v H'
  | .ok (.rn xs) h' => QN S W H D.rt xs h'
  | .exc c fs h' => QX S L2.E0 W H c fs h'
  | .bad => False
def tS (S : Sig) (call : Call) (c : Mn.S) : TS := fun D σ H => ∃ W ρ h, HR S W H h ∧ ER S W H σ ρ ∧ QS S W H D (evS S.C call c ρ h)
def tB (S : Sig) (call : Call) (c : Ss) : TS := fun D σ H => ∃ W ρ h, HR S W H h ∧ ER S W H σ ρ ∧ QS S W H D (evSs S.C call c ρ h)
structure GS (S : Sig) (N : List Str) (call : Call) (k : Nat) (X : Cx) : Prop where
  g : GX S N call k L2.E0 X
  nd : X.N.Nodup
  fn : X.fn = all_
  hp : PassesOwn (model X.prog X.w) X.A X.env X.xe
  kind : X.env.scope.kind = .function
section
variable {S : Sig} {N : List Str} {call : Call} {k n m : Nat} {X : Cx} {e tg : Expr}
theorem QN.world {W W1 : Wd} {H H1 : Hp} {Q : VK} {xs : List D} {h' : VH} (q : QN S W H Q xs h') (e : Ext W W1 H H1) : QN S W1 H1 Q xs h' := fun W' H' a vs ha e' b c => q W' H' a vs (by
  cases z : H a with
  | none => rfl
  | some o => exact absurd ha (e.alive a (by rw [z]; simp))) (e.trans e') b c
theorem QX.world {EX : XK} {W W1 : Wd} {H H1 : Hp} {c : Nat} {fs : List D} {h' : VH} (q : QX S EX W H c fs h') (e : Ext W W1 H H1) : QX S EX W1 H1 c fs h' := ⟨q.1, fun W' H' cls dd e' a b => q.2 W' H' cls dd (e.trans e') a b⟩
theorem QS.world {W W1 : Wd} {H H1 : Hp} {D : Ends} {r : R Out} (q : QS S W H D r) (e : Ext W W1 H H1) : QS S W1 H1 D r := by
  cases r with
  | ok o h' =>
    cases o with
    | nx ρ => exact fun W' σ' H' e' a b => q W' σ' H' (e.trans e') a b
    | ct ρ => exact fun W' σ' H' e' a b => q W' σ' H' (e.trans e') a b
    | rt d => exact fun W' H' v e' a b => q W' H' v (e.trans e') a b
    | rn xs => exact QN.world q e
  | exc c fs h' => exact QX.world q e
  | bad => exact q
theorem QS.bindE {W : Wd} {H : Hp} {D : Ends} {x : R Mn.D} {f : Mn.D → VH → R Out} (q : QS S W H D (x.bind f)) :
    QE S L2.E0 W H (fun v H1 => ∃ W1 d h1, Ext W W1 H H1 ∧ HR S W1 H1 h1 ∧ Rep S W1 H1 d v ∧ QS S W1 H1 D (f d h1)) x := by
  cases x with
  | ok d h' => exact fun W' H' v e a b => ⟨W', d, h', e, a, b, QS.world q e⟩
  | exc c fs h' => exact q
  | bad => exact q
theorem seqS {c : E} {W : Wd} {H : Hp} {σ : L2.St} {ρ : Env} {h : VH} {D : Ends} {Q' : VK} {f : Mn.D → VH → R Out} (hr : HR S W H h) (er : ER S W H σ ρ) (q : QS S W H D ((evE S.C call c ρ h).bind f))
    (k : ∀ W1 d h1 H1 v, Ext W W1 H H1 → HR S W1 H1 h1 → ER S W1 H1 σ ρ → Rep S W1 H1 d v → QS S W1 H1 D (f d h1) → Q' v H1) : tE S call L2.E0 c σ H Q' :=
  ⟨W, ρ, h, hr, er, (QS.bindE q).mono fun v H1 ⟨W1, d, h1, e1, hr1, p1, q1⟩ => k W1 d h1 H1 v e1 hr1 (er.ext e1) p1 q1⟩
/-- a new list, then the rest: it is settled as one that may change -/
theorem seqSF {c : E} {W : Wd} {H : Hp} {σ : L2.St} {ρ : Env} {h : VH} {D : Ends} {Q' : VK} {f : Mn.D → VH → R Out} (hr : HR S W H h) (er : ER S W H σ ρ) (q : QS S W H D ((evF S.C call c ρ h).bind fun xs h => f (.ref h.length) (h ++ [.lst xs])))
    (k : ∀ W1 d h1 H1 v, Ext W W1 H H1 → HR S W1 H1 h1 → ER S W1 H1 σ ρ → Rep S W1 H1 d v → QS S W1 H1 D (f d h1) → Q' v H1) : tF S call L2.E0 c σ H Q' := by
  refine ⟨W, ρ, h, hr, er, ?_⟩
  revert q
  generalize evF S.C call c ρ h = r
  intro q
  cases r with
  | ok xs h' =>
    intro W' H' a vs ha e r ea p
    have nm : a ∉ W'.m := fun z => r.dis a z List.mem_cons_self
    have nh : a ∉ W'.hid := fun z => by rw [e.hid] at z; exact hr.hidA a z ha
    have r2 := r.own nh ea p
    have e2 : Ext W (W'.add a) H H' := ⟨e.hid, by
        obtain ⟨t, et⟩ := e.pre
        exact ⟨t ++ [a], by show W'.m ++ [a] = _; rw [et, List.append_assoc]⟩, fun b hb => by
        rcases List.mem_append.mp hb with hb | hb
        · exact e.new b hb
        · rw [List.mem_singleton.mp hb]; exact .inr ha, e.keep, e.tups, e.frzs, e.alive⟩
    refine k (W'.add a) _ _ H' _ e2 r2 (er.ext e2) (.ref ?_) (QS.world q e2)
    have hl : W'.m.length = h'.length := r.len
    rw [← hl]
    show (W'.m ++ [a])[W'.m.length]? = some a
    simp
  | exc c fs h' => exact q
  | bad => exact q
/-! ### targets -/
theorem fput_rep {W : Wd} {H : Hp} (inj : ∀ f g, S.fl f = S.fl g → f = g) (f : Nat) {d : D} {v : V} (p : Rep S W H d v) : ∀ {l : List (Nat × D)} {t : List (Str × V)}, FsR S W H l t → FsR S W H (fput f d l) (putF (S.fl f) v t)
  | _, _, .nil => .cons p .nil
  | _, _, .cons (f := g) q r => by
    simp only [fput, putF]
    by_cases h : g = f
    · subst h
      rw [if_pos rfl, if_pos rfl]
      exact .cons p r
    · rw [if_neg h, if_neg fun z => h (inj _ _ z)]
      exact .cons q (fput_rep inj f p r)
theorem FsR.length {W : Wd} {H : Hp} : ∀ {l : List (Nat × D)} {t : List (Str × V)}, FsR S W H l t → l.length = t.length
  | _, _, .nil => rfl
  | _, _, .cons _ r => by rw [List.length_cons, List.length_cons, r.length]
def gT (S : Sig) (call : Call) (t : T) : TG := match t with
  | .nm i => gName i
  | .tup is => gTup S.K is.length (gNs is)
  | .sub a i => gSub (tE S call L2.E0 a) (tE S call L2.E0 i) rSetL
  | .fld o f => fun v σ H Q => tE S call L2.E0 o σ H fun x H2 => ∃ a C dx fs, x = .ref a ∧ H2 a = some (.ins C dx fs) ∧ Cls S.K C ∧ (∃ c, C = S.ca c ∧ S.CL.contains c = true) ∧ fs.length < 1000 ∧ Q σ (upd H2 a (.ins C dx (putF (S.fl f) v fs)))
theorem gT_read {W : Wd} {H : Hp} {σ : L2.St} {ρ : Env} {h : VH} {D0 : Ends} {t : T} {d : D} {v : V} (g : GX S N call k L2.E0 X) (hr : HR S W H h) (er : ER S W H σ ρ) (p : Rep S W H d v) (q : QS S W H D0 (asgT S.C call t d ρ h)) : gT S call t v σ H D0.nx := by
  cases t with
  | nm i => exact (show ∀ W' σ' H', Ext W W' H H' → HR S W' H' h → ER S W' H' σ' (ρ.set i (some d)) → D0.nx σ' H' from q) W _ H (Ext.refl W H) hr (er.set p i)
  | tup is =>
    cases d <;> try exact q.elim
    rename_i ds
    simp only [asgT] at q
    cases hs : setN ρ is ds with
    | none => rw [hs] at q; exact q.elim
    | some ρ' =>
      rw [hs] at q
      have q' : ∀ W' σ' H', Ext W W' H H' → HR S W' H' h → ER S W' H' σ' ρ' → D0.nx σ' H' := q
      exact gB_read (t := .tup is) (ρ := ρ) (ρ' := ρ') (by simpa [bindT] using hs) p er fun σ' er' _ => q' W σ' H (Ext.refl W H) hr er'
  | sub a i =>
    simp only [asgT] at q
    refine seqS hr er q fun W1 x h1 H1 u e1 hr1 er1 p1 q1 => seqS hr1 er1 q1 fun W2 y h2 H2 w e2 hr2 er2 p2 q2 => ?_
    cases x <;> try exact q2.elim
    rename_i j
    simp only at q2
    split at q2
    · rename_i xs hj
      cases y <;> try exact q2.elim
      rename_i z
      simp only at q2
      cases hz : Mn.ixN xs.length z with
      | none => rw [hz] at q2; exact q2.elim
      | some l =>
        rw [hz] at q2
        cases p2
        obtain ⟨b, rfl, hm, vs, g1, g2⟩ := hr2.ref hj (p1.ext e2)
        have w := hr2.write (o := .lst (vs.set l v)) (x := .lst (xs.set l d)) hm hj fun e => ⟨_, upd_same, ((g2.set ((p.ext e1).ext e2) l)).ext e⟩
        exact ⟨b, vs, z, l, rfl, rfl, g1, by rw [← g2.length]; exact hz, (show ∀ W' σ' H', Ext W2 W' H2 H' → HR S W' H' (h2.set j (.lst (xs.set l d))) → ER S W' H' σ' ρ → D0.nx σ' H' from q2) W2 σ _ w.1 w.2 (er2.ext w.1)⟩
    · exact q2.elim
  | fld o f =>
    simp only [asgT] at q
    refine seqS hr er q fun W1 x h1 H1 u e1 hr1 er1 p1 q1 => ?_
    cases x <;> try exact q1.elim
    rename_i j
    simp only at q1
    split at q1
    · rename_i c fs hj
      split at q1
      · rename_i hl
        obtain ⟨a, rfl, hm, dx, t, g1, g2, g3⟩ := hr1.ref hj p1
        obtain ⟨i1, i2, i3⟩ := g.inst c g3
        have w := hr1.write (o := .ins (S.ca c) dx (putF (S.fl f) v t)) (x := .ins c (fput f d fs)) hm hj fun e => ⟨dx, _, upd_same, (fput_rep g.flinj f (p.ext e1) g2).ext e, g3⟩
        exact ⟨a, S.ca c, dx, t, rfl, g1, by rw [← g.hK]; exact i1, ⟨c, rfl, g3⟩, by rw [← g2.length]; omega, (show ∀ W' σ' H', Ext W1 W' H1 H' → HR S W' H' (h1.set j (.ins c (fput f d fs))) → ER S W' H' σ' ρ → D0.nx σ' H' from q1) W1 σ _ w.1 w.2 (er1.ext w.1)⟩
      · exact q1.elim
    · exact q1.elim
theorem tE_mono {EX : XK} {c : E} : ∀ σ H (Q Q' : VK), (∀ v H, Q v H → Q' v H) → tE S call EX c σ H Q → tE S call EX c σ H Q' := fun σ H Q Q' k ⟨W, ρ, h, hr, er, q⟩ => ⟨W, ρ, h, hr, er, q.mono k⟩
theorem tF_mono {EX : XK} {c : E} : ∀ σ H (Q Q' : VK), (∀ v H, Q v H → Q' v H) → tF S call EX c σ H Q → tF S call EX c σ H Q' := fun σ H Q Q' k ⟨W, ρ, h, hr, er, q⟩ => ⟨W, ρ, h, hr, er, by
  revert q
  generalize evF S.C call c ρ h = r
  intro q
  cases r with
  | ok xs h' => exact fun W' H' a vs ha e r ea p => k _ _ (q W' H' a vs ha e r ea p)
  | exc c fs h' => exact q
  | bad => exact q⟩
theorem sw_false {v : Expr} {y : Str} {py : Pos} {l : Nat} {env : PySem.Env} (hv : isLC v = true) (h : lcSet env.scope v y py = false) : swapsWith v (some (.Name y py)) l env = pure false := by
  cases v <;> simp [isLC] at hv
  rename_i a b scope pos
  unfold swapsWith
  simp only [lcSet] at h
  show pure (env.blockKind == .function && env.kindOf y == some .local && py.line == pos.line && !(scope.names.any fun (n, k) => n == y && (k == .local || k == .cell))) = _
  have e : (env.kindOf y == some .local) = (match env.scope.names.lookup y with | some .local => true | _ => false) := by
    show (env.scope.names.lookup y == some .local) = _
    cases env.scope.names.lookup y with
    | none => rfl
    | some k => cases k <;> rfl
  rw [e]
  revert h
  generalize (match env.scope.names.lookup y with | some .local => true | _ => false) = p1
  generalize (py.line == pos.line) = p2
  generalize (!(scope.names.any fun (n, k) => n == y && (k == .local || k == .cell))) = p3
  intro h
  cases p1 <;> cases p2 <;> cases p3 <;> first | (simp at h; done) | (simp; done)
theorem sw_cell {xs : List Expr} {kk : Nat} {p : Pos} {v : Expr} {env : PySem.Env} (h : cellIn env.scope xs = true) : swappedStores [.Tuple xs kk p] v env = pure none := by
  unfold cellIn at h
  split at h
  · rename_i x px y py
    cases v <;> try rfl
    rename_i vs k2 p2
    have hb : (env.kindOf x == some .local) = false ∨ (env.kindOf y == some .local) = false := by
      rcases Bool.or_eq_true _ _ |>.mp h with h | h
      · exact .inl (by show (env.scope.names.lookup x == some .local) = false; simpa using h)
      · exact .inr (by show (env.scope.names.lookup y == some .local) = false; simpa using h)
    have hlen : ∀ l : Nat, ([Expr.Name x px, Expr.Name y py].filterMap fun
      | .Name id pos => if env.kindOf id == some .local && pos.line == l then some id else none
      | _ => none).length ≠ 2 := by
      intro l
      rcases hb with hb | hb
      · simp only [List.filterMap_cons, hb, Bool.false_and, Bool.false_eq_true, if_false, List.filterMap_nil]
        generalize (if (env.kindOf y == some .local && py.line == l) = true then some y else none) = o
        cases o <;> simp
      · simp only [List.filterMap_cons, hb, Bool.false_and, Bool.false_eq_true, if_false, List.filterMap_nil]
        generalize (if (env.kindOf x == some .local && px.line == l) = true then some x else none) = o
        cases o <;> simp
    unfold swappedStores
    simp only []
    split
    · rfl
    · split
      · rfl
      · split
        · rfl
        · rename_i z
          exact absurd ((Bool.or_eq_true _ _).mpr (.inl (bne_iff_ne.mpr (hlen _)))) z
  · cases h
theorem sw_no {v : Expr} {t : Option Expr} {l : Nat} {env : PySem.Env} (h : notComp v = true) : swapsWith v t l env = pure false := by
  cases v <;> first | rfl | (simp [notComp] at h)
theorem ps_asgT (a : ∀ {e : Expr} {c : E}, chkE S N m X.env.scope e c = true → PE X e (tE S call L2.E0 c)) (gs : GS S N call k X) {v : Expr} {te : TE} {t : T} {pos : Pos} (pv : PE X v te) (mono : ∀ σ H (Q Q' : VK), (∀ v H, Q v H → Q' v H) → te σ H Q → te σ H Q')
    (lc : ∀ i y py, t = .nm i → tg = .Name y py → lcSet X.env.scope v y py = true → PS X (.Assign [tg] v pos) (tAsg te (gName i))) (h : chkA S N m X.env.scope v t tg = true) : PS X (.Assign [tg] v pos) (tAsg te (gT S call t)) := by
  cases t with
  | nm i =>
    cases tg with
    | Name y py =>
      simp only [chkA, Bool.and_eq_true] at h
      obtain ⟨l1, l2⟩ := loc_of h.1.2
      cases hc : notComp v with
      | true => exact ps_set gs.nd (by rw [gs.g.hN]; exact at_of h.1.1) l1 pv (sw_no hc) (by rw [gs.fn]; exact l2)
      | false =>
        have hv : isLC v = true := by simpa [hc] using h.2
        cases hl : lcSet X.env.scope v y py with
        | true => exact lc i y py rfl rfl hl
        | false => exact ps_set gs.nd (by rw [gs.g.hN]; exact at_of h.1.1) l1 pv (sw_false hv hl) (by rw [gs.fn]; exact l2)
    | _ => simp [chkA] at h
  | tup is =>
    cases tg with
    | Tuple xs kk p =>
      simp only [chkA, Bool.and_eq_true] at h
      refine ps_asg pv (pg_of (t := .tup is) gs.g.calm gs.g.hK gs.nd gs.g.hN (by rw [gs.fn]; exact h.1)) ?_ ?_ rfl
      · show swapsWith v (some (.Tuple xs kk p)) pos.line X.env = pure false
        cases v <;> rfl
      · cases hc : cellIn X.env.scope xs with
        | true => exact sw_cell hc
        | false =>
          have ht : notTup v = true := by simpa [hc] using h.2
          cases v <;> first | rfl | (simp [notTup] at ht)
    | _ => simp [chkA] at h
  | sub o i =>
    cases tg with
    | Subscript x y p =>
      simp only [chkA, Bool.and_eq_true] at h
      refine ps_asg pv (pg_sub (a h.1.1) (a h.2) set_list ?_) ?_ ?_ rfl
      · intro w
        cases y <;> first | rfl | (simp [notSlice] at h)
      · show swapsWith v (some (.Subscript x y p)) pos.line X.env = pure false
        cases v <;> rfl
      · cases v <;> rfl
    | _ => simp [chkA] at h
  | fld o f =>
    cases tg with
    | Attribute x y p =>
      simp only [chkA, Bool.and_eq_true, beq_iff_eq] at h
      obtain ⟨⟨h1, h2⟩, h3⟩ := h
      subst h1
      refine (ps_fld (a h3) pv ?_).imp fun D σ H q => ?_
      · cases v <;> rfl
      · refine mono σ H _ _ (fun y H1 q1 => ?_) q
        obtain ⟨W, ρ, h, hr, er, q1⟩ := q1
        refine ⟨W, ρ, h, hr, er, q1.mono fun x H2 q2 => ?_⟩
        obtain ⟨a, C, dx, fs, e1, e2, e3, ⟨c, rfl, hc⟩, e5, e6⟩ := q2
        exact ⟨a, S.ca c, dx, fs, e1, e2, by rw [gs.g.hK]; exact e3, (gs.g.inst c hc).2.2 f h2, e5, e6⟩
    | _ => simp [chkA] at h
end
end Mn

set_option Elab.async false
set_option linter.all false
set_option autoImplicit false
set_option maxRecDepth 100000
set_option maxHeartbeats 4000000
/-! MnT: all statements. -/
namespace Mn
open PySem PySem.Spec PyProof.Rows L2
section
variable {S : Sig} {N : List Str} {call : Call} {k n m : Nat} {X : Cx} {e tg : Expr}
theorem sw_pair {x y : Str} {px py pt pt2 : Pos} {u v : Expr} {kt k2} {env : PySem.Env} (hk : env.scope.kind = .function) (hx : env.scope.names.lookup x = some .local) (hy : env.scope.names.lookup y = some .local) (hl : (py.line == px.line) = true) (hne : x ≠ y)
    (hu : ∀ a p, u ≠ .Starred a p) (hv : ∀ a p, v ≠ .Starred a p) (h1 : (foldedForSure 8 u && foldedForSure 8 v) = false) (h2 : (constantsAlone 8 u && constantsAlone 8 v) = false) :
    swappedStores [.Tuple [.Name x px, .Name y py] kt pt] (.Tuple [u, v] k2 pt2) env = pure (some [x, y]) := by
  have kx : (env.kindOf x == some .local) = true := by show (env.scope.names.lookup x == some .local) = true; rw [hx]; rfl
  have ky : (env.kindOf y == some .local) = true := by show (env.scope.names.lookup y == some .local) = true; rw [hy]; rfl
  have hb : env.blockKind = .function := by unfold Env.blockKind; rw [hk]; rfl
  have st : (([u, v] : List Expr).any fun | .Starred .. => true | _ => false) = false := by
    rw [List.any_eq_false]
    intro w hw
    have hw' : ∀ a p, w ≠ .Starred a p := by
      rcases List.mem_cons.mp hw with rfl | hw
      · exact hu
      · rcases List.mem_cons.mp hw with rfl | hw
        · exact hv
        · cases hw
    cases w <;> first | exact absurd rfl (hw' _ _) | simp
  have e1 : ([x, y] : List Str).eraseDups.length = 2 := by
    have hyx : (y == x) = false := beq_eq_false_iff_ne.mpr (Ne.symm hne)
    simp [List.eraseDups_cons, hyx]
  have pl : (px.line == px.line) = true := beq_self_eq_true _
  unfold swappedStores
  simp only [hb, st, kx, ky, hl, pl, List.length_cons, List.length_nil, List.head?_cons, Option.map_some, Option.getD_some, List.filterMap_cons, List.filterMap_nil, Bool.and_self, Expr.pos, e1]
  simp [h1, h2, List.all_cons]
  intro z
  exact absurd e1 z
theorem QS.bindF {W : Wd} {H : Hp} {D : Ends} {x : R (List Mn.D)} (q : QS S W H D (x.bind fun xs h => .ok (.rn xs) h)) : QF S L2.E0 W H D.rt x := by
  cases x with
  | ok d h' => exact q
  | exc c fs h' => exact q
  | bad => exact q
def bndO (r : Ss) (S : Sig) (call : Call) : Out → VH → R Out := fun o h => match o with
  | .nx ρ' => evSs S.C call r ρ' h
  | o => .ok o h
theorem QS.seq {W : Wd} {H : Hp} {D : Ends} {r : Ss} {x : R Out} (q : QS S W H D (x.bind fun o h => match o with | .nx ρ' => evSs S.C call r ρ' h | o => .ok o h)) : QS S W H { D with nx := tB S call r D } x := by
  cases x with
  | ok o h' =>
    cases o with
    | nx ρ => exact fun W' σ' H' e a b => ⟨W', ρ, h', a, b, QS.world q e⟩
    | ct ρ => exact q
    | rt d => exact q
    | rn xs => exact q
  | exc c fs h' => exact q
  | bad => exact q
theorem for_read {t : T} {it : It} {b : Ss} {D : Ends} {σ : L2.St} {H : Hp} (q : tS S call (.for_ t it b) D σ H) : tFor (tI S call L2.E0 it) (gB S t) (tB S call b) D σ H := by
  obtain ⟨W, ρ, h0, hr, er, q⟩ := q
  simp only [evS] at q
  refine ⟨W, ρ, h0, hr, er, ?_⟩
  cases q0 : evIt S.C call it ρ h0 with
  | exc c fs h' => rw [q0] at q; exact q
  | bad => rw [q0] at q; exact q
  | ok p h' =>
    rw [q0] at q
    simp only [Mn.R.bind] at q
    intro W' H' J e' hr' io
    have q' := QS.world q e'
    clear q
    obtain ⟨G, Y, wk, hG, hY⟩ := io
    refine for_it wk (fun i σ H2 => ∃ W2 ρ2 h2, Ext W' W2 H' H2 ∧ HR S W2 H2 h2 ∧ ER S W2 H2 σ ρ2 ∧ QS S W' H' D (forL p.2 h' (evSs S.C call b) t (p.1.drop i) ρ2 h2)) ?_ ?_ ?_ ?_
    · exact ⟨W', ρ, h', Ext.refl _ _, hr', er.ext e', q'⟩
    · rintro i σ2 H2 hi ⟨W2, ρ2, h2, l, hr2, er2, q2⟩
      refine hG W2 H2 h2 (Lt.of l) hr2 ?_
      generalize p.1.drop i = xs at q2
      rcases xs with _ | ⟨d, ds⟩
      · simp only [forL] at q2
        split at q2
        · assumption
        · exact q2.elim
      · simp only [forL] at q2
        split at q2
        · assumption
        · exact q2.elim
    · rintro i x σ2 H2 H2' hi ⟨W2, ρ2, h2, l, hr2, er2, q2⟩ y
      have ei : p.1[i]? = some p.1[i] := by simp [hi]
      obtain ⟨rfl, rp⟩ := hY i H2 x H2' _ y ei
      rw [List.drop_eq_getElem_cons hi] at q2
      simp only [forL] at q2
      split at q2
      rotate_left
      · exact q2.elim
      rename_i st
      have pd := rp _ h2 (Lt.of l) hr2 st
      cases hb : bindT t p.1[i] ρ2 with
      | none => rw [hb] at q2; exact q2.elim
      | some ρ' =>
      simp only [hb] at q2
      refine gB_read hb pd er2 fun σ3 er3 _ => ⟨W2, ρ', h2, hr2, er3, ?_⟩
      cases qb : evSs S.C call b ρ' h2 with
      | exc c fs h3 => rw [qb] at q2; exact QX.world q2 l
      | bad => rw [qb] at q2; exact q2.elim
      | ok o h3 =>
        rw [qb] at q2
        simp only [Mn.R.bind] at q2
        cases o with
        | nx ρ3 => exact fun W3 σ' H3 e3 a b => ⟨W3, ρ3, h3, l.trans e3, a, b, q2⟩
        | ct ρ3 => exact fun W3 σ' H3 e3 a b => ⟨W3, ρ3, h3, l.trans e3, a, b, q2⟩
        | rt d => exact fun W3 H3 v e3 a b => q2 W3 H3 v (l.trans e3) a b
        | rn xs => exact QN.world q2 l
    · rintro σ2 H2 ⟨W2, ρ2, h2, l, hr2, er2, q2⟩
      rw [List.drop_length] at q2
      simp only [forL] at q2
      split at q2
      rotate_left
      · exact q2.elim
      exact (show ∀ W' σ' H3, _ from q2) W2 σ2 H2 l hr2 er2
theorem while_read {c : E} {b : Ss} {D : Ends} {σ : L2.St} {H : Hp} (q : tS S call (.while_ c b) D σ H) : tWhile (tT S call L2.E0 c) (tB S call b) D σ H := by
  obtain ⟨W, ρ, h0, hr, er, q⟩ := q
  simp only [evS] at q
  refine ⟨fun m σ H2 => ∃ W2 ρ2 h2, HR S W2 H2 h2 ∧ ER S W2 H2 σ ρ2 ∧ QS S W2 H2 D (whL (evE S.C call c) (evSs S.C call b) m ρ2 h2), ⟨S.C.wf, W, ρ, h0, hr, er, q⟩, ?_⟩
  rintro m σ2 H2 ⟨W2, ρ2, h2, hr2, er2, q2⟩
  cases m with
  | zero => exact (show False from q2).elim
  | succ m =>
    simp only [whL] at q2
    refine seqS hr2 er2 q2 fun W3 d h3 H3 v e3 hr3 er3 p3 q3 => ?_
    cases d <;> try exact q3.elim
    rename_i x
    cases p3
    refine ⟨x, rfl, ?_⟩
    cases x with
    | false =>
      rw [if_neg Bool.false_ne_true]
      exact (show ∀ W' σ' H', _ from q3) W3 σ2 H3 (Ext.refl _ _) hr3 er3
    | true =>
      rw [if_pos rfl]
      simp only at q3
      refine ⟨fun σ4 H4 => ∃ W4 ρ4 h4, HR S W4 H4 h4 ∧ ER S W4 H4 σ4 ρ4 ∧ QS S W4 H4 D (whL (evE S.C call c) (evSs S.C call b) m ρ4 h4), fun σ' H' z => ⟨m, Nat.lt_succ_self _, z⟩, W3, ρ2, h3, hr3, er3, ?_⟩
      cases qb : evSs S.C call b ρ2 h3 with
      | exc c' fs h4 => rw [qb] at q3; exact q3
      | bad => rw [qb] at q3; exact q3.elim
      | ok o h4 =>
        rw [qb] at q3
        simp only [Mn.R.bind] at q3
        cases o with
        | nx ρ3 => exact fun W4 σ' H4 e4 a b => ⟨W4, ρ3, h4, a, b, QS.world q3 e4⟩
        | ct ρ3 => exact fun W4 σ' H4 e4 a b => ⟨W4, ρ3, h4, a, b, QS.world q3 e4⟩
        | rt d => exact q3
        | rn xs => exact q3
theorem lc_asg (gs : GS S N call k X) {v : Expr} {e : E} {i : Nat} {y : Str} {py pos : Pos} (h : chkE S N m X.env.scope v e = true) (hl : lcSet X.env.scope v y py = true) (hi : nameAt N i y = true) :
    PS X (.Assign [.Name y py] v pos) (tAsg (tF S call L2.E0 e) (gName i)) ∧ ∀ σ H Q, tE S call L2.E0 e σ H Q → tF S call L2.E0 e σ H Q := by
  cases m with
  | zero => simp [chkE] at h
  | succ n =>
    have a := allE (S := S) (N := N) (call := call) (k := k) n
    have hv : ∃ a b c d, v = .ListComp a b c d := by
      cases v <;> first | exact ⟨_, _, _, _, rfl⟩ | (simp [lcSet] at hl)
    obtain ⟨_, _, _, _, rfl⟩ := hv
    have he : ∃ elt t it cond own, e = .lc elt t it cond own := by
      cases e <;> first | exact ⟨_, _, _, _, _, rfl⟩ | (simp [chkE] at h)
    obtain ⟨elt, t, it, cond, own, rfl⟩ := he
    obtain ⟨x, tg, iter, ifs, scope, pos', ev, hN, hi', bo, pg, pt, pe, hs, rd⟩ := lc_parts a.ih a.i gs.g h
    cases ev
    simp only [lcSet, Bool.and_eq_true, Bool.not_eq_true'] at hl
    obtain ⟨⟨h1, h2⟩, h3⟩ := hl
    have hy : X.env.scope.names.lookup y = some .local := by
      split at h1
      · assumption
      · cases h1
    refine ⟨(ps_setLc gs.g.calm hN (by rw [gs.g.hN]; exact at_of hi) hy (sw_true gs.kind hy h2 h3) hi' bo pg pt pe hs).imp fun D σ H q => rd σ H _ q, fun σ H Q ⟨W, ρ, h, hr, er, q⟩ => ⟨W, ρ, h, hr, er, QF.of hr.hidA (by
      simp only [evE] at q
      simp only [evF, R.bind_assoc]
      exact q)⟩⟩
theorem lc_of {v : Expr} {t : T} {tg : Expr} {i : Nat} {y : Str} {py : Pos} {sc : Scope} (h : chkA S N m sc v t tg = true) (e1 : t = .nm i) (e2 : tg = .Name y py) : nameAt N i y = true := by
  subst e1 e2
  simp only [chkA, Bool.and_eq_true] at h
  exact h.1.1
theorem loc_is {sc : Scope} {y : Str} (h : isLocal sc y = true) : sc.names.lookup y = some .local := by
  unfold isLocal at h
  split at h
  · assumption
  · cases h
mutual
theorem ps_ok : ∀ (s : Mn.S) {X : Cx} {st : Stmt}, GS S N call k X → chkS S N m X.env.scope s st = true → PS X st (tS S call s)
  | .asg t e, X, st, gs, h => by
    simp only [chkS] at h
    split at h
    · simp only [Bool.and_eq_true] at h
      have a := allE (S := S) (N := N) (call := call) (k := k) m
      refine (ps_asgT (fun hc => a.ih.e gs.g hc) gs (a.ih.e gs.g h.1) tE_mono (fun i y py e1 e2 hc => ?_) h.2).imp fun D σ H ⟨W, ρ, h0, hr, er, q⟩ => ?_
      · have l2 := lc_of h.2 e1 e2
        have z := fun pos => lc_asg (pos := pos) gs h.1 hc l2
        subst e2
        exact (z _).1.imp fun D σ H q => (z py).2 σ H _ q
      · simp only [evS] at q
        exact seqS hr er q fun W1 d h1 H1 v e1 hr1 er1 p1 q1 => gT_read gs.g hr1 er1 p1 q1
    · cases h
  | .asgB t e, X, st, gs, h => by
    simp only [chkS] at h
    split at h
    · simp only [Bool.and_eq_true] at h
      have a := allE (S := S) (N := N) (call := call) (k := k) m
      refine (ps_asgT (fun hc => a.ih.e gs.g hc) gs (a.f gs.g h.1.1 h.1.2) tF_mono (fun i y py e1 e2 hc => ?_) h.2).imp fun D σ H ⟨W, ρ, h0, hr, er, q⟩ => ?_
      · have l2 := lc_of h.2 e1 e2
        have z := fun pos => lc_asg (pos := pos) gs h.1.2 hc l2
        subst e2
        exact (z _).1
      · simp only [evS] at q
        exact seqSF (f := fun d h => asgT S.C call t d ρ h) hr er q fun W1 d h1 H1 v e1 hr1 er1 p1 q1 => gT_read gs.g hr1 er1 p1 q1
    · cases h
  | .ex e, X, st, gs, h => by
    simp only [chkS] at h
    split at h
    · simp only [Bool.and_eq_true] at h
      have a := allE (S := S) (N := N) (call := call) (k := k) m
      refine (ps_expr (a.ih.e gs.g h.1) (sw_no h.2)).imp fun D σ H ⟨W, ρ, h0, hr, er, q⟩ => ?_
      simp only [evS] at q
      exact seqS hr er q fun W1 d h1 H1 v e1 hr1 er1 p1 q1 => (show ∀ W' σ' H', _ from q1) W1 σ H1 (Ext.refl _ _) hr1 er1
    · cases h
  | .ret e, X, st, gs, h => by
    simp only [chkS] at h
    split at h
    · have a := allE (S := S) (N := N) (call := call) (k := k) m
      refine (ps_ret (a.ih.e gs.g h)).imp fun D σ H ⟨W, ρ, h0, hr, er, q⟩ => ?_
      simp only [evS] at q
      exact seqS hr er q fun W1 d h1 H1 v e1 hr1 er1 p1 q1 => (show ∀ W' H' v, _ from q1) W1 H1 v (Ext.refl _ _) hr1 p1
    · split at h
      · refine ps_retN.imp fun D σ H ⟨W, ρ, h0, hr, er, q⟩ => ?_
        exact (show ∀ W' H' v, Ext W W' H H' → HR S W' H' h0 → Rep S W' H' .non v → D.rt v H' from q) W H _ (Ext.refl _ _) hr .non
      · cases h
    · cases h
  | .retF e, X, st, gs, h => by
    simp only [chkS] at h
    split at h
    · simp only [Bool.and_eq_true] at h
      have a := allE (S := S) (N := N) (call := call) (k := k) m
      refine (ps_ret (a.f gs.g h.1 h.2)).imp fun D σ H ⟨W, ρ, h0, hr, er, q⟩ => ?_
      simp only [evS] at q
      exact ⟨W, ρ, h0, hr, er, QS.bindF q⟩
    · cases h
  | .ite c x y, X, st, gs, h => by
    simp only [chkS] at h
    split at h
    · simp only [Bool.and_eq_true] at h
      have a := allE (S := S) (N := N) (call := call) (k := k) m
      refine (ps_if (a.ih.t gs.g h.1.1) (pss_ok x gs h.1.2) (pss_ok y gs h.2)).imp fun D σ H ⟨W, ρ, h0, hr, er, q⟩ => ?_
      simp only [evS] at q
      refine seqS hr er q fun W1 d h1 H1 v e1 hr1 er1 p1 q1 => ?_
      cases d <;> try exact q1.elim
      rename_i z
      cases p1
      refine ⟨z, rfl, ?_⟩
      cases z with
      | true => exact ⟨W1, ρ, h1, hr1, er1, q1⟩
      | false => exact ⟨W1, ρ, h1, hr1, er1, q1⟩
    · cases h
  | .for_ t it b, X, st, gs, h => by
    simp only [chkS] at h
    split at h
    · rename_i tg iter p _
      simp only [Bool.and_eq_true] at h
      have a := allE (S := S) (N := N) (call := call) (k := k) m
      refine (ps_for gs.hp gs.g.calm (a.i gs.g h.1.2) (pg_of gs.g.calm gs.g.hK gs.nd gs.g.hN (by rw [gs.fn]; exact h.1.1.2)) (pss_ok b gs h.2) ?_).imp fun D σ H q => for_read q
      intro x
      have hs := h.1.1.1
      cases iter <;> first | rfl | (simp [notSet] at hs)
    · cases h
  | .while_ c b, X, st, gs, h => by
    simp only [chkS] at h
    split at h
    · simp only [Bool.and_eq_true] at h
      have a := allE (S := S) (N := N) (call := call) (k := k) m
      exact (ps_while gs.hp (a.ih.t gs.g h.1) (pss_ok b gs h.2)).imp fun D σ H q => while_read q
    · cases h
  | .raise c es, X, st, gs, h => by
    simp only [chkS, Bool.not_eq_true'] at h
    refine ps_never.imp fun D σ H ⟨W, ρ, h0, hr, er, q⟩ => ?_
    simp only [evS] at q
    cases q0 : evEs S.C call es ρ h0 with
    | ok ds h' =>
      rw [q0] at q
      have := (show QX S L2.E0 W H c ds h' from q).1
      rw [h] at this; cases this
    | exc c' fs h' =>
      rw [q0] at q
      have := (show QX S L2.E0 W H c' fs h' from q).1
      rw [h] at this; cases this
    | bad => rw [q0] at q; exact q
  | .cont, X, st, gs, h => by
    simp only [chkS] at h
    split at h
    · exact ps_continue.imp fun D σ H ⟨W, ρ, h0, hr, er, q⟩ => (show ∀ W' σ' H', Ext W W' H H' → HR S W' H' h0 → ER S W' H' σ' ρ → D.ct σ' H' from q) W σ H (Ext.refl _ _) hr er
    · cases h
  | .pass, X, st, gs, h => by
    simp only [chkS] at h
    split at h
    · exact ps_pass.imp fun D σ H ⟨W, ρ, h0, hr, er, q⟩ => (show ∀ W' σ' H', Ext W W' H H' → HR S W' H' h0 → ER S W' H' σ' ρ → D.nx σ' H' from q) W σ H (Ext.refl _ _) hr er
    · cases h
  | .par i j a b, X, st, gs, h => by
    simp only [chkS] at h
    split at h
    · simp only [Bool.and_eq_true, decide_eq_true_eq, Bool.not_eq_true'] at h
      obtain ⟨⟨⟨⟨⟨⟨⟨⟨⟨⟨h1, h2⟩, h3⟩, h4⟩, h5⟩, h6⟩, h7⟩, h8⟩, h9⟩, ha⟩, hb⟩ := h
      have al := allE (S := S) (N := N) (call := call) (k := k) m
      have pa := args_ok al.ih gs.g (xs := [_, _]) (es := .cons a (.cons b .nil)) (by simp only [chkL, Bool.and_eq_true]; exact ⟨ha, hb, trivial⟩)
      refine (ps_par gs.g.calm gs.nd (by rw [gs.g.hN]; exact at_of h1) (by rw [gs.g.hN]; exact at_of h2) h3 (loc_is h5) (loc_is h6) pa (sw_pair gs.kind (loc_is h5) (loc_is h6) h7 h4 (notStar ha) (notStar hb) h8 h9)).imp fun D σ H ⟨W, ρ, h0, hr, er, q⟩ => ?_
      simp only [evS] at q
      refine ⟨W, ρ, h0, hr, er, ?_⟩
      simp only [evEs]
      cases q1 : evE S.C call a ρ h0 with
      | exc c fs h' => rw [q1] at q; exact q
      | bad => rw [q1] at q; exact q
      | ok x hx =>
        rw [q1] at q
        simp only [Mn.R.bind] at q ⊢
        cases q2 : evE S.C call b ρ hx with
        | exc c fs h' => rw [q2] at q; exact q
        | bad => rw [q2] at q; exact q
        | ok y hy =>
          rw [q2] at q
          simp only [Mn.R.bind] at q ⊢
          intro W' H' vs e r p
          obtain ⟨v, u, rfl, p1, p2⟩ := two_rep p
          exact ⟨v, u, rfl, (show ∀ W' σ' H', _ from q) W' _ H' e r (((er.ext e).set p1 i).set p2 j)⟩
    · cases h
  | .never, X, st, gs, h => ps_never.imp fun D σ H ⟨W, ρ, h0, hr, er, q⟩ => q
theorem pss_ok : ∀ (b : Ss) {X : Cx} {sts : List Stmt}, GS S N call k X → chkSs S N m X.env.scope b sts = true → PSs X sts (tB S call b)
  | .nil, X, [], gs, h => pss_nil.imp fun D σ H ⟨W, ρ, h0, hr, er, q⟩ => (show ∀ W' σ' H', Ext W W' H H' → HR S W' H' h0 → ER S W' H' σ' ρ → D.nx σ' H' from q) W σ H (Ext.refl _ _) hr er
  | .cons s r, X, st :: rest, gs, h => by
    simp only [chkSs, Bool.and_eq_true] at h
    refine (pss_cons (ps_ok s gs h.1) (pss_ok r gs h.2)).imp fun D σ H ⟨W, ρ, h0, hr, er, q⟩ => ?_
    simp only [evSs] at q
    exact ⟨W, ρ, h0, hr, er, QS.seq q⟩
  | .nil, X, _ :: _, gs, h => by simp [chkSs] at h
  | .cons _ _, X, [], gs, h => by simp [chkSs] at h
end
end
end Mn

set_option Elab.async false
set_option linter.all false
set_option autoImplicit false
set_option maxRecDepth 100000
set_option maxHeartbeats 4000000
/-! MnG: a call's end; defs. -/
namespace Mn
open PySem PySem.Spec PyProof.Rows L2
section
variable {S : Sig}
/-! ### what a call made and leaves behind -/
mutual
theorem clean_of {W : Wd} {H : Hp} : ∀ {d : D} {v : V}, Rep S W H d v → clean W.m.length d = true
  | _, _, .non => rfl
  | _, _, .bl b => rfl
  | _, _, .int i => rfl
  | _, _, .str s => rfl
  | _, _, .tup h r => by simp only [clean]; exact cleans_of r
  | _, _, .lst h hm hh r => by simp only [clean]; exact cleans_of r
  | _, _, .ref h => by simp only [clean, decide_eq_true_eq]; exact (List.getElem?_eq_some_iff.mp h).1
  | _, _, .gd n => rfl
  | _, _, .scr h => rfl
theorem cleans_of {W : Wd} {H : Hp} : ∀ {ds : List D} {vs : List V}, Reps S W H ds vs → cleans W.m.length ds = true
  | _, _, .nil => rfl
  | _, _, .cons h r => by simp only [cleans, clean_of h, cleans_of r, Bool.and_self]
end
mutual
theorem Rep.shrink {W W1 : Wd} {H : Hp} {t hid : List Addr} (e : W1.m = W.m ++ t) (k : ∀ b ∈ hid, b ∈ W1.hid ∨ b ∈ t) : ∀ {d : D} {v : V}, Rep S W1 H d v → clean W.m.length d = true → Rep S ⟨W.m, hid⟩ H d v
  | _, _, .non, _ => .non
  | _, _, .bl b, _ => .bl b
  | _, _, .int i, _ => .int i
  | _, _, .str s, _ => .str s
  | _, _, .tup h r, c => .tup h (Reps.shrink e k r (by simpa only [clean] using c))
  | _, _, .lst h hm hh r, c => .lst h (fun z => hm (by rw [e]; exact List.mem_append_left _ z)) (fun z => (k _ z).elim hh fun z => hm (by rw [e]; exact List.mem_append_right _ z)) (Reps.shrink e k r (by simpa only [clean] using c))
  | _, _, .ref h, c => .ref (by
      simp only [clean, decide_eq_true_eq] at c
      rw [e, List.getElem?_append_left c] at h
      exact h)
  | _, _, .gd n, _ => .gd n
  | _, _, .scr h, _ => .scr h
theorem Reps.shrink {W W1 : Wd} {H : Hp} {t hid : List Addr} (e : W1.m = W.m ++ t) (k : ∀ b ∈ hid, b ∈ W1.hid ∨ b ∈ t) : ∀ {ds : List D} {vs : List V}, Reps S W1 H ds vs → cleans W.m.length ds = true → Reps S ⟨W.m, hid⟩ H ds vs
  | _, _, .nil, _ => .nil
  | _, _, .cons h r, c => by
    simp only [cleans, Bool.and_eq_true] at c
    exact .cons (Rep.shrink e k h c.1) (Reps.shrink e k r c.2)
end
theorem KvR.shrink {W W1 : Wd} {H : Hp} {t hid : List Addr} (e : W1.m = W.m ++ t) (k : ∀ b ∈ hid, b ∈ W1.hid ∨ b ∈ t) : ∀ {l u}, KvR S W1 H l u → (l.all fun p => clean W.m.length p.1 && clean W.m.length p.2) = true → KvR S ⟨W.m, hid⟩ H l u
  | _, _, .nil, _ => .nil
  | _, _, .cons q h r, c => by
    simp only [List.all_cons, Bool.and_eq_true] at c
    exact .cons q (h.shrink e k c.1.2) (KvR.shrink e k r c.2)
theorem FsR.shrink {W W1 : Wd} {H : Hp} {t hid : List Addr} (e : W1.m = W.m ++ t) (k : ∀ b ∈ hid, b ∈ W1.hid ∨ b ∈ t) : ∀ {l u}, FsR S W1 H l u → (l.all fun p => clean W.m.length p.2) = true → FsR S ⟨W.m, hid⟩ H l u
  | _, _, .nil, _ => .nil
  | _, _, .cons h r, c => by
    simp only [List.all_cons, Bool.and_eq_true] at c
    exact .cons (h.shrink e k c.1) (FsR.shrink e k r c.2)
theorem ObR.shrink {W W1 : Wd} {H : Hp} {t hid : List Addr} {a : Addr} {o : O} (e : W1.m = W.m ++ t) (k : ∀ b ∈ hid, b ∈ W1.hid ∨ b ∈ t) (h : ObR S W1 H a o) (c : cleanO W.m.length o = true) : ObR S ⟨W.m, hid⟩ H a o := by
  cases o with
  | lst xs => obtain ⟨vs, e1, p⟩ := h; exact ⟨vs, e1, p.shrink e k c⟩
  | dct kvs => obtain ⟨u, e1, p⟩ := h; exact ⟨u, e1, p.shrink e k c⟩
  | ins cc fs => obtain ⟨dx, u, e1, p, hc⟩ := h; exact ⟨dx, u, e1, p.shrink e k c, hc⟩
theorem keyOf_clean {k : D} {q : L2.Key} {n : Nat} (h : keyOf k = some q) : clean n k = true := by cases k <;> first | rfl | (simp [keyOf] at h)
theorem cleanO_of {W : Wd} {H : Hp} {a : Addr} {o : O} (h : ObR S W H a o) : cleanO W.m.length o = true := by
  cases o with
  | lst xs => obtain ⟨vs, e1, p⟩ := h; exact cleans_of p
  | dct kvs =>
    obtain ⟨u, e1, p⟩ := h
    have : ∀ {l u}, KvR S W H l u → (l.all fun p => clean W.m.length p.1 && clean W.m.length p.2) = true := by
      intro l u p
      induction p with
      | nil => rfl
      | cons q h r ih => simp only [List.all_cons, keyOf_clean q, clean_of h, Bool.true_and, Bool.and_self, ih]
    exact this p
  | ins c fs =>
    obtain ⟨dx, u, e1, p, hc⟩ := h
    have : ∀ {l u}, FsR S W H l u → (l.all fun p => clean W.m.length p.2) = true := by
      intro l u p
      induction p with
      | nil => rfl
      | cons h r ih => simp only [List.all_cons, clean_of h, Bool.true_and, Bool.and_self, ih]
    exact this p
theorem HR.shrink {W W1 : Wd} {H H1 : Hp} {h h' : VH} {t hid : List Addr} (r : HR S W H h) (r1 : HR S W1 H1 h') (e : W1.m = W.m ++ t) (k : ∀ b ∈ hid, b ∈ W1.hid ∨ b ∈ t) (g : gcOk h h' = true) : HR S ⟨W.m, hid⟩ H1 (h'.take h.length) := by
  simp only [gcOk, Bool.and_eq_true, decide_eq_true_eq, List.all_eq_true, List.mem_range] at g
  obtain ⟨g1, g2⟩ := g
  have nd := r1.nd
  rw [e] at nd
  refine ⟨by rw [List.length_take, Nat.min_eq_left g1]; exact r.len, r.nd, fun a ha z => ?_, fun b hb => ?_, fun i a o h1 h2 => ?_⟩
  · rcases k a z with z | z
    · exact r1.dis a (by rw [e]; exact List.mem_append_left _ ha) z
    · exact (List.nodup_append.mp nd).2.2 a ha a z rfl
  · rcases k b hb with z | z
    · exact r1.hidA b z
    · exact r1.mem b (by rw [e]; exact List.mem_append_right _ z)
  · have hi : i < h.length := by
      have := (List.getElem?_eq_some_iff.mp h2).1
      rw [List.length_take] at this
      omega
    rw [List.getElem?_take_of_lt hi] at h2
    have h1' : W1.m[i]? = some a := by
      rw [e, List.getElem?_append_left (by rw [r.len]; exact hi)]; exact h1
    refine (r1.obj i a o h1' h2).shrink e k ?_
    have := g2 i hi
    simp only [Bool.or_eq_true, decide_eq_true_eq] at this
    rcases this with q | q
    · exact cleanO_of (r.obj i a o h1 (by rw [← q]; exact h2))
    · rw [h2] at q
      rw [r.len]
      exact q
theorem Ext.back {W W1 : Wd} {H H1 : Hp} (e : Ext W W1 H H1) : Ext W W H H1 := ⟨rfl, ⟨[], by simp⟩, fun _ h => .inl h, e.keep, e.tups, e.frzs, e.alive⟩
theorem QX.no {EX EX' : XK} {W : Wd} {H : Hp} {c : Nat} {fs : List D} {h h' : VH} (hx : S.xok = false) (q : QX S EX W H c fs h) : QX S EX' W H c fs h' := by
  have := q.1
  rw [hx] at this
  cases this
theorem fin_ok {EX : XK} {W : Wd} {H : Hp} {Q : VK} {gc : Bool} {h : VH} {r : R Out} (hx : S.xok = false) (r0 : HR S W H h) (q : QR S EX W H Q (finish gc h r)) : QS S W H { nx := fun _ H' => Q .non H', rt := Q } r := by
  cases r with
  | exc c fs h' =>
    simp only [finish] at q
    split at q
    · split at q
      · exact QX.no hx q
      · exact q.elim
    · exact QX.no hx q
  | bad => exact q
  | ok o h' =>
    simp only [finish] at q
    split at q
    rotate_left
    · cases o with
      | nx ρ => exact fun W' σ' H' e a b => (show ∀ W' H' v, Ext W W' H H' → HR S W' H' h' → Rep S W' H' .non v → Q v H' from q) W' H' .non e a .non
      | ct ρ => exact q.elim
      | rt d => exact q
      | rn xs => exact q
    split at q
    rotate_left
    · exact q.elim
    rename_i g
    cases o with
    | ct ρ => exact q.elim
    | nx ρ =>
      intro W' σ' H' e a b
      obtain ⟨t, et⟩ := e.pre
      exact (show ∀ W' H' v, Ext W W' H H' → HR S W' H' (h'.take h.length) → Rep S W' H' .non v → Q v H' from q) W H' .non e.back (r0.shrink a et (fun b hb => .inl (by rw [e.hid]; exact hb)) g) .non
    | rt d =>
      intro W' H' v e a p
      obtain ⟨t, et⟩ := e.pre
      have hl : W.m.length = h.length := r0.len
      have kh : ∀ b ∈ W.hid, b ∈ W'.hid ∨ b ∈ t := fun b hb => .inl (by rw [e.hid]; exact hb)
      have r2 : HR S W H' (h'.take h.length) := r0.shrink a et kh g
      have val : clean h.length d = true → QR S EX W H Q (.ok (.val d) (h'.take h.length)) → Q v H' := fun c q => (show ∀ W' H' v, Ext W W' H H' → HR S W' H' (h'.take h.length) → Rep S W' H' d v → Q v H' from q) W H' v e.back r2 (p.shrink et kh (by rw [hl]; exact c))
      simp only [outV] at q
      by_cases hd : ∃ j, d = .ref j
      · obtain ⟨j, rfl⟩ := hd
        simp only [freeze] at q
        split at q
        · rename_i hj
          exact val (by simpa [clean] using hj) q
        · rename_i hj
          split at q
          · rename_i xs hx'
            split at q
            · rename_i hc
              cases p with
              | @ref _ b hb =>
                obtain ⟨vs, u1, u2⟩ := a.obj j b _ hb hx'
                have hj' : W.m.length ≤ j := by rw [hl]; omega
                have bt : b ∈ t := by
                  rw [et, List.getElem?_append_right hj'] at hb
                  exact List.mem_of_getElem? hb
                have nd := a.nd
                rw [et] at nd
                have bn : b ∉ W.m := fun z => (List.nodup_append.mp nd).2.2 b z b bt rfl
                have hn : H b = none := (e.new b (by rw [et]; exact List.mem_append_right _ bt)).resolve_left bn
                have kh2 : ∀ c ∈ b :: W.hid, c ∈ W'.hid ∨ c ∈ t := fun c hc => (List.mem_cons.mp hc).elim (fun z => .inr (by rw [z]; exact bt)) (kh c)
                exact (show QN S W H Q xs (h'.take h.length) from q) W H' b vs hn e.back (r0.shrink a et kh2 g) u1 (u2.shrink et kh2 (by rw [hl]; exact hc))
            · exact q.elim
          · exact q.elim
      · have fz : freeze h.length h' d = if clean h.length d then some (.val d) else none := by
          cases d <;> first | rfl | exact absurd ⟨_, rfl⟩ hd
        rw [fz] at q
        split at q
        · rename_i c
          exact val c q
        · exact q.elim
    | rn xs =>
      simp only [outV] at q
      split at q
      · rename_i c
        intro W' H' a vs ha e r1 ea p
        obtain ⟨t, et⟩ := e.pre
        have hl : W.m.length = h.length := r0.len
        have kh : ∀ c ∈ a :: W.hid, c ∈ (W'.hide a).hid ∨ c ∈ t := fun c hc => .inl (by
          show c ∈ a :: W'.hid
          rw [e.hid]; exact hc)
        exact (show QN S W H Q xs (h'.take h.length) from q) W H' a vs ha e.back (r0.shrink (W1 := W'.hide a) r1 et kh g) ea (p.shrink (W1 := W'.hide a) et kh (by rw [hl]; exact c))
      · exact q.elim
/-! ### defs -/
theorem er_start {W : Wd} {H : Hp} {N : List Str} {ds : List D} {vs : List V} (p : Reps S W H ds vs) (np nl : Nat) (h1 : ds.length = np) (h2 : nl = N.length) : ER S W H (L2.start N vs) (ds.map some ++ List.replicate (nl - np) none) := by
  subst h1 h2
  refine ⟨by simp [L2.start, p.length], fun i d e => ?_⟩
  by_cases hi : i < ds.length
  · rw [List.getElem?_append_left (by simpa using hi), List.getElem?_map] at e
    cases q : ds[i]? with
    | none => rw [q] at e; cases e
    | some d' =>
      rw [q] at e
      cases e
      obtain ⟨v, e1, e2⟩ := p.get q
      refine ⟨v, ?_, e2⟩
      unfold L2.start
      rw [List.getElem?_append_left (by simpa [← p.length] using hi), List.getElem?_map, e1]; rfl
  · rw [List.getElem?_append_right (by simpa using hi)] at e
    rw [List.getElem?_replicate] at e
    split at e <;> cases e
/-- a def of the text and its small form -/
structure FD (S : Sig) (tbl : Nat → Option Fn) (f : Nat) : Prop where
  ex : ∃ (fn : Fn) (st : Stmt) (x qual : Str) (N : List Str) (m : Nat), tbl f = some fn ∧ Fun S.K x qual st (S.fa f) (S.fd f) ∧ FnScope N (S.ps f) (defScope st) ∧ chkSs S N m (defScope st) fn.body (defBody st) = true ∧ fn.np = (S.ps f).length ∧ fn.nl = N.length
  bd : Binds S.K (S.fd f) (S.ps f) []
/-- the text's facts -/
structure GG (S : Sig) (tbl : Nat → Option Fn) : Prop where
  fd : ∀ f, S.LA.contains f = true → FD S tbl f
  ar : ∀ f fn, tbl f = some fn → fn.np = (S.ps f).length
  gd : ∀ X : Cx, X.K = S.K → X.w = S.w → GdOk S X
  glob : ∀ x d, S.gv x = some d → ∃ u v, S.mg (S.gn x) = some u ∧ RelV v u ∧ ∀ W H, Rep S W H d v
  blt : ∀ x ∈ (["len", "int", "str", "sum", "max", "min", "sorted", "tuple", "dict", "isinstance", "list", "range", "reversed", "bool", "set"] : List Str), S.mg x = none
  fn : ∀ f, S.L.contains f = true → S.mg (S.fnm f) = some (.ref (S.fa f)) ∧ PySem.W.keepIn S.K (.ref (S.fa f)) = true
  mtLA : ∀ c m f, S.C.mt c m = some f → S.LA.contains f = true
  cls : ∀ c, S.CL.contains c = true → S.mg (S.cnm c) = some (.ref (S.ca c)) ∧ ∀ f, S.C.mt c 0 = some f → Mk S.K (S.ca c) (S.fa f)
  inst : ∀ c, S.CL.contains c = true → Cls S.K (S.ca c) ∧ (∀ m f, S.C.mt c m = some f → Meth S.K (S.ca c) (S.mn m) (S.fa f)) ∧ ∀ f, S.FL.contains f = true → NoAttr S.K (S.ca c) (S.fl f)
  LLA : ∀ f, S.L.contains f = true → S.LA.contains f = true
  mnfl : ∀ m f, S.mn m ≠ S.fl f
  flinj : ∀ f g, S.fl f = S.fl g → f = g
  xok : S.xok = false
theorem run_ar {C : Cfg} {tbl : Nat → Option Fn} (g : ∀ f fn, tbl f = some fn → fn.np = (S.ps f).length) : ∀ (n f : Nat) (ds : List D) (h : VH), ds.length ≠ (S.ps f).length → run C tbl n f ds h = .bad
  | 0, _, _, _, _ => rfl
  | n + 1, f, ds, h, hl => by
    simp only [run]
    cases q : tbl f with
    | none => rfl
    | some fn => simp only; rw [if_neg (by rw [g f fn q]; exact hl)]
theorem fn_all {tbl : Nat → Option Fn} (G : GG S tbl) : ∀ (n f : Nat), S.LA.contains f = true → FnOk S.P S.w S.K S.mg S.base (L2.CX S.P S.w) (2 * n) (S.fa f) (S.fd f) (S.ps f) (spF S (run S.C tbl n) f)
  | 0, f, hf => ⟨fun vs H Q E ⟨W, ds, h, hr, p, hl, q⟩ => hl, fun A outer s H args us vs Q E hr he hb hv ⟨W, ds, h, hr', p, hl, q⟩ => (show False from q).elim⟩
  | n + 1, f, hf => by
    obtain ⟨⟨fn, st, x, qual, N, m, h1, h2, h3, h4, h5, h6⟩, bd⟩ := G.fd f hf
    have e : 2 * (n + 1) = (2 * n + 1) + 1 := by omega
    rw [e]
    refine h2.okX h3 (fun vs H Q E ⟨W, ds, h, hr, p, hl, q⟩ => hl) fun cdv A outer s H vs Q E hr ⟨W, ds, h, hr', p, hl, q⟩ => ?_
    have gx : GX S N (run S.C tbl n) (2 * n) L2.E0 (cxOf (L2.CX S.P S.w) S.P S.w S.K S.mg S.base N qual (defScope st) (S.fa f) cdv A outer s H E) :=
      { hK := rfl, calm := rfl, room := hr, hN := rfl, hx := passL, gd := G.gd _ rfl rfl, glob := G.glob, blt := G.blt, fn := G.fn, ok := fun f' hf' => ⟨fn_all G n f' hf', (G.fd f' hf').bd⟩, ar := fun f' ds' h' hl' => run_ar G.ar n f' ds' h' hl',
        mtLA := G.mtLA, cls := G.cls, inst := G.inst, LLA := G.LLA, mnfl := G.mnfl, flinj := G.flinj }
    have gs : GS S N (run S.C tbl n) (2 * n) (cxOf (L2.CX S.P S.w) S.P S.w S.K S.mg S.base N qual (defScope st) (S.fa f) cdv A outer s H E) := ⟨gx, h3.nd, rfl, passes_of rfl, h3.kind⟩
    refine ⟨tB S (run S.C tbl n) fn.body, pss_ok (m := m) fn.body gs h4, ?_⟩
    simp only [run, h1] at q
    have hd : ds.length = fn.np := by rw [p.length, h5]; exact hl
    rw [if_pos hd] at q
    exact ⟨W, _, h, hr', er_start p fn.np fn.nl hd h6, fin_ok G.xok hr' q⟩
end
end Mn

set_option Elab.async false
set_option linter.all false
set_option autoImplicit false
set_option maxRecDepth 100000
set_option maxHeartbeats 4000000
/-! MnH: a law's names, by lists. -/
namespace Mn
open PySem PySem.Spec PyProof.Rows L2
def flD (l : List Str) (n : Nat) : Str := l.getD n ⟨#[2000000 + n]⟩
def mnD (l : List Str) (n : Nat) : Str := l.getD n ⟨#[]⟩
theorem flD_inj {l : List Str} (nd : l.Nodup) (h : ∀ x ∈ l, 2 ≤ x.cps.size) : ∀ f g, flD l f = flD l g → f = g := by
  intro f g e
  unfold flD at e
  rw [List.getD_eq_getElem?_getD, List.getD_eq_getElem?_getD] at e
  by_cases hf : f < l.length
  · by_cases hg : g < l.length
    · rw [List.getElem?_eq_getElem hf, List.getElem?_eq_getElem hg] at e
      exact (List.getElem_inj nd).mp e
    · rw [List.getElem?_eq_getElem hf, List.getElem?_eq_none (by omega)] at e
      have := h _ (List.getElem_mem hf)
      simp only [Option.getD_some, Option.getD_none] at e
      rw [e] at this
      simp at this
  · by_cases hg : g < l.length
    · rw [List.getElem?_eq_none (by omega), List.getElem?_eq_getElem hg] at e
      have := h _ (List.getElem_mem hg)
      simp only [Option.getD_some, Option.getD_none] at e
      rw [← e] at this
      simp at this
    · rw [List.getElem?_eq_none (by omega), List.getElem?_eq_none (by omega)] at e
      simp at e
      exact e
theorem mnfl_of {l q : List Str} (h : ∀ x ∈ l, 2 ≤ x.cps.size) (d : ∀ x ∈ q, 2 ≤ x.cps.size ∧ x ∉ l) : ∀ m f, mnD q m ≠ flD l f := by
  intro m f e
  unfold flD mnD at e
  rw [List.getD_eq_getElem?_getD, List.getD_eq_getElem?_getD] at e
  by_cases hm : m < q.length
  · rw [List.getElem?_eq_getElem hm] at e
    simp only [Option.getD_some] at e
    obtain ⟨d1, d2⟩ := d _ (List.getElem_mem hm)
    by_cases hf : f < l.length
    · rw [List.getElem?_eq_getElem hf] at e
      simp only [Option.getD_some] at e
      exact d2 (by rw [e]; exact List.getElem_mem hf)
    · rw [List.getElem?_eq_none (by omega)] at e
      simp only [Option.getD_none] at e
      rw [e] at d1
      simp at d1
  · rw [List.getElem?_eq_none (by omega)] at e
    simp only [Option.getD_none] at e
    by_cases hf : f < l.length
    · rw [List.getElem?_eq_getElem hf] at e
      simp only [Option.getD_some] at e
      have := h _ (List.getElem_mem hf)
      rw [← e] at this
      simp at this
    · rw [List.getElem?_eq_none (by omega)] at e
      simp at e
/-- what does not hang on the run -/
structure Sta where
  ps : Nat → List Str
  fnm : Nat → Str
  cnm : Nat → Str
  fln : List Str
  mnn : List Str
  gn : Nat → Str
  gv : Nat → Option D
  FL : List Nat
  C : Cfg
  L : List Nat
  LA : List Nat
  CL : List Nat
/-- what does -/
structure Dyn where
  K : PySem.W.Frag
  P : Program
  w : World
  mg : Str → Option Value
  base : Heap
  fa : Nat → Addr
  fd : Nat → FuncData
  ca : Nat → Addr
  gda : Nat → Addr
def mkS (s : Sta) (d : Dyn) : Sig :=
  { K := d.K, P := d.P, w := d.w, mg := d.mg, base := d.base, fa := d.fa, fd := d.fd, ps := s.ps, fnm := s.fnm, ca := d.ca, cnm := s.cnm, fl := flD s.fln, mn := mnD s.mnn, gn := s.gn, gda := d.gda, gv := s.gv, FL := s.FL, C := s.C, L := s.L, LA := s.LA, CL := s.CL, xok := false }
/-! a written dict from texts to texts -/
def GdE (P : Params) : List DictEntry → List (D × D) → Prop
  | [], [] => True
  | e :: r, p :: q => (∃ x t y u, e.key = .str x t ∧ e.hash = PyData.keyHash P x ∧ e.val = .str y u ∧ p = (.str x.cps.toList, .str y.cps.toList) ∧ okS y.cps.toList = true) ∧ GdE P r q
  | _, _ => False
theorem GdE.lit {P : Params} : ∀ {l : List DictEntry} {q : List (D × D)}, GdE P l q → PySem.W.KeysLit P l
  | [], [], _ => trivial
  | e :: r, p :: q, ⟨⟨x, t, y, u, h1, h2, _⟩, z⟩ => ⟨⟨x, t, h1, h2⟩, z.lit⟩
  | [], _ :: _, h => h.elim
  | _ :: _, [], h => h.elim
theorem GdE.find {P : Params} (s : List Nat) : ∀ {l : List DictEntry} {q : List (D × D)}, GdE P l q → l.any (·.refKey) = false ∧
    ((l.find? (·.key.isStr (Sz s)) = none ∧ kfind q (.str s) = none) ∨ ∃ e u t, l.find? (·.key.isStr (Sz s)) = some e ∧ e.val = u ∧ kfind q (.str s) = some (.str t) ∧ okS t = true ∧ RelV (.str (Sz t)) u)
  | [], [], _ => ⟨rfl, .inl ⟨rfl, rfl⟩⟩
  | e :: r, p :: q, ⟨⟨x, t, y, u, h1, h2, h3, h4, h5⟩, z⟩ => by
    obtain ⟨z1, z2⟩ := z.find s
    have ek : e.refKey = false := by unfold DictEntry.refKey; rw [h1]
    have eq : e.key.isStr (Sz s) = eqv (.str x.cps.toList) (.str s) := by
      rw [h1]
      have ex : x = Sz x.cps.toList := by cases x; simp [Sz]
      show (x == Sz s) = (x.cps.toList == s)
      rw [ex, str_beq]
      simp [Sz]
    refine ⟨by rw [List.any_cons, ek, z1]; rfl, ?_⟩
    rw [List.find?_cons, eq, h4]
    simp only [kfind]
    cases hb : eqv (.str x.cps.toList) (.str s) with
    | true =>
      refine .inr ⟨e, _, _, rfl, h3, rfl, h5, ?_⟩
      have ey : y = Sz y.cps.toList := by cases y; simp [Sz]
      exact ⟨u, by rw [← ey]⟩
    | false => exact z2
  | [], _ :: _, h => h.elim
  | _ :: _, [], h => h.elim
theorem gd_of {S : Sig} {X : Cx} {es : Array DictEntry} {n : Nat} (l : X.K.lookup (S.gda 0) = some ⟨.type "dict", none, .dict es n, #[]⟩) (g : GdE X.w.params es.toList (S.C.gds 0)) (low : (S.gda 0 == sysModules) = false) : GdOk S X := by
  refine ⟨es, n, ⟨l, g.lit, low⟩, fun s => ?_⟩
  obtain ⟨z1, z2⟩ := g.find s
  unfold PySem.W.nsIn
  rw [l]
  rcases z2 with ⟨h1, h2⟩ | ⟨e, u, t, h1, h2, h3, h4, h5⟩
  · exact ⟨none, by simp only [h1, z1]; rfl, .inl ⟨rfl, h2⟩⟩
  · exact ⟨some u, by simp only [h1, h2], .inr ⟨u, t, rfl, h3, h4, h5⟩⟩
/-! the script, the law's end -/
theorem scr_of {K : PySem.W.Frag} {H : Hp} {a : Addr} {ns : List Int} (o : Only H) (h : SqL K H a (ns.map V.int)) : ScrAt K H a ns := by
  rcases h with h | h
  · rcases h with h | ⟨x, h⟩
    · rcases o a with e | ⟨x, xs, e⟩
      · rw [h] at e; cases e
      · rw [h] at e; cases e
    · exact .inl ⟨x, h⟩
  · exact .inr h
/-- the law's promise -/
def spL (K : PySem.W.Frag) : Sp := fun vs H Q _ => ∃ (a : Addr) (ns : List Int), vs = [.ref a] ∧ ns.length ≤ 63 ∧ Only H ∧ SqL K H a (ns.map V.int) ∧ ∀ H', Q (.bl true) H'
theorem law_end {S : Sig} {tbl : Nat → Option Fn} {f n : Nat} (hp : (S.ps f).length = 1) (t : ∀ ns : List Int, ns.length ≤ 63 → ∃ h', run S.C tbl n f [.scr ns] [] = .ok (.val (.bl true)) h') :
    ∀ vs H Q E, spL S.K vs H Q E → spF S (run S.C tbl n) f vs H Q E := by
  rintro vs H Q E ⟨a, ns, rfl, hl, o, h, k⟩
  obtain ⟨h', e⟩ := t ns hl
  refine ⟨⟨[], []⟩, [.scr ns], [], ⟨rfl, List.nodup_nil, (fun _ h => nomatch h), (fun _ h => nomatch h), fun i a o h1 h2 => (by simp at h2)⟩, .cons (.scr (scr_of o h)) .nil, hp.symm, ?_⟩
  rw [e]
  intro W' H' v e1 r p
  cases p
  exact k _
end Mn

set_option Elab.async false
set_option linter.all false
set_option maxRecDepth 100000
/-! MnV: what the interpreter does, step by step: rows for simp only (core Lean). -/
namespace Mn
theorem v_bind {α β : Type} (a : α) (h : VH) (f : α → VH → R β) : (R.ok a h).bind f = f a h := (rfl)
theorem v_some {α : Type} (a : α) (h : VH) : R.ofO (some a) h = .ok a h := (rfl)
theorem v_add (h : VH) (i j : Int) : opD h .add (.int i) (.int j) = some (.int (i + j)) := (rfl)
theorem v_sub (h : VH) (i j : Int) : opD h .sub (.int i) (.int j) = some (.int (i - j)) := (rfl)
theorem v_mul (h : VH) (i j : Int) (hj : -(2 ^ 64) < j ∧ j < 2 ^ 64) : opD h .mul (.int i) (.int j) = some (.int (i * j)) := by simp only [opD]; rw [if_pos hj]
theorem v_div (h : VH) (i j : Int) (hj : 0 < j ∧ j < 1073741824) : opD h .div (.int i) (.int j) = some (.int (i / j)) := by simp only [opD]; rw [if_pos hj]
theorem v_mod (h : VH) (i j : Int) (hj : 0 < j) : opD h .mod (.int i) (.int j) = some (.int (i % j)) := by simp only [opD]; rw [if_pos hj]
theorem v_1018 (h : VH) : opD h .pow (.int 10) (.int 18) = some (.int 1000000000000000000) := (rfl)
theorem v_lt (g : Nat → List (D × D)) (h : VH) (i j : Int) : cpD g h .lt (.int i) (.int j) = some (decide (i < j)) := (rfl)
theorem v_le (g : Nat → List (D × D)) (h : VH) (i j : Int) : cpD g h .le (.int i) (.int j) = some (decide (i ≤ j)) := (rfl)
theorem v_gt (g : Nat → List (D × D)) (h : VH) (i j : Int) : cpD g h .gt (.int i) (.int j) = some (decide (j < i)) := (rfl)
theorem v_ge (g : Nat → List (D × D)) (h : VH) (i j : Int) : cpD g h .ge (.int i) (.int j) = some (decide (j ≤ i)) := (rfl)
theorem v_eqI (g : Nat → List (D × D)) (h : VH) (i j : Int) : cpD g h .eq (.int i) (.int j) = some (i == j) := (rfl)
theorem v_eqS (g : Nat → List (D × D)) (h : VH) (i j : List Nat) : cpD g h .eq (.str i) (.str j) = some (i == j) := (rfl)
theorem v_ixR (g : Nat → List (D × D)) (h : VH) (k : Nat) (xs : List D) (i : D) (e : h[k]? = some (.lst xs)) : ixD g h (.ref k) i = ixL xs i := by simp only [ixD, e]
theorem v_ixL (g : Nat → List (D × D)) (h : VH) (xs : List D) (i : D) : ixD g h (.lst xs) i = ixL xs i := (rfl)
theorem v_ixT (g : Nat → List (D × D)) (h : VH) (xs : List D) (i : D) : ixD g h (.tup xs) i = ixL xs i := (rfl)
theorem v_at (xs : List D) (n : Nat) (d : D) (e : xs[n]? = some d) : ixL xs (.int n) = some d := by
  have hl : n < xs.length := (List.getElem?_eq_some_iff.mp e).1
  simp only [ixL, ixN]
  rw [if_pos (by omega), if_pos (by omega)]
  simpa using e
theorem v_scr (g : Nat → List (D × D)) (h : VH) (xs : List Int) (i : Int) (c : Int) (h0 : 0 ≤ i) (e : xs[i.toNat]? = some c) : ixD g h (.scr xs) (.int i) = some (.int c) := by
  have hl : i.toNat < xs.length := (List.getElem?_eq_some_iff.mp e).1
  simp only [ixD, ixN]
  rw [if_pos h0, if_pos (by omega)]
  simp [e]
theorem v_lenS (h : VH) (xs : List Int) : biD h .len [.scr xs] = some (.int xs.length) := (rfl)
theorem v_lenL (h : VH) (xs : List D) : biD h .len [.lst xs] = some (.int xs.length) := (rfl)
theorem v_lenT (h : VH) (xs : List D) : biD h .len [.tup xs] = some (.int xs.length) := (rfl)
/-- o[i] = d, o a list that may change -/
theorem v_put (C : Cfg) (call : Call) (a i : E) (d : D) (ρ : Env) (h h1 h2 : VH) (k j : Nat) (xs : List D) (ea : evE C call a ρ h = .ok (.ref k) h1) (ei : evE C call i ρ h1 = .ok (.int j) h2) (eh : h2[k]? = some (.lst xs)) (hj : j < xs.length) :
    asgT C call (.sub a i) d ρ h = .ok (.nx ρ) (h2.set k (.lst (xs.set j d))) := by
  simp only [asgT, ea, v_bind, ei, eh, ixN]
  rw [if_pos (by omega), if_pos (by omega)]
  simp
end Mn

set_option Elab.async false
set_option linter.all false
set_option maxRecDepth 100000
/-! MnW: the interpreter by rows, one for each form; loops by what a turn does. Core Lean alone. -/
namespace Mn
def thenB (x : D) (k : R D) (h : VH) : R D := match x with | .bl true => k | .bl false => .ok (.bl false) h | _ => .bad
def elseB (x : D) (k : R D) (h : VH) : R D := match x with | .bl false => k | .bl true => .ok (.bl true) h | _ => .bad
def ifB {α : Type} (x : D) (a b : R α) : R α := match x with | .bl true => a | .bl false => b | _ => .bad
def notB (x : D) (h : VH) : R D := match x with | .bl b => .ok (.bl (!b)) h | _ => .bad
def negI (x : D) (h : VH) : R D := match x with | .int i => .ok (.int (-i)) h | _ => .bad
def optI (x : D) (h : VH) : R (Option Int) := match x with | .int i => .ok (some i) h | _ => .bad
def chB (o : Option Bool) (k : R D) (h : VH) : R D := match o with | some true => k | some false => .ok (.bl false) h | none => .bad
def seqK (o : Out) (k : Env → VH → R Out) (h : VH) : R Out := match o with | .nx ρ => k ρ h | o => .ok o h
def lenE (ds : List D) (f : List D → D) (h : VH) : R D := if ds.length ≤ LINE then .ok (f ds) h else .bad
def fldR (x : D) (f : Nat) (h : VH) : R D := match x with
    | .ref k => match h[k]? with
      | some (.ins _ fs) => R.ofO (fs.lookup f) h
      | _ => .bad
    | _ => .bad
def methR (C : Cfg) (x : D) (m : Nat) (k : Nat → Nat → R D) (h : VH) : R D := match x with
    | .ref a => match h[a]? with
      | some (.ins c _) => match C.mt c m with
        | some f => k f a
        | none => .bad
      | _ => .bad
    | _ => .bad
def fldO (o : Option O) (f : Nat) (h : VH) : R D := match o with
      | some (.ins _ fs) => R.ofO (fs.lookup f) h
      | _ => .bad
def methO (C : Cfg) (o : Option O) (m : Nat) (k : Nat → R D) : R D := match o with
      | some (.ins c _) => match C.mt c m with
        | some f => k f
        | none => .bad
      | _ => .bad
def setO (o : Option O) (k f : Nat) (d : D) (ρ : Env) (h : VH) : R Out := match o with
      | some (.ins c fs) => if fs.length < 100 then .ok (.nx ρ) (h.set k (.ins c (fput f d fs))) else .bad
      | _ => .bad
def newR (o : Option Nat) (k : Nat → R D) : R D := match o with | some f => k f | none => .bad
def nonR (r : Rv) (x : D) (h : VH) : R D := match r.d with | .non => .ok x h | _ => .bad
def rvF (r : Rv) (h : VH) : R (List D) := match r with | .new xs => .ok xs h | .val _ => .bad
def setF (x : D) (f : Nat) (d : D) (ρ : Env) (h : VH) : R Out := match x with
    | .ref k => match h[k]? with
      | some (.ins c fs) => if fs.length < 100 then .ok (.nx ρ) (h.set k (.ins c (fput f d fs))) else .bad
      | _ => .bad
    | _ => .bad
def setI (x y d : D) (ρ : Env) (h : VH) : R Out := match x with
    | .ref k => match h[k]? with
      | some (.lst xs) => match y with
        | .int i => match ixN xs.length i with | some j => .ok (.nx ρ) (h.set k (.lst (xs.set j d))) | none => .bad
        | _ => .bad
      | _ => .bad
    | _ => .bad
def condE (C : Cfg) (call : Call) (c : Eo) (ρ : Env) (h : VH) : R D := match c with | .none => .ok (.bl true) h | .some c => evE C call c ρ h
section
variable (C : Cfg) (call : Call) (ρ : Env) (h : VH)
theorem x_c (d : D) : evE C call (.c d) ρ h = .ok d h := (rfl)
theorem x_g (n : Nat) (d : D) : evE C call (.g n d) ρ h = .ok d h := (rfl)
theorem x_v0 (d : D) (r : Env) : evE C call (.v 0) (some d :: r) h = .ok d h := (rfl)
theorem x_vs (i : Nat) (a : Option D) (r : Env) : evE C call (.v (i + 1)) (a :: r) h = evE C call (.v i) r h := (rfl)
theorem x_v1 (a : Option D) (d : D) (r : Env) : evE C call (.v 1) (a :: some d :: r) h = .ok d h := (rfl)
theorem x_v2 (a b : Option D) (d : D) (r : Env) : evE C call (.v 2) (a :: b :: some d :: r) h = .ok d h := (rfl)
theorem x_v3 (a b c : Option D) (d : D) (r : Env) : evE C call (.v 3) (a :: b :: c :: some d :: r) h = .ok d h := (rfl)
theorem x_v4 (a b c e : Option D) (d : D) (r : Env) : evE C call (.v 4) (a :: b :: c :: e :: some d :: r) h = .ok d h := (rfl)
theorem x_v5 (a b c e f : Option D) (d : D) (r : Env) : evE C call (.v 5) (a :: b :: c :: e :: f :: some d :: r) h = .ok d h := (rfl)
theorem x_v6 (a b c e f g : Option D) (d : D) (r : Env) : evE C call (.v 6) (a :: b :: c :: e :: f :: g :: some d :: r) h = .ok d h := (rfl)
theorem x_v7 (a b c e f g i : Option D) (d : D) (r : Env) : evE C call (.v 7) (a :: b :: c :: e :: f :: g :: i :: some d :: r) h = .ok d h := (rfl)
theorem x_v8 (a b c e f g i j : Option D) (d : D) (r : Env) : evE C call (.v 8) (a :: b :: c :: e :: f :: g :: i :: j :: some d :: r) h = .ok d h := (rfl)
theorem x_v9 (a b c e f g i j k : Option D) (d : D) (r : Env) : evE C call (.v 9) (a :: b :: c :: e :: f :: g :: i :: j :: k :: some d :: r) h = .ok d h := (rfl)
theorem x_v10 (a b c e f g i j k l : Option D) (d : D) (r : Env) : evE C call (.v 10) (a :: b :: c :: e :: f :: g :: i :: j :: k :: l :: some d :: r) h = .ok d h := (rfl)
theorem x_v11 (a b c e f g i j k l m : Option D) (d : D) (r : Env) : evE C call (.v 11) (a :: b :: c :: e :: f :: g :: i :: j :: k :: l :: m :: some d :: r) h = .ok d h := (rfl)
theorem x_v12 (a b c e f g i j k l m n : Option D) (d : D) (r : Env) : evE C call (.v 12) (a :: b :: c :: e :: f :: g :: i :: j :: k :: l :: m :: n :: some d :: r) h = .ok d h := (rfl)
theorem x_v13 (a b c e f g i j k l m n o : Option D) (d : D) (r : Env) : evE C call (.v 13) (a :: b :: c :: e :: f :: g :: i :: j :: k :: l :: m :: n :: o :: some d :: r) h = .ok d h := (rfl)
theorem x_v14 (a b c e f g i j k l m n o p : Option D) (d : D) (r : Env) : evE C call (.v 14) (a :: b :: c :: e :: f :: g :: i :: j :: k :: l :: m :: n :: o :: p :: some d :: r) h = .ok d h := (rfl)
theorem x_v15 (a b c e f g i j k l m n o p q : Option D) (d : D) (r : Env) : evE C call (.v 15) (a :: b :: c :: e :: f :: g :: i :: j :: k :: l :: m :: n :: o :: p :: q :: some d :: r) h = .ok d h := (rfl)
theorem x_tup (es : Es) : evE C call (.tup es) ρ h = (evEs C call es ρ h).bind fun ds h => lenE ds .tup h := (rfl)
theorem x_lst (es : Es) : evE C call (.lst es) ρ h = (evEs C call es ρ h).bind fun ds h => lenE ds .lst h := (rfl)
theorem x_op (o : Op) (a b : E) : evE C call (.op o a b) ρ h = (evE C call a ρ h).bind fun x h => (evE C call b ρ h).bind fun y h => R.ofO (opD h o x y) h := (rfl)
theorem x_neg (a : E) : evE C call (.neg a) ρ h = (evE C call a ρ h).bind fun x h => negI x h := (rfl)
theorem x_not (a : E) : evE C call (.not a) ρ h = (evE C call a ρ h).bind fun x h => notB x h := (rfl)
theorem x_and (a b : E) : evE C call (.and a b) ρ h = (evE C call a ρ h).bind fun x h => thenB x (evE C call b ρ h) h := (rfl)
theorem x_or (a b : E) : evE C call (.or a b) ρ h = (evE C call a ρ h).bind fun x h => elseB x (evE C call b ρ h) h := by
  simp only [evE]; congr 1
theorem x_ite (t a b : E) : evE C call (.ite t a b) ρ h = (evE C call t ρ h).bind fun x h => ifB x (evE C call a ρ h) (evE C call b ρ h) := (rfl)
theorem x_cmp (o : Cp) (a b : E) : evE C call (.cmp o a b) ρ h = (evE C call a ρ h).bind fun x h => (evE C call b ρ h).bind fun y h => R.ofO ((cpD C.gds h o x y).map .bl) h := (rfl)
theorem x_chain (a b c : E) (o p : Cp) : evE C call (.chain a o b p c) ρ h = (evE C call a ρ h).bind fun x h => (evE C call b ρ h).bind fun y h => chB (cpD C.gds h o x y) ((evE C call c ρ h).bind fun z h => R.ofO ((cpD C.gds h p y z).map .bl) h) h := (rfl)
theorem x_ix (a i : E) : evE C call (.ix a i) ρ h = (evE C call a ρ h).bind fun x h => (evE C call i ρ h).bind fun y h => R.ofO (ixD C.gds h x y) h := (rfl)
theorem x_sl (a : E) (lo hi : Eo) : evE C call (.sl a lo hi) ρ h = (evE C call a ρ h).bind fun x h => (evEo C call lo ρ h).bind fun l h => (evEo C call hi ρ h).bind fun u h => R.ofO (slD h x l u) h := (rfl)
theorem x_rev (a : E) : evE C call (.rev a) ρ h = (evE C call a ρ h).bind fun x h => R.ofO (revD h x) h := (rfl)
theorem x_call (f : Nat) (es : Es) : evE C call (.call f es) ρ h = (evEs C call es ρ h).bind fun ds h => (call f ds h).bind fun r h => .ok r.d h := (rfl)
theorem x_meth (o : E) (m : Nat) (es : Es) : evE C call (.meth o m es) ρ h = (evE C call o ρ h).bind fun x h => methR C x m (fun f a => (evEs C call es ρ h).bind fun ds h => (call f (.ref a :: ds) h).bind fun r h => .ok r.d h) h := (rfl)
theorem x_new (c : Nat) (es : Es) : evE C call (.new c es) ρ h = (evEs C call es ρ h).bind fun ds h => newR (C.mt c 0) fun f => (call f (.ref h.length :: ds) (h ++ [.ins c []])).bind fun r h' => nonR r (.ref h.length) h' := (rfl)
theorem x_fld (o : E) (f : Nat) : evE C call (.fld o f) ρ h = (evE C call o ρ h).bind fun x h => fldR x f h := (rfl)
theorem x_isi (a : E) (ts : List Ty) : evE C call (.isi a ts) ρ h = (evE C call a ρ h).bind fun x h => R.ofO ((isiD h x ts).map .bl) h := (rfl)
theorem x_bi (b : Bi) (es : Es) : evE C call (.bi b es) ρ h = (evEs C call es ρ h).bind fun ds h => R.ofO (biD h b ds) h := (rfl)
theorem x_listof (a : E) : evE C call (.listof a) ρ h = (evE C call a ρ h).bind fun x h => R.ofO ((asLT h x).map .lst) h := (rfl)
theorem x_bm (m : Bm) (o : E) (es : Es) : evE C call (.bm m o es) ρ h = (evE C call o ρ h).bind fun x h => if bmT h m x then (evEs C call es ρ h).bind fun ds h => bmD h m x ds else .bad := (rfl)
theorem x_nil : evEs C call .nil ρ h = .ok [] h := (rfl)
theorem x_cons (e : E) (r : Es) : evEs C call (.cons e r) ρ h = (evE C call e ρ h).bind fun x h => (evEs C call r ρ h).bind fun xs h => .ok (x :: xs) h := (rfl)
theorem x_eno : evEo C call .none ρ h = .ok none h := (rfl)
theorem x_eso (e : E) : evEo C call (.some e) ρ h = (evE C call e ρ h).bind fun x h => optI x h := (rfl)
theorem x_ival (e : E) : evIt C call (.val e) ρ h = (evE C call e ρ h).bind fun x h => R.ofO (valIt h x) h := (rfl)
theorem x_irange (es : Es) : evIt C call (.range es) ρ h = (evEs C call es ρ h).bind fun ds h => R.ofO ((rangeD ds).map fun xs => (xs, none)) h := (rfl)
theorem x_irev (e : E) : evIt C call (.revd e) ρ h = (evE C call e ρ h).bind fun x h => match x with | .lst xs => .ok (xs.reverse, none) h | _ => .bad := (rfl)
theorem x_fcall (f : Nat) (es : Es) : evF C call (.call f es) ρ h = (evEs C call es ρ h).bind fun ds h => (call f ds h).bind fun r h => rvF r h := (rfl)
theorem x_flst (es : Es) : evF C call (.lst es) ρ h = (evEs C call es ρ h).bind fun ds h => if ds.length ≤ LINE then .ok ds h else .bad := (rfl)
theorem x_flistof (a : E) : evF C call (.listof a) ρ h = (evE C call a ρ h).bind fun x h => R.ofO (asLT h x) h := (rfl)
theorem x_asg (t : T) (e : E) : evS C call (.asg t e) ρ h = (evE C call e ρ h).bind fun d h => asgT C call t d ρ h := (rfl)
theorem x_asgB (t : T) (e : E) : evS C call (.asgB t e) ρ h = (evF C call e ρ h).bind fun xs h => asgT C call t (.ref h.length) ρ (h ++ [.lst xs]) := (rfl)
theorem x_ex (e : E) : evS C call (.ex e) ρ h = (evE C call e ρ h).bind fun _ h => .ok (.nx ρ) h := (rfl)
theorem x_ret (e : E) : evS C call (.ret e) ρ h = (evE C call e ρ h).bind fun d h => .ok (.rt d) h := (rfl)
theorem x_retF (e : E) : evS C call (.retF e) ρ h = (evF C call e ρ h).bind fun xs h => .ok (.rn xs) h := (rfl)
theorem x_site (c : E) (a b : Ss) : evS C call (.ite c a b) ρ h = (evE C call c ρ h).bind fun x h => ifB x (evSs C call a ρ h) (evSs C call b ρ h) := (rfl)
theorem x_raise (c : Nat) (es : Es) : evS C call (.raise c es) ρ h = (evEs C call es ρ h).bind fun ds h => .exc c ds h := (rfl)
theorem x_cont : evS C call .cont ρ h = .ok (.ct ρ) h := (rfl)
theorem x_pass : evS C call .pass ρ h = .ok (.nx ρ) h := (rfl)
theorem x_par (i j : Nat) (a b : E) : evS C call (.par i j a b) ρ h = (evE C call a ρ h).bind fun x h => (evE C call b ρ h).bind fun y h => .ok (.nx ((ρ.set i (some x)).set j (some y))) h := (rfl)
theorem x_snil : evSs C call .nil ρ h = .ok (.nx ρ) h := (rfl)
theorem x_scons (s : S) (r : Ss) : evSs C call (.cons s r) ρ h = (evS C call s ρ h).bind fun o h => seqK o (evSs C call r) h := by
  simp only [evSs]; congr 1
theorem x_tnm (i : Nat) (d : D) : asgT C call (.nm i) d ρ h = .ok (.nx (ρ.set i (some d))) h := (rfl)
theorem x_ttup (is : List Nat) (ds : List D) : asgT C call (.tup is) (.tup ds) ρ h = R.ofO ((setN ρ is ds).map .nx) h := (rfl)
theorem x_tsub (a i : E) (d : D) : asgT C call (.sub a i) d ρ h = (evE C call a ρ h).bind fun x h => (evE C call i ρ h).bind fun y h => setI x y d ρ h := (rfl)
theorem x_tfld (o : E) (f : Nat) (d : D) : asgT C call (.fld o f) d ρ h = (evE C call o ρ h).bind fun x h => setF x f d ρ h := (rfl)
theorem x_for (t : T) (it : It) (b : Ss) : evS C call (.for_ t it b) ρ h = (evIt C call it ρ h).bind fun p h => forL p.2 h (evSs C call b) t p.1 ρ h := (rfl)
theorem x_while (c : E) (b : Ss) : evS C call (.while_ c b) ρ h = whL (evE C call c) (evSs C call b) C.wf ρ h := (rfl)
theorem x_lc (elt : E) (t : T) (it : It) (cond : Eo) (own : List Nat) : evE C call (.lc elt t it cond own) ρ h = (evIt C call it ρ h).bind fun p h => (lcL p.2 h (evE C call elt) (condE C call cond) t (wipe ρ own) p.1 [] h).bind fun ys h => .ok (.lst ys) h := by cases cond <;> rfl
theorem x_flc (elt : E) (t : T) (it : It) (cond : Eo) (own : List Nat) : evF C call (.lc elt t it cond own) ρ h = (evIt C call it ρ h).bind fun p h => lcL p.2 h (evE C call elt) (condE C call cond) t (wipe ρ own) p.1 [] h := by cases cond <;> rfl
theorem x_cono (e : E) : condE C call (.some e) ρ h = evE C call e ρ h := (rfl)
theorem x_con0 : condE C call .none ρ h = .ok (.bl true) h := (rfl)
/-! the small ones on values that are known -/
theorem y_thenT (k : R D) : thenB (.bl true) k h = k := (rfl)
theorem y_thenF (k : R D) : thenB (.bl false) k h = .ok (.bl false) h := (rfl)
theorem y_then (c y : Bool) : thenB (.bl c) (.ok (.bl y) h) h = .ok (.bl (c && y)) h := by cases c <;> rfl
theorem y_thenI (c : Bool) (k : R D) (y : Bool) (hk : c = true → k = .ok (.bl y) h) : thenB (.bl c) k h = .ok (.bl (c && y)) h := by
  cases c
  · rfl
  · exact hk rfl
theorem y_elseT (k : R D) : elseB (.bl true) k h = .ok (.bl true) h := (rfl)
theorem y_elseF (k : R D) : elseB (.bl false) k h = k := (rfl)
theorem y_else (c y : Bool) : elseB (.bl c) (.ok (.bl y) h) h = .ok (.bl (c || y)) h := by cases c <;> rfl
theorem y_elseI (c : Bool) (k : R D) (y : Bool) (hk : c = false → k = .ok (.bl y) h) : elseB (.bl c) k h = .ok (.bl (c || y)) h := by
  cases c
  · exact hk rfl
  · rfl
theorem y_ifT {α : Type} (a b : R α) : ifB (.bl true) a b = a := (rfl)
theorem y_ifF {α : Type} (a b : R α) : ifB (.bl false) a b = b := (rfl)
theorem y_if {α : Type} (c : Bool) (a b : R α) : ifB (.bl c) a b = if c = true then a else b := by cases c <;> rfl
theorem y_not (b : Bool) : notB (.bl b) h = .ok (.bl (!b)) h := (rfl)
theorem y_neg (i : Int) : negI (.int i) h = .ok (.int (-i)) h := (rfl)
theorem y_opt (i : Int) : optI (.int i) h = .ok (some i) h := (rfl)
theorem y_chT (k : R D) : chB (some true) k h = k := (rfl)
theorem y_chF (k : R D) : chB (some false) k h = .ok (.bl false) h := (rfl)
theorem y_ch (c y : Bool) : chB (some c) (.ok (.bl y) h) h = .ok (.bl (c && y)) h := by cases c <;> rfl
theorem y_seq (k : Env → VH → R Out) : seqK (.nx ρ) k h = k ρ h := (rfl)
theorem y_seqR (k : Env → VH → R Out) (d : D) : seqK (.rt d) k h = .ok (.rt d) h := (rfl)
theorem y_seqN (k : Env → VH → R Out) (d : List D) : seqK (.rn d) k h = .ok (.rn d) h := (rfl)
theorem y_seqC (k : Env → VH → R Out) : seqK (.ct ρ) k h = .ok (.ct ρ) h := (rfl)
theorem y_len (ds : List D) (f : List D → D) (hl : ds.length ≤ LINE) : lenE ds f h = .ok (f ds) h := if_pos hl
theorem y_len0 (f : List D → D) : lenE [] f h = .ok (f []) h := if_pos (by decide)
theorem y_len1 (f : List D → D) (a : D) : lenE [a] f h = .ok (f [a]) h := if_pos (by simp only [List.length_cons, List.length_nil]; decide)
theorem y_len2 (f : List D → D) (a b : D) : lenE [a, b] f h = .ok (f [a, b]) h := if_pos (by simp only [List.length_cons, List.length_nil]; decide)
theorem y_len3 (f : List D → D) (a b c : D) : lenE [a, b, c] f h = .ok (f [a, b, c]) h := if_pos (by simp only [List.length_cons, List.length_nil]; decide)
theorem y_len4 (f : List D → D) (a b c d : D) : lenE [a, b, c, d] f h = .ok (f [a, b, c, d]) h := if_pos (by simp only [List.length_cons, List.length_nil]; decide)
theorem y_len5 (f : List D → D) (a b c d e : D) : lenE [a, b, c, d, e] f h = .ok (f [a, b, c, d, e]) h := if_pos (by simp only [List.length_cons, List.length_nil]; decide)
theorem y_len6 (f : List D → D) (a b c d e g : D) : lenE [a, b, c, d, e, g] f h = .ok (f [a, b, c, d, e, g]) h := if_pos (by simp only [List.length_cons, List.length_nil]; decide)
theorem y_fld (k f c : Nat) (fs : List (Nat × D)) (d : D) (e : h[k]? = some (.ins c fs)) (e2 : fs.lookup f = some d) : fldR (.ref k) f h = .ok d h := by simp only [fldR, e, e2, R.ofO]
theorem y_meth (k m f c : Nat) (fs : List (Nat × D)) (kk : Nat → Nat → R D) (e : h[k]? = some (.ins c fs)) (e2 : C.mt c m = some f) : methR C (.ref k) m kk h = kk f k := by simp only [methR, e, e2]
theorem y_fldQ (k f : Nat) : fldR (.ref k) f h = fldO (h[k]?) f h := (rfl)
theorem y_fldS (f c : Nat) (fs : List (Nat × D)) : fldO (some (.ins c fs)) f h = R.ofO (fs.lookup f) h := (rfl)
theorem y_methQ (k m : Nat) (kk : Nat → Nat → R D) : methR C (.ref k) m kk h = methO C (h[k]?) m fun f => kk f k := (rfl)
theorem y_methS (c m : Nat) (fs : List (Nat × D)) (kk : Nat → R D) : methO C (some (.ins c fs)) m kk = newR (C.mt c m) kk := (rfl)
theorem y_setQ (k f : Nat) (d : D) : setF (.ref k) f d ρ h = setO (h[k]?) k f d ρ h := (rfl)
theorem y_setS (k f c : Nat) (fs : List (Nat × D)) (d : D) (hl : fs.length < 100) : setO (some (.ins c fs)) k f d ρ h = .ok (.nx ρ) (h.set k (.ins c (fput f d fs))) := if_pos hl
theorem y_new (f : Nat) (k : Nat → R D) : newR (some f) k = k f := (rfl)
theorem y_non (x : D) : nonR (.val .non) x h = .ok x h := (rfl)
theorem y_rvN (xs : List D) : rvF (.new xs) h = .ok xs h := (rfl)
theorem y_dV (d : D) : (Rv.val d).d = d := (rfl)
theorem y_dN (xs : List D) : (Rv.new xs).d = .lst xs := (rfl)
theorem y_setF (k f c : Nat) (fs : List (Nat × D)) (d : D) (e : h[k]? = some (.ins c fs)) (hl : fs.length < 100) : setF (.ref k) f d ρ h = .ok (.nx ρ) (h.set k (.ins c (fput f d fs))) := by
  simp only [setF, e, hl, if_true]
theorem y_bindi {α β : Type} (c : Bool) (a b : R α) (k : α → VH → R β) : (if c = true then a else b).bind k = if c = true then a.bind k else b.bind k := by cases c <;> rfl
theorem y_bindE {α β : Type} (c : Nat) (ds : List D) (k : α → VH → R β) : (R.exc c ds h).bind k = .exc c ds h := (rfl)
theorem y_map {α β : Type} (f : α → β) (a : α) : (some a).map f = some (f a) := (rfl)
end
/-! the end of a def -/
theorem f_nx (h h' : VH) (ρ : Env) : finish false h (.ok (.nx ρ) h') = .ok (.val .non) h' := (rfl)
theorem f_rt (h h' : VH) (d : D) : finish false h (.ok (.rt d) h') = .ok (.val d) h' := (rfl)
theorem f_rn (h h' : VH) (d : List D) : finish false h (.ok (.rn d) h') = .ok (.new d) h' := (rfl)
theorem f_ex (h h' : VH) (c : Nat) (d : List D) : finish false h (.exc c d h') = .exc c d h' := (rfl)
theorem f_if (h : VH) (g : Bool) (c : Bool) (a b : R Out) : finish g h (if c = true then a else b) = if c = true then finish g h a else finish g h b := by cases c <;> rfl
theorem gcOk_app (h t : VH) : gcOk h (h ++ t) = true := by
  simp only [gcOk, List.length_append, Bool.and_eq_true, decide_eq_true_eq, List.all_eq_true, Bool.or_eq_true]
  refine ⟨by omega, fun i hi => .inl ?_⟩
  rw [List.getElem?_append_left (by simpa using hi)]
theorem g_rn (h t : VH) (d : List D) (hc : cleans h.length d = true) : finish true h (.ok (.rn d) (h ++ t)) = .ok (.new d) h := by
  simp only [finish, gcOk_app, if_true, outV, hc, R.ofO, List.take_left']
theorem g_rt (h t : VH) (d : D) (rv : Rv) (hc : freeze h.length (h ++ t) d = some rv) : finish true h (.ok (.rt d) (h ++ t)) = .ok rv h := by
  simp only [finish, gcOk_app, if_true, outV, hc, R.ofO, List.take_left']
theorem g_nx (h t : VH) (ρ : Env) : finish true h (.ok (.nx ρ) (h ++ t)) = .ok (.val .non) h := by
  simp only [finish, gcOk_app, if_true, outV, R.ofO, List.take_left']
theorem g_ex (h t : VH) (c : Nat) (d : List D) (hc : cleans h.length d = true) : finish true h (.exc c d (h ++ t)) = .exc c d h := by
  simp only [finish, gcOk_app, if_true, hc, Bool.and_self, R.ofO, List.take_left']
/-! what a run ends in -/
def R.get {α : Type} (x : R α) (Q : α → VH → Prop) : Prop := match x with | .ok a h => Q a h | _ => False
theorem get_ok {α : Type} (a : α) (h : VH) (Q : α → VH → Prop) : (R.ok a h).get Q = Q a h := (rfl)
theorem get_mono {α : Type} {x : R α} {P Q : α → VH → Prop} (hx : x.get P) (hq : ∀ a h, P a h → Q a h) : x.get Q := by
  cases x with
  | ok a h => exact hq a h hx
  | exc c fs h => exact hx
  | bad => exact hx
theorem get_bind {α β : Type} {x : R α} {f : α → VH → R β} {P : α → VH → Prop} {Q : β → VH → Prop} (hx : x.get P) (hf : ∀ a h, P a h → (f a h).get Q) : (x.bind f).get Q := by
  cases x with
  | ok a h => exact hf a h hx
  | exc c fs h => exact hx
  | bad => exact hx
theorem get_ex {α : Type} {x : R α} {Q : α → VH → Prop} (hx : x.get Q) : ∃ a h, x = .ok a h ∧ Q a h := by
  cases x with
  | ok a h => exact ⟨a, h, rfl, hx⟩
  | exc c fs h => exact hx.elim
  | bad => exact hx.elim
theorem get_fin {h : VH} {x : R Out} {P : Out → VH → Prop} {Q : Rv → VH → Prop} (hx : x.get P) (hf : ∀ o h', P o h' → (finish false h (.ok o h')).get Q) : (finish false h x).get Q := by
  cases x with
  | ok a h => exact hf a h hx
  | exc c fs h => exact hx.elim
  | bad => exact hx.elim
theorem get_fing {g : Bool} {h : VH} {x : R Out} {P : Out → VH → Prop} {Q : Rv → VH → Prop} (hx : x.get P) (hf : ∀ o h', P o h' → (finish g h (.ok o h')).get Q) : (finish g h x).get Q := by
  cases x with
  | ok a h => exact hf a h hx
  | exc c fs h => exact hx.elim
  | bad => exact hx.elim
/-! loops -/
def goO (o : Out) (k : Env → VH → R Out) (h : VH) : R Out := match o with | .nx ρ => k ρ h | .ct ρ => k ρ h | o => .ok o h
def lcT (r : R D) (acc : List D) (k : List D → VH → R (List D)) : R (List D) := match r with
  | .ok y h => if acc.length < LINE then k (acc ++ [y]) h else .bad
  | _ => .bad
def lcS (r : R D) (b : VH → R D) (acc : List D) (k : List D → VH → R (List D)) : R (List D) := match r with
  | .ok (.bl true) h => lcT (b h) acc k
  | .ok (.bl false) h => k acc h
  | _ => .bad
section
variable (h h0 : VH) (ρ : Env)
theorem l_for0 (b : Env → VH → R Out) (t : T) : forL none h0 b t [] ρ h = .ok (.nx ρ) h := by simp only [forL, stands, if_true]
theorem l_for (b : Env → VH → R Out) (i : Nat) (x : D) (xs : List D) : forL none h0 b (.nm i) (x :: xs) ρ h = (b (ρ.set i (some x)) h).bind fun o h' => goO o (forL none h0 b (.nm i) xs) h' := by
  simp only [forL, stands, if_true, bindT]; congr 1; funext o h'; cases o <;> rfl
theorem l_forT (b : Env → VH → R Out) (is : List Nat) (ds : List D) (xs : List D) (ρ' : Env) (e : setN ρ is ds = some ρ') : forL none h0 b (.tup is) (.tup ds :: xs) ρ h = (b ρ' h).bind fun o h' => goO o (forL none h0 b (.tup is) xs) h' := by
  simp only [forL, stands, if_true, bindT, e]; congr 1; funext o h'; cases o <;> rfl
theorem l_goN (k : Env → VH → R Out) : goO (.nx ρ) k h = k ρ h := (rfl)
theorem l_goC (k : Env → VH → R Out) : goO (.ct ρ) k h = k ρ h := (rfl)
theorem l_goR (k : Env → VH → R Out) (d : D) : goO (.rt d) k h = .ok (.rt d) h := (rfl)
theorem l_goL (k : Env → VH → R Out) (d : List D) : goO (.rn d) k h = .ok (.rn d) h := (rfl)
theorem l_lc0 (b cd : Env → VH → R D) (t : T) (acc : List D) : lcL none h0 b cd t ρ [] acc h = .ok acc h := by simp only [lcL, stands, if_true]
theorem l_lc (b cd : Env → VH → R D) (i : Nat) (x : D) (xs acc : List D) : lcL none h0 b cd (.nm i) ρ (x :: xs) acc h = lcS (cd (ρ.set i (some x)) h) (fun h => b (ρ.set i (some x)) h) acc (fun acc h => lcL none h0 b cd (.nm i) ρ xs acc h) := by
  simp only [lcL, stands, if_true, bindT]
  generalize cd (ρ.set i (some x)) h = r
  cases r with
  | ok d h1 =>
    cases d with
    | bl c => cases c <;> (simp only [lcS, lcT]) <;> rfl
    | _ => rfl
  | _ => rfl
theorem l_lcT (b : VH → R D) (acc : List D) (k : List D → VH → R (List D)) : lcS (.ok (.bl true) h) b acc k = lcT (b h) acc k := (rfl)
theorem l_lcF (b : VH → R D) (acc : List D) (k : List D → VH → R (List D)) : lcS (.ok (.bl false) h) b acc k = k acc h := (rfl)
theorem l_lcA (y : D) (acc : List D) (k : List D → VH → R (List D)) (hl : acc.length < LINE) : lcT (.ok y h) acc k = k (acc ++ [y]) h := if_pos hl
theorem l_lcA0 (y : D) (k : List D → VH → R (List D)) : lcT (.ok y h) [] k = k [y] h := l_lcA _ _ [] _ (by decide)
theorem l_lcA1 (y a : D) (k : List D → VH → R (List D)) : lcT (.ok y h) [a] k = k [a, y] h := l_lcA _ _ [a] _ (show 1 < LINE by decide)
theorem l_lcA2 (y a b : D) (k : List D → VH → R (List D)) : lcT (.ok y h) [a, b] k = k [a, b, y] h := l_lcA _ _ [a, b] _ (show 2 < LINE by decide)
theorem l_lcA3 (y a b c : D) (k : List D → VH → R (List D)) : lcT (.ok y h) [a, b, c] k = k [a, b, c, y] h := l_lcA _ _ [a, b, c] _ (show 3 < LINE by decide)
theorem l_w0 : Mn.wipe ρ [] = ρ := (rfl)
theorem l_ws (i : Nat) (is : List Nat) : Mn.wipe ρ (i :: is) = (Mn.wipe ρ is).set i none := (rfl)
theorem l_vT (xs : List D) : valIt h (.tup xs) = some (xs, none) := (rfl)
theorem l_vL (xs : List D) : valIt h (.lst xs) = some (xs, none) := (rfl)
end
theorem lc_map {α : Type} (g : α → D) (c : α → Bool) (f : α → D) {t : T} {ρ : Env} {b cd : Env → VH → R D} {h0 h : VH} : ∀ (ys : List α) (acc : List D),
    (∀ y, y ∈ ys → ∃ ρ', bindT t (g y) ρ = some ρ' ∧ cd ρ' h = .ok (.bl (c y)) h ∧ (c y = true → b ρ' h = .ok (f y) h)) →
    acc.length + ys.length ≤ LINE → lcL none h0 b cd t ρ (ys.map g) acc h = .ok (acc ++ (ys.filter c).map f) h
  | [], acc, _, _ => by simp [lcL, stands]
  | y :: ys, acc, H, hl => by
    obtain ⟨ρ', e1, e2, e3⟩ := H y (by simp)
    simp only [List.length_cons] at hl
    cases hc : c y with
    | true =>
      simp only [List.map_cons, lcL, stands, if_true, e1, e2, hc, e3 hc]
      rw [if_pos (by omega), lc_map g c f ys _ (fun z hz => H z (by simp [hz])) (by simp only [List.length_append, List.length_cons, List.length_nil]; omega)]
      simp [hc]
    | false =>
      simp only [List.map_cons, lcL, stands, if_true, e1, e2, hc]
      rw [lc_map g c f ys _ (fun z hz => H z (by simp [hz])) (by omega)]
      simp [hc]
/-- a comprehension, as a value -/
theorem e_lc {α : Type} (g : α → D) (c : α → Bool) (f : α → D) (ys : List α) {C : Cfg} {call : Call} {elt : E} {t : T} {it : It} {cond : Eo} {own : List Nat} {ρ : Env} {h : VH}
    (hi : evIt C call it ρ h = .ok (ys.map g, none) h) (hl : ys.length ≤ LINE)
    (H : ∀ y, y ∈ ys → ∃ ρ', bindT t (g y) (wipe ρ own) = some ρ' ∧ condE C call cond ρ' h = .ok (.bl (c y)) h ∧ (c y = true → evE C call elt ρ' h = .ok (f y) h)) :
    evE C call (.lc elt t it cond own) ρ h = .ok (.lst ((ys.filter c).map f)) h := by
  rw [x_lc, hi, v_bind]
  simp only
  rw [lc_map g c f ys [] H (by simpa using hl), v_bind]
  rfl
theorem e_flc {α : Type} (g : α → D) (c : α → Bool) (f : α → D) (ys : List α) {C : Cfg} {call : Call} {elt : E} {t : T} {it : It} {cond : Eo} {own : List Nat} {ρ : Env} {h : VH}
    (hi : evIt C call it ρ h = .ok (ys.map g, none) h) (hl : ys.length ≤ LINE)
    (H : ∀ y, y ∈ ys → ∃ ρ', bindT t (g y) (wipe ρ own) = some ρ' ∧ condE C call cond ρ' h = .ok (.bl (c y)) h ∧ (c y = true → evE C call elt ρ' h = .ok (f y) h)) :
    evF C call (.lc elt t it cond own) ρ h = .ok ((ys.filter c).map f) h := by
  rw [x_flc, hi, v_bind]
  simp only
  rw [lc_map g c f ys [] H (by simpa using hl)]
  rfl
/-- a comprehension whose turns may change the heap -/
theorem lc_inv (I : Nat → List D → VH → Prop) {t : T} {ρ : Env} {b cd : Env → VH → R D} {h0 : VH} (xs : List D) :
    ∀ (k : Nat) (acc : List D) (h : VH), k ≤ xs.length → acc.length + (xs.length - k) ≤ LINE → I k acc h →
    (∀ k x acc h, xs[k]? = some x → I k acc h → ∃ ρ', bindT t x ρ = some ρ' ∧ cd ρ' h = .ok (.bl true) h ∧ (b ρ' h).get fun y h' => I (k + 1) (acc ++ [y]) h') →
    (lcL none h0 b cd t ρ (xs.drop k) acc h).get fun ys h' => I xs.length ys h' := by
  intro k acc h hk hl hI H
  generalize hn : xs.length - k = n
  induction n generalizing k acc h with
  | zero =>
    have : k = xs.length := by omega
    subst this
    simp only [List.drop_length, lcL, stands, if_true]
    exact hI
  | succ n ih =>
    have hlt : k < xs.length := by omega
    rw [List.drop_eq_getElem_cons hlt]
    obtain ⟨ρ', e1, e2, e3⟩ := H k xs[k] acc h (List.getElem?_eq_getElem hlt) hI
    obtain ⟨y, h', e4, e5⟩ := get_ex e3
    simp only [lcL, stands, if_true, e1, e2, e4]
    rw [if_pos (by omega)]
    exact ih (k + 1) (acc ++ [y]) h' (by omega) (by simp only [List.length_append, List.length_cons, List.length_nil]; omega) e5 (by omega)
theorem e_lc_inv (I : Nat → List D → VH → Prop) {C : Cfg} {call : Call} {elt : E} {t : T} {it : It} {cond : Eo} {own : List Nat} {ρ : Env} {h h1 : VH} (xs : List D)
    (hi : evIt C call it ρ h = .ok (xs, none) h1) (hl : xs.length ≤ LINE) (h0 : I 0 [] h1)
    (H : ∀ k x acc h, xs[k]? = some x → I k acc h → ∃ ρ', bindT t x (wipe ρ own) = some ρ' ∧ condE C call cond ρ' h = .ok (.bl true) h ∧ (evE C call elt ρ' h).get fun y h' => I (k + 1) (acc ++ [y]) h') :
    (evE C call (.lc elt t it cond own) ρ h).get fun d h' => ∃ ys, d = .lst ys ∧ I xs.length ys h' := by
  rw [x_lc, hi, v_bind]
  exact get_bind (lc_inv I xs 0 [] h1 (by omega) (by simpa using hl) h0 H) fun ys h' z => ⟨ys, rfl, z⟩
theorem filter_true {α : Type} : ∀ xs : List α, xs.filter (fun _ => true) = xs := by simp
theorem any_filter {α : Type} (p : α → Bool) : ∀ xs : List α, xs.any p = !(xs.filter p).isEmpty
  | [] => rfl
  | x :: r => by cases hp : p x <;> simp [hp, any_filter p r]
/-- a for whose turns all go on -/
theorem for_st {α σ : Type} (g : α → D) {t : T} {b : Env → VH → R Out} {h0 : VH} (I : List α → Env → VH → Prop) :
    ∀ (ys : List α) (done : List α) (ρ : Env) (h : VH), I done ρ h →
    (∀ y done ρ h, I done ρ h → (∃ r, done ++ y :: r = done ++ y :: r) → ∃ ρ', bindT t (g y) ρ = some ρ' ∧ (b ρ' h).get fun o h' => match o with | .nx ρ'' => I (done ++ [y]) ρ'' h' | .ct ρ'' => I (done ++ [y]) ρ'' h' | _ => False) →
    (forL none h0 b t (ys.map g) ρ h).get fun o h' => ∃ ρ', o = .nx ρ' ∧ I (done ++ ys) ρ' h'
  | [], done, ρ, h, hI, _ => by simpa [forL, stands, R.get] using hI
  | y :: ys, done, ρ, h, hI, H => by
    obtain ⟨ρ', e1, e2⟩ := H y done ρ h hI ⟨[], rfl⟩
    simp only [List.map_cons, forL, stands, if_true, e1]
    refine get_bind e2 fun o h' z => ?_
    cases o with
    | nx ρ'' => simpa using for_st (σ := σ) g I ys (done ++ [y]) ρ'' h' z H
    | ct ρ'' => simpa using for_st (σ := σ) g I ys (done ++ [y]) ρ'' h' z H
    | rt d => exact z.elim
    | rn d => exact z.elim
/-- a for: what stands ahead of each turn; what comes out of it -/
theorem for_inv (I : Nat → Env → VH → Prop) (Q : Out → VH → Prop) {t : T} {b : Env → VH → R Out} {h0 : VH} (xs : List D) :
    ∀ (k : Nat) (ρ : Env) (h : VH), k ≤ xs.length → I k ρ h →
    (∀ k x ρ h, xs[k]? = some x → I k ρ h → ∃ ρ', bindT t x ρ = some ρ' ∧ (b ρ' h).get fun o h' => match o with | .nx ρ'' => I (k + 1) ρ'' h' | .ct ρ'' => I (k + 1) ρ'' h' | o => Q o h') →
    (∀ ρ h, I xs.length ρ h → Q (.nx ρ) h) →
    (forL none h0 b t (xs.drop k) ρ h).get Q := by
  intro k ρ h hk hI H HE
  generalize hn : xs.length - k = n
  induction n generalizing k ρ h with
  | zero =>
    have : k = xs.length := by omega
    subst this
    simp only [List.drop_length, forL, stands, if_true]
    exact HE ρ h hI
  | succ n ih =>
    have hlt : k < xs.length := by omega
    rw [List.drop_eq_getElem_cons hlt]
    obtain ⟨ρ', e1, e2⟩ := H k xs[k] ρ h (List.getElem?_eq_getElem hlt) hI
    simp only [forL, stands, if_true, e1]
    refine get_bind e2 fun o h' z => ?_
    cases o with
    | nx ρ'' => exact ih (k + 1) ρ'' h' (by omega) z (by omega)
    | ct ρ'' => exact ih (k + 1) ρ'' h' (by omega) z (by omega)
    | rt d => exact z
    | rn d => exact z
theorem e_for (I : Nat → Env → VH → Prop) (Q : Out → VH → Prop) {C : Cfg} {call : Call} {t : T} {it : It} {b : Ss} {ρ : Env} {h : VH} (xs : List D)
    (hi : evIt C call it ρ h = .ok (xs, none) h) (h0 : I 0 ρ h)
    (H : ∀ k x ρ h, xs[k]? = some x → I k ρ h → ∃ ρ', bindT t x ρ = some ρ' ∧ (evSs C call b ρ' h).get fun o h' => match o with | .nx ρ'' => I (k + 1) ρ'' h' | .ct ρ'' => I (k + 1) ρ'' h' | o => Q o h')
    (HE : ∀ ρ h, I xs.length ρ h → Q (.nx ρ) h) : (evS C call (.for_ t it b) ρ h).get Q := by
  rw [x_for, hi, v_bind]
  exact for_inv I Q xs 0 ρ h (by omega) h0 H HE
/-- the same, where the walked list is made of a heap that has changed meanwhile -/
theorem e_for' (I : Nat → Env → VH → Prop) (Q : Out → VH → Prop) {C : Cfg} {call : Call} {t : T} {it : It} {b : Ss} {ρ : Env} {h h1 : VH} (xs : List D)
    (hi : evIt C call it ρ h = .ok (xs, none) h1) (h0 : I 0 ρ h1)
    (H : ∀ k x ρ h, xs[k]? = some x → I k ρ h → ∃ ρ', bindT t x ρ = some ρ' ∧ (evSs C call b ρ' h).get fun o h' => match o with | .nx ρ'' => I (k + 1) ρ'' h' | .ct ρ'' => I (k + 1) ρ'' h' | o => Q o h')
    (HE : ∀ ρ h, I xs.length ρ h → Q (.nx ρ) h) : (evS C call (.for_ t it b) ρ h).get Q := by
  rw [x_for, hi, v_bind]
  exact for_inv I Q xs 0 ρ h1 (by omega) h0 H HE
theorem v_append (h : VH) (k : Nat) (xs : List D) (x : D) (e : h[k]? = some (.lst xs)) (hl : xs.length < LINE) : bmD h .append (.ref k) [x] = .ok .non (h.set k (.lst (xs ++ [x]))) := by
  simp only [bmD, e]; exact if_pos hl
theorem t_append (h : VH) (k : Nat) (xs : List D) (e : h[k]? = some (.lst xs)) : bmT h .append (.ref k) = true := by simp only [bmT, e]
theorem t_extend (h : VH) (k : Nat) (xs : List D) (e : h[k]? = some (.lst xs)) : bmT h .extend (.ref k) = true := by simp only [bmT, e]
theorem t_pop (h : VH) (k : Nat) (xs : List D) (e : h[k]? = some (.lst xs)) : bmT h .pop (.ref k) = true := by simp only [bmT, e]
theorem v_pop (h : VH) (k : Nat) (xs : List D) (x : D) (e : h[k]? = some (.lst (xs ++ [x]))) : bmD h .pop (.ref k) [] = .ok x (h.set k (.lst xs)) := by
  simp only [bmD, e]; simp
theorem v_extend (h : VH) (k : Nat) (xs ys : List D) (e : h[k]? = some (.lst xs)) (hl : xs.length + ys.length ≤ LINE) : bmD h .extend (.ref k) [.lst ys] = .ok .non (h.set k (.lst (xs ++ ys))) := by
  simp only [bmD, e]; exact if_pos hl
theorem le_LINE {n : Nat} (h : n ≤ 16777216) : n ≤ LINE := h
theorem lt_LINE {n : Nat} (h : n < 16777216) : n < LINE := h
theorem rng_le (k : Nat) (h : k ≤ 16777216) : (List.range k).length ≤ LINE := by rw [List.length_range]; exact h
theorem range_eq (j : Int) (h0 : -1000000000 ≤ j) (h1 : j ≤ 1000000000) : rangeD [.int j] = some ((List.range j.toNat).map fun k : Nat => .int k) := by
  have : inB j = true := by simp [inB, h0, h1]
  simp only [rangeD, this, if_true]
theorem range_nat (j : Nat) (h1 : j ≤ 1000000000) : rangeD [.int j] = some ((List.range j).map fun k : Nat => .int k) := by
  rw [range_eq _ (by omega) (by omega)]; rfl
theorem range_2 (i j : Int) (h0 : -1000000000 ≤ i) (h1 : i ≤ 1000000000) (h2 : -1000000000 ≤ j) (h3 : j ≤ 1000000000) : rangeD [.int i, .int j] = some ((List.range (j - i).toNat).map fun k : Nat => .int (i + k)) := by
  have a : inB i = true := by simp [inB, h0, h1]
  have b : inB j = true := by simp [inB, h2, h3]
  simp only [rangeD, a, b, Bool.and_self, if_true]
theorem range_3 (i j : Int) (h0 : -1000000000 ≤ i) (h1 : i ≤ 1000000000) (h2 : -1000000000 ≤ j) (h3 : j ≤ 1000000000) : rangeD [.int i, .int j, .int (-1)] = some ((List.range (i - j).toNat).map fun k : Nat => .int (i + k * (-1))) := by
  have a : inB i = true := by simp [inB, h0, h1]
  have b : inB j = true := by simp [inB, h2, h3]
  simp only [rangeD, a, b, Bool.and_self, if_true]
  rfl
/-- a list's place, by a map -/
theorem at_map {α : Type} (f : α → D) (xs : List α) (k : Nat) (x : α) (e : xs[k]? = some x) : ixL (xs.map f) (.int k) = some (f x) := by
  refine v_at _ _ _ ?_
  rw [List.getElem?_map, e]; rfl
theorem ix_neg1 (xs : List D) (x : D) : ixL (xs ++ [x]) (.int (-1)) = some x := by
  simp only [ixL, ixN, List.length_append, List.length_cons, List.length_nil]
  rw [if_neg (by decide), if_pos (by omega)]
  simp only [Option.bind_some]
  rw [show ((-1 : Int) + (((xs.length + 1 : Nat)) : Int)).toNat = xs.length by omega]
  simp
mutual
theorem eqv_refl' : ∀ a : D, plain a = true → eqv a a = true
  | .non, _ => rfl
  | .bl _, _ => by simp [eqv]
  | .int _, _ => by simp [eqv]
  | .str _, _ => by simp [eqv]
  | .tup xs, h => by rw [eqv]; exact eqvs_refl' xs (by simpa [plain] using h)
  | .lst xs, h => by rw [eqv]; exact eqvs_refl' xs (by simpa [plain] using h)
  | .ref _, h => by simp [plain] at h
  | .gd _, h => by simp [plain] at h
  | .scr _, h => by simp [plain] at h
theorem eqvs_refl' : ∀ a : List D, plains a = true → eqvs a a = true
  | [], _ => rfl
  | x :: xs, h => by
    simp only [plains, Bool.and_eq_true] at h
    rw [eqvs, eqv_refl' x h.1, eqvs_refl' xs h.2]; rfl
end
mutual
theorem clean_plain : ∀ (n : Nat) (a : D), plain a = true → clean n a = true
  | n, .non, _ => rfl
  | n, .bl _, _ => rfl
  | n, .int _, _ => rfl
  | n, .str _, _ => rfl
  | n, .tup xs, h => by rw [clean]; exact cleans_plain n xs (by simpa [plain] using h)
  | n, .lst xs, h => by rw [clean]; exact cleans_plain n xs (by simpa [plain] using h)
  | n, .ref _, h => by simp [plain] at h
  | n, .gd _, h => by simp [plain] at h
  | n, .scr _, h => by simp [plain] at h
theorem cleans_plain : ∀ (n : Nat) (a : List D), plains a = true → cleans n a = true
  | n, [], _ => rfl
  | n, x :: xs, h => by
    simp only [plains, Bool.and_eq_true] at h
    rw [cleans, clean_plain n x h.1, cleans_plain n xs h.2]; rfl
end
theorem plains_map {α : Type} (f : α → D) (hf : ∀ a, plain (f a) = true) : ∀ xs : List α, plains (xs.map f) = true
  | [] => rfl
  | x :: r => by rw [List.map_cons, plains, hf x, plains_map f hf r]; rfl
theorem plains_app : ∀ xs ys : List D, plains (xs ++ ys) = (plains xs && plains ys)
  | [], ys => by simp [plains]
  | x :: r, ys => by simp [plains, plains_app r ys, Bool.and_assoc]
theorem v_neE (g : Nat → List (D × D)) (h : VH) (xs : List D) (hp : plains xs = true) : cpD g h .ne (.lst xs) (.lst []) = some (!xs.isEmpty) := by
  simp only [cpD, eqH, res, plain, plains, deepD, deepDs, hp]
  cases xs <;> simp [eqv, eqvs]
theorem v_eqE (g : Nat → List (D × D)) (h : VH) (xs : List D) (hp : plains xs = true) : cpD g h .eq (.lst xs) (.lst []) = some xs.isEmpty := by
  simp only [cpD, eqH, res, plain, plains, deepD, deepDs, hp]
  cases xs <;> simp [eqv, eqvs]
theorem v_neN (g : Nat → List (D × D)) (h : VH) (i j : Int) : cpD g h .ne (.int i) (.int j) = some (!(i == j)) := (rfl)
theorem v_isN (g : Nat → List (D × D)) (h : VH) (i : Int) : cpD g h .is_ (.int i) .non = some false := (rfl)
theorem v_isNN (g : Nat → List (D × D)) (h : VH) : cpD g h .is_ .non .non = some true := (rfl)
theorem set_app_new (h : VH) (o o' : O) (t : VH) : (h ++ o :: t).set h.length o' = h ++ o' :: t := by simp
theorem get_app_new (h : VH) (o : O) (t : VH) : (h ++ o :: t)[h.length]? = some o := by simp
end Mn

set_option Elab.async false
set_option linter.all false
set_option maxRecDepth 100000
/-! Sem: sentences and rows, and what they say. Core Lean alone. -/
namespace Mn
def sIs : List Nat := [105, 115]
def sFrom : List Nat := [102, 114, 111, 109]
def sNot : List Nat := [110, 111, 116]
def sAnd : List Nat := [97, 110, 100]
def sOr : List Nat := [111, 114]
def sBehind : List Nat := [98, 101, 104, 105, 110, 100]
def sSince : List Nat := [115, 105, 110, 99, 101]
def sMany : List Nat := [109, 97, 110, 121]
def sAsmany : List Nat := [97, 115, 109, 97, 110, 121]
/-- a sentence -/
inductive F where
  | is (w : Int) | frm (v : Int)
  | not (p : F) | and (p q : F) | or (p q : F)
  | behind (p : F) (a : Int) (b : Option Int) | since (p q : F) (a : Int) (b : Option Int)
  | many (p : F) (n b : Int) | asmany (p q : F) (b : Int)
  deriving Repr, DecidableEq, Inhabited
namespace F
def oD : Option Int → D
  | none => .non
  | some i => .int i
def d : F → D
  | .is w => .tup [.str sIs, .int w]
  | .frm v => .tup [.str sFrom, .int v]
  | .not p => .tup [.str sNot, p.d]
  | .and p q => .tup [.str sAnd, p.d, q.d]
  | .or p q => .tup [.str sOr, p.d, q.d]
  | .behind p a b => .tup [.str sBehind, p.d, .int a, oD b]
  | .since p q a b => .tup [.str sSince, p.d, q.d, .int a, oD b]
  | .many p n b => .tup [.str sMany, p.d, .int n, .int b]
  | .asmany p q b => .tup [.str sAsmany, p.d, q.d, .int b]
/-- bounds of a behind, a since -/
def okB (far a : Int) (b : Option Int) : Prop := 1 ≤ a ∧ a ≤ far ∧ ∀ x, b = some x → a ≤ x ∧ x ≤ far
/-- a sentence that may be, bounds to so far -/
def ok (far : Int) : F → Prop
  | .is w => 0 ≤ w ∧ w ≤ 3
  | .frm v => 0 ≤ v ∧ v ≤ 9
  | .not p => p.ok far
  | .and p q => p.ok far ∧ q.ok far
  | .or p q => p.ok far ∧ q.ok far
  | .behind p a b => p.ok far ∧ okB far a b
  | .since p q a b => p.ok far ∧ q.ok far ∧ okB far a b
  | .many p n b => p.ok far ∧ 1 ≤ n ∧ n ≤ 4 ∧ 0 ≤ b ∧ b ≤ far
  | .asmany p q b => p.ok far ∧ q.ok far ∧ 0 ≤ b ∧ b ≤ far
def kids : F → List F
  | .is _ => [] | .frm _ => []
  | .not p => [p] | .and p q => [p, q] | .or p q => [p, q]
  | .behind p _ _ => [p] | .since p q _ _ => [p, q]
  | .many p _ _ => [p] | .asmany p q _ => [p, q]
/-- all sentences within, itself the first -/
def parts : F → List F
  | .is w => [.is w] | .frm v => [.frm v]
  | .not p => .not p :: p.parts
  | .and p q => .and p q :: (p.parts ++ q.parts)
  | .or p q => .or p q :: (p.parts ++ q.parts)
  | .behind p a b => .behind p a b :: p.parts
  | .since p q a b => .since p q a b :: (p.parts ++ q.parts)
  | .many p n b => .many p n b :: p.parts
  | .asmany p q b => .asmany p q b :: (p.parts ++ q.parts)
def dep : F → Nat
  | .is _ => 1 | .frm _ => 1
  | .not p => p.dep + 1
  | .and p q => max p.dep q.dep + 1
  | .or p q => max p.dep q.dep + 1
  | .behind p _ _ => p.dep + 1
  | .since p q _ _ => max p.dep q.dep + 1
  | .many p _ _ => p.dep + 1
  | .asmany p q _ => max p.dep q.dep + 1
theorem dep_pos : ∀ f : F, 1 ≤ f.dep := by intro f; cases f <;> simp only [dep] <;> omega
theorem oD_deep (b : Option Int) : deepD (oD b) = 0 := by cases b <;> rfl
theorem deep_d : ∀ f : F, deepD f.d = f.dep := by
  intro f
  induction f with
  | is w => rfl
  | frm v => rfl
  | not p ip => simp only [d, deepD, deepDs, dep, ip]; omega
  | and p q ip iq => simp only [d, deepD, deepDs, dep, ip, iq]; omega
  | or p q ip iq => simp only [d, deepD, deepDs, dep, ip, iq]; omega
  | behind p a b ip => simp only [d, deepD, deepDs, dep, ip, oD_deep]; omega
  | since p q a b ip iq => simp only [d, deepD, deepDs, dep, ip, iq, oD_deep]; omega
  | many p n b ip => simp only [d, deepD, deepDs, dep, ip]; omega
  | asmany p q b ip iq => simp only [d, deepD, deepDs, dep, ip, iq]; omega
theorem oD_plain (b : Option Int) : plain (oD b) = true := by cases b <;> rfl
theorem plain_d : ∀ f : F, plain f.d = true := by
  intro f
  induction f <;> simp_all [d, plain, plains, oD_plain]
theorem parts_pos (f : F) : 1 ≤ f.parts.length := by cases f <;> simp [parts]
theorem parts_le : ∀ f : F, f.parts.length < 2 ^ f.dep := by
  intro f
  have h2 : ∀ a b : Nat, 2 ^ a ≤ 2 ^ max a b ∧ 2 ^ b ≤ 2 ^ max a b := fun a b => ⟨Nat.pow_le_pow_right (by omega) (by omega), Nat.pow_le_pow_right (by omega) (by omega)⟩
  induction f with
  | is w => simp [parts, dep]
  | frm v => simp [parts, dep]
  | not p ip => simp only [parts, dep, List.length_cons, Nat.pow_succ]; omega
  | and p q ip iq => have := h2 p.dep q.dep; simp only [parts, dep, List.length_cons, List.length_append, Nat.pow_succ]; omega
  | or p q ip iq => have := h2 p.dep q.dep; simp only [parts, dep, List.length_cons, List.length_append, Nat.pow_succ]; omega
  | behind p a b ip => simp only [parts, dep, List.length_cons, Nat.pow_succ]; omega
  | since p q a b ip iq => have := h2 p.dep q.dep; simp only [parts, dep, List.length_cons, List.length_append, Nat.pow_succ]; omega
  | many p n b ip => simp only [parts, dep, List.length_cons, Nat.pow_succ]; omega
  | asmany p q b ip iq => have := h2 p.dep q.dep; simp only [parts, dep, List.length_cons, List.length_append, Nat.pow_succ]; omega
theorem parts_eq (f : F) : f.parts = f :: f.kids.flatMap F.parts := by cases f <;> simp [parts, kids]
theorem dep_kids (f : F) : ∀ k ∈ f.kids, k.dep < f.dep := by cases f <;> simp [kids, dep] <;> omega
theorem ok_kids {far : Int} {f : F} (h : f.ok far) : ∀ k ∈ f.kids, k.ok far := by cases f <;> simp_all [kids, ok]
theorem ok_mono {far far' : Int} (hf : far ≤ far') : ∀ {f : F}, f.ok far → f.ok far' := by
  intro f
  have hb : ∀ a b, okB far a b → okB far' a b := fun a b h => ⟨h.1, by have := h.2.1; omega, fun x e => by have := h.2.2 x e; omega⟩
  induction f with
  | is w => exact id
  | frm v => exact id
  | not p ip => exact ip
  | and p q ip iq => exact fun h => ⟨ip h.1, iq h.2⟩
  | or p q ip iq => exact fun h => ⟨ip h.1, iq h.2⟩
  | behind p a b ip => exact fun h => ⟨ip h.1, hb _ _ h.2⟩
  | since p q a b ip iq => exact fun h => ⟨ip h.1, iq h.2.1, hb _ _ h.2.2⟩
  | many p n b ip => exact fun h => ⟨ip h.1, h.2.1, h.2.2.1, h.2.2.2.1, by have := h.2.2.2.2; omega⟩
  | asmany p q b ip iq => exact fun h => ⟨ip h.1, iq h.2.1, h.2.2.1, by have := h.2.2.2; omega⟩
theorem ok_parts {far : Int} : ∀ {f : F}, f.ok far → ∀ p ∈ f.parts, p.ok far := by
  intro f
  induction f with
  | is w => intro h p hp; simp [parts] at hp; subst hp; exact h
  | frm w => intro h p hp; simp [parts] at hp; subst hp; exact h
  | not p ip => intro h x hx; simp only [parts, List.mem_cons] at hx; rcases hx with rfl | hx; exact h; exact ip h x hx
  | behind p a b ip => intro h x hx; simp only [parts, List.mem_cons] at hx; rcases hx with rfl | hx; exact h; exact ip h.1 x hx
  | many p a b ip => intro h x hx; simp only [parts, List.mem_cons] at hx; rcases hx with rfl | hx; exact h; exact ip h.1 x hx
  | and p q ip iq => intro h x hx; simp only [parts, List.mem_cons, List.mem_append] at hx; rcases hx with rfl | hx | hx; exact h; exact ip h.1 x hx; exact iq h.2 x hx
  | or p q ip iq => intro h x hx; simp only [parts, List.mem_cons, List.mem_append] at hx; rcases hx with rfl | hx | hx; exact h; exact ip h.1 x hx; exact iq h.2 x hx
  | since p q a b ip iq => intro h x hx; simp only [parts, List.mem_cons, List.mem_append] at hx; rcases hx with rfl | hx | hx; exact h; exact ip h.1 x hx; exact iq h.2.1 x hx
  | asmany p q b ip iq => intro h x hx; simp only [parts, List.mem_cons, List.mem_append] at hx; rcases hx with rfl | hx | hx; exact h; exact ip h.1 x hx; exact iq h.2.1 x hx
/-- one that the program lets by -/
def good (f : F) : Prop := f.ok 6 ∧ f.dep ≤ 6 ∧ f.parts.length ≤ 24
end F
/-- its word, its form -/
def F.word : F → List Nat
  | .is _ => sIs | .frm _ => sFrom | .not _ => sNot | .and _ _ => sAnd | .or _ _ => sOr | .behind _ _ _ => sBehind | .since _ _ _ _ => sSince | .many _ _ _ => sMany | .asmany _ _ _ => sAsmany
def F.form : F → List Nat
  | .is _ => [119] | .frm _ => [118] | .not _ => [112] | .and _ _ => [112, 112] | .or _ _ => [112, 112] | .behind _ _ _ => [112, 97, 117] | .since _ _ _ _ => [112, 112, 97, 117] | .many _ _ _ => [112, 110, 98] | .asmany _ _ _ => [112, 112, 98]
theorem F.ix0 (g : Nat → List (D × D)) (h : VH) (f : F) : ixD g h f.d (.int 0) = some (.str f.word) := by cases f <;> rfl
theorem F.eqE (g : Nat → List (D × D)) (h : VH) (f : F) : cpD g h .eq f.d (.tup []) = some false := by
  have hp := F.plain_d f
  have : ∃ x xs, f.d = .tup (x :: xs) := by cases f <;> exact ⟨_, _, rfl⟩
  obtain ⟨x, xs, e⟩ := this
  rw [e] at hp ⊢
  simp [cpD, eqH, res, hp, plain, plains, deepD, deepDs, eqv, eqvs]
theorem F.lenD (h : VH) (f : F) : biD h .len [f.d] = some (.int ((f.form.length : Int) + 1)) := by cases f <;> rfl
theorem isi_S (h : VH) (s : List Nat) : isiD h (.str s) [.str] = some true := rfl
theorem v_lenStr (h : VH) (s : List Nat) : biD h .len [.str s] = some (.int s.length) := rfl
theorem F.isi (h : VH) (f : F) : isiD h f.d [.tuple] = some true := by cases f <;> rfl
theorem isi_I (h : VH) (i : Int) : isiD h (.int i) [.tuple] = some false := rfl
theorem isi_O (h : VH) (b : Option Int) : isiD h (F.oD b) [.tuple] = some false := by cases b <;> rfl
theorem sl_1 (h : VH) (x : D) (xs : List D) : slD h (.tup (x :: xs)) (some 1) none = some (.tup xs) := by simp [slD, cut, sIx]
theorem v_max1 (h : VH) (a b : Int) : biD h .max1 [.lst [.int a, .int b]] = some (.int (max a b)) := rfl
theorem v_max0 (h : VH) (a : Int) : biD h .max1 [.lst [.int a]] = some (.int a) := rfl
theorem v_max2 (h : VH) (a b c : Int) : biD h .max1 [.lst [.int a, .int b, .int c]] = some (.int (max (max a b) c)) := rfl
/-! what may be held against itself -/
mutual
def nice : D → Bool
  | .tup xs => decide (xs.length ≤ 1000000) && nices xs
  | .lst xs => decide (xs.length ≤ 1000000) && nices xs
  | .ref _ => false
  | .gd _ => false
  | .scr _ => false
  | _ => true
def nices : List D → Bool
  | [] => true
  | x :: xs => nice x && nices xs
end
theorem nices_mem : ∀ {xs : List D}, nices xs = true → ∀ x ∈ xs, nice x = true
  | y :: r, h, x, hx => by
    simp only [nices, Bool.and_eq_true] at h
    rcases List.mem_cons.mp hx with rfl | hx
    · exact h.1
    · exact nices_mem h.2 x hx
theorem deep_mem : ∀ {xs : List D} {x : D}, x ∈ xs → deepD x ≤ deepDs xs
  | y :: r, x, h => by
    simp only [deepDs]
    rcases List.mem_cons.mp h with rfl | h
    · omega
    · have := deep_mem h; omega
theorem nices_map {α : Type} (f : α → D) (hf : ∀ a, nice (f a) = true) : ∀ xs : List α, nices (xs.map f) = true
  | [] => rfl
  | x :: r => by rw [List.map_cons, nices, hf x, nices_map f hf r]; rfl
/-! words -/
theorem wq_0_0 : (sIs == ([105, 115] : List Nat)) = true := by decide
theorem wq_0_1 : (sIs == ([102, 114, 111, 109] : List Nat)) = false := by decide
theorem wq_0_2 : (sIs == ([110, 111, 116] : List Nat)) = false := by decide
theorem wq_0_3 : (sIs == ([97, 110, 100] : List Nat)) = false := by decide
theorem wq_0_4 : (sIs == ([111, 114] : List Nat)) = false := by decide
theorem wq_0_5 : (sIs == ([98, 101, 104, 105, 110, 100] : List Nat)) = false := by decide
theorem wq_0_6 : (sIs == ([115, 105, 110, 99, 101] : List Nat)) = false := by decide
theorem wq_0_7 : (sIs == ([109, 97, 110, 121] : List Nat)) = false := by decide
theorem wq_0_8 : (sIs == ([97, 115, 109, 97, 110, 121] : List Nat)) = false := by decide
theorem wq_1_0 : (sFrom == ([105, 115] : List Nat)) = false := by decide
theorem wq_1_1 : (sFrom == ([102, 114, 111, 109] : List Nat)) = true := by decide
theorem wq_1_2 : (sFrom == ([110, 111, 116] : List Nat)) = false := by decide
theorem wq_1_3 : (sFrom == ([97, 110, 100] : List Nat)) = false := by decide
theorem wq_1_4 : (sFrom == ([111, 114] : List Nat)) = false := by decide
theorem wq_1_5 : (sFrom == ([98, 101, 104, 105, 110, 100] : List Nat)) = false := by decide
theorem wq_1_6 : (sFrom == ([115, 105, 110, 99, 101] : List Nat)) = false := by decide
theorem wq_1_7 : (sFrom == ([109, 97, 110, 121] : List Nat)) = false := by decide
theorem wq_1_8 : (sFrom == ([97, 115, 109, 97, 110, 121] : List Nat)) = false := by decide
theorem wq_2_0 : (sNot == ([105, 115] : List Nat)) = false := by decide
theorem wq_2_1 : (sNot == ([102, 114, 111, 109] : List Nat)) = false := by decide
theorem wq_2_2 : (sNot == ([110, 111, 116] : List Nat)) = true := by decide
theorem wq_2_3 : (sNot == ([97, 110, 100] : List Nat)) = false := by decide
theorem wq_2_4 : (sNot == ([111, 114] : List Nat)) = false := by decide
theorem wq_2_5 : (sNot == ([98, 101, 104, 105, 110, 100] : List Nat)) = false := by decide
theorem wq_2_6 : (sNot == ([115, 105, 110, 99, 101] : List Nat)) = false := by decide
theorem wq_2_7 : (sNot == ([109, 97, 110, 121] : List Nat)) = false := by decide
theorem wq_2_8 : (sNot == ([97, 115, 109, 97, 110, 121] : List Nat)) = false := by decide
theorem wq_3_0 : (sAnd == ([105, 115] : List Nat)) = false := by decide
theorem wq_3_1 : (sAnd == ([102, 114, 111, 109] : List Nat)) = false := by decide
theorem wq_3_2 : (sAnd == ([110, 111, 116] : List Nat)) = false := by decide
theorem wq_3_3 : (sAnd == ([97, 110, 100] : List Nat)) = true := by decide
theorem wq_3_4 : (sAnd == ([111, 114] : List Nat)) = false := by decide
theorem wq_3_5 : (sAnd == ([98, 101, 104, 105, 110, 100] : List Nat)) = false := by decide
theorem wq_3_6 : (sAnd == ([115, 105, 110, 99, 101] : List Nat)) = false := by decide
theorem wq_3_7 : (sAnd == ([109, 97, 110, 121] : List Nat)) = false := by decide
theorem wq_3_8 : (sAnd == ([97, 115, 109, 97, 110, 121] : List Nat)) = false := by decide
theorem wq_4_0 : (sOr == ([105, 115] : List Nat)) = false := by decide
theorem wq_4_1 : (sOr == ([102, 114, 111, 109] : List Nat)) = false := by decide
theorem wq_4_2 : (sOr == ([110, 111, 116] : List Nat)) = false := by decide
theorem wq_4_3 : (sOr == ([97, 110, 100] : List Nat)) = false := by decide
theorem wq_4_4 : (sOr == ([111, 114] : List Nat)) = true := by decide
theorem wq_4_5 : (sOr == ([98, 101, 104, 105, 110, 100] : List Nat)) = false := by decide
theorem wq_4_6 : (sOr == ([115, 105, 110, 99, 101] : List Nat)) = false := by decide
theorem wq_4_7 : (sOr == ([109, 97, 110, 121] : List Nat)) = false := by decide
theorem wq_4_8 : (sOr == ([97, 115, 109, 97, 110, 121] : List Nat)) = false := by decide
theorem wq_5_0 : (sBehind == ([105, 115] : List Nat)) = false := by decide
theorem wq_5_1 : (sBehind == ([102, 114, 111, 109] : List Nat)) = false := by decide
theorem wq_5_2 : (sBehind == ([110, 111, 116] : List Nat)) = false := by decide
theorem wq_5_3 : (sBehind == ([97, 110, 100] : List Nat)) = false := by decide
theorem wq_5_4 : (sBehind == ([111, 114] : List Nat)) = false := by decide
theorem wq_5_5 : (sBehind == ([98, 101, 104, 105, 110, 100] : List Nat)) = true := by decide
theorem wq_5_6 : (sBehind == ([115, 105, 110, 99, 101] : List Nat)) = false := by decide
theorem wq_5_7 : (sBehind == ([109, 97, 110, 121] : List Nat)) = false := by decide
theorem wq_5_8 : (sBehind == ([97, 115, 109, 97, 110, 121] : List Nat)) = false := by decide
theorem wq_6_0 : (sSince == ([105, 115] : List Nat)) = false := by decide
theorem wq_6_1 : (sSince == ([102, 114, 111, 109] : List Nat)) = false := by decide
theorem wq_6_2 : (sSince == ([110, 111, 116] : List Nat)) = false := by decide
theorem wq_6_3 : (sSince == ([97, 110, 100] : List Nat)) = false := by decide
theorem wq_6_4 : (sSince == ([111, 114] : List Nat)) = false := by decide
theorem wq_6_5 : (sSince == ([98, 101, 104, 105, 110, 100] : List Nat)) = false := by decide
theorem wq_6_6 : (sSince == ([115, 105, 110, 99, 101] : List Nat)) = true := by decide
theorem wq_6_7 : (sSince == ([109, 97, 110, 121] : List Nat)) = false := by decide
theorem wq_6_8 : (sSince == ([97, 115, 109, 97, 110, 121] : List Nat)) = false := by decide
theorem wq_7_0 : (sMany == ([105, 115] : List Nat)) = false := by decide
theorem wq_7_1 : (sMany == ([102, 114, 111, 109] : List Nat)) = false := by decide
theorem wq_7_2 : (sMany == ([110, 111, 116] : List Nat)) = false := by decide
theorem wq_7_3 : (sMany == ([97, 110, 100] : List Nat)) = false := by decide
theorem wq_7_4 : (sMany == ([111, 114] : List Nat)) = false := by decide
theorem wq_7_5 : (sMany == ([98, 101, 104, 105, 110, 100] : List Nat)) = false := by decide
theorem wq_7_6 : (sMany == ([115, 105, 110, 99, 101] : List Nat)) = false := by decide
theorem wq_7_7 : (sMany == ([109, 97, 110, 121] : List Nat)) = true := by decide
theorem wq_7_8 : (sMany == ([97, 115, 109, 97, 110, 121] : List Nat)) = false := by decide
theorem wq_8_0 : (sAsmany == ([105, 115] : List Nat)) = false := by decide
theorem wq_8_1 : (sAsmany == ([102, 114, 111, 109] : List Nat)) = false := by decide
theorem wq_8_2 : (sAsmany == ([110, 111, 116] : List Nat)) = false := by decide
theorem wq_8_3 : (sAsmany == ([97, 110, 100] : List Nat)) = false := by decide
theorem wq_8_4 : (sAsmany == ([111, 114] : List Nat)) = false := by decide
theorem wq_8_5 : (sAsmany == ([98, 101, 104, 105, 110, 100] : List Nat)) = false := by decide
theorem wq_8_6 : (sAsmany == ([115, 105, 110, 99, 101] : List Nat)) = false := by decide
theorem wq_8_7 : (sAsmany == ([109, 97, 110, 121] : List Nat)) = false := by decide
theorem wq_8_8 : (sAsmany == ([97, 115, 109, 97, 110, 121] : List Nat)) = true := by decide
/-! happenings -/
structure Hap where
  t : Int
  w : Int
  v : Int
  deriving Repr, DecidableEq, Inhabited
def Hap.d (x : Hap) : D := .tup [.int x.t, .int x.w, .int x.v]
def rowD (r : List Hap) : D := .lst (r.map Hap.d)
def Hap.ok (x : Hap) : Prop := 0 ≤ x.t ∧ x.t ≤ 1000000 ∧ 0 ≤ x.w ∧ x.w ≤ 3 ∧ 0 ≤ x.v ∧ x.v ≤ 9
/-- a row that the program lets by -/
structure RowGood (r : List Hap) : Prop where
  len : r.length ≤ 200
  ok : ∀ x ∈ r, x.ok
  up : r.Pairwise fun a b => a.t < b.t
theorem Hap.plain (x : Hap) : plain x.d = true := rfl
theorem row_plain (r : List Hap) : Mn.plain (rowD r) = true := by
  show plains (r.map Hap.d) = true
  exact plains_map _ Hap.plain r
theorem row_deepDs : ∀ r : List Hap, deepDs (r.map Hap.d) ≤ 1
  | [] => by simp [deepDs]
  | x :: r => by
    have := row_deepDs r
    simp only [List.map_cons, deepDs, Hap.d, deepD]; omega
theorem row_deep (r : List Hap) : deepD (rowD r) ≤ 2 := by
  have := row_deepDs r
  simp only [rowD, deepD]; omega
/-- how long ago -/
def ago (r : List Hap) (j k : Nat) : Int := (r[k]?.getD default).t - (r[j]?.getD default).t
def within (a : Int) (b : Option Int) (g : Int) : Bool := decide (a ≤ g) && (match b with | none => true | some b => decide (g ≤ b))
/-- does a sentence hold at the k-th happening of a row -/
def hold (r : List Hap) : F → Nat → Bool
  | .is w, k => (r[k]?.getD default).w == w
  | .frm v, k => decide (v ≤ (r[k]?.getD default).v)
  | .not p, k => !(hold r p k)
  | .and p q, k => hold r p k && hold r q k
  | .or p q, k => hold r p k || hold r q k
  | .behind p a b, k => (List.range k).any fun j => hold r p j && within a b (ago r j k)
  | .since p q a b, k => (List.range k).any fun j => (hold r q j && within a b (ago r j k)) && (List.range k).all fun i => decide (i ≤ j) || hold r p i
  | .many p n b, k => decide (n ≤ (((List.range (k + 1)).filter fun j => hold r p j && decide (ago r j k ≤ b)).length : Int))
  | .asmany p q b, k => decide (((List.range (k + 1)).filter fun j => hold r q j && decide (ago r j k ≤ b)).length ≤ ((List.range (k + 1)).filter fun j => hold r p j && decide (ago r j k ≤ b)).length)
/-- where it holds -/
def holds (r : List Hap) (f : F) : List Bool := (List.range r.length).map (hold r f)
end Mn

set_option Elab.async false
set_option linter.all false
set_option maxRecDepth 100000
set_option maxHeartbeats 4000000
namespace K03
open Mn
/-- is_number(part, low, high); slots: 0 part 1 low 2 high -/
def fn_13 : Fn := { np := 3, nl := 3, gc := false, body :=
  (.cons (.ret (.and (.isi (.v 0) [.int]) (.and (.not (.isi (.v 0) [.bool])) (.chain (.v 1) .le (.v 0) .le (.v 2)))))
  .nil) }
/-- is_plain(part, sort, ahead); slots: 0 part 1 sort 2 ahead -/
def fn_14 : Fn := { np := 3, nl := 3, gc := false, body :=
  (.cons (.ite (.cmp .eq (.v 1) (.c (.str [119]))) (.cons (.ret (.call 13 (.cons (.v 0) (.cons (.c (.int 0)) (.cons (.op .sub (.g 1 (.int 4)) (.c (.int 1))) .nil)))))
  .nil) .nil)
  (.cons (.ite (.cmp .eq (.v 1) (.c (.str [118]))) (.cons (.ret (.call 13 (.cons (.v 0) (.cons (.c (.int 0)) (.cons (.op .sub (.g 2 (.int 10)) (.c (.int 1))) .nil)))))
  .nil) .nil)
  (.cons (.ite (.cmp .eq (.v 1) (.c (.str [97]))) (.cons (.ret (.call 13 (.cons (.v 0) (.cons (.c (.int 1)) (.cons (.g 5 (.int 6)) .nil)))))
  .nil) .nil)
  (.cons (.ite (.cmp .eq (.v 1) (.c (.str [110]))) (.cons (.ret (.call 13 (.cons (.v 0) (.cons (.c (.int 1)) (.cons (.g 6 (.int 4)) .nil)))))
  .nil) .nil)
  (.cons (.ite (.cmp .eq (.v 1) (.c (.str [98]))) (.cons (.ret (.call 13 (.cons (.v 0) (.cons (.c (.int 0)) (.cons (.g 5 (.int 6)) .nil)))))
  .nil) .nil)
  (.cons (.ret (.or (.cmp .is_ (.v 0) (.c (.non))) (.and (.call 13 (.cons (.v 2) (.cons (.c (.int 1)) (.cons (.g 5 (.int 6)) .nil)))) (.call 13 (.cons (.v 0) (.cons (.v 2) (.cons (.g 5 (.int 6)) .nil)))))))
  .nil)))))) }
/-- parts_of(part); slots: 0 part 1 form 2 k -/
def fn_15 : Fn := { np := 1, nl := 3, gc := false, body :=
  (.cons (.asg (.nm 1) (.ix (.g 100 (.gd 0)) (.ix (.v 0) (.c (.int 0)))))
  (.cons (.retF (.lc (.ix (.v 0) (.op .add (.v 2) (.c (.int 1)))) (.nm 2) (.range (.cons (.bi .len (.cons (.v 1) .nil)) .nil)) (.some (.cmp .eq (.ix (.v 1) (.v 2)) (.c (.str [112])))) [2]))
  .nil)) }
/-- is_one(part); slots: 0 part 1 form 2 k -/
def fn_16 : Fn := { np := 1, nl := 3, gc := false, body :=
  (.cons (.ite (.or (.not (.isi (.v 0) [.tuple])) (.or (.cmp .eq (.v 0) (.tup .nil)) (.or (.not (.isi (.ix (.v 0) (.c (.int 0))) [.str])) (.cmp .notin (.ix (.v 0) (.c (.int 0))) (.g 100 (.gd 0)))))) (.cons (.ret (.c (.bl false)))
  .nil) .nil)
  (.cons (.asg (.nm 1) (.ix (.g 100 (.gd 0)) (.ix (.v 0) (.c (.int 0)))))
  (.cons (.ite (.cmp .ne (.bi .len (.cons (.v 0) .nil)) (.op .add (.bi .len (.cons (.v 1) .nil)) (.c (.int 1)))) (.cons (.ret (.c (.bl false)))
  .nil) .nil)
  (.cons (.ret (.cmp .eq (.lc (.v 2) (.nm 2) (.range (.cons (.bi .len (.cons (.v 1) .nil)) .nil)) (.some (.and (.cmp .ne (.ix (.v 1) (.v 2)) (.c (.str [112]))) (.not (.call 14 (.cons (.ix (.v 0) (.op .add (.v 2) (.c (.int 1)))) (.cons (.ix (.v 1) (.v 2)) (.cons (.ix (.v 0) (.v 2)) .nil))))))) [2]) (.lst .nil)))
  .nil)))) }
/-- need_sentence(sentence); slots: 0 sentence 1 left 2 place 3 part 4 deep 5 one -/
def fn_17 : Fn := { np := 1, nl := 6, gc := true, body :=
  (.cons (.asgB (.nm 1) (.lst (.cons (.tup (.cons (.v 0) (.cons (.c (.int 1)) .nil))) .nil)))
  (.cons (.asg (.nm 2) (.c (.int 0)))
  (.cons (.while_ (.cmp .ne (.v 1) (.lst .nil)) (.cons (.asg (.tup [3, 4]) (.bm .pop (.v 1) .nil))
  (.cons (.ite (.or (.not (.call 16 (.cons (.v 3) .nil))) (.or (.cmp .gt (.v 4) (.g 4 (.int 6))) (.cmp .ge (.v 2) (.g 3 (.int 24))))) (.cons (.raise 2 (.cons (.v 2) .nil))
  .nil) .nil)
  (.cons (.asg (.nm 2) (.op .add (.v 2) (.c (.int 1))))
  (.cons (.ex (.bm .extend (.v 1) (.cons (.lc (.tup (.cons (.v 5) (.cons (.op .add (.v 4) (.c (.int 1))) .nil))) (.nm 5) (.revd (.call 15 (.cons (.v 3) .nil))) .none [5]) .nil)))
  .nil)))))
  .nil))) }
/-- need_row(row); slots: 0 row 1 number 2 time 3 word 4 worth 5 good -/
def fn_18 : Fn := { np := 1, nl := 6, gc := false, body :=
  (.cons (.for_ (.nm 1) (.range (.cons (.bi .len (.cons (.v 0) .nil)) .nil)) (.cons (.ite (.or (.cmp .ge (.v 1) (.g 8 (.int 200))) (.cmp .ne (.bi .len (.cons (.ix (.v 0) (.v 1)) .nil)) (.c (.int 3)))) (.cons (.raise 3 (.cons (.v 1) .nil))
  .nil) .nil)
  (.cons (.asg (.tup [2, 3, 4]) (.ix (.v 0) (.v 1)))
  (.cons (.asg (.nm 5) (.and (.call 13 (.cons (.v 2) (.cons (.c (.int 0)) (.cons (.g 7 (.int 1000000)) .nil)))) (.and (.call 13 (.cons (.v 3) (.cons (.c (.int 0)) (.cons (.op .sub (.g 1 (.int 4)) (.c (.int 1))) .nil)))) (.call 13 (.cons (.v 4) (.cons (.c (.int 0)) (.cons (.op .sub (.g 2 (.int 10)) (.c (.int 1))) .nil)))))))
  (.cons (.ite (.or (.not (.v 5)) (.and (.cmp .gt (.v 1) (.c (.int 0))) (.cmp .le (.v 2) (.ix (.ix (.v 0) (.op .sub (.v 1) (.c (.int 1)))) (.c (.int 0)))))) (.cons (.raise 3 (.cons (.v 1) .nil))
  .nil) .nil)
  .nil)))))
  .nil) }
/-- Held.__init__(self, part, row); slots: 0 self 1 part 2 row 3 one -/
def fn_21 : Fn := { np := 3, nl := 4, gc := false, body :=
  (.cons (.asg (.fld (.v 0) 3) (.v 2))
  (.cons (.asg (.fld (.v 0) 4) (.lc (.call 28 (.cons (.v 3) (.cons (.v 2) .nil))) (.nm 3) (.val (.call 15 (.cons (.v 1) .nil))) .none [3]))
  .nil)) }
/-- Held.ago(self, j, k); slots: 0 self 1 j 2 k -/
def fn_22 : Fn := { np := 3, nl := 3, gc := false, body :=
  (.cons (.ret (.op .sub (.ix (.ix (.fld (.v 0) 3) (.v 2)) (.c (.int 0))) (.ix (.ix (.fld (.v 0) 3) (.v 1)) (.c (.int 0)))))
  .nil) }
/-- Held.is_within(self, part, j, k); slots: 0 self 1 part 2 j 3 k -/
def fn_23 : Fn := { np := 4, nl := 4, gc := false, body :=
  (.cons (.ret (.and (.cmp .le (.ix (.v 1) (.neg (.c (.int 2)))) (.meth (.v 0) 1 (.cons (.v 2) (.cons (.v 3) .nil)))) (.or (.cmp .is_ (.ix (.v 1) (.neg (.c (.int 1)))) (.c (.non))) (.cmp .le (.meth (.v 0) 1 (.cons (.v 2) (.cons (.v 3) .nil))) (.ix (.v 1) (.neg (.c (.int 1))))))))
  .nil) }
/-- Held.is_behind(self, part, k); slots: 0 self 1 part 2 k 3 j -/
def fn_24 : Fn := { np := 3, nl := 4, gc := false, body :=
  (.cons (.ret (.cmp .ne (.lc (.v 3) (.nm 3) (.range (.cons (.v 2) .nil)) (.some (.and (.ix (.ix (.fld (.v 0) 4) (.c (.int 0))) (.v 3)) (.meth (.v 0) 2 (.cons (.v 1) (.cons (.v 3) (.cons (.v 2) .nil)))))) [3]) (.lst .nil)))
  .nil) }
/-- Held.is_since(self, part, k); slots: 0 self 1 part 2 k 3 j -/
def fn_25 : Fn := { np := 3, nl := 4, gc := false, body :=
  (.cons (.for_ (.nm 3) (.range (.cons (.op .sub (.v 2) (.c (.int 1))) (.cons (.neg (.c (.int 1))) (.cons (.neg (.c (.int 1))) .nil)))) (.cons (.ite (.and (.ix (.ix (.fld (.v 0) 4) (.c (.int 1))) (.v 3)) (.meth (.v 0) 2 (.cons (.v 1) (.cons (.v 3) (.cons (.v 2) .nil))))) (.cons (.ret (.c (.bl true)))
  .nil) .nil)
  (.cons (.ite (.not (.ix (.ix (.fld (.v 0) 4) (.c (.int 0))) (.v 3))) (.cons (.ret (.c (.bl false)))
  .nil) .nil)
  .nil)))
  (.cons (.ret (.c (.bl false)))
  .nil)) }
/-- Held.count(self, which, k, back); slots: 0 self 1 which 2 k 3 back 4 j -/
def fn_26 : Fn := { np := 4, nl := 5, gc := false, body :=
  (.cons (.ret (.bi .len (.cons (.lc (.v 4) (.nm 4) (.range (.cons (.op .add (.v 2) (.c (.int 1))) .nil)) (.some (.and (.ix (.ix (.fld (.v 0) 4) (.v 1)) (.v 4)) (.cmp .le (.meth (.v 0) 1 (.cons (.v 4) (.cons (.v 2) .nil))) (.v 3)))) [4]) .nil)))
  .nil) }
/-- Held.tells(self, part, k); slots: 0 self 1 part 2 k 3 word -/
def fn_27 : Fn := { np := 3, nl := 4, gc := false, body :=
  (.cons (.asg (.nm 3) (.ix (.v 1) (.c (.int 0))))
  (.cons (.ite (.cmp .eq (.v 3) (.c (.str [105, 115]))) (.cons (.ret (.cmp .eq (.ix (.ix (.fld (.v 0) 3) (.v 2)) (.c (.int 1))) (.ix (.v 1) (.c (.int 1)))))
  .nil) .nil)
  (.cons (.ite (.cmp .eq (.v 3) (.c (.str [102, 114, 111, 109]))) (.cons (.ret (.cmp .ge (.ix (.ix (.fld (.v 0) 3) (.v 2)) (.c (.int 2))) (.ix (.v 1) (.c (.int 1)))))
  .nil) .nil)
  (.cons (.ite (.cmp .eq (.v 3) (.c (.str [110, 111, 116]))) (.cons (.ret (.not (.ix (.ix (.fld (.v 0) 4) (.c (.int 0))) (.v 2))))
  .nil) .nil)
  (.cons (.ite (.cmp .eq (.v 3) (.c (.str [97, 110, 100]))) (.cons (.ret (.and (.ix (.ix (.fld (.v 0) 4) (.c (.int 0))) (.v 2)) (.ix (.ix (.fld (.v 0) 4) (.c (.int 1))) (.v 2))))
  .nil) .nil)
  (.cons (.ite (.cmp .eq (.v 3) (.c (.str [111, 114]))) (.cons (.ret (.or (.ix (.ix (.fld (.v 0) 4) (.c (.int 0))) (.v 2)) (.ix (.ix (.fld (.v 0) 4) (.c (.int 1))) (.v 2))))
  .nil) .nil)
  (.cons (.ite (.cmp .eq (.v 3) (.c (.str [98, 101, 104, 105, 110, 100]))) (.cons (.ret (.meth (.v 0) 3 (.cons (.v 1) (.cons (.v 2) .nil))))
  .nil) .nil)
  (.cons (.ite (.cmp .eq (.v 3) (.c (.str [115, 105, 110, 99, 101]))) (.cons (.ret (.meth (.v 0) 4 (.cons (.v 1) (.cons (.v 2) .nil))))
  .nil) .nil)
  (.cons (.ite (.cmp .eq (.v 3) (.c (.str [109, 97, 110, 121]))) (.cons (.ret (.cmp .ge (.meth (.v 0) 5 (.cons (.c (.int 0)) (.cons (.v 2) (.cons (.ix (.v 1) (.c (.int 3))) .nil)))) (.ix (.v 1) (.c (.int 2)))))
  .nil) .nil)
  (.cons (.ret (.cmp .ge (.meth (.v 0) 5 (.cons (.c (.int 0)) (.cons (.v 2) (.cons (.ix (.v 1) (.c (.int 3))) .nil)))) (.meth (.v 0) 5 (.cons (.c (.int 1)) (.cons (.v 2) (.cons (.ix (.v 1) (.c (.int 3))) .nil))))))
  .nil)))))))))) }
/-- held(part, row); slots: 0 part 1 row 2 here 3 k -/
def fn_28 : Fn := { np := 2, nl := 4, gc := true, body :=
  (.cons (.asg (.nm 2) (.new 13 (.cons (.v 0) (.cons (.v 1) .nil))))
  (.cons (.retF (.lc (.meth (.v 2) 6 (.cons (.v 0) (.cons (.v 3) .nil))) (.nm 3) (.range (.cons (.bi .len (.cons (.v 1) .nil)) .nil)) .none [3]))
  .nil)) }
/-- holds(sentence, row); slots: 0 sentence 1 row -/
def fn_29 : Fn := { np := 2, nl := 2, gc := false, body :=
  (.cons (.ex (.call 17 (.cons (.v 0) .nil)))
  (.cons (.ex (.call 18 (.cons (.v 1) .nil)))
  (.cons (.retF (.call 28 (.cons (.v 0) (.cons (.v 1) .nil))))
  .nil))) }
/-- _law_taken(_law_row_here, _law_many); slots: 0 _law_row_here 1 _law_many 2 _law_found 3 _law_cell -/
def fn_1000 : Fn := { np := 2, nl := 4, gc := false, body :=
  (.cons (.ite (.cmp .gt (.ix (.v 0) (.c (.int 3))) (.c (.int 0))) (.cons (.asg (.nm 2) (.op .mod (.ix (.v 0) (.c (.int 3))) (.v 1)))
  (.cons (.asg (.sub (.v 0) (.c (.int 3))) (.op .div (.ix (.v 0) (.c (.int 3))) (.v 1)))
  (.cons (.ret (.v 2))
  .nil))) .nil)
  (.cons (.asg (.sub (.v 0) (.c (.int 1))) (.op .add (.ix (.v 0) (.c (.int 1))) (.c (.int 1))))
  (.cons (.ite (.cmp .gt (.ix (.v 0) (.c (.int 1))) (.bi .len (.cons (.ix (.v 0) (.c (.int 0))) .nil))) (.cons (.asg (.sub (.v 0) (.c (.int 2))) (.op .mod (.op .add (.op .mul (.ix (.v 0) (.c (.int 2))) (.c (.int 48271))) (.c (.int 11))) (.c (.int 2147483647))))
  (.cons (.ret (.op .mod (.op .div (.ix (.v 0) (.c (.int 2))) (.c (.int 7))) (.v 1)))
  .nil)) .nil)
  (.cons (.asg (.nm 3) (.ix (.ix (.v 0) (.c (.int 0))) (.op .sub (.ix (.v 0) (.c (.int 1))) (.c (.int 1)))))
  (.cons (.asg (.sub (.v 0) (.c (.int 2))) (.op .mod (.op .add (.op .add (.op .mul (.ix (.v 0) (.c (.int 2))) (.c (.int 48271))) (.v 3)) (.c (.int 11))) (.c (.int 2147483647))))
  (.cons (.ite (.cmp .ge (.v 3) (.op .pow (.c (.int 10)) (.c (.int 18)))) (.cons (.asg (.sub (.v 0) (.c (.int 3))) (.op .div (.v 3) (.v 1)))
  .nil) .nil)
  (.cons (.ret (.op .mod (.v 3) (.v 1)))
  .nil))))))) }
/-- _law_alike(_law_found, _law_due); slots: 0 _law_found 1 _law_due 2 _law_k -/
def fn_1001 : Fn := { np := 2, nl := 3, gc := false, body :=
  (.cons (.ite (.or (.isi (.v 1) [.tuple]) (.isi (.v 1) [.list])) (.cons (.ite (.or (.cmp .ne (.isi (.v 0) [.tuple]) (.isi (.v 1) [.tuple])) (.not (.isi (.v 0) [.tuple, .list]))) (.cons (.ret (.c (.bl false)))
  .nil) .nil)
  (.cons (.ite (.cmp .ne (.bi .len (.cons (.v 0) .nil)) (.bi .len (.cons (.v 1) .nil))) (.cons (.ret (.c (.bl false)))
  .nil) .nil)
  (.cons (.ret (.cmp .eq (.lc (.v 2) (.nm 2) (.range (.cons (.bi .len (.cons (.v 1) .nil)) .nil)) (.some (.not (.call 1001 (.cons (.ix (.v 0) (.v 2)) (.cons (.ix (.v 1) (.v 2)) .nil))))) [2]) (.lst .nil)))
  .nil))) .nil)
  (.cons (.ite (.or (.cmp .is_ (.v 1) (.c (.non))) (.cmp .is_ (.v 0) (.c (.non)))) (.cons (.ret (.and (.cmp .is_ (.v 1) (.c (.non))) (.cmp .is_ (.v 0) (.c (.non)))))
  .nil) .nil)
  (.cons (.ite (.or (.isi (.v 1) [.bool]) (.isi (.v 0) [.bool])) (.cons (.ret (.and (.isi (.v 1) [.bool]) (.and (.isi (.v 0) [.bool]) (.cmp .eq (.v 0) (.v 1)))))
  .nil) .nil)
  (.cons (.ite (.isi (.v 1) [.str]) (.cons (.ret (.and (.isi (.v 0) [.str]) (.cmp .eq (.v 0) (.v 1))))
  .nil) .nil)
  (.cons (.ret (.and (.isi (.v 0) [.int]) (.cmp .eq (.v 0) (.v 1))))
  .nil))))) }
/-- _law_leaf(_law_row_here); slots: 0 _law_row_here -/
def fn_1002 : Fn := { np := 1, nl := 1, gc := false, body :=
  (.cons (.ite (.cmp .gt (.call 1000 (.cons (.v 0) (.cons (.c (.int 3)) .nil))) (.c (.int 0))) (.cons (.ret (.tup (.cons (.c (.str [105, 115])) (.cons (.call 1000 (.cons (.v 0) (.cons (.ix (.lst (.cons (.c (.int 2)) (.cons (.c (.int 4)) .nil))) (.call 1000 (.cons (.v 0) (.cons (.c (.int 2)) .nil)))) .nil))) .nil))))
  .nil) .nil)
  (.cons (.ret (.tup (.cons (.c (.str [102, 114, 111, 109])) (.cons (.call 1000 (.cons (.v 0) (.cons (.ix (.lst (.cons (.c (.int 3)) (.cons (.c (.int 10)) .nil))) (.call 1000 (.cons (.v 0) (.cons (.c (.int 2)) .nil)))) .nil))) .nil))))
  .nil)) }
/-- _law_back(_law_row_here, _law_far); slots: 0 _law_row_here 1 _law_far 2 _law_low 3 _law_high -/
def fn_1003 : Fn := { np := 2, nl := 4, gc := false, body :=
  (.cons (.asg (.nm 2) (.op .add (.c (.int 1)) (.call 1000 (.cons (.v 0) (.cons (.v 1) .nil)))))
  (.cons (.asg (.nm 3) (.op .add (.v 2) (.call 1000 (.cons (.v 0) (.cons (.op .add (.op .sub (.v 1) (.v 2)) (.c (.int 1))) .nil)))))
  (.cons (.ret (.tup (.cons (.v 2) (.cons (.ix (.lst (.cons (.c (.non)) (.cons (.v 3) (.cons (.v 3) .nil)))) (.call 1000 (.cons (.v 0) (.cons (.c (.int 3)) .nil)))) .nil))))
  .nil))) }
/-- _law_sentence(_law_row_here, _law_deep_here, _law_far); slots: 0 _law_row_here 1 _law_deep_here 2 _law_far 3 _law_way 4 _law_one 5 _law_other -/
def fn_1004 : Fn := { np := 3, nl := 6, gc := false, body :=
  (.cons (.asg (.nm 3) (.call 1000 (.cons (.v 0) (.cons (.c (.int 12)) .nil))))
  (.cons (.ite (.or (.cmp .eq (.v 1) (.c (.int 0))) (.cmp .lt (.v 3) (.c (.int 2)))) (.cons (.ret (.call 1002 (.cons (.v 0) .nil)))
  .nil) .nil)
  (.cons (.asg (.nm 4) (.call 1004 (.cons (.v 0) (.cons (.op .sub (.op .sub (.v 1) (.c (.int 1))) (.op .mul (.call 1000 (.cons (.v 0) (.cons (.c (.int 2)) .nil))) (.bi .int (.cons (.cmp .gt (.v 1) (.c (.int 1))) .nil)))) (.cons (.v 2) .nil)))))
  (.cons (.ite (.cmp .eq (.v 3) (.c (.int 2))) (.cons (.ret (.tup (.cons (.c (.str [110, 111, 116])) (.cons (.v 4) .nil))))
  .nil) .nil)
  (.cons (.ite (.cmp .lt (.v 3) (.c (.int 6))) (.cons (.ite (.cmp .eq (.v 3) (.c (.int 5))) (.cons (.ret (.tup (.cons (.c (.str [109, 97, 110, 121])) (.cons (.v 4) (.cons (.op .add (.c (.int 1)) (.call 1000 (.cons (.v 0) (.cons (.c (.int 4)) .nil)))) (.cons (.call 1000 (.cons (.v 0) (.cons (.op .add (.v 2) (.c (.int 1))) .nil))) .nil))))))
  .nil) .nil)
  (.cons (.ret (.op .add (.tup (.cons (.c (.str [98, 101, 104, 105, 110, 100])) (.cons (.v 4) .nil))) (.call 1003 (.cons (.v 0) (.cons (.v 2) .nil)))))
  .nil)) .nil)
  (.cons (.asg (.nm 5) (.ix (.lst (.cons (.v 4) (.cons (.call 1004 (.cons (.v 0) (.cons (.call 1000 (.cons (.v 0) (.cons (.v 1) .nil))) (.cons (.v 2) .nil)))) .nil))) (.bi .int (.cons (.cmp .gt (.call 1000 (.cons (.v 0) (.cons (.c (.int 9)) .nil))) (.c (.int 0))) .nil))))
  (.cons (.ite (.cmp .lt (.v 3) (.c (.int 9))) (.cons (.ret (.tup (.cons (.ix (.lst (.cons (.c (.str [97, 110, 100])) (.cons (.c (.str [111, 114])) (.cons (.c (.str [111, 114])) .nil)))) (.op .sub (.v 3) (.c (.int 6)))) (.cons (.v 4) (.cons (.v 5) .nil)))))
  .nil) .nil)
  (.cons (.ite (.cmp .eq (.v 3) (.c (.int 9))) (.cons (.ret (.tup (.cons (.c (.str [97, 115, 109, 97, 110, 121])) (.cons (.v 4) (.cons (.v 5) (.cons (.call 1000 (.cons (.v 0) (.cons (.op .add (.v 2) (.c (.int 1))) .nil))) .nil))))))
  .nil) .nil)
  (.cons (.ret (.op .add (.tup (.cons (.c (.str [115, 105, 110, 99, 101])) (.cons (.ix (.lst (.cons (.v 4) (.cons (.tup (.cons (.c (.str [110, 111, 116])) (.cons (.v 4) .nil))) .nil))) (.call 1000 (.cons (.v 0) (.cons (.c (.int 2)) .nil)))) (.cons (.v 5) .nil)))) (.call 1003 (.cons (.v 0) (.cons (.v 2) .nil)))))
  .nil))))))))) }
/-- _law_parts(_law_sentence_here); slots: 0 _law_sentence_here 1 _law_found 2 _law_part -/
def fn_1005 : Fn := { np := 1, nl := 3, gc := false, body :=
  (.cons (.asg (.nm 1) (.lst (.cons (.v 0) .nil)))
  (.cons (.for_ (.nm 2) (.val (.sl (.v 0) (.some (.c (.int 1))) .none)) (.cons (.ite (.isi (.v 2) [.tuple]) (.cons (.asg (.nm 1) (.op .add (.v 1) (.call 1005 (.cons (.v 2) .nil))))
  .nil) .nil)
  .nil))
  (.cons (.ret (.v 1))
  .nil))) }
/-- _law_deep(_law_sentence_here); slots: 0 _law_sentence_here 1 _law_part -/
def fn_1006 : Fn := { np := 1, nl := 2, gc := false, body :=
  (.cons (.ret (.op .add (.c (.int 1)) (.bi .max1 (.cons (.op .add (.lst (.cons (.c (.int 0)) .nil)) (.lc (.call 1006 (.cons (.v 1) .nil)) (.nm 1) (.val (.sl (.v 0) (.some (.c (.int 1))) .none)) (.some (.isi (.v 1) [.tuple])) [1])) .nil))))
  .nil) }
/-- _law_drawn(_law_row_here, _law_most, _law_far); slots: 0 _law_row_here 1 _law_most 2 _law_far 3 _law_turn 4 _law_found -/
def fn_1007 : Fn := { np := 3, nl := 5, gc := false, body :=
  (.cons (.for_ (.nm 3) (.range (.cons (.c (.int 6)) .nil)) (.cons (.asg (.nm 4) (.call 1004 (.cons (.v 0) (.cons (.op .add (.c (.int 2)) (.call 1000 (.cons (.v 0) (.cons (.c (.int 4)) .nil)))) (.cons (.v 2) .nil)))))
  (.cons (.ite (.and (.cmp .le (.bi .len (.cons (.call 1005 (.cons (.v 4) .nil)) .nil)) (.v 1)) (.cmp .lt (.call 1006 (.cons (.v 4) .nil)) (.c (.int 7)))) (.cons (.ret (.v 4))
  .nil) .nil)
  .nil)))
  (.cons (.ret (.call 1002 (.cons (.v 0) .nil)))
  .nil)) }
/-- _law_row(_law_row_here, _law_most); slots: 0 _law_row_here 1 _law_most 2 _law_found 3 _law_time 4 _law_wide 5 _law_k -/
def fn_1008 : Fn := { np := 2, nl := 6, gc := true, body :=
  (.cons (.asgB (.nm 2) (.lst .nil))
  (.cons (.asg (.nm 3) (.ix (.lst (.cons (.c (.int 0)) (.cons (.c (.int 0)) (.cons (.call 1000 (.cons (.v 0) (.cons (.c (.int 900000)) .nil))) .nil)))) (.call 1000 (.cons (.v 0) (.cons (.c (.int 3)) .nil)))))
  (.cons (.asg (.nm 4) (.ix (.lst (.cons (.c (.int 1)) (.cons (.c (.int 2)) (.cons (.c (.int 4)) (.cons (.c (.int 9)) (.cons (.c (.int 400)) .nil)))))) (.call 1000 (.cons (.v 0) (.cons (.c (.int 5)) .nil)))))
  (.cons (.for_ (.nm 5) (.range (.cons (.call 1000 (.cons (.v 0) (.cons (.op .add (.v 1) (.c (.int 1))) .nil))) .nil)) (.cons (.ex (.bm .append (.v 2) (.cons (.tup (.cons (.v 3) (.cons (.call 1000 (.cons (.v 0) (.cons (.ix (.lst (.cons (.c (.int 2)) (.cons (.c (.int 4)) .nil))) (.call 1000 (.cons (.v 0) (.cons (.c (.int 2)) .nil)))) .nil))) (.cons (.call 1000 (.cons (.v 0) (.cons (.ix (.lst (.cons (.c (.int 3)) (.cons (.c (.int 10)) .nil))) (.call 1000 (.cons (.v 0) (.cons (.c (.int 2)) .nil)))) .nil))) .nil)))) .nil)))
  (.cons (.asg (.nm 3) (.op .add (.op .add (.v 3) (.c (.int 1))) (.call 1000 (.cons (.v 0) (.cons (.v 4) .nil)))))
  .nil)))
  (.cons (.ret (.v 2))
  .nil))))) }
/-- _law_holds(_law_sentence_here, _law_some); slots: 0 _law_sentence_here 1 _law_some 2 _law_word 3 _law_told 4 _law_part 5 _law_found 6 _law_k 7 _law_gaps 8 _law_one 9 _law_near 10 _law_j 11 _law_counts 12 _law_i 13 _law_low 14 _law_high -/
def fn_1009 : Fn := { np := 2, nl := 15, gc := true, body :=
  (.cons (.asg (.nm 2) (.ix (.v 0) (.c (.int 0))))
  (.cons (.asg (.nm 3) (.lc (.call 1009 (.cons (.v 4) (.cons (.v 1) .nil))) (.nm 4) (.val (.sl (.v 0) (.some (.c (.int 1))) .none)) (.some (.isi (.v 4) [.tuple])) [4]))
  (.cons (.asgB (.nm 5) (.lst .nil))
  (.cons (.for_ (.nm 6) (.range (.cons (.bi .len (.cons (.v 1) .nil)) .nil)) (.cons (.asg (.nm 7) (.lc (.op .sub (.ix (.ix (.v 1) (.v 6)) (.c (.int 0))) (.ix (.v 8) (.c (.int 0)))) (.nm 8) (.val (.sl (.v 1) .none (.some (.op .add (.v 6) (.c (.int 1)))))) .none [8]))
  (.cons (.ite (.or (.cmp .eq (.v 2) (.c (.str [105, 115]))) (.cmp .eq (.v 2) (.c (.str [102, 114, 111, 109])))) (.cons (.ex (.bm .append (.v 5) (.cons (.ite (.cmp .eq (.v 2) (.c (.str [105, 115]))) (.cmp .eq (.ix (.ix (.v 1) (.v 6)) (.c (.int 1))) (.ix (.v 0) (.c (.int 1)))) (.cmp .ge (.ix (.ix (.v 1) (.v 6)) (.c (.int 2))) (.ix (.v 0) (.c (.int 1))))) .nil)))
  .nil) (.cons (.ite (.cmp .eq (.v 2) (.c (.str [110, 111, 116]))) (.cons (.ex (.bm .append (.v 5) (.cons (.not (.ix (.ix (.v 3) (.c (.int 0))) (.v 6))) .nil)))
  .nil) (.cons (.ite (.or (.cmp .eq (.v 2) (.c (.str [97, 110, 100]))) (.cmp .eq (.v 2) (.c (.str [111, 114])))) (.cons (.ex (.bm .append (.v 5) (.cons (.ite (.cmp .eq (.v 2) (.c (.str [97, 110, 100]))) (.and (.ix (.ix (.v 3) (.c (.int 0))) (.v 6)) (.ix (.ix (.v 3) (.c (.int 1))) (.v 6))) (.or (.ix (.ix (.v 3) (.c (.int 0))) (.v 6)) (.ix (.ix (.v 3) (.c (.int 1))) (.v 6)))) .nil)))
  .nil) (.cons (.ite (.or (.cmp .eq (.v 2) (.c (.str [109, 97, 110, 121]))) (.cmp .eq (.v 2) (.c (.str [97, 115, 109, 97, 110, 121])))) (.cons (.asg (.nm 9) (.lc (.v 10) (.nm 10) (.range (.cons (.op .add (.v 6) (.c (.int 1))) .nil)) (.some (.cmp .le (.ix (.v 7) (.v 10)) (.ix (.v 0) (.c (.int 3))))) [10]))
  (.cons (.asg (.nm 11) (.lc (.bi .len (.cons (.lc (.v 10) (.nm 10) (.val (.v 9)) (.some (.ix (.ix (.v 3) (.v 12)) (.v 10))) [10]) .nil)) (.nm 12) (.range (.cons (.bi .len (.cons (.v 3) .nil)) .nil)) .none [12]))
  (.cons (.ex (.bm .append (.v 5) (.cons (.cmp .ge (.ix (.v 11) (.c (.int 0))) (.ite (.cmp .eq (.v 2) (.c (.str [109, 97, 110, 121]))) (.ix (.v 0) (.c (.int 2))) (.ix (.v 11) (.c (.int 1))))) .nil)))
  .nil))) (.cons (.asg (.tup [13, 14]) (.sl (.v 0) (.some (.neg (.c (.int 2)))) .none))
  (.cons (.asg (.nm 9) (.lc (.v 10) (.nm 10) (.range (.cons (.v 6) .nil)) (.some (.and (.cmp .ge (.ix (.v 7) (.v 10)) (.v 13)) (.and (.or (.cmp .is_ (.v 14) (.c (.non))) (.cmp .le (.ix (.v 7) (.v 10)) (.v 14))) (.ix (.ix (.v 3) (.neg (.c (.int 1)))) (.v 10))))) [10]))
  (.cons (.ite (.cmp .eq (.v 2) (.c (.str [115, 105, 110, 99, 101]))) (.cons (.asg (.nm 9) (.lc (.v 10) (.nm 10) (.val (.v 9)) (.some (.cmp .notin (.c (.bl false)) (.sl (.ix (.v 3) (.c (.int 0))) (.some (.op .add (.v 10) (.c (.int 1)))) (.some (.v 6))))) [10]))
  .nil) .nil)
  (.cons (.ex (.bm .append (.v 5) (.cons (.cmp .ne (.v 9) (.lst .nil)) .nil)))
  .nil)))))
  .nil))
  .nil))
  .nil))
  .nil)))
  (.cons (.ret (.v 5))
  .nil))))) }
/-- law(_law_script); slots: 0 _law_script 1 _law_row_here 2 _law_turn 3 _law_sentence_here 4 _law_some 5 _law_many 6 _law_at 7 _law_k 8 _law_due 9 _law_handed 10 _law_again 11 _law_found -/
def fn_1010 : Fn := { np := 1, nl := 12, gc := true, body :=
  (.cons (.asgB (.nm 1) (.lst (.cons (.v 0) (.cons (.c (.int 0)) (.cons (.c (.int 0)) (.cons (.c (.int 0)) .nil))))))
  (.cons (.for_ (.nm 2) (.range (.cons (.c (.int 4)) .nil)) (.cons (.asg (.nm 3) (.call 1007 (.cons (.v 1) (.cons (.c (.int 24)) (.cons (.c (.int 6)) .nil)))))
  (.cons (.asg (.nm 4) (.call 1008 (.cons (.v 1) (.cons (.ix (.lst (.cons (.c (.int 20)) (.cons (.c (.int 60)) (.cons (.c (.int 200)) .nil)))) (.op .div (.op .add (.call 1000 (.cons (.v 1) (.cons (.c (.int 20)) .nil))) (.c (.int 1))) (.c (.int 10)))) .nil))))
  (.cons (.ite (.cmp .eq (.call 1000 (.cons (.v 1) (.cons (.c (.int 8)) .nil))) (.c (.int 7))) (.cons (.asg (.nm 3) (.tup (.cons (.c (.str [115, 105, 110, 99, 101])) (.cons (.tup (.cons (.c (.str [110, 111, 116])) (.cons (.tup (.cons (.c (.str [105, 115])) (.cons (.c (.int 0)) .nil))) .nil))) (.cons (.tup (.cons (.c (.str [105, 115])) (.cons (.c (.int 1)) .nil))) (.cons (.op .add (.c (.int 1)) (.call 1000 (.cons (.v 1) (.cons (.c (.int 3)) .nil)))) (.cons (.c (.non)) .nil)))))))
  (.cons (.asg (.tup [5, 6]) (.tup (.cons (.op .add (.c (.int 10)) (.call 1000 (.cons (.v 1) (.cons (.c (.int 30)) .nil)))) (.cons (.call 1000 (.cons (.v 1) (.cons (.c (.int 40)) .nil))) .nil))))
  (.cons (.asg (.nm 4) (.lc (.tup (.cons (.v 7) (.cons (.ite (.cmp .eq (.v 7) (.c (.int 0))) (.c (.int 1)) (.ite (.cmp .eq (.v 7) (.v 6)) (.c (.int 0)) (.c (.int 2)))) (.cons (.call 1000 (.cons (.v 1) (.cons (.c (.int 10)) .nil))) .nil)))) (.nm 7) (.range (.cons (.v 5) .nil)) .none [7]))
  .nil))) .nil)
  (.cons (.asg (.nm 8) (.call 1009 (.cons (.v 3) (.cons (.v 4) .nil))))
  (.cons (.asg (.nm 9) (.listof (.v 4)))
  (.cons (.for_ (.nm 10) (.range (.cons (.c (.int 2)) .nil)) (.cons (.asgB (.nm 11) (.call 29 (.cons (.v 3) (.cons (.v 9) .nil))))
  (.cons (.ite (.or (.not (.call 1001 (.cons (.v 11) (.cons (.v 8) .nil)))) (.cmp .ne (.v 9) (.v 4))) (.cons (.ret (.c (.bl false)))
  .nil) .nil)
  (.cons (.ex (.bm .append (.v 11) (.cons (.c (.bl true)) .nil)))
  .nil))))
  .nil)))))))
  (.cons (.ret (.c (.bl true)))
  .nil))) }
def tbl : Nat → Option Fn
  | 13 => some fn_13
  | 14 => some fn_14
  | 15 => some fn_15
  | 16 => some fn_16
  | 17 => some fn_17
  | 18 => some fn_18
  | 21 => some fn_21
  | 22 => some fn_22
  | 23 => some fn_23
  | 24 => some fn_24
  | 25 => some fn_25
  | 26 => some fn_26
  | 27 => some fn_27
  | 28 => some fn_28
  | 29 => some fn_29
  | 1000 => some fn_1000
  | 1001 => some fn_1001
  | 1002 => some fn_1002
  | 1003 => some fn_1003
  | 1004 => some fn_1004
  | 1005 => some fn_1005
  | 1006 => some fn_1006
  | 1007 => some fn_1007
  | 1008 => some fn_1008
  | 1009 => some fn_1009
  | 1010 => some fn_1010
  | _ => none
def mt : MT
  | 13, 0 => some 21
  | 13, 1 => some 22
  | 13, 2 => some 23
  | 13, 3 => some 24
  | 13, 4 => some 25
  | 13, 5 => some 26
  | 13, 6 => some 27
  | _, _ => none

def gds : Nat → List (D × D)
  | 0 => [(.str [105, 115], .str [119]), (.str [102, 114, 111, 109], .str [118]), (.str [110, 111, 116], .str [112]), (.str [97, 110, 100], .str [112, 112]), (.str [111, 114], .str [112, 112]), (.str [98, 101, 104, 105, 110, 100], .str [112, 97, 117]), (.str [115, 105, 110, 99, 101], .str [112, 112, 97, 117]), (.str [109, 97, 110, 121], .str [112, 110, 98]), (.str [97, 115, 109, 97, 110, 121], .str [112, 112, 98])]
  | _ => []

def cfg : Cfg := { mt := mt, gds := gds, wf := 1000 }
end K03


set_option Elab.async false
set_option linter.all false
set_option maxRecDepth 100000
set_option maxHeartbeats 4000000

namespace K03
open Mn
section
variable {m : Nat} (h : VH)
/-- is_number; 0 part 1 low 2 high -/
theorem u_13 (a0 a1 a2 : D) : run cfg tbl (m + 1) 13 [a0, a1, a2] h = finish false h (evSs cfg (run cfg tbl m) fn_13.body [some a0, some a1, some a2] h) := rfl
/-- is_plain; 0 part 1 sort 2 ahead -/
theorem u_14 (a0 a1 a2 : D) : run cfg tbl (m + 1) 14 [a0, a1, a2] h = finish false h (evSs cfg (run cfg tbl m) fn_14.body [some a0, some a1, some a2] h) := rfl
/-- parts_of; 0 part 1 form 2 k -/
theorem u_15 (a0 : D) : run cfg tbl (m + 1) 15 [a0] h = finish false h (evSs cfg (run cfg tbl m) fn_15.body [some a0, none, none] h) := rfl
/-- is_one; 0 part 1 form 2 k -/
theorem u_16 (a0 : D) : run cfg tbl (m + 1) 16 [a0] h = finish false h (evSs cfg (run cfg tbl m) fn_16.body [some a0, none, none] h) := rfl
/-- need_sentence; 0 sentence 1 left 2 place 3 part 4 deep 5 one -/
theorem u_17 (a0 : D) : run cfg tbl (m + 1) 17 [a0] h = finish true h (evSs cfg (run cfg tbl m) fn_17.body [some a0, none, none, none, none, none] h) := rfl
/-- need_row; 0 row 1 number 2 time 3 word 4 worth 5 good -/
theorem u_18 (a0 : D) : run cfg tbl (m + 1) 18 [a0] h = finish false h (evSs cfg (run cfg tbl m) fn_18.body [some a0, none, none, none, none, none] h) := rfl
/-- Held.__init__; 0 self 1 part 2 row 3 one -/
theorem u_21 (a0 a1 a2 : D) : run cfg tbl (m + 1) 21 [a0, a1, a2] h = finish false h (evSs cfg (run cfg tbl m) fn_21.body [some a0, some a1, some a2, none] h) := rfl
/-- Held.ago; 0 self 1 j 2 k -/
theorem u_22 (a0 a1 a2 : D) : run cfg tbl (m + 1) 22 [a0, a1, a2] h = finish false h (evSs cfg (run cfg tbl m) fn_22.body [some a0, some a1, some a2] h) := rfl
/-- Held.is_within; 0 self 1 part 2 j 3 k -/
theorem u_23 (a0 a1 a2 a3 : D) : run cfg tbl (m + 1) 23 [a0, a1, a2, a3] h = finish false h (evSs cfg (run cfg tbl m) fn_23.body [some a0, some a1, some a2, some a3] h) := rfl
/-- Held.is_behind; 0 self 1 part 2 k 3 j -/
theorem u_24 (a0 a1 a2 : D) : run cfg tbl (m + 1) 24 [a0, a1, a2] h = finish false h (evSs cfg (run cfg tbl m) fn_24.body [some a0, some a1, some a2, none] h) := rfl
/-- Held.is_since; 0 self 1 part 2 k 3 j -/
theorem u_25 (a0 a1 a2 : D) : run cfg tbl (m + 1) 25 [a0, a1, a2] h = finish false h (evSs cfg (run cfg tbl m) fn_25.body [some a0, some a1, some a2, none] h) := rfl
/-- Held.count; 0 self 1 which 2 k 3 back 4 j -/
theorem u_26 (a0 a1 a2 a3 : D) : run cfg tbl (m + 1) 26 [a0, a1, a2, a3] h = finish false h (evSs cfg (run cfg tbl m) fn_26.body [some a0, some a1, some a2, some a3, none] h) := rfl
/-- Held.tells; 0 self 1 part 2 k 3 word -/
theorem u_27 (a0 a1 a2 : D) : run cfg tbl (m + 1) 27 [a0, a1, a2] h = finish false h (evSs cfg (run cfg tbl m) fn_27.body [some a0, some a1, some a2, none] h) := rfl
/-- held; 0 part 1 row 2 here 3 k -/
theorem u_28 (a0 a1 : D) : run cfg tbl (m + 1) 28 [a0, a1] h = finish true h (evSs cfg (run cfg tbl m) fn_28.body [some a0, some a1, none, none] h) := rfl
/-- holds; 0 sentence 1 row -/
theorem u_29 (a0 a1 : D) : run cfg tbl (m + 1) 29 [a0, a1] h = finish false h (evSs cfg (run cfg tbl m) fn_29.body [some a0, some a1] h) := rfl
/-- _law_taken; 0 _law_row_here 1 _law_many 2 _law_found 3 _law_cell -/
theorem u_1000 (a0 a1 : D) : run cfg tbl (m + 1) 1000 [a0, a1] h = finish false h (evSs cfg (run cfg tbl m) fn_1000.body [some a0, some a1, none, none] h) := rfl
/-- _law_alike; 0 _law_found 1 _law_due 2 _law_k -/
theorem u_1001 (a0 a1 : D) : run cfg tbl (m + 1) 1001 [a0, a1] h = finish false h (evSs cfg (run cfg tbl m) fn_1001.body [some a0, some a1, none] h) := rfl
/-- _law_leaf; 0 _law_row_here -/
theorem u_1002 (a0 : D) : run cfg tbl (m + 1) 1002 [a0] h = finish false h (evSs cfg (run cfg tbl m) fn_1002.body [some a0] h) := rfl
/-- _law_back; 0 _law_row_here 1 _law_far 2 _law_low 3 _law_high -/
theorem u_1003 (a0 a1 : D) : run cfg tbl (m + 1) 1003 [a0, a1] h = finish false h (evSs cfg (run cfg tbl m) fn_1003.body [some a0, some a1, none, none] h) := rfl
/-- _law_sentence; 0 _law_row_here 1 _law_deep_here 2 _law_far 3 _law_way 4 _law_one 5 _law_other -/
theorem u_1004 (a0 a1 a2 : D) : run cfg tbl (m + 1) 1004 [a0, a1, a2] h = finish false h (evSs cfg (run cfg tbl m) fn_1004.body [some a0, some a1, some a2, none, none, none] h) := rfl
/-- _law_parts; 0 _law_sentence_here 1 _law_found 2 _law_part -/
theorem u_1005 (a0 : D) : run cfg tbl (m + 1) 1005 [a0] h = finish false h (evSs cfg (run cfg tbl m) fn_1005.body [some a0, none, none] h) := rfl
/-- _law_deep; 0 _law_sentence_here 1 _law_part -/
theorem u_1006 (a0 : D) : run cfg tbl (m + 1) 1006 [a0] h = finish false h (evSs cfg (run cfg tbl m) fn_1006.body [some a0, none] h) := rfl
/-- _law_drawn; 0 _law_row_here 1 _law_most 2 _law_far 3 _law_turn 4 _law_found -/
theorem u_1007 (a0 a1 a2 : D) : run cfg tbl (m + 1) 1007 [a0, a1, a2] h = finish false h (evSs cfg (run cfg tbl m) fn_1007.body [some a0, some a1, some a2, none, none] h) := rfl
/-- _law_row; 0 _law_row_here 1 _law_most 2 _law_found 3 _law_time 4 _law_wide 5 _law_k -/
theorem u_1008 (a0 a1 : D) : run cfg tbl (m + 1) 1008 [a0, a1] h = finish true h (evSs cfg (run cfg tbl m) fn_1008.body [some a0, some a1, none, none, none, none] h) := rfl
/-- _law_holds; 0 _law_sentence_here 1 _law_some 2 _law_word 3 _law_told 4 _law_part 5 _law_found 6 _law_k 7 _law_gaps 8 _law_one 9 _law_near 10 _law_j 11 _law_counts 12 _law_i 13 _law_low 14 _law_high -/
theorem u_1009 (a0 a1 : D) : run cfg tbl (m + 1) 1009 [a0, a1] h = finish true h (evSs cfg (run cfg tbl m) fn_1009.body [some a0, some a1, none, none, none, none, none, none, none, none, none, none, none, none, none] h) := rfl
/-- law; 0 _law_script 1 _law_row_here 2 _law_turn 3 _law_sentence_here 4 _law_some 5 _law_many 6 _law_at 7 _law_k 8 _law_due 9 _law_handed 10 _law_again 11 _law_found -/
theorem u_1010 (a0 : D) : run cfg tbl (m + 1) 1010 [a0] h = finish true h (evSs cfg (run cfg tbl m) fn_1010.body [some a0, none, none, none, none, none, none, none, none, none, none, none] h) := rfl
end
end K03
namespace K03
open Mn
/-- the draws' row -/
def Row (ns : List Int) (p s b : Int) : O := .lst [.scr ns, .int p, .int s, .int b]
def RowOk (o : O) (ns : List Int) : Prop := ∃ p s b : Int, o = Row ns p s b ∧ 0 ≤ p ∧ 0 ≤ s ∧ 0 ≤ b
theorem get_set (h : VH) (k : Nat) (o : O) (hk : k < h.length) : (h.set k o)[k]? = some o := by simp [hk]
section
variable {n : Nat} {ns : List Int} {m : Int} {k : Nat} {h : VH} {p s b : Int}
theorem r0 : ixL [.scr ns, .int p, .int s, .int b] (.int 0) = some (.scr ns) := rfl
theorem r1 : ixL [.scr ns, .int p, .int s, .int b] (.int 1) = some (.int p) := rfl
theorem r2 : ixL [.scr ns, .int p, .int s, .int b] (.int 2) = some (.int s) := rfl
theorem r3 : ixL [.scr ns, .int p, .int s, .int b] (.int 3) = some (.int b) := rfl
theorem i1 : ixN 4 1 = some 1 := rfl
theorem i2 : ixN 4 2 = some 2 := rfl
theorem i3 : ixN 4 3 = some 3 := rfl
end
theorem taken (n : Nat) (ns : List Int) (m : Int) (hm : 0 < m) (hm2 : m < 1073741824) (k : Nat) (h : VH) (o : O) (hk : h[k]? = some o) (ho : RowOk o ns) :
    ∃ r o', run cfg tbl (n + 1) 1000 [.ref k, .int m] h = .ok (.val (.int r)) (h.set k o') ∧ 0 ≤ r ∧ r < m ∧ RowOk o' ns := by
  obtain ⟨p, s, b, rfl, hp, hs, hb⟩ := ho
  have hl : k < h.length := (List.getElem?_eq_some_iff.mp hk).1
  unfold Row at hk
  by_cases h1 : 0 < b
  · refine ⟨b % m, Row ns p s (b / m), ?_, Int.emod_nonneg _ (by omega), Int.emod_lt_of_pos _ hm, p, s, b / m, rfl, hp, hs, Int.ediv_nonneg hb (by omega)⟩
    simp only [run, tbl, fn_1000, List.length_cons, List.length_nil, Nat.reduceAdd, if_true, List.map_cons, List.map_nil, Nat.reduceSub, List.replicate, List.cons_append, List.nil_append, evSs, evS, evE, evEs,
      List.getElem?_cons_zero, List.getElem?_cons_succ, v_bind, r0, r1, r2, r3, v_some, v_gt, v_ge, v_add, v_sub, v_1018, v_mul _ _ 48271 (by decide), v_lenS, Option.map_some, v_mod _ _ _ hm, v_mod _ _ 2147483647 (by decide), v_div _ _ _ ⟨hm, hm2⟩, v_div _ _ 7 (by decide), asgT, hk, v_ixR _ _ _ _ _ hk, i1, i2, i3, List.set_cons_zero, List.set_cons_succ, List.set, h1, decide_true]
    simp [finish, outV0, R.ofO, Row]
  · have b0 : b = 0 := by omega
    subst b0
    have hl' : ∀ o : O, (h.set k o)[k]? = some o := fun o => by simp [hl]
    by_cases h2 : (ns.length : Int) < p + 1
    · refine ⟨(s * 48271 + 11) % 2147483647 / 7 % m, Row ns (p + 1) ((s * 48271 + 11) % 2147483647) 0, ?_, Int.emod_nonneg _ (by omega), Int.emod_lt_of_pos _ hm, _, _, _, rfl, by omega, Int.emod_nonneg _ (by omega), by omega⟩
      simp only [run, tbl, fn_1000, List.length_cons, List.length_nil, Nat.reduceAdd, if_true, List.map_cons, List.map_nil, Nat.reduceSub, List.replicate, List.cons_append, List.nil_append, evSs, evS, evE, evEs,
      List.getElem?_cons_zero, List.getElem?_cons_succ, v_bind, r0, r1, r2, r3, v_some, v_gt, v_ge, v_add, v_sub, v_1018, v_mul _ _ 48271 (by decide), v_lenS, Option.map_some, v_mod _ _ _ hm, v_mod _ _ 2147483647 (by decide), v_div _ _ _ ⟨hm, hm2⟩, v_div _ _ 7 (by decide), asgT, hk, v_ixR _ _ _ _ _ hk, i1, i2, i3, List.set_cons_zero, List.set_cons_succ, List.set, h1, decide_false, h2, decide_true, hl', v_ixR _ _ _ _ _ (hl' _), List.set_set]
      simp [finish, outV0, R.ofO, Row]
    · have hp2 : p < ns.length := by omega
      obtain ⟨c, hc⟩ : ∃ c, ns[p.toNat]? = some c := ⟨_, List.getElem?_eq_getElem (by omega)⟩
      have hpp : p + 1 - 1 = p := by omega
      have hq : ∀ h : VH, ixD cfg.gds h (.scr ns) (.int p) = some (.int c) := fun h => v_scr _ _ _ _ _ hp hc
      by_cases h3 : (1000000000000000000 : Int) ≤ c
      · refine ⟨c % m, Row ns (p + 1) ((s * 48271 + c + 11) % 2147483647) (c / m), ?_, Int.emod_nonneg _ (by omega), Int.emod_lt_of_pos _ hm, _, _, _, rfl, by omega, Int.emod_nonneg _ (by omega), Int.ediv_nonneg (by omega) (by omega)⟩
        simp only [run, tbl, fn_1000, List.length_cons, List.length_nil, Nat.reduceAdd, if_true, List.map_cons, List.map_nil, Nat.reduceSub, List.replicate, List.cons_append, List.nil_append, evSs, evS, evE, evEs,
      List.getElem?_cons_zero, List.getElem?_cons_succ, v_bind, r0, r1, r2, r3, v_some, v_gt, v_ge, v_add, v_sub, v_1018, v_mul _ _ 48271 (by decide), v_lenS, Option.map_some, v_mod _ _ _ hm, v_mod _ _ 2147483647 (by decide), v_div _ _ _ ⟨hm, hm2⟩, v_div _ _ 7 (by decide), asgT, hk, v_ixR _ _ _ _ _ hk, i1, i2, i3, List.set_cons_zero, List.set_cons_succ, List.set, h1, decide_false, h2, decide_true, hl', v_ixR _ _ _ _ _ (hl' _), List.set_set, hpp, hq, h3]
        simp [finish, outV0, R.ofO, Row]
      · refine ⟨c % m, Row ns (p + 1) ((s * 48271 + c + 11) % 2147483647) 0, ?_, Int.emod_nonneg _ (by omega), Int.emod_lt_of_pos _ hm, _, _, _, rfl, by omega, Int.emod_nonneg _ (by omega), by omega⟩
        simp only [run, tbl, fn_1000, List.length_cons, List.length_nil, Nat.reduceAdd, if_true, List.map_cons, List.map_nil, Nat.reduceSub, List.replicate, List.cons_append, List.nil_append, evSs, evS, evE, evEs,
      List.getElem?_cons_zero, List.getElem?_cons_succ, v_bind, r0, r1, r2, r3, v_some, v_gt, v_ge, v_add, v_sub, v_1018, v_mul _ _ 48271 (by decide), v_lenS, Option.map_some, v_mod _ _ _ hm, v_mod _ _ 2147483647 (by decide), v_div _ _ _ ⟨hm, hm2⟩, v_div _ _ 7 (by decide), asgT, hk, v_ixR _ _ _ _ _ hk, i1, i2, i3, List.set_cons_zero, List.set_cons_succ, List.set, h1, decide_false, h2, decide_true, hl', v_ixR _ _ _ _ _ (hl' _), List.set_set, hpp, hq, h3]
        simp [finish, outV0, R.ofO, Row]
/-- one draw more: the row stands at k -/
def At (ns : List Int) (k : Nat) (h : VH) : Prop := ∃ o, h[k]? = some o ∧ RowOk o ns
theorem At.put {ns : List Int} {k : Nat} {h : VH} {o o' : O} (hk : h[k]? = some o) (ho : RowOk o' ns) : At ns k (h.set k o') := ⟨o', by
  have hl : k < h.length := (List.getElem?_eq_some_iff.mp hk).1
  simp [hl], ho⟩
/-- what a draw leaves: the heap, the row at k changed -/
def Dr (ns : List Int) (k : Nat) (h h' : VH) : Prop := ∃ o', h' = h.set k o' ∧ RowOk o' ns
theorem Dr.at {ns : List Int} {k : Nat} {h h' : VH} (a : At ns k h) (d : Dr ns k h h') : At ns k h' := by
  obtain ⟨o, hk, _⟩ := a
  obtain ⟨o', rfl, ho⟩ := d
  exact At.put hk ho
theorem Dr.trans {ns : List Int} {k : Nat} {h h1 h2 : VH} (a : Dr ns k h h1) (b : Dr ns k h1 h2) : Dr ns k h h2 := by
  obtain ⟨o1, rfl, _⟩ := a
  obtain ⟨o2, rfl, h2⟩ := b
  exact ⟨o2, by simp, h2⟩
theorem Dr.refl {ns : List Int} {k : Nat} {h : VH} (a : At ns k h) : Dr ns k h h := by
  obtain ⟨o, hk, ho⟩ := a
  exact ⟨o, by
    have hl : k < h.length := (List.getElem?_eq_some_iff.mp hk).1
    apply List.ext_getElem?
    intro i
    rw [List.getElem?_set]
    split
    · rename_i e; subst e; first | exact hk | simp [hk, hl]
    · rfl, ho⟩
theorem draw {ns : List Int} {k : Nat} {h : VH} {n : Nat} (m : Int) (hn : 1 ≤ n) (hm : 0 < m) (hm2 : m < 1073741824) (a : At ns k h) : ∃ r h', run cfg tbl n 1000 [.ref k, .int m] h = .ok (.val (.int r)) h' ∧ 0 ≤ r ∧ r < m ∧ Dr ns k h h' := by
  obtain ⟨n, rfl⟩ : ∃ q, n = q + 1 := ⟨n - 1, by omega⟩
  obtain ⟨o, hk, ho⟩ := a
  obtain ⟨r, o', e, h1, h2, h3⟩ := taken n ns m hm hm2 k h o hk ho
  exact ⟨r, _, e, h1, h2, o', rfl, h3⟩
theorem two_ix (a b r : Int) (h0 : 0 ≤ r) (h1 : r < 2) : ixL [.int a, .int b] (.int r) = some (.int (if r = 0 then a else b)) := by
  have : r = 0 ∨ r = 1 := by omega
  rcases this with rfl | rfl <;> rfl
theorem three_ix (a b : D) (r : Int) (h0 : 0 ≤ r) (h1 : r < 3) : ixL [a, b, b] (.int r) = some (if r = 0 then a else b) := by
  have : r = 0 ∨ r = 1 ∨ r = 2 := by omega
  rcases this with rfl | rfl | rfl <;> rfl
theorem two_any (a b : D) (r : Int) (h0 : 0 ≤ r) (h1 : r < 2) : ixL [a, b] (.int r) = some (if r = 0 then a else b) := by
  have : r = 0 ∨ r = 1 := by omega
  rcases this with rfl | rfl <;> rfl
theorem two_iB (a b : D) (c : Bool) : ixL [a, b] (.int (if c = true then 1 else 0)) = some (if c = true then b else a) := by cases c <;> rfl
theorem v_intB (h : VH) (b : Bool) : biD h .int [.bl b] = some (.int (if b = true then 1 else 0)) := rfl
theorem v_mulB (h : VH) (i : Int) (b : Bool) : opD h .mul (.int i) (.int (if b = true then 1 else 0)) = some (.int (i * if b = true then 1 else 0)) := v_mul _ _ _ (by cases b <;> decide)
theorem v_catT (h : VH) (xs ys : List D) (hl : xs.length + ys.length ≤ LINE) : opD h .add (.tup xs) (.tup ys) = some (.tup (xs ++ ys)) := by simp only [opD]; rw [if_pos hl]
theorem v_catL (h : VH) (xs ys : List D) (hl : xs.length + ys.length ≤ LINE) : opD h .add (.lst xs) (.lst ys) = some (.lst (xs ++ ys)) := by simp only [opD, asL]; rw [if_pos hl]
theorem v_cat22 (h : VH) (a b c d : D) : opD h .add (.tup [a, b]) (.tup [c, d]) = some (.tup [a, b, c, d]) := v_catT _ _ _ (by show 4 ≤ LINE; decide)
theorem v_cat32 (h : VH) (a b c d e : D) : opD h .add (.tup [a, b, c]) (.tup [d, e]) = some (.tup [a, b, c, d, e]) := v_catT _ _ _ (by show 5 ≤ LINE; decide)
theorem leaf {ns : List Int} {k : Nat} {h : VH} {n : Nat} (hn : 2 ≤ n) (a : At ns k h) : ∃ (f : F) (h' : VH), run cfg tbl n 1002 [.ref k] h = .ok (.val f.d) h' ∧ ((∀ far, f.ok far) ∧ f.dep = 1 ∧ f.parts.length = 1) ∧ Dr ns k h h' := by
  obtain ⟨n, rfl⟩ : ∃ q, n = q + 1 := ⟨n - 1, by omega⟩
  obtain ⟨r1, h1, e1, l1, u1, d1⟩ := draw (n := n) 3 (by omega) (by omega) (by omega) a
  obtain ⟨r2, h2, e2, l2, u2, d2⟩ := draw (n := n) 2 (by omega) (by omega) (by omega) (d1.at a)
  rw [u_1002]
  by_cases h0 : 0 < r1
  · obtain ⟨r3, h3, e3, l3, u3, d3⟩ := draw (n := n) (if r2 = 0 then 2 else 4) (by omega) (by split <;> omega) (by split <;> omega) ((d1.trans d2).at a)
    refine ⟨.is r3, h3, ?_, ⟨fun _ => ⟨l3, by split at u3 <;> omega⟩, rfl, rfl⟩, (d1.trans d2).trans d3⟩
    simp (disch := first | assumption | omega | (simp only [List.length_cons, List.length_nil]; omega)) only [x_c, x_g, x_v0, x_v1, x_v2, x_v3, x_v4, x_v5, x_v6, x_v7, x_v8, x_v9, x_v10, x_v11, x_v12, x_v13, x_v14, x_v15, x_tup, x_lst, x_op, x_neg, x_not, x_and, x_or, x_ite, x_cmp, x_chain, x_ix, x_sl, x_rev, x_call, x_meth, x_new, x_fld, x_isi, x_bi, x_listof, x_bm, x_nil, x_cons, x_eno, x_eso, x_ival, x_irange, x_irev, x_fcall, x_flst, x_flistof, x_asg, x_asgB, x_ex, x_ret, x_retF, x_site, x_raise, x_cont, x_pass, x_par, x_snil, x_scons, x_tnm, x_ttup, x_tsub, x_tfld, x_cono, x_con0, y_thenT, y_thenF, y_then, y_elseT, y_elseF, y_else, y_ifT, y_ifF, y_if, y_not, y_neg, y_opt, y_chT, y_chF, y_ch, y_seq, y_seqR, y_seqN, y_seqC, y_len0, y_len1, y_len2, y_len3, y_len4, y_len5, y_len6, y_fldQ, y_fldS, y_methQ, y_methS, y_setQ, y_setS, y_new, y_non, y_rvN, y_dV, y_dN, y_bindi, y_bindE, y_map, f_nx, f_rt, f_rn, f_ex, l_w0, l_ws, v_bind, v_some, v_add, v_sub, v_lt, v_le, v_gt, v_ge, v_eqI, v_eqS, v_neN, v_isN, v_isNN, v_ixL, v_ixT, v_lenS, v_lenL, v_lenT, List.getElem?_cons_zero, List.getElem?_cons_succ, List.set_cons_zero, List.set_cons_succ, List.length_cons, List.length_nil, Nat.reduceAdd, Option.map_some, if_true, f_if, Option.bind_some, Bool.true_or, Bool.or_true, Bool.false_or, Bool.or_false, Bool.true_and, Bool.and_true, Bool.false_and, Bool.and_false, Bool.not_true, Bool.not_false, Bool.false_eq_true, if_false, wq_0_0, wq_0_1, wq_0_2, wq_0_3, wq_0_4, wq_0_5, wq_0_6, wq_0_7, wq_0_8, wq_1_0, wq_1_1, wq_1_2, wq_1_3, wq_1_4, wq_1_5, wq_1_6, wq_1_7, wq_1_8, wq_2_0, wq_2_1, wq_2_2, wq_2_3, wq_2_4, wq_2_5, wq_2_6, wq_2_7, wq_2_8, wq_3_0, wq_3_1, wq_3_2, wq_3_3, wq_3_4, wq_3_5, wq_3_6, wq_3_7, wq_3_8, wq_4_0, wq_4_1, wq_4_2, wq_4_3, wq_4_4, wq_4_5, wq_4_6, wq_4_7, wq_4_8, wq_5_0, wq_5_1, wq_5_2, wq_5_3, wq_5_4, wq_5_5, wq_5_6, wq_5_7, wq_5_8, wq_6_0, wq_6_1, wq_6_2, wq_6_3, wq_6_4, wq_6_5, wq_6_6, wq_6_7, wq_6_8, wq_7_0, wq_7_1, wq_7_2, wq_7_3, wq_7_4, wq_7_5, wq_7_6, wq_7_7, wq_7_8, wq_8_0, wq_8_1, wq_8_2, wq_8_3, wq_8_4, wq_8_5, wq_8_6, wq_8_7, wq_8_8, fn_1002, e1, e2, e3, h0, decide_true, two_ix _ _ _ l2 u2]
    rfl
  · obtain ⟨r3, h3, e3, l3, u3, d3⟩ := draw (n := n) (if r2 = 0 then 3 else 10) (by omega) (by split <;> omega) (by split <;> omega) ((d1.trans d2).at a)
    refine ⟨.frm r3, h3, ?_, ⟨fun _ => ⟨l3, by split at u3 <;> omega⟩, rfl, rfl⟩, (d1.trans d2).trans d3⟩
    simp (disch := first | assumption | omega | (simp only [List.length_cons, List.length_nil]; omega)) only [x_c, x_g, x_v0, x_v1, x_v2, x_v3, x_v4, x_v5, x_v6, x_v7, x_v8, x_v9, x_v10, x_v11, x_v12, x_v13, x_v14, x_v15, x_tup, x_lst, x_op, x_neg, x_not, x_and, x_or, x_ite, x_cmp, x_chain, x_ix, x_sl, x_rev, x_call, x_meth, x_new, x_fld, x_isi, x_bi, x_listof, x_bm, x_nil, x_cons, x_eno, x_eso, x_ival, x_irange, x_irev, x_fcall, x_flst, x_flistof, x_asg, x_asgB, x_ex, x_ret, x_retF, x_site, x_raise, x_cont, x_pass, x_par, x_snil, x_scons, x_tnm, x_ttup, x_tsub, x_tfld, x_cono, x_con0, y_thenT, y_thenF, y_then, y_elseT, y_elseF, y_else, y_ifT, y_ifF, y_if, y_not, y_neg, y_opt, y_chT, y_chF, y_ch, y_seq, y_seqR, y_seqN, y_seqC, y_len0, y_len1, y_len2, y_len3, y_len4, y_len5, y_len6, y_fldQ, y_fldS, y_methQ, y_methS, y_setQ, y_setS, y_new, y_non, y_rvN, y_dV, y_dN, y_bindi, y_bindE, y_map, f_nx, f_rt, f_rn, f_ex, l_w0, l_ws, v_bind, v_some, v_add, v_sub, v_lt, v_le, v_gt, v_ge, v_eqI, v_eqS, v_neN, v_isN, v_isNN, v_ixL, v_ixT, v_lenS, v_lenL, v_lenT, List.getElem?_cons_zero, List.getElem?_cons_succ, List.set_cons_zero, List.set_cons_succ, List.length_cons, List.length_nil, Nat.reduceAdd, Option.map_some, if_true, f_if, Option.bind_some, Bool.true_or, Bool.or_true, Bool.false_or, Bool.or_false, Bool.true_and, Bool.and_true, Bool.false_and, Bool.and_false, Bool.not_true, Bool.not_false, Bool.false_eq_true, if_false, wq_0_0, wq_0_1, wq_0_2, wq_0_3, wq_0_4, wq_0_5, wq_0_6, wq_0_7, wq_0_8, wq_1_0, wq_1_1, wq_1_2, wq_1_3, wq_1_4, wq_1_5, wq_1_6, wq_1_7, wq_1_8, wq_2_0, wq_2_1, wq_2_2, wq_2_3, wq_2_4, wq_2_5, wq_2_6, wq_2_7, wq_2_8, wq_3_0, wq_3_1, wq_3_2, wq_3_3, wq_3_4, wq_3_5, wq_3_6, wq_3_7, wq_3_8, wq_4_0, wq_4_1, wq_4_2, wq_4_3, wq_4_4, wq_4_5, wq_4_6, wq_4_7, wq_4_8, wq_5_0, wq_5_1, wq_5_2, wq_5_3, wq_5_4, wq_5_5, wq_5_6, wq_5_7, wq_5_8, wq_6_0, wq_6_1, wq_6_2, wq_6_3, wq_6_4, wq_6_5, wq_6_6, wq_6_7, wq_6_8, wq_7_0, wq_7_1, wq_7_2, wq_7_3, wq_7_4, wq_7_5, wq_7_6, wq_7_7, wq_7_8, wq_8_0, wq_8_1, wq_8_2, wq_8_3, wq_8_4, wq_8_5, wq_8_6, wq_8_7, wq_8_8, fn_1002, e1, e2, e3, h0, decide_false, two_ix _ _ _ l2 u2]
    rfl
theorem back {ns : List Int} {k : Nat} {h : VH} {n : Nat} (far : Int) (hn : 2 ≤ n) (hf : 0 < far) (hf2 : far < 1000) (a : At ns k h) :
    ∃ (lo : Int) (x : Option Int) (h' : VH), run cfg tbl n 1003 [.ref k, .int far] h = .ok (.val (.tup [.int lo, F.oD x])) h' ∧ F.okB far lo x ∧ Dr ns k h h' := by
  obtain ⟨n, rfl⟩ : ∃ q, n = q + 1 := ⟨n - 1, by omega⟩
  obtain ⟨r1, h1, e1, l1, u1, d1⟩ := draw (n := n) far (by omega) hf (by omega) a
  obtain ⟨r2, h2, e2, l2, u2, d2⟩ := draw (n := n) (far - (1 + r1) + 1) (by omega) (by omega) (by omega) (d1.at a)
  obtain ⟨r3, h3, e3, l3, u3, d3⟩ := draw (n := n) 3 (by omega) (by omega) (by omega) ((d1.trans d2).at a)
  refine ⟨1 + r1, if r3 = 0 then none else some (1 + r1 + r2), h3, ?_, ⟨by omega, by omega, ?_⟩, (d1.trans d2).trans d3⟩
  · rw [u_1003]
    simp (disch := first | assumption | omega | (simp only [List.length_cons, List.length_nil]; omega)) only [x_c, x_g, x_v0, x_v1, x_v2, x_v3, x_v4, x_v5, x_v6, x_v7, x_v8, x_v9, x_v10, x_v11, x_v12, x_v13, x_v14, x_v15, x_tup, x_lst, x_op, x_neg, x_not, x_and, x_or, x_ite, x_cmp, x_chain, x_ix, x_sl, x_rev, x_call, x_meth, x_new, x_fld, x_isi, x_bi, x_listof, x_bm, x_nil, x_cons, x_eno, x_eso, x_ival, x_irange, x_irev, x_fcall, x_flst, x_flistof, x_asg, x_asgB, x_ex, x_ret, x_retF, x_site, x_raise, x_cont, x_pass, x_par, x_snil, x_scons, x_tnm, x_ttup, x_tsub, x_tfld, x_cono, x_con0, y_thenT, y_thenF, y_then, y_elseT, y_elseF, y_else, y_ifT, y_ifF, y_if, y_not, y_neg, y_opt, y_chT, y_chF, y_ch, y_seq, y_seqR, y_seqN, y_seqC, y_len0, y_len1, y_len2, y_len3, y_len4, y_len5, y_len6, y_fldQ, y_fldS, y_methQ, y_methS, y_setQ, y_setS, y_new, y_non, y_rvN, y_dV, y_dN, y_bindi, y_bindE, y_map, f_nx, f_rt, f_rn, f_ex, l_w0, l_ws, v_bind, v_some, v_add, v_sub, v_lt, v_le, v_gt, v_ge, v_eqI, v_eqS, v_neN, v_isN, v_isNN, v_ixL, v_ixT, v_lenS, v_lenL, v_lenT, List.getElem?_cons_zero, List.getElem?_cons_succ, List.set_cons_zero, List.set_cons_succ, List.length_cons, List.length_nil, Nat.reduceAdd, Option.map_some, if_true, f_if, Option.bind_some, Bool.true_or, Bool.or_true, Bool.false_or, Bool.or_false, Bool.true_and, Bool.and_true, Bool.false_and, Bool.and_false, Bool.not_true, Bool.not_false, Bool.false_eq_true, if_false, wq_0_0, wq_0_1, wq_0_2, wq_0_3, wq_0_4, wq_0_5, wq_0_6, wq_0_7, wq_0_8, wq_1_0, wq_1_1, wq_1_2, wq_1_3, wq_1_4, wq_1_5, wq_1_6, wq_1_7, wq_1_8, wq_2_0, wq_2_1, wq_2_2, wq_2_3, wq_2_4, wq_2_5, wq_2_6, wq_2_7, wq_2_8, wq_3_0, wq_3_1, wq_3_2, wq_3_3, wq_3_4, wq_3_5, wq_3_6, wq_3_7, wq_3_8, wq_4_0, wq_4_1, wq_4_2, wq_4_3, wq_4_4, wq_4_5, wq_4_6, wq_4_7, wq_4_8, wq_5_0, wq_5_1, wq_5_2, wq_5_3, wq_5_4, wq_5_5, wq_5_6, wq_5_7, wq_5_8, wq_6_0, wq_6_1, wq_6_2, wq_6_3, wq_6_4, wq_6_5, wq_6_6, wq_6_7, wq_6_8, wq_7_0, wq_7_1, wq_7_2, wq_7_3, wq_7_4, wq_7_5, wq_7_6, wq_7_7, wq_7_8, wq_8_0, wq_8_1, wq_8_2, wq_8_3, wq_8_4, wq_8_5, wq_8_6, wq_8_7, wq_8_8, fn_1003, e1, e2, e3, three_ix _ _ _ l3 u3]
    split <;> rfl
  · intro x
    split
    · intro e; cases e
    · intro e; cases e; omega
theorem sentence {ns : List Int} {k : Nat} (far : Int) (hf : 1 ≤ far) (hf6 : far ≤ 6) : ∀ (deep : Nat), deep ≤ 5 → ∀ (n : Nat), deep + 3 ≤ n → ∀ {h : VH}, At ns k h →
    ∃ (f : F) (h' : VH), run cfg tbl n 1004 [.ref k, .int deep, .int far] h = .ok (.val f.d) h' ∧ (f.ok far ∧ f.dep ≤ 2 * deep + 2) ∧ Dr ns k h h' := by
  intro deep
  induction deep using Nat.strongRecOn with
  | ind deep ih =>
  intro hd n hn h a
  obtain ⟨n, rfl⟩ : ∃ q, n = q + 1 := ⟨n - 1, by omega⟩
  rw [u_1004]
  obtain ⟨w, h1, e1, l1, u1, d1⟩ := draw (n := n) 12 (by omega) (by omega) (by omega) a
  by_cases hw : (deep : Int) = 0 ∨ w < 2
  · obtain ⟨f, h2, e2, ⟨hl, hl2, _⟩, d2⟩ := leaf (n := n) (by omega) (d1.at a)
    refine ⟨f, h2, ?_, ⟨hl _, by omega⟩, d1.trans d2⟩
    by_cases hz : (deep : Int) = 0
    · have hzb : ((deep : Int) == 0) = true := by simp [hz]
      simp (disch := first | assumption | omega | (simp only [List.length_cons, List.length_nil]; omega)) only [x_c, x_g, x_v0, x_v1, x_v2, x_v3, x_v4, x_v5, x_v6, x_v7, x_v8, x_v9, x_v10, x_v11, x_v12, x_v13, x_v14, x_v15, x_tup, x_lst, x_op, x_neg, x_not, x_and, x_or, x_ite, x_cmp, x_chain, x_ix, x_sl, x_rev, x_call, x_meth, x_new, x_fld, x_isi, x_bi, x_listof, x_bm, x_nil, x_cons, x_eno, x_eso, x_ival, x_irange, x_irev, x_fcall, x_flst, x_flistof, x_asg, x_asgB, x_ex, x_ret, x_retF, x_site, x_raise, x_cont, x_pass, x_par, x_snil, x_scons, x_tnm, x_ttup, x_tsub, x_tfld, x_cono, x_con0, y_thenT, y_thenF, y_then, y_elseT, y_elseF, y_else, y_ifT, y_ifF, y_if, y_not, y_neg, y_opt, y_chT, y_chF, y_ch, y_seq, y_seqR, y_seqN, y_seqC, y_len0, y_len1, y_len2, y_len3, y_len4, y_len5, y_len6, y_fldQ, y_fldS, y_methQ, y_methS, y_setQ, y_setS, y_new, y_non, y_rvN, y_dV, y_dN, y_bindi, y_bindE, y_map, f_nx, f_rt, f_rn, f_ex, l_w0, l_ws, v_bind, v_some, v_add, v_sub, v_lt, v_le, v_gt, v_ge, v_eqI, v_eqS, v_neN, v_isN, v_isNN, v_ixL, v_ixT, v_lenS, v_lenL, v_lenT, List.getElem?_cons_zero, List.getElem?_cons_succ, List.set_cons_zero, List.set_cons_succ, List.length_cons, List.length_nil, Nat.reduceAdd, Option.map_some, if_true, f_if, Option.bind_some, Bool.true_or, Bool.or_true, Bool.false_or, Bool.or_false, Bool.true_and, Bool.and_true, Bool.false_and, Bool.and_false, Bool.not_true, Bool.not_false, Bool.false_eq_true, if_false, wq_0_0, wq_0_1, wq_0_2, wq_0_3, wq_0_4, wq_0_5, wq_0_6, wq_0_7, wq_0_8, wq_1_0, wq_1_1, wq_1_2, wq_1_3, wq_1_4, wq_1_5, wq_1_6, wq_1_7, wq_1_8, wq_2_0, wq_2_1, wq_2_2, wq_2_3, wq_2_4, wq_2_5, wq_2_6, wq_2_7, wq_2_8, wq_3_0, wq_3_1, wq_3_2, wq_3_3, wq_3_4, wq_3_5, wq_3_6, wq_3_7, wq_3_8, wq_4_0, wq_4_1, wq_4_2, wq_4_3, wq_4_4, wq_4_5, wq_4_6, wq_4_7, wq_4_8, wq_5_0, wq_5_1, wq_5_2, wq_5_3, wq_5_4, wq_5_5, wq_5_6, wq_5_7, wq_5_8, wq_6_0, wq_6_1, wq_6_2, wq_6_3, wq_6_4, wq_6_5, wq_6_6, wq_6_7, wq_6_8, wq_7_0, wq_7_1, wq_7_2, wq_7_3, wq_7_4, wq_7_5, wq_7_6, wq_7_7, wq_7_8, wq_8_0, wq_8_1, wq_8_2, wq_8_3, wq_8_4, wq_8_5, wq_8_6, wq_8_7, wq_8_8, fn_1004, e1, e2, hzb]
    · have hzb : ((deep : Int) == 0) = false := by simpa using hz
      have hw2 : w < 2 := hw.resolve_left hz
      simp (disch := first | assumption | omega | (simp only [List.length_cons, List.length_nil]; omega)) only [x_c, x_g, x_v0, x_v1, x_v2, x_v3, x_v4, x_v5, x_v6, x_v7, x_v8, x_v9, x_v10, x_v11, x_v12, x_v13, x_v14, x_v15, x_tup, x_lst, x_op, x_neg, x_not, x_and, x_or, x_ite, x_cmp, x_chain, x_ix, x_sl, x_rev, x_call, x_meth, x_new, x_fld, x_isi, x_bi, x_listof, x_bm, x_nil, x_cons, x_eno, x_eso, x_ival, x_irange, x_irev, x_fcall, x_flst, x_flistof, x_asg, x_asgB, x_ex, x_ret, x_retF, x_site, x_raise, x_cont, x_pass, x_par, x_snil, x_scons, x_tnm, x_ttup, x_tsub, x_tfld, x_cono, x_con0, y_thenT, y_thenF, y_then, y_elseT, y_elseF, y_else, y_ifT, y_ifF, y_if, y_not, y_neg, y_opt, y_chT, y_chF, y_ch, y_seq, y_seqR, y_seqN, y_seqC, y_len0, y_len1, y_len2, y_len3, y_len4, y_len5, y_len6, y_fldQ, y_fldS, y_methQ, y_methS, y_setQ, y_setS, y_new, y_non, y_rvN, y_dV, y_dN, y_bindi, y_bindE, y_map, f_nx, f_rt, f_rn, f_ex, l_w0, l_ws, v_bind, v_some, v_add, v_sub, v_lt, v_le, v_gt, v_ge, v_eqI, v_eqS, v_neN, v_isN, v_isNN, v_ixL, v_ixT, v_lenS, v_lenL, v_lenT, List.getElem?_cons_zero, List.getElem?_cons_succ, List.set_cons_zero, List.set_cons_succ, List.length_cons, List.length_nil, Nat.reduceAdd, Option.map_some, if_true, f_if, Option.bind_some, Bool.true_or, Bool.or_true, Bool.false_or, Bool.or_false, Bool.true_and, Bool.and_true, Bool.false_and, Bool.and_false, Bool.not_true, Bool.not_false, Bool.false_eq_true, if_false, wq_0_0, wq_0_1, wq_0_2, wq_0_3, wq_0_4, wq_0_5, wq_0_6, wq_0_7, wq_0_8, wq_1_0, wq_1_1, wq_1_2, wq_1_3, wq_1_4, wq_1_5, wq_1_6, wq_1_7, wq_1_8, wq_2_0, wq_2_1, wq_2_2, wq_2_3, wq_2_4, wq_2_5, wq_2_6, wq_2_7, wq_2_8, wq_3_0, wq_3_1, wq_3_2, wq_3_3, wq_3_4, wq_3_5, wq_3_6, wq_3_7, wq_3_8, wq_4_0, wq_4_1, wq_4_2, wq_4_3, wq_4_4, wq_4_5, wq_4_6, wq_4_7, wq_4_8, wq_5_0, wq_5_1, wq_5_2, wq_5_3, wq_5_4, wq_5_5, wq_5_6, wq_5_7, wq_5_8, wq_6_0, wq_6_1, wq_6_2, wq_6_3, wq_6_4, wq_6_5, wq_6_6, wq_6_7, wq_6_8, wq_7_0, wq_7_1, wq_7_2, wq_7_3, wq_7_4, wq_7_5, wq_7_6, wq_7_7, wq_7_8, wq_8_0, wq_8_1, wq_8_2, wq_8_3, wq_8_4, wq_8_5, wq_8_6, wq_8_7, wq_8_8, fn_1004, e1, e2, hzb, hw2, decide_true]
  · have hd0 : 0 < deep := by
      rcases Nat.eq_zero_or_pos deep with z | z
      · exact absurd (.inl (by omega)) hw
      · exact z
    have hzb : ((deep : Int) == 0) = false := by
      have : ¬ (deep : Int) = 0 := by omega
      simpa using this
    have hw2 : ¬ w < 2 := fun z => hw (.inr z)
    obtain ⟨r, h2, e2, l2, u2, d2⟩ := draw (n := n) 2 (by omega) (by omega) (by omega) (d1.at a)
    obtain ⟨dp, hdp⟩ : ∃ dp : Nat, (deep : Int) - 1 - r * (if decide ((1 : Int) < deep) = true then 1 else 0) = dp ∧ dp < deep := by
      by_cases h1 : (1 : Int) < deep
      · refine ⟨((deep : Int) - 1 - r).toNat, ?_, ?_⟩
        · simp [h1]; omega
        · omega
      · refine ⟨deep - 1, ?_, by omega⟩
        simp [h1]; omega
    obtain ⟨hdp, hlt⟩ := hdp
    obtain ⟨one, h3, e3, ⟨s1, p1⟩, d3⟩ := ih dp hlt (by omega) n (by omega) ((d1.trans d2).at a)
    have D3 := (d1.trans d2).trans d3
    by_cases w2 : w = 2
    · subst w2
      refine ⟨.not one, h3, ?_, ⟨s1, by simp only [F.dep]; omega⟩, D3⟩
      simp (disch := first | assumption | omega | (simp only [List.length_cons, List.length_nil]; omega)) only [x_c, x_g, x_v0, x_v1, x_v2, x_v3, x_v4, x_v5, x_v6, x_v7, x_v8, x_v9, x_v10, x_v11, x_v12, x_v13, x_v14, x_v15, x_tup, x_lst, x_op, x_neg, x_not, x_and, x_or, x_ite, x_cmp, x_chain, x_ix, x_sl, x_rev, x_call, x_meth, x_new, x_fld, x_isi, x_bi, x_listof, x_bm, x_nil, x_cons, x_eno, x_eso, x_ival, x_irange, x_irev, x_fcall, x_flst, x_flistof, x_asg, x_asgB, x_ex, x_ret, x_retF, x_site, x_raise, x_cont, x_pass, x_par, x_snil, x_scons, x_tnm, x_ttup, x_tsub, x_tfld, x_cono, x_con0, y_thenT, y_thenF, y_then, y_elseT, y_elseF, y_else, y_ifT, y_ifF, y_if, y_not, y_neg, y_opt, y_chT, y_chF, y_ch, y_seq, y_seqR, y_seqN, y_seqC, y_len0, y_len1, y_len2, y_len3, y_len4, y_len5, y_len6, y_fldQ, y_fldS, y_methQ, y_methS, y_setQ, y_setS, y_new, y_non, y_rvN, y_dV, y_dN, y_bindi, y_bindE, y_map, f_nx, f_rt, f_rn, f_ex, l_w0, l_ws, v_bind, v_some, v_add, v_sub, v_lt, v_le, v_gt, v_ge, v_eqI, v_eqS, v_neN, v_isN, v_isNN, v_ixL, v_ixT, v_lenS, v_lenL, v_lenT, List.getElem?_cons_zero, List.getElem?_cons_succ, List.set_cons_zero, List.set_cons_succ, List.length_cons, List.length_nil, Nat.reduceAdd, Option.map_some, if_true, f_if, Option.bind_some, Bool.true_or, Bool.or_true, Bool.false_or, Bool.or_false, Bool.true_and, Bool.and_true, Bool.false_and, Bool.and_false, Bool.not_true, Bool.not_false, Bool.false_eq_true, if_false, wq_0_0, wq_0_1, wq_0_2, wq_0_3, wq_0_4, wq_0_5, wq_0_6, wq_0_7, wq_0_8, wq_1_0, wq_1_1, wq_1_2, wq_1_3, wq_1_4, wq_1_5, wq_1_6, wq_1_7, wq_1_8, wq_2_0, wq_2_1, wq_2_2, wq_2_3, wq_2_4, wq_2_5, wq_2_6, wq_2_7, wq_2_8, wq_3_0, wq_3_1, wq_3_2, wq_3_3, wq_3_4, wq_3_5, wq_3_6, wq_3_7, wq_3_8, wq_4_0, wq_4_1, wq_4_2, wq_4_3, wq_4_4, wq_4_5, wq_4_6, wq_4_7, wq_4_8, wq_5_0, wq_5_1, wq_5_2, wq_5_3, wq_5_4, wq_5_5, wq_5_6, wq_5_7, wq_5_8, wq_6_0, wq_6_1, wq_6_2, wq_6_3, wq_6_4, wq_6_5, wq_6_6, wq_6_7, wq_6_8, wq_7_0, wq_7_1, wq_7_2, wq_7_3, wq_7_4, wq_7_5, wq_7_6, wq_7_7, wq_7_8, wq_8_0, wq_8_1, wq_8_2, wq_8_3, wq_8_4, wq_8_5, wq_8_6, wq_8_7, wq_8_8, fn_1004, e1, e2, hzb, hw2, decide_false, v_intB, v_mulB, hdp, e3]
      rfl
    · have hb2 : (w == 2) = false := by simpa using w2
      by_cases w6 : w < 6
      · by_cases w5 : w = 5
        · subst w5
          obtain ⟨r4, h4, e4, l4, u4, d4⟩ := draw (n := n) 4 (by omega) (by omega) (by omega) (D3.at a)
          obtain ⟨r5, h5, e5, l5, u5, d5⟩ := draw (n := n) (far + 1) (by omega) (by omega) (by omega) ((D3.trans d4).at a)
          refine ⟨.many one (1 + r4) r5, h5, ?_, ⟨⟨s1, by omega, by omega, by omega, by omega⟩, by simp only [F.dep]; omega⟩, (D3.trans d4).trans d5⟩
          simp (disch := first | assumption | omega | (simp only [List.length_cons, List.length_nil]; omega)) only [x_c, x_g, x_v0, x_v1, x_v2, x_v3, x_v4, x_v5, x_v6, x_v7, x_v8, x_v9, x_v10, x_v11, x_v12, x_v13, x_v14, x_v15, x_tup, x_lst, x_op, x_neg, x_not, x_and, x_or, x_ite, x_cmp, x_chain, x_ix, x_sl, x_rev, x_call, x_meth, x_new, x_fld, x_isi, x_bi, x_listof, x_bm, x_nil, x_cons, x_eno, x_eso, x_ival, x_irange, x_irev, x_fcall, x_flst, x_flistof, x_asg, x_asgB, x_ex, x_ret, x_retF, x_site, x_raise, x_cont, x_pass, x_par, x_snil, x_scons, x_tnm, x_ttup, x_tsub, x_tfld, x_cono, x_con0, y_thenT, y_thenF, y_then, y_elseT, y_elseF, y_else, y_ifT, y_ifF, y_if, y_not, y_neg, y_opt, y_chT, y_chF, y_ch, y_seq, y_seqR, y_seqN, y_seqC, y_len0, y_len1, y_len2, y_len3, y_len4, y_len5, y_len6, y_fldQ, y_fldS, y_methQ, y_methS, y_setQ, y_setS, y_new, y_non, y_rvN, y_dV, y_dN, y_bindi, y_bindE, y_map, f_nx, f_rt, f_rn, f_ex, l_w0, l_ws, v_bind, v_some, v_add, v_sub, v_lt, v_le, v_gt, v_ge, v_eqI, v_eqS, v_neN, v_isN, v_isNN, v_ixL, v_ixT, v_lenS, v_lenL, v_lenT, List.getElem?_cons_zero, List.getElem?_cons_succ, List.set_cons_zero, List.set_cons_succ, List.length_cons, List.length_nil, Nat.reduceAdd, Option.map_some, if_true, f_if, Option.bind_some, Bool.true_or, Bool.or_true, Bool.false_or, Bool.or_false, Bool.true_and, Bool.and_true, Bool.false_and, Bool.and_false, Bool.not_true, Bool.not_false, Bool.false_eq_true, if_false, wq_0_0, wq_0_1, wq_0_2, wq_0_3, wq_0_4, wq_0_5, wq_0_6, wq_0_7, wq_0_8, wq_1_0, wq_1_1, wq_1_2, wq_1_3, wq_1_4, wq_1_5, wq_1_6, wq_1_7, wq_1_8, wq_2_0, wq_2_1, wq_2_2, wq_2_3, wq_2_4, wq_2_5, wq_2_6, wq_2_7, wq_2_8, wq_3_0, wq_3_1, wq_3_2, wq_3_3, wq_3_4, wq_3_5, wq_3_6, wq_3_7, wq_3_8, wq_4_0, wq_4_1, wq_4_2, wq_4_3, wq_4_4, wq_4_5, wq_4_6, wq_4_7, wq_4_8, wq_5_0, wq_5_1, wq_5_2, wq_5_3, wq_5_4, wq_5_5, wq_5_6, wq_5_7, wq_5_8, wq_6_0, wq_6_1, wq_6_2, wq_6_3, wq_6_4, wq_6_5, wq_6_6, wq_6_7, wq_6_8, wq_7_0, wq_7_1, wq_7_2, wq_7_3, wq_7_4, wq_7_5, wq_7_6, wq_7_7, wq_7_8, wq_8_0, wq_8_1, wq_8_2, wq_8_3, wq_8_4, wq_8_5, wq_8_6, wq_8_7, wq_8_8, fn_1004, e1, e2, hzb, hw2, decide_false, decide_true, v_intB, v_mulB, hdp, e3, hb2, w6, e4, e5]
          rfl
        · have hb5 : (w == 5) = false := by simpa using w5
          obtain ⟨lo, x, h4, e4, b4, d4⟩ := back (n := n) far (by omega) (by omega) (by omega) (D3.at a)
          refine ⟨.behind one lo x, h4, ?_, ⟨⟨s1, b4⟩, by simp only [F.dep]; omega⟩, D3.trans d4⟩
          simp (disch := first | assumption | omega | (simp only [List.length_cons, List.length_nil]; omega)) only [x_c, x_g, x_v0, x_v1, x_v2, x_v3, x_v4, x_v5, x_v6, x_v7, x_v8, x_v9, x_v10, x_v11, x_v12, x_v13, x_v14, x_v15, x_tup, x_lst, x_op, x_neg, x_not, x_and, x_or, x_ite, x_cmp, x_chain, x_ix, x_sl, x_rev, x_call, x_meth, x_new, x_fld, x_isi, x_bi, x_listof, x_bm, x_nil, x_cons, x_eno, x_eso, x_ival, x_irange, x_irev, x_fcall, x_flst, x_flistof, x_asg, x_asgB, x_ex, x_ret, x_retF, x_site, x_raise, x_cont, x_pass, x_par, x_snil, x_scons, x_tnm, x_ttup, x_tsub, x_tfld, x_cono, x_con0, y_thenT, y_thenF, y_then, y_elseT, y_elseF, y_else, y_ifT, y_ifF, y_if, y_not, y_neg, y_opt, y_chT, y_chF, y_ch, y_seq, y_seqR, y_seqN, y_seqC, y_len0, y_len1, y_len2, y_len3, y_len4, y_len5, y_len6, y_fldQ, y_fldS, y_methQ, y_methS, y_setQ, y_setS, y_new, y_non, y_rvN, y_dV, y_dN, y_bindi, y_bindE, y_map, f_nx, f_rt, f_rn, f_ex, l_w0, l_ws, v_bind, v_some, v_add, v_sub, v_lt, v_le, v_gt, v_ge, v_eqI, v_eqS, v_neN, v_isN, v_isNN, v_ixL, v_ixT, v_lenS, v_lenL, v_lenT, List.getElem?_cons_zero, List.getElem?_cons_succ, List.set_cons_zero, List.set_cons_succ, List.length_cons, List.length_nil, Nat.reduceAdd, Option.map_some, if_true, f_if, Option.bind_some, Bool.true_or, Bool.or_true, Bool.false_or, Bool.or_false, Bool.true_and, Bool.and_true, Bool.false_and, Bool.and_false, Bool.not_true, Bool.not_false, Bool.false_eq_true, if_false, wq_0_0, wq_0_1, wq_0_2, wq_0_3, wq_0_4, wq_0_5, wq_0_6, wq_0_7, wq_0_8, wq_1_0, wq_1_1, wq_1_2, wq_1_3, wq_1_4, wq_1_5, wq_1_6, wq_1_7, wq_1_8, wq_2_0, wq_2_1, wq_2_2, wq_2_3, wq_2_4, wq_2_5, wq_2_6, wq_2_7, wq_2_8, wq_3_0, wq_3_1, wq_3_2, wq_3_3, wq_3_4, wq_3_5, wq_3_6, wq_3_7, wq_3_8, wq_4_0, wq_4_1, wq_4_2, wq_4_3, wq_4_4, wq_4_5, wq_4_6, wq_4_7, wq_4_8, wq_5_0, wq_5_1, wq_5_2, wq_5_3, wq_5_4, wq_5_5, wq_5_6, wq_5_7, wq_5_8, wq_6_0, wq_6_1, wq_6_2, wq_6_3, wq_6_4, wq_6_5, wq_6_6, wq_6_7, wq_6_8, wq_7_0, wq_7_1, wq_7_2, wq_7_3, wq_7_4, wq_7_5, wq_7_6, wq_7_7, wq_7_8, wq_8_0, wq_8_1, wq_8_2, wq_8_3, wq_8_4, wq_8_5, wq_8_6, wq_8_7, wq_8_8, fn_1004, e1, e2, hzb, hw2, decide_false, decide_true, v_intB, v_mulB, hdp, e3, hb2, w6, hb5, e4, v_cat22]
          rfl
      · obtain ⟨r6, h4, e4, l4, u4, d4⟩ := draw (n := n) deep (by omega) (by omega) (by omega) (D3.at a)
        obtain ⟨q, rfl⟩ : ∃ q : Nat, r6 = q := ⟨r6.toNat, by omega⟩
        obtain ⟨o0, h5, e5, ⟨s5, p5⟩, d5⟩ := ih q (by omega) (by omega) n (by omega) ((D3.trans d4).at a)
        obtain ⟨r7, h6, e6, l6, u6, d6⟩ := draw (n := n) 9 (by omega) (by omega) (by omega) (((D3.trans d4).trans d5).at a)
        have D6 := ((D3.trans d4).trans d5).trans d6
        obtain ⟨oo, hoo⟩ : ∃ oo : F, oo = if decide (0 < r7) = true then o0 else one := ⟨_, rfl⟩
        have hod : (if decide (0 < r7) = true then o0.d else one.d) = oo.d := by rw [hoo]; split <;> rfl
        have po : oo.dep ≤ 2 * (deep - 1) + 2 := by rw [hoo]; split <;> omega
        have so : oo.ok far := by rw [hoo]; split <;> assumption
        by_cases w9 : w < 9
        · by_cases w60 : w - 6 = 0
          · refine ⟨.and one oo, h6, ?_, ⟨⟨s1, so⟩, by simp only [F.dep]; omega⟩, D6⟩
            simp (disch := first | assumption | omega | (simp only [List.length_cons, List.length_nil]; omega)) only [x_c, x_g, x_v0, x_v1, x_v2, x_v3, x_v4, x_v5, x_v6, x_v7, x_v8, x_v9, x_v10, x_v11, x_v12, x_v13, x_v14, x_v15, x_tup, x_lst, x_op, x_neg, x_not, x_and, x_or, x_ite, x_cmp, x_chain, x_ix, x_sl, x_rev, x_call, x_meth, x_new, x_fld, x_isi, x_bi, x_listof, x_bm, x_nil, x_cons, x_eno, x_eso, x_ival, x_irange, x_irev, x_fcall, x_flst, x_flistof, x_asg, x_asgB, x_ex, x_ret, x_retF, x_site, x_raise, x_cont, x_pass, x_par, x_snil, x_scons, x_tnm, x_ttup, x_tsub, x_tfld, x_cono, x_con0, y_thenT, y_thenF, y_then, y_elseT, y_elseF, y_else, y_ifT, y_ifF, y_if, y_not, y_neg, y_opt, y_chT, y_chF, y_ch, y_seq, y_seqR, y_seqN, y_seqC, y_len0, y_len1, y_len2, y_len3, y_len4, y_len5, y_len6, y_fldQ, y_fldS, y_methQ, y_methS, y_setQ, y_setS, y_new, y_non, y_rvN, y_dV, y_dN, y_bindi, y_bindE, y_map, f_nx, f_rt, f_rn, f_ex, l_w0, l_ws, v_bind, v_some, v_add, v_sub, v_lt, v_le, v_gt, v_ge, v_eqI, v_eqS, v_neN, v_isN, v_isNN, v_ixL, v_ixT, v_lenS, v_lenL, v_lenT, List.getElem?_cons_zero, List.getElem?_cons_succ, List.set_cons_zero, List.set_cons_succ, List.length_cons, List.length_nil, Nat.reduceAdd, Option.map_some, if_true, f_if, Option.bind_some, Bool.true_or, Bool.or_true, Bool.false_or, Bool.or_false, Bool.true_and, Bool.and_true, Bool.false_and, Bool.and_false, Bool.not_true, Bool.not_false, Bool.false_eq_true, if_false, wq_0_0, wq_0_1, wq_0_2, wq_0_3, wq_0_4, wq_0_5, wq_0_6, wq_0_7, wq_0_8, wq_1_0, wq_1_1, wq_1_2, wq_1_3, wq_1_4, wq_1_5, wq_1_6, wq_1_7, wq_1_8, wq_2_0, wq_2_1, wq_2_2, wq_2_3, wq_2_4, wq_2_5, wq_2_6, wq_2_7, wq_2_8, wq_3_0, wq_3_1, wq_3_2, wq_3_3, wq_3_4, wq_3_5, wq_3_6, wq_3_7, wq_3_8, wq_4_0, wq_4_1, wq_4_2, wq_4_3, wq_4_4, wq_4_5, wq_4_6, wq_4_7, wq_4_8, wq_5_0, wq_5_1, wq_5_2, wq_5_3, wq_5_4, wq_5_5, wq_5_6, wq_5_7, wq_5_8, wq_6_0, wq_6_1, wq_6_2, wq_6_3, wq_6_4, wq_6_5, wq_6_6, wq_6_7, wq_6_8, wq_7_0, wq_7_1, wq_7_2, wq_7_3, wq_7_4, wq_7_5, wq_7_6, wq_7_7, wq_7_8, wq_8_0, wq_8_1, wq_8_2, wq_8_3, wq_8_4, wq_8_5, wq_8_6, wq_8_7, wq_8_8, fn_1004, e1, e2, hzb, hw2, decide_false, decide_true, v_intB, v_mulB, hdp, e3, hb2, w6, e4, e5, e6, w9, two_iB, hod, three_ix _ _ (w - 6) (by omega) (by omega)]
            rw [if_pos w60]; rfl
          · refine ⟨.or one oo, h6, ?_, ⟨⟨s1, so⟩, by simp only [F.dep]; omega⟩, D6⟩
            simp (disch := first | assumption | omega | (simp only [List.length_cons, List.length_nil]; omega)) only [x_c, x_g, x_v0, x_v1, x_v2, x_v3, x_v4, x_v5, x_v6, x_v7, x_v8, x_v9, x_v10, x_v11, x_v12, x_v13, x_v14, x_v15, x_tup, x_lst, x_op, x_neg, x_not, x_and, x_or, x_ite, x_cmp, x_chain, x_ix, x_sl, x_rev, x_call, x_meth, x_new, x_fld, x_isi, x_bi, x_listof, x_bm, x_nil, x_cons, x_eno, x_eso, x_ival, x_irange, x_irev, x_fcall, x_flst, x_flistof, x_asg, x_asgB, x_ex, x_ret, x_retF, x_site, x_raise, x_cont, x_pass, x_par, x_snil, x_scons, x_tnm, x_ttup, x_tsub, x_tfld, x_cono, x_con0, y_thenT, y_thenF, y_then, y_elseT, y_elseF, y_else, y_ifT, y_ifF, y_if, y_not, y_neg, y_opt, y_chT, y_chF, y_ch, y_seq, y_seqR, y_seqN, y_seqC, y_len0, y_len1, y_len2, y_len3, y_len4, y_len5, y_len6, y_fldQ, y_fldS, y_methQ, y_methS, y_setQ, y_setS, y_new, y_non, y_rvN, y_dV, y_dN, y_bindi, y_bindE, y_map, f_nx, f_rt, f_rn, f_ex, l_w0, l_ws, v_bind, v_some, v_add, v_sub, v_lt, v_le, v_gt, v_ge, v_eqI, v_eqS, v_neN, v_isN, v_isNN, v_ixL, v_ixT, v_lenS, v_lenL, v_lenT, List.getElem?_cons_zero, List.getElem?_cons_succ, List.set_cons_zero, List.set_cons_succ, List.length_cons, List.length_nil, Nat.reduceAdd, Option.map_some, if_true, f_if, Option.bind_some, Bool.true_or, Bool.or_true, Bool.false_or, Bool.or_false, Bool.true_and, Bool.and_true, Bool.false_and, Bool.and_false, Bool.not_true, Bool.not_false, Bool.false_eq_true, if_false, wq_0_0, wq_0_1, wq_0_2, wq_0_3, wq_0_4, wq_0_5, wq_0_6, wq_0_7, wq_0_8, wq_1_0, wq_1_1, wq_1_2, wq_1_3, wq_1_4, wq_1_5, wq_1_6, wq_1_7, wq_1_8, wq_2_0, wq_2_1, wq_2_2, wq_2_3, wq_2_4, wq_2_5, wq_2_6, wq_2_7, wq_2_8, wq_3_0, wq_3_1, wq_3_2, wq_3_3, wq_3_4, wq_3_5, wq_3_6, wq_3_7, wq_3_8, wq_4_0, wq_4_1, wq_4_2, wq_4_3, wq_4_4, wq_4_5, wq_4_6, wq_4_7, wq_4_8, wq_5_0, wq_5_1, wq_5_2, wq_5_3, wq_5_4, wq_5_5, wq_5_6, wq_5_7, wq_5_8, wq_6_0, wq_6_1, wq_6_2, wq_6_3, wq_6_4, wq_6_5, wq_6_6, wq_6_7, wq_6_8, wq_7_0, wq_7_1, wq_7_2, wq_7_3, wq_7_4, wq_7_5, wq_7_6, wq_7_7, wq_7_8, wq_8_0, wq_8_1, wq_8_2, wq_8_3, wq_8_4, wq_8_5, wq_8_6, wq_8_7, wq_8_8, fn_1004, e1, e2, hzb, hw2, decide_false, decide_true, v_intB, v_mulB, hdp, e3, hb2, w6, e4, e5, e6, w9, two_iB, hod, three_ix _ _ (w - 6) (by omega) (by omega)]
            rw [if_neg w60]; rfl
        · by_cases w9e : w = 9
          · subst w9e
            obtain ⟨r8, h7, e7, l7, u7, d7⟩ := draw (n := n) (far + 1) (by omega) (by omega) (by omega) (D6.at a)
            refine ⟨.asmany one oo r8, h7, ?_, ⟨⟨s1, so, by omega, by omega⟩, by simp only [F.dep]; omega⟩, D6.trans d7⟩
            simp (disch := first | assumption | omega | (simp only [List.length_cons, List.length_nil]; omega)) only [x_c, x_g, x_v0, x_v1, x_v2, x_v3, x_v4, x_v5, x_v6, x_v7, x_v8, x_v9, x_v10, x_v11, x_v12, x_v13, x_v14, x_v15, x_tup, x_lst, x_op, x_neg, x_not, x_and, x_or, x_ite, x_cmp, x_chain, x_ix, x_sl, x_rev, x_call, x_meth, x_new, x_fld, x_isi, x_bi, x_listof, x_bm, x_nil, x_cons, x_eno, x_eso, x_ival, x_irange, x_irev, x_fcall, x_flst, x_flistof, x_asg, x_asgB, x_ex, x_ret, x_retF, x_site, x_raise, x_cont, x_pass, x_par, x_snil, x_scons, x_tnm, x_ttup, x_tsub, x_tfld, x_cono, x_con0, y_thenT, y_thenF, y_then, y_elseT, y_elseF, y_else, y_ifT, y_ifF, y_if, y_not, y_neg, y_opt, y_chT, y_chF, y_ch, y_seq, y_seqR, y_seqN, y_seqC, y_len0, y_len1, y_len2, y_len3, y_len4, y_len5, y_len6, y_fldQ, y_fldS, y_methQ, y_methS, y_setQ, y_setS, y_new, y_non, y_rvN, y_dV, y_dN, y_bindi, y_bindE, y_map, f_nx, f_rt, f_rn, f_ex, l_w0, l_ws, v_bind, v_some, v_add, v_sub, v_lt, v_le, v_gt, v_ge, v_eqI, v_eqS, v_neN, v_isN, v_isNN, v_ixL, v_ixT, v_lenS, v_lenL, v_lenT, List.getElem?_cons_zero, List.getElem?_cons_succ, List.set_cons_zero, List.set_cons_succ, List.length_cons, List.length_nil, Nat.reduceAdd, Option.map_some, if_true, f_if, Option.bind_some, Bool.true_or, Bool.or_true, Bool.false_or, Bool.or_false, Bool.true_and, Bool.and_true, Bool.false_and, Bool.and_false, Bool.not_true, Bool.not_false, Bool.false_eq_true, if_false, wq_0_0, wq_0_1, wq_0_2, wq_0_3, wq_0_4, wq_0_5, wq_0_6, wq_0_7, wq_0_8, wq_1_0, wq_1_1, wq_1_2, wq_1_3, wq_1_4, wq_1_5, wq_1_6, wq_1_7, wq_1_8, wq_2_0, wq_2_1, wq_2_2, wq_2_3, wq_2_4, wq_2_5, wq_2_6, wq_2_7, wq_2_8, wq_3_0, wq_3_1, wq_3_2, wq_3_3, wq_3_4, wq_3_5, wq_3_6, wq_3_7, wq_3_8, wq_4_0, wq_4_1, wq_4_2, wq_4_3, wq_4_4, wq_4_5, wq_4_6, wq_4_7, wq_4_8, wq_5_0, wq_5_1, wq_5_2, wq_5_3, wq_5_4, wq_5_5, wq_5_6, wq_5_7, wq_5_8, wq_6_0, wq_6_1, wq_6_2, wq_6_3, wq_6_4, wq_6_5, wq_6_6, wq_6_7, wq_6_8, wq_7_0, wq_7_1, wq_7_2, wq_7_3, wq_7_4, wq_7_5, wq_7_6, wq_7_7, wq_7_8, wq_8_0, wq_8_1, wq_8_2, wq_8_3, wq_8_4, wq_8_5, wq_8_6, wq_8_7, wq_8_8, fn_1004, e1, e2, hzb, hw2, decide_false, decide_true, v_intB, v_mulB, hdp, e3, hb2, w6, e4, e5, e6, w9, two_iB, hod, e7]
            rfl
          · have hb9 : (w == 9) = false := by simpa using w9e
            obtain ⟨r8, h7, e7, l7, u7, d7⟩ := draw (n := n) 2 (by omega) (by omega) (by omega) (D6.at a)
            obtain ⟨lo, x, h8, e8, b8, d8⟩ := back (n := n) far (by omega) (by omega) (by omega) ((D6.trans d7).at a)
            have hnn : (D.tup [.str sNot, one.d]) = (F.not one).d := rfl
            obtain ⟨aa, haa⟩ : ∃ aa : F, aa = if r8 = 0 then one else .not one := ⟨_, rfl⟩
            have had : (if r8 = 0 then one.d else D.tup [D.str [110, 111, 116], one.d]) = aa.d := by rw [haa]; split <;> rfl
            refine ⟨.since aa oo lo x, h8, ?_, ⟨⟨by rw [haa]; split; exact s1; exact s1, so, b8⟩, by
              have pn : aa.dep ≤ one.dep + 1 := by
                rw [haa]; split
                · omega
                · simp only [F.dep]; omega
              simp only [F.dep]; omega⟩, (D6.trans d7).trans d8⟩
            simp (disch := first | assumption | omega | (simp only [List.length_cons, List.length_nil]; omega)) only [x_c, x_g, x_v0, x_v1, x_v2, x_v3, x_v4, x_v5, x_v6, x_v7, x_v8, x_v9, x_v10, x_v11, x_v12, x_v13, x_v14, x_v15, x_tup, x_lst, x_op, x_neg, x_not, x_and, x_or, x_ite, x_cmp, x_chain, x_ix, x_sl, x_rev, x_call, x_meth, x_new, x_fld, x_isi, x_bi, x_listof, x_bm, x_nil, x_cons, x_eno, x_eso, x_ival, x_irange, x_irev, x_fcall, x_flst, x_flistof, x_asg, x_asgB, x_ex, x_ret, x_retF, x_site, x_raise, x_cont, x_pass, x_par, x_snil, x_scons, x_tnm, x_ttup, x_tsub, x_tfld, x_cono, x_con0, y_thenT, y_thenF, y_then, y_elseT, y_elseF, y_else, y_ifT, y_ifF, y_if, y_not, y_neg, y_opt, y_chT, y_chF, y_ch, y_seq, y_seqR, y_seqN, y_seqC, y_len0, y_len1, y_len2, y_len3, y_len4, y_len5, y_len6, y_fldQ, y_fldS, y_methQ, y_methS, y_setQ, y_setS, y_new, y_non, y_rvN, y_dV, y_dN, y_bindi, y_bindE, y_map, f_nx, f_rt, f_rn, f_ex, l_w0, l_ws, v_bind, v_some, v_add, v_sub, v_lt, v_le, v_gt, v_ge, v_eqI, v_eqS, v_neN, v_isN, v_isNN, v_ixL, v_ixT, v_lenS, v_lenL, v_lenT, List.getElem?_cons_zero, List.getElem?_cons_succ, List.set_cons_zero, List.set_cons_succ, List.length_cons, List.length_nil, Nat.reduceAdd, Option.map_some, if_true, f_if, Option.bind_some, Bool.true_or, Bool.or_true, Bool.false_or, Bool.or_false, Bool.true_and, Bool.and_true, Bool.false_and, Bool.and_false, Bool.not_true, Bool.not_false, Bool.false_eq_true, if_false, wq_0_0, wq_0_1, wq_0_2, wq_0_3, wq_0_4, wq_0_5, wq_0_6, wq_0_7, wq_0_8, wq_1_0, wq_1_1, wq_1_2, wq_1_3, wq_1_4, wq_1_5, wq_1_6, wq_1_7, wq_1_8, wq_2_0, wq_2_1, wq_2_2, wq_2_3, wq_2_4, wq_2_5, wq_2_6, wq_2_7, wq_2_8, wq_3_0, wq_3_1, wq_3_2, wq_3_3, wq_3_4, wq_3_5, wq_3_6, wq_3_7, wq_3_8, wq_4_0, wq_4_1, wq_4_2, wq_4_3, wq_4_4, wq_4_5, wq_4_6, wq_4_7, wq_4_8, wq_5_0, wq_5_1, wq_5_2, wq_5_3, wq_5_4, wq_5_5, wq_5_6, wq_5_7, wq_5_8, wq_6_0, wq_6_1, wq_6_2, wq_6_3, wq_6_4, wq_6_5, wq_6_6, wq_6_7, wq_6_8, wq_7_0, wq_7_1, wq_7_2, wq_7_3, wq_7_4, wq_7_5, wq_7_6, wq_7_7, wq_7_8, wq_8_0, wq_8_1, wq_8_2, wq_8_3, wq_8_4, wq_8_5, wq_8_6, wq_8_7, wq_8_8, fn_1004, e1, e2, hzb, hw2, decide_false, decide_true, v_intB, v_mulB, hdp, e3, hb2, w6, e4, e5, e6, w9, hb9, two_iB, hod, e7, e8, two_any _ _ r8 l7 u7, had, v_cat32]
            rfl
end K03

namespace K03
open Mn
theorem cast_two (a b : Nat) : (1 : Int) + max (max 0 (a : Int)) (b : Int) = ((max a b + 1 : Nat) : Int) := by omega
theorem cast_one (a : Nat) : (1 : Int) + max 0 (a : Int) = ((a + 1 : Nat) : Int) := by omega
theorem parts (f : F) : ∀ (n : Nat), f.dep ≤ n → f.parts.length ≤ LINE → ∀ h : VH, run cfg tbl n 1005 [f.d] h = .ok (.val (.lst (f.parts.map F.d))) h := by
  have one : ∀ (g p : F) (w : List Nat) (xs : List D) (n : Nat) (h : VH), g.d = .tup (.str w :: p.d :: xs) → (∀ x ∈ xs, ∀ h, isiD h x [.tuple] = some false) → xs.length ≤ 2 → 1 + p.parts.length ≤ LINE →
      run cfg tbl n 1005 [p.d] h = .ok (.val (.lst (p.parts.map F.d))) h → run cfg tbl (n + 1) 1005 [g.d] h = .ok (.val (.lst (g.d :: p.parts.map F.d))) h := by
    intro g p w xs n h hg hx hl hp e
    rw [hg, u_1005, ← hg]
    have ea : opD h .add (.lst [g.d]) (.lst (p.parts.map F.d)) = some (.lst (g.d :: p.parts.map F.d)) := v_catL _ _ _ (by simpa using hp)
    have es : slD h g.d (some 1) none = some (.tup (p.d :: xs)) := by rw [hg]; exact sl_1 _ _ _
    match xs, hx, hl, es with
    | [], hx, _, es => simp (disch := first | assumption | omega | (simp only [List.length_cons, List.length_nil]; omega)) only [x_c, x_g, x_v0, x_v1, x_v2, x_v3, x_v4, x_v5, x_v6, x_v7, x_v8, x_v9, x_v10, x_v11, x_v12, x_v13, x_v14, x_v15, x_tup, x_lst, x_op, x_neg, x_not, x_and, x_or, x_ite, x_cmp, x_chain, x_ix, x_sl, x_rev, x_call, x_meth, x_new, x_fld, x_isi, x_bi, x_listof, x_bm, x_nil, x_cons, x_eno, x_eso, x_ival, x_irange, x_irev, x_fcall, x_flst, x_flistof, x_asg, x_asgB, x_ex, x_ret, x_retF, x_site, x_raise, x_cont, x_pass, x_par, x_snil, x_scons, x_tnm, x_ttup, x_tsub, x_tfld, x_cono, x_con0, y_thenT, y_thenF, y_then, y_elseT, y_elseF, y_else, y_ifT, y_ifF, y_if, y_not, y_neg, y_opt, y_chT, y_chF, y_ch, y_seq, y_seqR, y_seqN, y_seqC, y_len0, y_len1, y_len2, y_len3, y_len4, y_len5, y_len6, y_fldQ, y_fldS, y_methQ, y_methS, y_setQ, y_setS, y_new, y_non, y_rvN, y_dV, y_dN, y_bindi, y_bindE, y_map, f_nx, f_rt, f_rn, f_ex, l_w0, l_ws, v_bind, v_some, v_add, v_sub, v_lt, v_le, v_gt, v_ge, v_eqI, v_eqS, v_neN, v_isN, v_isNN, v_ixL, v_ixT, v_lenS, v_lenL, v_lenT, List.getElem?_cons_zero, List.getElem?_cons_succ, List.set_cons_zero, List.set_cons_succ, List.length_cons, List.length_nil, Nat.reduceAdd, Option.map_some, if_true, f_if, Option.bind_some, Bool.true_or, Bool.or_true, Bool.false_or, Bool.or_false, Bool.true_and, Bool.and_true, Bool.false_and, Bool.and_false, Bool.not_true, Bool.not_false, Bool.false_eq_true, if_false, wq_0_0, wq_0_1, wq_0_2, wq_0_3, wq_0_4, wq_0_5, wq_0_6, wq_0_7, wq_0_8, wq_1_0, wq_1_1, wq_1_2, wq_1_3, wq_1_4, wq_1_5, wq_1_6, wq_1_7, wq_1_8, wq_2_0, wq_2_1, wq_2_2, wq_2_3, wq_2_4, wq_2_5, wq_2_6, wq_2_7, wq_2_8, wq_3_0, wq_3_1, wq_3_2, wq_3_3, wq_3_4, wq_3_5, wq_3_6, wq_3_7, wq_3_8, wq_4_0, wq_4_1, wq_4_2, wq_4_3, wq_4_4, wq_4_5, wq_4_6, wq_4_7, wq_4_8, wq_5_0, wq_5_1, wq_5_2, wq_5_3, wq_5_4, wq_5_5, wq_5_6, wq_5_7, wq_5_8, wq_6_0, wq_6_1, wq_6_2, wq_6_3, wq_6_4, wq_6_5, wq_6_6, wq_6_7, wq_6_8, wq_7_0, wq_7_1, wq_7_2, wq_7_3, wq_7_4, wq_7_5, wq_7_6, wq_7_7, wq_7_8, wq_8_0, wq_8_1, wq_8_2, wq_8_3, wq_8_4, wq_8_5, wq_8_6, wq_8_7, wq_8_8, x_for, x_lc, x_flc, l_for0, l_for, l_goN, l_goC, l_goR, l_goL, l_lc0, l_lc, l_lcT, l_lcF, l_lcA0, l_lcA1, l_lcA2, l_lcA3, l_vT, l_vL, fn_1005, es, F.isi, e, ea]
    | [a], hx, _, es => simp (disch := first | assumption | omega | (simp only [List.length_cons, List.length_nil]; omega)) only [x_c, x_g, x_v0, x_v1, x_v2, x_v3, x_v4, x_v5, x_v6, x_v7, x_v8, x_v9, x_v10, x_v11, x_v12, x_v13, x_v14, x_v15, x_tup, x_lst, x_op, x_neg, x_not, x_and, x_or, x_ite, x_cmp, x_chain, x_ix, x_sl, x_rev, x_call, x_meth, x_new, x_fld, x_isi, x_bi, x_listof, x_bm, x_nil, x_cons, x_eno, x_eso, x_ival, x_irange, x_irev, x_fcall, x_flst, x_flistof, x_asg, x_asgB, x_ex, x_ret, x_retF, x_site, x_raise, x_cont, x_pass, x_par, x_snil, x_scons, x_tnm, x_ttup, x_tsub, x_tfld, x_cono, x_con0, y_thenT, y_thenF, y_then, y_elseT, y_elseF, y_else, y_ifT, y_ifF, y_if, y_not, y_neg, y_opt, y_chT, y_chF, y_ch, y_seq, y_seqR, y_seqN, y_seqC, y_len0, y_len1, y_len2, y_len3, y_len4, y_len5, y_len6, y_fldQ, y_fldS, y_methQ, y_methS, y_setQ, y_setS, y_new, y_non, y_rvN, y_dV, y_dN, y_bindi, y_bindE, y_map, f_nx, f_rt, f_rn, f_ex, l_w0, l_ws, v_bind, v_some, v_add, v_sub, v_lt, v_le, v_gt, v_ge, v_eqI, v_eqS, v_neN, v_isN, v_isNN, v_ixL, v_ixT, v_lenS, v_lenL, v_lenT, List.getElem?_cons_zero, List.getElem?_cons_succ, List.set_cons_zero, List.set_cons_succ, List.length_cons, List.length_nil, Nat.reduceAdd, Option.map_some, if_true, f_if, Option.bind_some, Bool.true_or, Bool.or_true, Bool.false_or, Bool.or_false, Bool.true_and, Bool.and_true, Bool.false_and, Bool.and_false, Bool.not_true, Bool.not_false, Bool.false_eq_true, if_false, wq_0_0, wq_0_1, wq_0_2, wq_0_3, wq_0_4, wq_0_5, wq_0_6, wq_0_7, wq_0_8, wq_1_0, wq_1_1, wq_1_2, wq_1_3, wq_1_4, wq_1_5, wq_1_6, wq_1_7, wq_1_8, wq_2_0, wq_2_1, wq_2_2, wq_2_3, wq_2_4, wq_2_5, wq_2_6, wq_2_7, wq_2_8, wq_3_0, wq_3_1, wq_3_2, wq_3_3, wq_3_4, wq_3_5, wq_3_6, wq_3_7, wq_3_8, wq_4_0, wq_4_1, wq_4_2, wq_4_3, wq_4_4, wq_4_5, wq_4_6, wq_4_7, wq_4_8, wq_5_0, wq_5_1, wq_5_2, wq_5_3, wq_5_4, wq_5_5, wq_5_6, wq_5_7, wq_5_8, wq_6_0, wq_6_1, wq_6_2, wq_6_3, wq_6_4, wq_6_5, wq_6_6, wq_6_7, wq_6_8, wq_7_0, wq_7_1, wq_7_2, wq_7_3, wq_7_4, wq_7_5, wq_7_6, wq_7_7, wq_7_8, wq_8_0, wq_8_1, wq_8_2, wq_8_3, wq_8_4, wq_8_5, wq_8_6, wq_8_7, wq_8_8, x_for, x_lc, x_flc, l_for0, l_for, l_goN, l_goC, l_goR, l_goL, l_lc0, l_lc, l_lcT, l_lcF, l_lcA0, l_lcA1, l_lcA2, l_lcA3, l_vT, l_vL, fn_1005, es, F.isi, e, ea, hx a (by simp)]
    | [a, b], hx, _, es => simp (disch := first | assumption | omega | (simp only [List.length_cons, List.length_nil]; omega)) only [x_c, x_g, x_v0, x_v1, x_v2, x_v3, x_v4, x_v5, x_v6, x_v7, x_v8, x_v9, x_v10, x_v11, x_v12, x_v13, x_v14, x_v15, x_tup, x_lst, x_op, x_neg, x_not, x_and, x_or, x_ite, x_cmp, x_chain, x_ix, x_sl, x_rev, x_call, x_meth, x_new, x_fld, x_isi, x_bi, x_listof, x_bm, x_nil, x_cons, x_eno, x_eso, x_ival, x_irange, x_irev, x_fcall, x_flst, x_flistof, x_asg, x_asgB, x_ex, x_ret, x_retF, x_site, x_raise, x_cont, x_pass, x_par, x_snil, x_scons, x_tnm, x_ttup, x_tsub, x_tfld, x_cono, x_con0, y_thenT, y_thenF, y_then, y_elseT, y_elseF, y_else, y_ifT, y_ifF, y_if, y_not, y_neg, y_opt, y_chT, y_chF, y_ch, y_seq, y_seqR, y_seqN, y_seqC, y_len0, y_len1, y_len2, y_len3, y_len4, y_len5, y_len6, y_fldQ, y_fldS, y_methQ, y_methS, y_setQ, y_setS, y_new, y_non, y_rvN, y_dV, y_dN, y_bindi, y_bindE, y_map, f_nx, f_rt, f_rn, f_ex, l_w0, l_ws, v_bind, v_some, v_add, v_sub, v_lt, v_le, v_gt, v_ge, v_eqI, v_eqS, v_neN, v_isN, v_isNN, v_ixL, v_ixT, v_lenS, v_lenL, v_lenT, List.getElem?_cons_zero, List.getElem?_cons_succ, List.set_cons_zero, List.set_cons_succ, List.length_cons, List.length_nil, Nat.reduceAdd, Option.map_some, if_true, f_if, Option.bind_some, Bool.true_or, Bool.or_true, Bool.false_or, Bool.or_false, Bool.true_and, Bool.and_true, Bool.false_and, Bool.and_false, Bool.not_true, Bool.not_false, Bool.false_eq_true, if_false, wq_0_0, wq_0_1, wq_0_2, wq_0_3, wq_0_4, wq_0_5, wq_0_6, wq_0_7, wq_0_8, wq_1_0, wq_1_1, wq_1_2, wq_1_3, wq_1_4, wq_1_5, wq_1_6, wq_1_7, wq_1_8, wq_2_0, wq_2_1, wq_2_2, wq_2_3, wq_2_4, wq_2_5, wq_2_6, wq_2_7, wq_2_8, wq_3_0, wq_3_1, wq_3_2, wq_3_3, wq_3_4, wq_3_5, wq_3_6, wq_3_7, wq_3_8, wq_4_0, wq_4_1, wq_4_2, wq_4_3, wq_4_4, wq_4_5, wq_4_6, wq_4_7, wq_4_8, wq_5_0, wq_5_1, wq_5_2, wq_5_3, wq_5_4, wq_5_5, wq_5_6, wq_5_7, wq_5_8, wq_6_0, wq_6_1, wq_6_2, wq_6_3, wq_6_4, wq_6_5, wq_6_6, wq_6_7, wq_6_8, wq_7_0, wq_7_1, wq_7_2, wq_7_3, wq_7_4, wq_7_5, wq_7_6, wq_7_7, wq_7_8, wq_8_0, wq_8_1, wq_8_2, wq_8_3, wq_8_4, wq_8_5, wq_8_6, wq_8_7, wq_8_8, x_for, x_lc, x_flc, l_for0, l_for, l_goN, l_goC, l_goR, l_goL, l_lc0, l_lc, l_lcT, l_lcF, l_lcA0, l_lcA1, l_lcA2, l_lcA3, l_vT, l_vL, fn_1005, es, F.isi, e, ea, hx a (by simp), hx b (by simp)]
  have two : ∀ (g p q : F) (w : List Nat) (xs : List D) (n : Nat) (h : VH), g.d = .tup (.str w :: p.d :: q.d :: xs) → (∀ x ∈ xs, ∀ h, isiD h x [.tuple] = some false) → xs.length ≤ 2 → 1 + p.parts.length + q.parts.length ≤ LINE →
      run cfg tbl n 1005 [p.d] h = .ok (.val (.lst (p.parts.map F.d))) h → run cfg tbl n 1005 [q.d] h = .ok (.val (.lst (q.parts.map F.d))) h →
      run cfg tbl (n + 1) 1005 [g.d] h = .ok (.val (.lst (g.d :: (p.parts ++ q.parts).map F.d))) h := by
    intro g p q w xs n h hg hx hl hp e e2
    rw [hg, u_1005, ← hg]
    have ea : opD h .add (.lst [g.d]) (.lst (p.parts.map F.d)) = some (.lst (g.d :: p.parts.map F.d)) := v_catL _ _ _ (by simp only [List.length_cons, List.length_nil, List.length_map]; omega)
    have eb : opD h .add (.lst (g.d :: p.parts.map F.d)) (.lst (q.parts.map F.d)) = some (.lst (g.d :: p.parts.map F.d ++ q.parts.map F.d)) := v_catL _ _ _ (by simp only [List.length_cons, List.length_nil, List.length_map]; omega)
    have es : slD h g.d (some 1) none = some (.tup (p.d :: q.d :: xs)) := by rw [hg]; exact sl_1 _ _ _
    rw [List.map_append]
    match xs, hx, hl, es with
    | [], hx, _, es => simp (disch := first | assumption | omega | (simp only [List.length_cons, List.length_nil]; omega)) only [x_c, x_g, x_v0, x_v1, x_v2, x_v3, x_v4, x_v5, x_v6, x_v7, x_v8, x_v9, x_v10, x_v11, x_v12, x_v13, x_v14, x_v15, x_tup, x_lst, x_op, x_neg, x_not, x_and, x_or, x_ite, x_cmp, x_chain, x_ix, x_sl, x_rev, x_call, x_meth, x_new, x_fld, x_isi, x_bi, x_listof, x_bm, x_nil, x_cons, x_eno, x_eso, x_ival, x_irange, x_irev, x_fcall, x_flst, x_flistof, x_asg, x_asgB, x_ex, x_ret, x_retF, x_site, x_raise, x_cont, x_pass, x_par, x_snil, x_scons, x_tnm, x_ttup, x_tsub, x_tfld, x_cono, x_con0, y_thenT, y_thenF, y_then, y_elseT, y_elseF, y_else, y_ifT, y_ifF, y_if, y_not, y_neg, y_opt, y_chT, y_chF, y_ch, y_seq, y_seqR, y_seqN, y_seqC, y_len0, y_len1, y_len2, y_len3, y_len4, y_len5, y_len6, y_fldQ, y_fldS, y_methQ, y_methS, y_setQ, y_setS, y_new, y_non, y_rvN, y_dV, y_dN, y_bindi, y_bindE, y_map, f_nx, f_rt, f_rn, f_ex, l_w0, l_ws, v_bind, v_some, v_add, v_sub, v_lt, v_le, v_gt, v_ge, v_eqI, v_eqS, v_neN, v_isN, v_isNN, v_ixL, v_ixT, v_lenS, v_lenL, v_lenT, List.getElem?_cons_zero, List.getElem?_cons_succ, List.set_cons_zero, List.set_cons_succ, List.length_cons, List.length_nil, Nat.reduceAdd, Option.map_some, if_true, f_if, Option.bind_some, Bool.true_or, Bool.or_true, Bool.false_or, Bool.or_false, Bool.true_and, Bool.and_true, Bool.false_and, Bool.and_false, Bool.not_true, Bool.not_false, Bool.false_eq_true, if_false, wq_0_0, wq_0_1, wq_0_2, wq_0_3, wq_0_4, wq_0_5, wq_0_6, wq_0_7, wq_0_8, wq_1_0, wq_1_1, wq_1_2, wq_1_3, wq_1_4, wq_1_5, wq_1_6, wq_1_7, wq_1_8, wq_2_0, wq_2_1, wq_2_2, wq_2_3, wq_2_4, wq_2_5, wq_2_6, wq_2_7, wq_2_8, wq_3_0, wq_3_1, wq_3_2, wq_3_3, wq_3_4, wq_3_5, wq_3_6, wq_3_7, wq_3_8, wq_4_0, wq_4_1, wq_4_2, wq_4_3, wq_4_4, wq_4_5, wq_4_6, wq_4_7, wq_4_8, wq_5_0, wq_5_1, wq_5_2, wq_5_3, wq_5_4, wq_5_5, wq_5_6, wq_5_7, wq_5_8, wq_6_0, wq_6_1, wq_6_2, wq_6_3, wq_6_4, wq_6_5, wq_6_6, wq_6_7, wq_6_8, wq_7_0, wq_7_1, wq_7_2, wq_7_3, wq_7_4, wq_7_5, wq_7_6, wq_7_7, wq_7_8, wq_8_0, wq_8_1, wq_8_2, wq_8_3, wq_8_4, wq_8_5, wq_8_6, wq_8_7, wq_8_8, x_for, x_lc, x_flc, l_for0, l_for, l_goN, l_goC, l_goR, l_goL, l_lc0, l_lc, l_lcT, l_lcF, l_lcA0, l_lcA1, l_lcA2, l_lcA3, l_vT, l_vL, fn_1005, es, F.isi, e, ea, e2, eb]; rfl
    | [a], hx, _, es => simp (disch := first | assumption | omega | (simp only [List.length_cons, List.length_nil]; omega)) only [x_c, x_g, x_v0, x_v1, x_v2, x_v3, x_v4, x_v5, x_v6, x_v7, x_v8, x_v9, x_v10, x_v11, x_v12, x_v13, x_v14, x_v15, x_tup, x_lst, x_op, x_neg, x_not, x_and, x_or, x_ite, x_cmp, x_chain, x_ix, x_sl, x_rev, x_call, x_meth, x_new, x_fld, x_isi, x_bi, x_listof, x_bm, x_nil, x_cons, x_eno, x_eso, x_ival, x_irange, x_irev, x_fcall, x_flst, x_flistof, x_asg, x_asgB, x_ex, x_ret, x_retF, x_site, x_raise, x_cont, x_pass, x_par, x_snil, x_scons, x_tnm, x_ttup, x_tsub, x_tfld, x_cono, x_con0, y_thenT, y_thenF, y_then, y_elseT, y_elseF, y_else, y_ifT, y_ifF, y_if, y_not, y_neg, y_opt, y_chT, y_chF, y_ch, y_seq, y_seqR, y_seqN, y_seqC, y_len0, y_len1, y_len2, y_len3, y_len4, y_len5, y_len6, y_fldQ, y_fldS, y_methQ, y_methS, y_setQ, y_setS, y_new, y_non, y_rvN, y_dV, y_dN, y_bindi, y_bindE, y_map, f_nx, f_rt, f_rn, f_ex, l_w0, l_ws, v_bind, v_some, v_add, v_sub, v_lt, v_le, v_gt, v_ge, v_eqI, v_eqS, v_neN, v_isN, v_isNN, v_ixL, v_ixT, v_lenS, v_lenL, v_lenT, List.getElem?_cons_zero, List.getElem?_cons_succ, List.set_cons_zero, List.set_cons_succ, List.length_cons, List.length_nil, Nat.reduceAdd, Option.map_some, if_true, f_if, Option.bind_some, Bool.true_or, Bool.or_true, Bool.false_or, Bool.or_false, Bool.true_and, Bool.and_true, Bool.false_and, Bool.and_false, Bool.not_true, Bool.not_false, Bool.false_eq_true, if_false, wq_0_0, wq_0_1, wq_0_2, wq_0_3, wq_0_4, wq_0_5, wq_0_6, wq_0_7, wq_0_8, wq_1_0, wq_1_1, wq_1_2, wq_1_3, wq_1_4, wq_1_5, wq_1_6, wq_1_7, wq_1_8, wq_2_0, wq_2_1, wq_2_2, wq_2_3, wq_2_4, wq_2_5, wq_2_6, wq_2_7, wq_2_8, wq_3_0, wq_3_1, wq_3_2, wq_3_3, wq_3_4, wq_3_5, wq_3_6, wq_3_7, wq_3_8, wq_4_0, wq_4_1, wq_4_2, wq_4_3, wq_4_4, wq_4_5, wq_4_6, wq_4_7, wq_4_8, wq_5_0, wq_5_1, wq_5_2, wq_5_3, wq_5_4, wq_5_5, wq_5_6, wq_5_7, wq_5_8, wq_6_0, wq_6_1, wq_6_2, wq_6_3, wq_6_4, wq_6_5, wq_6_6, wq_6_7, wq_6_8, wq_7_0, wq_7_1, wq_7_2, wq_7_3, wq_7_4, wq_7_5, wq_7_6, wq_7_7, wq_7_8, wq_8_0, wq_8_1, wq_8_2, wq_8_3, wq_8_4, wq_8_5, wq_8_6, wq_8_7, wq_8_8, x_for, x_lc, x_flc, l_for0, l_for, l_goN, l_goC, l_goR, l_goL, l_lc0, l_lc, l_lcT, l_lcF, l_lcA0, l_lcA1, l_lcA2, l_lcA3, l_vT, l_vL, fn_1005, es, F.isi, e, ea, e2, eb, hx a (by simp)]; rfl
    | [a, b], hx, _, es => simp (disch := first | assumption | omega | (simp only [List.length_cons, List.length_nil]; omega)) only [x_c, x_g, x_v0, x_v1, x_v2, x_v3, x_v4, x_v5, x_v6, x_v7, x_v8, x_v9, x_v10, x_v11, x_v12, x_v13, x_v14, x_v15, x_tup, x_lst, x_op, x_neg, x_not, x_and, x_or, x_ite, x_cmp, x_chain, x_ix, x_sl, x_rev, x_call, x_meth, x_new, x_fld, x_isi, x_bi, x_listof, x_bm, x_nil, x_cons, x_eno, x_eso, x_ival, x_irange, x_irev, x_fcall, x_flst, x_flistof, x_asg, x_asgB, x_ex, x_ret, x_retF, x_site, x_raise, x_cont, x_pass, x_par, x_snil, x_scons, x_tnm, x_ttup, x_tsub, x_tfld, x_cono, x_con0, y_thenT, y_thenF, y_then, y_elseT, y_elseF, y_else, y_ifT, y_ifF, y_if, y_not, y_neg, y_opt, y_chT, y_chF, y_ch, y_seq, y_seqR, y_seqN, y_seqC, y_len0, y_len1, y_len2, y_len3, y_len4, y_len5, y_len6, y_fldQ, y_fldS, y_methQ, y_methS, y_setQ, y_setS, y_new, y_non, y_rvN, y_dV, y_dN, y_bindi, y_bindE, y_map, f_nx, f_rt, f_rn, f_ex, l_w0, l_ws, v_bind, v_some, v_add, v_sub, v_lt, v_le, v_gt, v_ge, v_eqI, v_eqS, v_neN, v_isN, v_isNN, v_ixL, v_ixT, v_lenS, v_lenL, v_lenT, List.getElem?_cons_zero, List.getElem?_cons_succ, List.set_cons_zero, List.set_cons_succ, List.length_cons, List.length_nil, Nat.reduceAdd, Option.map_some, if_true, f_if, Option.bind_some, Bool.true_or, Bool.or_true, Bool.false_or, Bool.or_false, Bool.true_and, Bool.and_true, Bool.false_and, Bool.and_false, Bool.not_true, Bool.not_false, Bool.false_eq_true, if_false, wq_0_0, wq_0_1, wq_0_2, wq_0_3, wq_0_4, wq_0_5, wq_0_6, wq_0_7, wq_0_8, wq_1_0, wq_1_1, wq_1_2, wq_1_3, wq_1_4, wq_1_5, wq_1_6, wq_1_7, wq_1_8, wq_2_0, wq_2_1, wq_2_2, wq_2_3, wq_2_4, wq_2_5, wq_2_6, wq_2_7, wq_2_8, wq_3_0, wq_3_1, wq_3_2, wq_3_3, wq_3_4, wq_3_5, wq_3_6, wq_3_7, wq_3_8, wq_4_0, wq_4_1, wq_4_2, wq_4_3, wq_4_4, wq_4_5, wq_4_6, wq_4_7, wq_4_8, wq_5_0, wq_5_1, wq_5_2, wq_5_3, wq_5_4, wq_5_5, wq_5_6, wq_5_7, wq_5_8, wq_6_0, wq_6_1, wq_6_2, wq_6_3, wq_6_4, wq_6_5, wq_6_6, wq_6_7, wq_6_8, wq_7_0, wq_7_1, wq_7_2, wq_7_3, wq_7_4, wq_7_5, wq_7_6, wq_7_7, wq_7_8, wq_8_0, wq_8_1, wq_8_2, wq_8_3, wq_8_4, wq_8_5, wq_8_6, wq_8_7, wq_8_8, x_for, x_lc, x_flc, l_for0, l_for, l_goN, l_goC, l_goR, l_goL, l_lc0, l_lc, l_lcT, l_lcF, l_lcA0, l_lcA1, l_lcA2, l_lcA3, l_vT, l_vL, fn_1005, es, F.isi, e, ea, e2, eb, hx a (by simp), hx b (by simp)]; rfl
  induction f with
  | is w =>
    intro n hn _ h
    obtain ⟨n, rfl⟩ : ∃ q, n = q + 1 := ⟨n - 1, by simp only [F.dep] at hn; omega⟩
    rw [u_1005]
    simp (disch := first | assumption | omega | (simp only [List.length_cons, List.length_nil]; omega)) only [x_c, x_g, x_v0, x_v1, x_v2, x_v3, x_v4, x_v5, x_v6, x_v7, x_v8, x_v9, x_v10, x_v11, x_v12, x_v13, x_v14, x_v15, x_tup, x_lst, x_op, x_neg, x_not, x_and, x_or, x_ite, x_cmp, x_chain, x_ix, x_sl, x_rev, x_call, x_meth, x_new, x_fld, x_isi, x_bi, x_listof, x_bm, x_nil, x_cons, x_eno, x_eso, x_ival, x_irange, x_irev, x_fcall, x_flst, x_flistof, x_asg, x_asgB, x_ex, x_ret, x_retF, x_site, x_raise, x_cont, x_pass, x_par, x_snil, x_scons, x_tnm, x_ttup, x_tsub, x_tfld, x_cono, x_con0, y_thenT, y_thenF, y_then, y_elseT, y_elseF, y_else, y_ifT, y_ifF, y_if, y_not, y_neg, y_opt, y_chT, y_chF, y_ch, y_seq, y_seqR, y_seqN, y_seqC, y_len0, y_len1, y_len2, y_len3, y_len4, y_len5, y_len6, y_fldQ, y_fldS, y_methQ, y_methS, y_setQ, y_setS, y_new, y_non, y_rvN, y_dV, y_dN, y_bindi, y_bindE, y_map, f_nx, f_rt, f_rn, f_ex, l_w0, l_ws, v_bind, v_some, v_add, v_sub, v_lt, v_le, v_gt, v_ge, v_eqI, v_eqS, v_neN, v_isN, v_isNN, v_ixL, v_ixT, v_lenS, v_lenL, v_lenT, List.getElem?_cons_zero, List.getElem?_cons_succ, List.set_cons_zero, List.set_cons_succ, List.length_cons, List.length_nil, Nat.reduceAdd, Option.map_some, if_true, f_if, Option.bind_some, Bool.true_or, Bool.or_true, Bool.false_or, Bool.or_false, Bool.true_and, Bool.and_true, Bool.false_and, Bool.and_false, Bool.not_true, Bool.not_false, Bool.false_eq_true, if_false, wq_0_0, wq_0_1, wq_0_2, wq_0_3, wq_0_4, wq_0_5, wq_0_6, wq_0_7, wq_0_8, wq_1_0, wq_1_1, wq_1_2, wq_1_3, wq_1_4, wq_1_5, wq_1_6, wq_1_7, wq_1_8, wq_2_0, wq_2_1, wq_2_2, wq_2_3, wq_2_4, wq_2_5, wq_2_6, wq_2_7, wq_2_8, wq_3_0, wq_3_1, wq_3_2, wq_3_3, wq_3_4, wq_3_5, wq_3_6, wq_3_7, wq_3_8, wq_4_0, wq_4_1, wq_4_2, wq_4_3, wq_4_4, wq_4_5, wq_4_6, wq_4_7, wq_4_8, wq_5_0, wq_5_1, wq_5_2, wq_5_3, wq_5_4, wq_5_5, wq_5_6, wq_5_7, wq_5_8, wq_6_0, wq_6_1, wq_6_2, wq_6_3, wq_6_4, wq_6_5, wq_6_6, wq_6_7, wq_6_8, wq_7_0, wq_7_1, wq_7_2, wq_7_3, wq_7_4, wq_7_5, wq_7_6, wq_7_7, wq_7_8, wq_8_0, wq_8_1, wq_8_2, wq_8_3, wq_8_4, wq_8_5, wq_8_6, wq_8_7, wq_8_8, x_for, x_lc, x_flc, l_for0, l_for, l_goN, l_goC, l_goR, l_goL, l_lc0, l_lc, l_lcT, l_lcF, l_lcA0, l_lcA1, l_lcA2, l_lcA3, l_vT, l_vL, fn_1005, F.d, sl_1, isi_I]
    rfl
  | frm w =>
    intro n hn _ h
    obtain ⟨n, rfl⟩ : ∃ q, n = q + 1 := ⟨n - 1, by simp only [F.dep] at hn; omega⟩
    rw [u_1005]
    simp (disch := first | assumption | omega | (simp only [List.length_cons, List.length_nil]; omega)) only [x_c, x_g, x_v0, x_v1, x_v2, x_v3, x_v4, x_v5, x_v6, x_v7, x_v8, x_v9, x_v10, x_v11, x_v12, x_v13, x_v14, x_v15, x_tup, x_lst, x_op, x_neg, x_not, x_and, x_or, x_ite, x_cmp, x_chain, x_ix, x_sl, x_rev, x_call, x_meth, x_new, x_fld, x_isi, x_bi, x_listof, x_bm, x_nil, x_cons, x_eno, x_eso, x_ival, x_irange, x_irev, x_fcall, x_flst, x_flistof, x_asg, x_asgB, x_ex, x_ret, x_retF, x_site, x_raise, x_cont, x_pass, x_par, x_snil, x_scons, x_tnm, x_ttup, x_tsub, x_tfld, x_cono, x_con0, y_thenT, y_thenF, y_then, y_elseT, y_elseF, y_else, y_ifT, y_ifF, y_if, y_not, y_neg, y_opt, y_chT, y_chF, y_ch, y_seq, y_seqR, y_seqN, y_seqC, y_len0, y_len1, y_len2, y_len3, y_len4, y_len5, y_len6, y_fldQ, y_fldS, y_methQ, y_methS, y_setQ, y_setS, y_new, y_non, y_rvN, y_dV, y_dN, y_bindi, y_bindE, y_map, f_nx, f_rt, f_rn, f_ex, l_w0, l_ws, v_bind, v_some, v_add, v_sub, v_lt, v_le, v_gt, v_ge, v_eqI, v_eqS, v_neN, v_isN, v_isNN, v_ixL, v_ixT, v_lenS, v_lenL, v_lenT, List.getElem?_cons_zero, List.getElem?_cons_succ, List.set_cons_zero, List.set_cons_succ, List.length_cons, List.length_nil, Nat.reduceAdd, Option.map_some, if_true, f_if, Option.bind_some, Bool.true_or, Bool.or_true, Bool.false_or, Bool.or_false, Bool.true_and, Bool.and_true, Bool.false_and, Bool.and_false, Bool.not_true, Bool.not_false, Bool.false_eq_true, if_false, wq_0_0, wq_0_1, wq_0_2, wq_0_3, wq_0_4, wq_0_5, wq_0_6, wq_0_7, wq_0_8, wq_1_0, wq_1_1, wq_1_2, wq_1_3, wq_1_4, wq_1_5, wq_1_6, wq_1_7, wq_1_8, wq_2_0, wq_2_1, wq_2_2, wq_2_3, wq_2_4, wq_2_5, wq_2_6, wq_2_7, wq_2_8, wq_3_0, wq_3_1, wq_3_2, wq_3_3, wq_3_4, wq_3_5, wq_3_6, wq_3_7, wq_3_8, wq_4_0, wq_4_1, wq_4_2, wq_4_3, wq_4_4, wq_4_5, wq_4_6, wq_4_7, wq_4_8, wq_5_0, wq_5_1, wq_5_2, wq_5_3, wq_5_4, wq_5_5, wq_5_6, wq_5_7, wq_5_8, wq_6_0, wq_6_1, wq_6_2, wq_6_3, wq_6_4, wq_6_5, wq_6_6, wq_6_7, wq_6_8, wq_7_0, wq_7_1, wq_7_2, wq_7_3, wq_7_4, wq_7_5, wq_7_6, wq_7_7, wq_7_8, wq_8_0, wq_8_1, wq_8_2, wq_8_3, wq_8_4, wq_8_5, wq_8_6, wq_8_7, wq_8_8, x_for, x_lc, x_flc, l_for0, l_for, l_goN, l_goC, l_goR, l_goL, l_lc0, l_lc, l_lcT, l_lcF, l_lcA0, l_lcA1, l_lcA2, l_lcA3, l_vT, l_vL, fn_1005, F.d, sl_1, isi_I]
    rfl
  | not p ip | behind p a b ip | many p a b ip =>
    intro n hn hl h
    simp only [F.dep] at hn
    simp only [F.parts, List.length_cons] at hl
    obtain ⟨n, rfl⟩ : ∃ q, n = q + 1 := ⟨n - 1, by omega⟩
    exact one _ p _ _ n h rfl (by simp [isi_I, isi_O]) (by simp) (by omega) (ip n (by omega) (by omega) h)
  | and p q ip iq | or p q ip iq | since p q a b ip iq | asmany p q b ip iq =>
    intro n hn hl h
    simp only [F.dep] at hn
    simp only [F.parts, List.length_cons, List.length_append] at hl
    obtain ⟨n, rfl⟩ : ∃ q, n = q + 1 := ⟨n - 1, by omega⟩
    exact two _ p q _ _ n h rfl (by simp [isi_I, isi_O]) (by simp) (by omega) (ip n (by omega) (by omega) h) (iq n (by omega) (by omega) h)
theorem deep (f : F) : ∀ (n : Nat), f.dep ≤ n → ∀ h : VH, run cfg tbl n 1006 [f.d] h = .ok (.val (.int f.dep)) h := by
  have one : ∀ (g p : F) (w : List Nat) (xs : List D) (n : Nat) (h : VH), g.d = .tup (.str w :: p.d :: xs) → (∀ x ∈ xs, ∀ h, isiD h x [.tuple] = some false) → xs.length ≤ 2 →
      run cfg tbl n 1006 [p.d] h = .ok (.val (.int p.dep)) h → run cfg tbl (n + 1) 1006 [g.d] h = .ok (.val (.int ((p.dep + 1 : Nat) : Int))) h := by
    intro g p w xs n h hg hx hl e
    rw [hg, u_1006, ← hg]
    have ea : opD h .add (.lst [.int 0]) (.lst [.int p.dep]) = some (.lst [.int 0, .int p.dep]) := v_catL _ _ _ (by simp only [List.length_cons, List.length_nil]; decide)
    have es : slD h g.d (some 1) none = some (.tup (p.d :: xs)) := by rw [hg]; exact sl_1 _ _ _
    match xs, hx, hl, es with
    | [], hx, _, es => simp (disch := first | assumption | omega | (simp only [List.length_cons, List.length_nil]; omega)) only [x_c, x_g, x_v0, x_v1, x_v2, x_v3, x_v4, x_v5, x_v6, x_v7, x_v8, x_v9, x_v10, x_v11, x_v12, x_v13, x_v14, x_v15, x_tup, x_lst, x_op, x_neg, x_not, x_and, x_or, x_ite, x_cmp, x_chain, x_ix, x_sl, x_rev, x_call, x_meth, x_new, x_fld, x_isi, x_bi, x_listof, x_bm, x_nil, x_cons, x_eno, x_eso, x_ival, x_irange, x_irev, x_fcall, x_flst, x_flistof, x_asg, x_asgB, x_ex, x_ret, x_retF, x_site, x_raise, x_cont, x_pass, x_par, x_snil, x_scons, x_tnm, x_ttup, x_tsub, x_tfld, x_cono, x_con0, y_thenT, y_thenF, y_then, y_elseT, y_elseF, y_else, y_ifT, y_ifF, y_if, y_not, y_neg, y_opt, y_chT, y_chF, y_ch, y_seq, y_seqR, y_seqN, y_seqC, y_len0, y_len1, y_len2, y_len3, y_len4, y_len5, y_len6, y_fldQ, y_fldS, y_methQ, y_methS, y_setQ, y_setS, y_new, y_non, y_rvN, y_dV, y_dN, y_bindi, y_bindE, y_map, f_nx, f_rt, f_rn, f_ex, l_w0, l_ws, v_bind, v_some, v_add, v_sub, v_lt, v_le, v_gt, v_ge, v_eqI, v_eqS, v_neN, v_isN, v_isNN, v_ixL, v_ixT, v_lenS, v_lenL, v_lenT, List.getElem?_cons_zero, List.getElem?_cons_succ, List.set_cons_zero, List.set_cons_succ, List.length_cons, List.length_nil, Nat.reduceAdd, Option.map_some, if_true, f_if, Option.bind_some, Bool.true_or, Bool.or_true, Bool.false_or, Bool.or_false, Bool.true_and, Bool.and_true, Bool.false_and, Bool.and_false, Bool.not_true, Bool.not_false, Bool.false_eq_true, if_false, wq_0_0, wq_0_1, wq_0_2, wq_0_3, wq_0_4, wq_0_5, wq_0_6, wq_0_7, wq_0_8, wq_1_0, wq_1_1, wq_1_2, wq_1_3, wq_1_4, wq_1_5, wq_1_6, wq_1_7, wq_1_8, wq_2_0, wq_2_1, wq_2_2, wq_2_3, wq_2_4, wq_2_5, wq_2_6, wq_2_7, wq_2_8, wq_3_0, wq_3_1, wq_3_2, wq_3_3, wq_3_4, wq_3_5, wq_3_6, wq_3_7, wq_3_8, wq_4_0, wq_4_1, wq_4_2, wq_4_3, wq_4_4, wq_4_5, wq_4_6, wq_4_7, wq_4_8, wq_5_0, wq_5_1, wq_5_2, wq_5_3, wq_5_4, wq_5_5, wq_5_6, wq_5_7, wq_5_8, wq_6_0, wq_6_1, wq_6_2, wq_6_3, wq_6_4, wq_6_5, wq_6_6, wq_6_7, wq_6_8, wq_7_0, wq_7_1, wq_7_2, wq_7_3, wq_7_4, wq_7_5, wq_7_6, wq_7_7, wq_7_8, wq_8_0, wq_8_1, wq_8_2, wq_8_3, wq_8_4, wq_8_5, wq_8_6, wq_8_7, wq_8_8, x_for, x_lc, x_flc, l_for0, l_for, l_goN, l_goC, l_goR, l_goL, l_lc0, l_lc, l_lcT, l_lcF, l_lcA0, l_lcA1, l_lcA2, l_lcA3, l_vT, l_vL, fn_1006, es, F.isi, e, ea, v_max1, cast_one]
    | [a], hx, _, es => simp (disch := first | assumption | omega | (simp only [List.length_cons, List.length_nil]; omega)) only [x_c, x_g, x_v0, x_v1, x_v2, x_v3, x_v4, x_v5, x_v6, x_v7, x_v8, x_v9, x_v10, x_v11, x_v12, x_v13, x_v14, x_v15, x_tup, x_lst, x_op, x_neg, x_not, x_and, x_or, x_ite, x_cmp, x_chain, x_ix, x_sl, x_rev, x_call, x_meth, x_new, x_fld, x_isi, x_bi, x_listof, x_bm, x_nil, x_cons, x_eno, x_eso, x_ival, x_irange, x_irev, x_fcall, x_flst, x_flistof, x_asg, x_asgB, x_ex, x_ret, x_retF, x_site, x_raise, x_cont, x_pass, x_par, x_snil, x_scons, x_tnm, x_ttup, x_tsub, x_tfld, x_cono, x_con0, y_thenT, y_thenF, y_then, y_elseT, y_elseF, y_else, y_ifT, y_ifF, y_if, y_not, y_neg, y_opt, y_chT, y_chF, y_ch, y_seq, y_seqR, y_seqN, y_seqC, y_len0, y_len1, y_len2, y_len3, y_len4, y_len5, y_len6, y_fldQ, y_fldS, y_methQ, y_methS, y_setQ, y_setS, y_new, y_non, y_rvN, y_dV, y_dN, y_bindi, y_bindE, y_map, f_nx, f_rt, f_rn, f_ex, l_w0, l_ws, v_bind, v_some, v_add, v_sub, v_lt, v_le, v_gt, v_ge, v_eqI, v_eqS, v_neN, v_isN, v_isNN, v_ixL, v_ixT, v_lenS, v_lenL, v_lenT, List.getElem?_cons_zero, List.getElem?_cons_succ, List.set_cons_zero, List.set_cons_succ, List.length_cons, List.length_nil, Nat.reduceAdd, Option.map_some, if_true, f_if, Option.bind_some, Bool.true_or, Bool.or_true, Bool.false_or, Bool.or_false, Bool.true_and, Bool.and_true, Bool.false_and, Bool.and_false, Bool.not_true, Bool.not_false, Bool.false_eq_true, if_false, wq_0_0, wq_0_1, wq_0_2, wq_0_3, wq_0_4, wq_0_5, wq_0_6, wq_0_7, wq_0_8, wq_1_0, wq_1_1, wq_1_2, wq_1_3, wq_1_4, wq_1_5, wq_1_6, wq_1_7, wq_1_8, wq_2_0, wq_2_1, wq_2_2, wq_2_3, wq_2_4, wq_2_5, wq_2_6, wq_2_7, wq_2_8, wq_3_0, wq_3_1, wq_3_2, wq_3_3, wq_3_4, wq_3_5, wq_3_6, wq_3_7, wq_3_8, wq_4_0, wq_4_1, wq_4_2, wq_4_3, wq_4_4, wq_4_5, wq_4_6, wq_4_7, wq_4_8, wq_5_0, wq_5_1, wq_5_2, wq_5_3, wq_5_4, wq_5_5, wq_5_6, wq_5_7, wq_5_8, wq_6_0, wq_6_1, wq_6_2, wq_6_3, wq_6_4, wq_6_5, wq_6_6, wq_6_7, wq_6_8, wq_7_0, wq_7_1, wq_7_2, wq_7_3, wq_7_4, wq_7_5, wq_7_6, wq_7_7, wq_7_8, wq_8_0, wq_8_1, wq_8_2, wq_8_3, wq_8_4, wq_8_5, wq_8_6, wq_8_7, wq_8_8, x_for, x_lc, x_flc, l_for0, l_for, l_goN, l_goC, l_goR, l_goL, l_lc0, l_lc, l_lcT, l_lcF, l_lcA0, l_lcA1, l_lcA2, l_lcA3, l_vT, l_vL, fn_1006, es, F.isi, e, ea, hx a (by simp), v_max1, cast_one]
    | [a, b], hx, _, es => simp (disch := first | assumption | omega | (simp only [List.length_cons, List.length_nil]; omega)) only [x_c, x_g, x_v0, x_v1, x_v2, x_v3, x_v4, x_v5, x_v6, x_v7, x_v8, x_v9, x_v10, x_v11, x_v12, x_v13, x_v14, x_v15, x_tup, x_lst, x_op, x_neg, x_not, x_and, x_or, x_ite, x_cmp, x_chain, x_ix, x_sl, x_rev, x_call, x_meth, x_new, x_fld, x_isi, x_bi, x_listof, x_bm, x_nil, x_cons, x_eno, x_eso, x_ival, x_irange, x_irev, x_fcall, x_flst, x_flistof, x_asg, x_asgB, x_ex, x_ret, x_retF, x_site, x_raise, x_cont, x_pass, x_par, x_snil, x_scons, x_tnm, x_ttup, x_tsub, x_tfld, x_cono, x_con0, y_thenT, y_thenF, y_then, y_elseT, y_elseF, y_else, y_ifT, y_ifF, y_if, y_not, y_neg, y_opt, y_chT, y_chF, y_ch, y_seq, y_seqR, y_seqN, y_seqC, y_len0, y_len1, y_len2, y_len3, y_len4, y_len5, y_len6, y_fldQ, y_fldS, y_methQ, y_methS, y_setQ, y_setS, y_new, y_non, y_rvN, y_dV, y_dN, y_bindi, y_bindE, y_map, f_nx, f_rt, f_rn, f_ex, l_w0, l_ws, v_bind, v_some, v_add, v_sub, v_lt, v_le, v_gt, v_ge, v_eqI, v_eqS, v_neN, v_isN, v_isNN, v_ixL, v_ixT, v_lenS, v_lenL, v_lenT, List.getElem?_cons_zero, List.getElem?_cons_succ, List.set_cons_zero, List.set_cons_succ, List.length_cons, List.length_nil, Nat.reduceAdd, Option.map_some, if_true, f_if, Option.bind_some, Bool.true_or, Bool.or_true, Bool.false_or, Bool.or_false, Bool.true_and, Bool.and_true, Bool.false_and, Bool.and_false, Bool.not_true, Bool.not_false, Bool.false_eq_true, if_false, wq_0_0, wq_0_1, wq_0_2, wq_0_3, wq_0_4, wq_0_5, wq_0_6, wq_0_7, wq_0_8, wq_1_0, wq_1_1, wq_1_2, wq_1_3, wq_1_4, wq_1_5, wq_1_6, wq_1_7, wq_1_8, wq_2_0, wq_2_1, wq_2_2, wq_2_3, wq_2_4, wq_2_5, wq_2_6, wq_2_7, wq_2_8, wq_3_0, wq_3_1, wq_3_2, wq_3_3, wq_3_4, wq_3_5, wq_3_6, wq_3_7, wq_3_8, wq_4_0, wq_4_1, wq_4_2, wq_4_3, wq_4_4, wq_4_5, wq_4_6, wq_4_7, wq_4_8, wq_5_0, wq_5_1, wq_5_2, wq_5_3, wq_5_4, wq_5_5, wq_5_6, wq_5_7, wq_5_8, wq_6_0, wq_6_1, wq_6_2, wq_6_3, wq_6_4, wq_6_5, wq_6_6, wq_6_7, wq_6_8, wq_7_0, wq_7_1, wq_7_2, wq_7_3, wq_7_4, wq_7_5, wq_7_6, wq_7_7, wq_7_8, wq_8_0, wq_8_1, wq_8_2, wq_8_3, wq_8_4, wq_8_5, wq_8_6, wq_8_7, wq_8_8, x_for, x_lc, x_flc, l_for0, l_for, l_goN, l_goC, l_goR, l_goL, l_lc0, l_lc, l_lcT, l_lcF, l_lcA0, l_lcA1, l_lcA2, l_lcA3, l_vT, l_vL, fn_1006, es, F.isi, e, ea, hx a (by simp), hx b (by simp), v_max1, cast_one]
  have two : ∀ (g p q : F) (w : List Nat) (xs : List D) (n : Nat) (h : VH), g.d = .tup (.str w :: p.d :: q.d :: xs) → (∀ x ∈ xs, ∀ h, isiD h x [.tuple] = some false) → xs.length ≤ 2 →
      run cfg tbl n 1006 [p.d] h = .ok (.val (.int p.dep)) h → run cfg tbl n 1006 [q.d] h = .ok (.val (.int q.dep)) h →
      run cfg tbl (n + 1) 1006 [g.d] h = .ok (.val (.int ((max p.dep q.dep + 1 : Nat) : Int))) h := by
    intro g p q w xs n h hg hx hl e e2
    rw [hg, u_1006, ← hg]
    have ea : opD h .add (.lst [.int 0]) (.lst [.int p.dep, .int q.dep]) = some (.lst [.int 0, .int p.dep, .int q.dep]) := v_catL _ _ _ (by simp only [List.length_cons, List.length_nil]; decide)
    have es : slD h g.d (some 1) none = some (.tup (p.d :: q.d :: xs)) := by rw [hg]; exact sl_1 _ _ _
    match xs, hx, hl, es with
    | [], hx, _, es => simp (disch := first | assumption | omega | (simp only [List.length_cons, List.length_nil]; omega)) only [x_c, x_g, x_v0, x_v1, x_v2, x_v3, x_v4, x_v5, x_v6, x_v7, x_v8, x_v9, x_v10, x_v11, x_v12, x_v13, x_v14, x_v15, x_tup, x_lst, x_op, x_neg, x_not, x_and, x_or, x_ite, x_cmp, x_chain, x_ix, x_sl, x_rev, x_call, x_meth, x_new, x_fld, x_isi, x_bi, x_listof, x_bm, x_nil, x_cons, x_eno, x_eso, x_ival, x_irange, x_irev, x_fcall, x_flst, x_flistof, x_asg, x_asgB, x_ex, x_ret, x_retF, x_site, x_raise, x_cont, x_pass, x_par, x_snil, x_scons, x_tnm, x_ttup, x_tsub, x_tfld, x_cono, x_con0, y_thenT, y_thenF, y_then, y_elseT, y_elseF, y_else, y_ifT, y_ifF, y_if, y_not, y_neg, y_opt, y_chT, y_chF, y_ch, y_seq, y_seqR, y_seqN, y_seqC, y_len0, y_len1, y_len2, y_len3, y_len4, y_len5, y_len6, y_fldQ, y_fldS, y_methQ, y_methS, y_setQ, y_setS, y_new, y_non, y_rvN, y_dV, y_dN, y_bindi, y_bindE, y_map, f_nx, f_rt, f_rn, f_ex, l_w0, l_ws, v_bind, v_some, v_add, v_sub, v_lt, v_le, v_gt, v_ge, v_eqI, v_eqS, v_neN, v_isN, v_isNN, v_ixL, v_ixT, v_lenS, v_lenL, v_lenT, List.getElem?_cons_zero, List.getElem?_cons_succ, List.set_cons_zero, List.set_cons_succ, List.length_cons, List.length_nil, Nat.reduceAdd, Option.map_some, if_true, f_if, Option.bind_some, Bool.true_or, Bool.or_true, Bool.false_or, Bool.or_false, Bool.true_and, Bool.and_true, Bool.false_and, Bool.and_false, Bool.not_true, Bool.not_false, Bool.false_eq_true, if_false, wq_0_0, wq_0_1, wq_0_2, wq_0_3, wq_0_4, wq_0_5, wq_0_6, wq_0_7, wq_0_8, wq_1_0, wq_1_1, wq_1_2, wq_1_3, wq_1_4, wq_1_5, wq_1_6, wq_1_7, wq_1_8, wq_2_0, wq_2_1, wq_2_2, wq_2_3, wq_2_4, wq_2_5, wq_2_6, wq_2_7, wq_2_8, wq_3_0, wq_3_1, wq_3_2, wq_3_3, wq_3_4, wq_3_5, wq_3_6, wq_3_7, wq_3_8, wq_4_0, wq_4_1, wq_4_2, wq_4_3, wq_4_4, wq_4_5, wq_4_6, wq_4_7, wq_4_8, wq_5_0, wq_5_1, wq_5_2, wq_5_3, wq_5_4, wq_5_5, wq_5_6, wq_5_7, wq_5_8, wq_6_0, wq_6_1, wq_6_2, wq_6_3, wq_6_4, wq_6_5, wq_6_6, wq_6_7, wq_6_8, wq_7_0, wq_7_1, wq_7_2, wq_7_3, wq_7_4, wq_7_5, wq_7_6, wq_7_7, wq_7_8, wq_8_0, wq_8_1, wq_8_2, wq_8_3, wq_8_4, wq_8_5, wq_8_6, wq_8_7, wq_8_8, x_for, x_lc, x_flc, l_for0, l_for, l_goN, l_goC, l_goR, l_goL, l_lc0, l_lc, l_lcT, l_lcF, l_lcA0, l_lcA1, l_lcA2, l_lcA3, l_vT, l_vL, fn_1006, es, F.isi, e, ea, e2, v_max2, cast_two]
    | [a], hx, _, es => simp (disch := first | assumption | omega | (simp only [List.length_cons, List.length_nil]; omega)) only [x_c, x_g, x_v0, x_v1, x_v2, x_v3, x_v4, x_v5, x_v6, x_v7, x_v8, x_v9, x_v10, x_v11, x_v12, x_v13, x_v14, x_v15, x_tup, x_lst, x_op, x_neg, x_not, x_and, x_or, x_ite, x_cmp, x_chain, x_ix, x_sl, x_rev, x_call, x_meth, x_new, x_fld, x_isi, x_bi, x_listof, x_bm, x_nil, x_cons, x_eno, x_eso, x_ival, x_irange, x_irev, x_fcall, x_flst, x_flistof, x_asg, x_asgB, x_ex, x_ret, x_retF, x_site, x_raise, x_cont, x_pass, x_par, x_snil, x_scons, x_tnm, x_ttup, x_tsub, x_tfld, x_cono, x_con0, y_thenT, y_thenF, y_then, y_elseT, y_elseF, y_else, y_ifT, y_ifF, y_if, y_not, y_neg, y_opt, y_chT, y_chF, y_ch, y_seq, y_seqR, y_seqN, y_seqC, y_len0, y_len1, y_len2, y_len3, y_len4, y_len5, y_len6, y_fldQ, y_fldS, y_methQ, y_methS, y_setQ, y_setS, y_new, y_non, y_rvN, y_dV, y_dN, y_bindi, y_bindE, y_map, f_nx, f_rt, f_rn, f_ex, l_w0, l_ws, v_bind, v_some, v_add, v_sub, v_lt, v_le, v_gt, v_ge, v_eqI, v_eqS, v_neN, v_isN, v_isNN, v_ixL, v_ixT, v_lenS, v_lenL, v_lenT, List.getElem?_cons_zero, List.getElem?_cons_succ, List.set_cons_zero, List.set_cons_succ, List.length_cons, List.length_nil, Nat.reduceAdd, Option.map_some, if_true, f_if, Option.bind_some, Bool.true_or, Bool.or_true, Bool.false_or, Bool.or_false, Bool.true_and, Bool.and_true, Bool.false_and, Bool.and_false, Bool.not_true, Bool.not_false, Bool.false_eq_true, if_false, wq_0_0, wq_0_1, wq_0_2, wq_0_3, wq_0_4, wq_0_5, wq_0_6, wq_0_7, wq_0_8, wq_1_0, wq_1_1, wq_1_2, wq_1_3, wq_1_4, wq_1_5, wq_1_6, wq_1_7, wq_1_8, wq_2_0, wq_2_1, wq_2_2, wq_2_3, wq_2_4, wq_2_5, wq_2_6, wq_2_7, wq_2_8, wq_3_0, wq_3_1, wq_3_2, wq_3_3, wq_3_4, wq_3_5, wq_3_6, wq_3_7, wq_3_8, wq_4_0, wq_4_1, wq_4_2, wq_4_3, wq_4_4, wq_4_5, wq_4_6, wq_4_7, wq_4_8, wq_5_0, wq_5_1, wq_5_2, wq_5_3, wq_5_4, wq_5_5, wq_5_6, wq_5_7, wq_5_8, wq_6_0, wq_6_1, wq_6_2, wq_6_3, wq_6_4, wq_6_5, wq_6_6, wq_6_7, wq_6_8, wq_7_0, wq_7_1, wq_7_2, wq_7_3, wq_7_4, wq_7_5, wq_7_6, wq_7_7, wq_7_8, wq_8_0, wq_8_1, wq_8_2, wq_8_3, wq_8_4, wq_8_5, wq_8_6, wq_8_7, wq_8_8, x_for, x_lc, x_flc, l_for0, l_for, l_goN, l_goC, l_goR, l_goL, l_lc0, l_lc, l_lcT, l_lcF, l_lcA0, l_lcA1, l_lcA2, l_lcA3, l_vT, l_vL, fn_1006, es, F.isi, e, ea, e2, hx a (by simp), v_max2, cast_two]
    | [a, b], hx, _, es => simp (disch := first | assumption | omega | (simp only [List.length_cons, List.length_nil]; omega)) only [x_c, x_g, x_v0, x_v1, x_v2, x_v3, x_v4, x_v5, x_v6, x_v7, x_v8, x_v9, x_v10, x_v11, x_v12, x_v13, x_v14, x_v15, x_tup, x_lst, x_op, x_neg, x_not, x_and, x_or, x_ite, x_cmp, x_chain, x_ix, x_sl, x_rev, x_call, x_meth, x_new, x_fld, x_isi, x_bi, x_listof, x_bm, x_nil, x_cons, x_eno, x_eso, x_ival, x_irange, x_irev, x_fcall, x_flst, x_flistof, x_asg, x_asgB, x_ex, x_ret, x_retF, x_site, x_raise, x_cont, x_pass, x_par, x_snil, x_scons, x_tnm, x_ttup, x_tsub, x_tfld, x_cono, x_con0, y_thenT, y_thenF, y_then, y_elseT, y_elseF, y_else, y_ifT, y_ifF, y_if, y_not, y_neg, y_opt, y_chT, y_chF, y_ch, y_seq, y_seqR, y_seqN, y_seqC, y_len0, y_len1, y_len2, y_len3, y_len4, y_len5, y_len6, y_fldQ, y_fldS, y_methQ, y_methS, y_setQ, y_setS, y_new, y_non, y_rvN, y_dV, y_dN, y_bindi, y_bindE, y_map, f_nx, f_rt, f_rn, f_ex, l_w0, l_ws, v_bind, v_some, v_add, v_sub, v_lt, v_le, v_gt, v_ge, v_eqI, v_eqS, v_neN, v_isN, v_isNN, v_ixL, v_ixT, v_lenS, v_lenL, v_lenT, List.getElem?_cons_zero, List.getElem?_cons_succ, List.set_cons_zero, List.set_cons_succ, List.length_cons, List.length_nil, Nat.reduceAdd, Option.map_some, if_true, f_if, Option.bind_some, Bool.true_or, Bool.or_true, Bool.false_or, Bool.or_false, Bool.true_and, Bool.and_true, Bool.false_and, Bool.and_false, Bool.not_true, Bool.not_false, Bool.false_eq_true, if_false, wq_0_0, wq_0_1, wq_0_2, wq_0_3, wq_0_4, wq_0_5, wq_0_6, wq_0_7, wq_0_8, wq_1_0, wq_1_1, wq_1_2, wq_1_3, wq_1_4, wq_1_5, wq_1_6, wq_1_7, wq_1_8, wq_2_0, wq_2_1, wq_2_2, wq_2_3, wq_2_4, wq_2_5, wq_2_6, wq_2_7, wq_2_8, wq_3_0, wq_3_1, wq_3_2, wq_3_3, wq_3_4, wq_3_5, wq_3_6, wq_3_7, wq_3_8, wq_4_0, wq_4_1, wq_4_2, wq_4_3, wq_4_4, wq_4_5, wq_4_6, wq_4_7, wq_4_8, wq_5_0, wq_5_1, wq_5_2, wq_5_3, wq_5_4, wq_5_5, wq_5_6, wq_5_7, wq_5_8, wq_6_0, wq_6_1, wq_6_2, wq_6_3, wq_6_4, wq_6_5, wq_6_6, wq_6_7, wq_6_8, wq_7_0, wq_7_1, wq_7_2, wq_7_3, wq_7_4, wq_7_5, wq_7_6, wq_7_7, wq_7_8, wq_8_0, wq_8_1, wq_8_2, wq_8_3, wq_8_4, wq_8_5, wq_8_6, wq_8_7, wq_8_8, x_for, x_lc, x_flc, l_for0, l_for, l_goN, l_goC, l_goR, l_goL, l_lc0, l_lc, l_lcT, l_lcF, l_lcA0, l_lcA1, l_lcA2, l_lcA3, l_vT, l_vL, fn_1006, es, F.isi, e, ea, e2, hx a (by simp), hx b (by simp), v_max2, cast_two]
  have ea0 : ∀ h : VH, opD h .add (.lst [.int 0]) (.lst []) = some (.lst [.int 0]) := fun h => v_catL _ _ _ (by simp only [List.length_cons, List.length_nil]; decide)
  induction f with
  | is w | frm w =>
    intro n hn h
    obtain ⟨n, rfl⟩ : ∃ q, n = q + 1 := ⟨n - 1, by simp only [F.dep] at hn; omega⟩
    rw [u_1006]
    simp (disch := first | assumption | omega | (simp only [List.length_cons, List.length_nil]; omega)) only [x_c, x_g, x_v0, x_v1, x_v2, x_v3, x_v4, x_v5, x_v6, x_v7, x_v8, x_v9, x_v10, x_v11, x_v12, x_v13, x_v14, x_v15, x_tup, x_lst, x_op, x_neg, x_not, x_and, x_or, x_ite, x_cmp, x_chain, x_ix, x_sl, x_rev, x_call, x_meth, x_new, x_fld, x_isi, x_bi, x_listof, x_bm, x_nil, x_cons, x_eno, x_eso, x_ival, x_irange, x_irev, x_fcall, x_flst, x_flistof, x_asg, x_asgB, x_ex, x_ret, x_retF, x_site, x_raise, x_cont, x_pass, x_par, x_snil, x_scons, x_tnm, x_ttup, x_tsub, x_tfld, x_cono, x_con0, y_thenT, y_thenF, y_then, y_elseT, y_elseF, y_else, y_ifT, y_ifF, y_if, y_not, y_neg, y_opt, y_chT, y_chF, y_ch, y_seq, y_seqR, y_seqN, y_seqC, y_len0, y_len1, y_len2, y_len3, y_len4, y_len5, y_len6, y_fldQ, y_fldS, y_methQ, y_methS, y_setQ, y_setS, y_new, y_non, y_rvN, y_dV, y_dN, y_bindi, y_bindE, y_map, f_nx, f_rt, f_rn, f_ex, l_w0, l_ws, v_bind, v_some, v_add, v_sub, v_lt, v_le, v_gt, v_ge, v_eqI, v_eqS, v_neN, v_isN, v_isNN, v_ixL, v_ixT, v_lenS, v_lenL, v_lenT, List.getElem?_cons_zero, List.getElem?_cons_succ, List.set_cons_zero, List.set_cons_succ, List.length_cons, List.length_nil, Nat.reduceAdd, Option.map_some, if_true, f_if, Option.bind_some, Bool.true_or, Bool.or_true, Bool.false_or, Bool.or_false, Bool.true_and, Bool.and_true, Bool.false_and, Bool.and_false, Bool.not_true, Bool.not_false, Bool.false_eq_true, if_false, wq_0_0, wq_0_1, wq_0_2, wq_0_3, wq_0_4, wq_0_5, wq_0_6, wq_0_7, wq_0_8, wq_1_0, wq_1_1, wq_1_2, wq_1_3, wq_1_4, wq_1_5, wq_1_6, wq_1_7, wq_1_8, wq_2_0, wq_2_1, wq_2_2, wq_2_3, wq_2_4, wq_2_5, wq_2_6, wq_2_7, wq_2_8, wq_3_0, wq_3_1, wq_3_2, wq_3_3, wq_3_4, wq_3_5, wq_3_6, wq_3_7, wq_3_8, wq_4_0, wq_4_1, wq_4_2, wq_4_3, wq_4_4, wq_4_5, wq_4_6, wq_4_7, wq_4_8, wq_5_0, wq_5_1, wq_5_2, wq_5_3, wq_5_4, wq_5_5, wq_5_6, wq_5_7, wq_5_8, wq_6_0, wq_6_1, wq_6_2, wq_6_3, wq_6_4, wq_6_5, wq_6_6, wq_6_7, wq_6_8, wq_7_0, wq_7_1, wq_7_2, wq_7_3, wq_7_4, wq_7_5, wq_7_6, wq_7_7, wq_7_8, wq_8_0, wq_8_1, wq_8_2, wq_8_3, wq_8_4, wq_8_5, wq_8_6, wq_8_7, wq_8_8, x_for, x_lc, x_flc, l_for0, l_for, l_goN, l_goC, l_goR, l_goL, l_lc0, l_lc, l_lcT, l_lcF, l_lcA0, l_lcA1, l_lcA2, l_lcA3, l_vT, l_vL, fn_1006, F.d, sl_1, isi_I, ea0, v_max0]
    rfl
  | not p ip | behind p a b ip | many p a b ip =>
    intro n hn h
    simp only [F.dep] at hn
    obtain ⟨n, rfl⟩ : ∃ q, n = q + 1 := ⟨n - 1, by omega⟩
    exact one _ p _ _ n h rfl (by simp [isi_I, isi_O]) (by simp) (ip n (by omega) h)
  | and p q ip iq | or p q ip iq | since p q a b ip iq | asmany p q b ip iq =>
    intro n hn h
    simp only [F.dep] at hn
    obtain ⟨n, rfl⟩ : ∃ q, n = q + 1 := ⟨n - 1, by omega⟩
    exact two _ p q _ _ n h rfl (by simp [isi_I, isi_O]) (by simp) (ip n (by omega) h) (iq n (by omega) h)
theorem drawn {ns : List Int} {k : Nat} {h : VH} {n : Nat} (most : Nat) (far : Int) (hn : 20 ≤ n) (hm : 1 ≤ most) (hf : 1 ≤ far) (hf6 : far ≤ 6) (a : At ns k h) :
    ∃ (f : F) (h' : VH), run cfg tbl n 1007 [.ref k, .int most, .int far] h = .ok (.val f.d) h' ∧ (f.ok far ∧ f.dep ≤ 6 ∧ f.parts.length ≤ most) ∧ Dr ns k h h' := by
  obtain ⟨n, rfl⟩ : ∃ q, n = q + 1 := ⟨n - 1, by omega⟩
  have key : (run cfg tbl (n + 1) 1007 [.ref k, .int most, .int far] h).get fun rv h' => ∃ f : F, rv = .val f.d ∧ (f.ok far ∧ f.dep ≤ 6 ∧ f.parts.length ≤ most) ∧ Dr ns k h h' := by
    rw [u_1007]
    simp only [fn_1007]
    rw [x_scons]
    refine get_fin (get_bind (e_for (fun _ ρ h' => ∃ x y, ρ = [some (.ref k), some (.int most), some (.int far), x, y] ∧ Dr ns k h h')
      (fun o h' => match o with | .nx ρ => (∃ x y, ρ = [some (.ref k), some (.int most), some (.int far), x, y]) ∧ Dr ns k h h' | .rt d => ∃ f : F, d = f.d ∧ (f.ok far ∧ f.dep ≤ 6 ∧ f.parts.length ≤ most) ∧ Dr ns k h h' | _ => False)
      _ (by simp (disch := first | assumption | omega | (simp only [List.length_cons, List.length_nil]; omega)) only [x_c, x_g, x_v0, x_v1, x_v2, x_v3, x_v4, x_v5, x_v6, x_v7, x_v8, x_v9, x_v10, x_v11, x_v12, x_v13, x_v14, x_v15, x_tup, x_lst, x_op, x_neg, x_not, x_and, x_or, x_ite, x_cmp, x_chain, x_ix, x_sl, x_rev, x_call, x_meth, x_new, x_fld, x_isi, x_bi, x_listof, x_bm, x_nil, x_cons, x_eno, x_eso, x_ival, x_irange, x_irev, x_fcall, x_flst, x_flistof, x_asg, x_asgB, x_ex, x_ret, x_retF, x_site, x_raise, x_cont, x_pass, x_par, x_snil, x_scons, x_tnm, x_ttup, x_tsub, x_tfld, x_cono, x_con0, y_thenT, y_thenF, y_then, y_elseT, y_elseF, y_else, y_ifT, y_ifF, y_if, y_not, y_neg, y_opt, y_chT, y_chF, y_ch, y_seq, y_seqR, y_seqN, y_seqC, y_len0, y_len1, y_len2, y_len3, y_len4, y_len5, y_len6, y_fldQ, y_fldS, y_methQ, y_methS, y_setQ, y_setS, y_new, y_non, y_rvN, y_dV, y_dN, y_bindi, y_bindE, y_map, f_nx, f_rt, f_rn, f_ex, l_w0, l_ws, v_bind, v_some, v_add, v_sub, v_lt, v_le, v_gt, v_ge, v_eqI, v_eqS, v_neN, v_isN, v_isNN, v_ixL, v_ixT, v_lenS, v_lenL, v_lenT, List.getElem?_cons_zero, List.getElem?_cons_succ, List.set_cons_zero, List.set_cons_succ, List.length_cons, List.length_nil, Nat.reduceAdd, Option.map_some, if_true, f_if, Option.bind_some, Bool.true_or, Bool.or_true, Bool.false_or, Bool.or_false, Bool.true_and, Bool.and_true, Bool.false_and, Bool.and_false, Bool.not_true, Bool.not_false, Bool.false_eq_true, if_false, wq_0_0, wq_0_1, wq_0_2, wq_0_3, wq_0_4, wq_0_5, wq_0_6, wq_0_7, wq_0_8, wq_1_0, wq_1_1, wq_1_2, wq_1_3, wq_1_4, wq_1_5, wq_1_6, wq_1_7, wq_1_8, wq_2_0, wq_2_1, wq_2_2, wq_2_3, wq_2_4, wq_2_5, wq_2_6, wq_2_7, wq_2_8, wq_3_0, wq_3_1, wq_3_2, wq_3_3, wq_3_4, wq_3_5, wq_3_6, wq_3_7, wq_3_8, wq_4_0, wq_4_1, wq_4_2, wq_4_3, wq_4_4, wq_4_5, wq_4_6, wq_4_7, wq_4_8, wq_5_0, wq_5_1, wq_5_2, wq_5_3, wq_5_4, wq_5_5, wq_5_6, wq_5_7, wq_5_8, wq_6_0, wq_6_1, wq_6_2, wq_6_3, wq_6_4, wq_6_5, wq_6_6, wq_6_7, wq_6_8, wq_7_0, wq_7_1, wq_7_2, wq_7_3, wq_7_4, wq_7_5, wq_7_6, wq_7_7, wq_7_8, wq_8_0, wq_8_1, wq_8_2, wq_8_3, wq_8_4, wq_8_5, wq_8_6, wq_8_7, wq_8_8, range_eq 6 (by decide) (by decide)]; rfl) ⟨none, none, rfl, Dr.refl a⟩ ?_ ?_) ?_)
      (P := fun o h' => match o with | .rt d => ∃ f : F, d = f.d ∧ (f.ok far ∧ f.dep ≤ 6 ∧ f.parts.length ≤ most) ∧ Dr ns k h h' | _ => False) ?_
    · rintro i x ρ h1 _ ⟨y, z, rfl, d1⟩
      refine ⟨_, rfl, ?_⟩
      obtain ⟨r, h2, e2, l2, u2, d2⟩ := draw (n := n) 4 (by omega) (by omega) (by omega) (d1.at a)
      obtain ⟨q, hq⟩ : ∃ q : Nat, (2 : Int) + r = q := ⟨(2 + r).toNat, by omega⟩
      obtain ⟨f, h3, e3, ⟨s3, p3⟩, d3⟩ := sentence far hf hf6 q (by omega) n (by omega) (d2.at (d1.at a))
      have hpl := F.parts_le f
      have hpl2 : 2 ^ f.dep ≤ 2 ^ 12 := Nat.pow_le_pow_right (by omega) (by omega)
      have e4 := parts f n (by omega) (by show _ ≤ 16777216; omega) h3
      have e5 := deep f n (by omega) h3
      have D3 := (d1.trans d2).trans d3
      have hy : (decide ((f.parts.length : Int) ≤ (most : Int)) && decide ((f.dep : Int) < 7)) = (decide (f.parts.length ≤ most) && decide (f.dep < 7)) := by congr 1 <;> (congr 1; apply propext; omega)
      by_cases hc : f.parts.length ≤ most ∧ f.dep < 7
      · have hcb : (decide (f.parts.length ≤ most) && decide (f.dep < 7)) = true := by simp [hc]
        simp (disch := first | assumption | omega | (simp only [List.length_cons, List.length_nil]; omega)) only [x_c, x_g, x_v0, x_v1, x_v2, x_v3, x_v4, x_v5, x_v6, x_v7, x_v8, x_v9, x_v10, x_v11, x_v12, x_v13, x_v14, x_v15, x_tup, x_lst, x_op, x_neg, x_not, x_and, x_or, x_ite, x_cmp, x_chain, x_ix, x_sl, x_rev, x_call, x_meth, x_new, x_fld, x_isi, x_bi, x_listof, x_bm, x_nil, x_cons, x_eno, x_eso, x_ival, x_irange, x_irev, x_fcall, x_flst, x_flistof, x_asg, x_asgB, x_ex, x_ret, x_retF, x_site, x_raise, x_cont, x_pass, x_par, x_snil, x_scons, x_tnm, x_ttup, x_tsub, x_tfld, x_cono, x_con0, y_thenT, y_thenF, y_then, y_elseT, y_elseF, y_else, y_ifT, y_ifF, y_if, y_not, y_neg, y_opt, y_chT, y_chF, y_ch, y_seq, y_seqR, y_seqN, y_seqC, y_len0, y_len1, y_len2, y_len3, y_len4, y_len5, y_len6, y_fldQ, y_fldS, y_methQ, y_methS, y_setQ, y_setS, y_new, y_non, y_rvN, y_dV, y_dN, y_bindi, y_bindE, y_map, f_nx, f_rt, f_rn, f_ex, l_w0, l_ws, v_bind, v_some, v_add, v_sub, v_lt, v_le, v_gt, v_ge, v_eqI, v_eqS, v_neN, v_isN, v_isNN, v_ixL, v_ixT, v_lenS, v_lenL, v_lenT, List.getElem?_cons_zero, List.getElem?_cons_succ, List.set_cons_zero, List.set_cons_succ, List.length_cons, List.length_nil, Nat.reduceAdd, Option.map_some, if_true, f_if, Option.bind_some, Bool.true_or, Bool.or_true, Bool.false_or, Bool.or_false, Bool.true_and, Bool.and_true, Bool.false_and, Bool.and_false, Bool.not_true, Bool.not_false, Bool.false_eq_true, if_false, wq_0_0, wq_0_1, wq_0_2, wq_0_3, wq_0_4, wq_0_5, wq_0_6, wq_0_7, wq_0_8, wq_1_0, wq_1_1, wq_1_2, wq_1_3, wq_1_4, wq_1_5, wq_1_6, wq_1_7, wq_1_8, wq_2_0, wq_2_1, wq_2_2, wq_2_3, wq_2_4, wq_2_5, wq_2_6, wq_2_7, wq_2_8, wq_3_0, wq_3_1, wq_3_2, wq_3_3, wq_3_4, wq_3_5, wq_3_6, wq_3_7, wq_3_8, wq_4_0, wq_4_1, wq_4_2, wq_4_3, wq_4_4, wq_4_5, wq_4_6, wq_4_7, wq_4_8, wq_5_0, wq_5_1, wq_5_2, wq_5_3, wq_5_4, wq_5_5, wq_5_6, wq_5_7, wq_5_8, wq_6_0, wq_6_1, wq_6_2, wq_6_3, wq_6_4, wq_6_5, wq_6_6, wq_6_7, wq_6_8, wq_7_0, wq_7_1, wq_7_2, wq_7_3, wq_7_4, wq_7_5, wq_7_6, wq_7_7, wq_7_8, wq_8_0, wq_8_1, wq_8_2, wq_8_3, wq_8_4, wq_8_5, wq_8_6, wq_8_7, wq_8_8, e2, hq, e3, e4, e5, List.length_map, hy, hcb, get_ok]
        exact ⟨f, rfl, ⟨s3, by omega, hc.1⟩, D3⟩
      · have hcb : (decide (f.parts.length ≤ most) && decide (f.dep < 7)) = false := by simpa [Nat.not_lt] using fun z => Nat.not_lt.mp fun zz => hc ⟨z, zz⟩
        simp (disch := first | assumption | omega | (simp only [List.length_cons, List.length_nil]; omega)) only [x_c, x_g, x_v0, x_v1, x_v2, x_v3, x_v4, x_v5, x_v6, x_v7, x_v8, x_v9, x_v10, x_v11, x_v12, x_v13, x_v14, x_v15, x_tup, x_lst, x_op, x_neg, x_not, x_and, x_or, x_ite, x_cmp, x_chain, x_ix, x_sl, x_rev, x_call, x_meth, x_new, x_fld, x_isi, x_bi, x_listof, x_bm, x_nil, x_cons, x_eno, x_eso, x_ival, x_irange, x_irev, x_fcall, x_flst, x_flistof, x_asg, x_asgB, x_ex, x_ret, x_retF, x_site, x_raise, x_cont, x_pass, x_par, x_snil, x_scons, x_tnm, x_ttup, x_tsub, x_tfld, x_cono, x_con0, y_thenT, y_thenF, y_then, y_elseT, y_elseF, y_else, y_ifT, y_ifF, y_if, y_not, y_neg, y_opt, y_chT, y_chF, y_ch, y_seq, y_seqR, y_seqN, y_seqC, y_len0, y_len1, y_len2, y_len3, y_len4, y_len5, y_len6, y_fldQ, y_fldS, y_methQ, y_methS, y_setQ, y_setS, y_new, y_non, y_rvN, y_dV, y_dN, y_bindi, y_bindE, y_map, f_nx, f_rt, f_rn, f_ex, l_w0, l_ws, v_bind, v_some, v_add, v_sub, v_lt, v_le, v_gt, v_ge, v_eqI, v_eqS, v_neN, v_isN, v_isNN, v_ixL, v_ixT, v_lenS, v_lenL, v_lenT, List.getElem?_cons_zero, List.getElem?_cons_succ, List.set_cons_zero, List.set_cons_succ, List.length_cons, List.length_nil, Nat.reduceAdd, Option.map_some, if_true, f_if, Option.bind_some, Bool.true_or, Bool.or_true, Bool.false_or, Bool.or_false, Bool.true_and, Bool.and_true, Bool.false_and, Bool.and_false, Bool.not_true, Bool.not_false, Bool.false_eq_true, if_false, wq_0_0, wq_0_1, wq_0_2, wq_0_3, wq_0_4, wq_0_5, wq_0_6, wq_0_7, wq_0_8, wq_1_0, wq_1_1, wq_1_2, wq_1_3, wq_1_4, wq_1_5, wq_1_6, wq_1_7, wq_1_8, wq_2_0, wq_2_1, wq_2_2, wq_2_3, wq_2_4, wq_2_5, wq_2_6, wq_2_7, wq_2_8, wq_3_0, wq_3_1, wq_3_2, wq_3_3, wq_3_4, wq_3_5, wq_3_6, wq_3_7, wq_3_8, wq_4_0, wq_4_1, wq_4_2, wq_4_3, wq_4_4, wq_4_5, wq_4_6, wq_4_7, wq_4_8, wq_5_0, wq_5_1, wq_5_2, wq_5_3, wq_5_4, wq_5_5, wq_5_6, wq_5_7, wq_5_8, wq_6_0, wq_6_1, wq_6_2, wq_6_3, wq_6_4, wq_6_5, wq_6_6, wq_6_7, wq_6_8, wq_7_0, wq_7_1, wq_7_2, wq_7_3, wq_7_4, wq_7_5, wq_7_6, wq_7_7, wq_7_8, wq_8_0, wq_8_1, wq_8_2, wq_8_3, wq_8_4, wq_8_5, wq_8_6, wq_8_7, wq_8_8, e2, hq, e3, e4, e5, List.length_map, hy, hcb, get_ok]
        exact ⟨_, _, rfl, D3⟩
    · rintro ρ h1 ⟨y, z, rfl, d1⟩
      exact ⟨⟨_, _, rfl⟩, d1⟩
    · intro o h1 z
      cases o with
      | nx ρ =>
        obtain ⟨⟨y, z, rfl⟩, d1⟩ := z
        obtain ⟨f, h2, e2, ⟨hl, hl2, hl3⟩, d2⟩ := leaf (n := n) (by omega) (d1.at a)
        simp (disch := first | assumption | omega | (simp only [List.length_cons, List.length_nil]; omega)) only [x_c, x_g, x_v0, x_v1, x_v2, x_v3, x_v4, x_v5, x_v6, x_v7, x_v8, x_v9, x_v10, x_v11, x_v12, x_v13, x_v14, x_v15, x_tup, x_lst, x_op, x_neg, x_not, x_and, x_or, x_ite, x_cmp, x_chain, x_ix, x_sl, x_rev, x_call, x_meth, x_new, x_fld, x_isi, x_bi, x_listof, x_bm, x_nil, x_cons, x_eno, x_eso, x_ival, x_irange, x_irev, x_fcall, x_flst, x_flistof, x_asg, x_asgB, x_ex, x_ret, x_retF, x_site, x_raise, x_cont, x_pass, x_par, x_snil, x_scons, x_tnm, x_ttup, x_tsub, x_tfld, x_cono, x_con0, y_thenT, y_thenF, y_then, y_elseT, y_elseF, y_else, y_ifT, y_ifF, y_if, y_not, y_neg, y_opt, y_chT, y_chF, y_ch, y_seq, y_seqR, y_seqN, y_seqC, y_len0, y_len1, y_len2, y_len3, y_len4, y_len5, y_len6, y_fldQ, y_fldS, y_methQ, y_methS, y_setQ, y_setS, y_new, y_non, y_rvN, y_dV, y_dN, y_bindi, y_bindE, y_map, f_nx, f_rt, f_rn, f_ex, l_w0, l_ws, v_bind, v_some, v_add, v_sub, v_lt, v_le, v_gt, v_ge, v_eqI, v_eqS, v_neN, v_isN, v_isNN, v_ixL, v_ixT, v_lenS, v_lenL, v_lenT, List.getElem?_cons_zero, List.getElem?_cons_succ, List.set_cons_zero, List.set_cons_succ, List.length_cons, List.length_nil, Nat.reduceAdd, Option.map_some, if_true, f_if, Option.bind_some, Bool.true_or, Bool.or_true, Bool.false_or, Bool.or_false, Bool.true_and, Bool.and_true, Bool.false_and, Bool.and_false, Bool.not_true, Bool.not_false, Bool.false_eq_true, if_false, wq_0_0, wq_0_1, wq_0_2, wq_0_3, wq_0_4, wq_0_5, wq_0_6, wq_0_7, wq_0_8, wq_1_0, wq_1_1, wq_1_2, wq_1_3, wq_1_4, wq_1_5, wq_1_6, wq_1_7, wq_1_8, wq_2_0, wq_2_1, wq_2_2, wq_2_3, wq_2_4, wq_2_5, wq_2_6, wq_2_7, wq_2_8, wq_3_0, wq_3_1, wq_3_2, wq_3_3, wq_3_4, wq_3_5, wq_3_6, wq_3_7, wq_3_8, wq_4_0, wq_4_1, wq_4_2, wq_4_3, wq_4_4, wq_4_5, wq_4_6, wq_4_7, wq_4_8, wq_5_0, wq_5_1, wq_5_2, wq_5_3, wq_5_4, wq_5_5, wq_5_6, wq_5_7, wq_5_8, wq_6_0, wq_6_1, wq_6_2, wq_6_3, wq_6_4, wq_6_5, wq_6_6, wq_6_7, wq_6_8, wq_7_0, wq_7_1, wq_7_2, wq_7_3, wq_7_4, wq_7_5, wq_7_6, wq_7_7, wq_7_8, wq_8_0, wq_8_1, wq_8_2, wq_8_3, wq_8_4, wq_8_5, wq_8_6, wq_8_7, wq_8_8, e2, get_ok]
        exact ⟨f, rfl, ⟨hl _, by omega, by omega⟩, d1.trans d2⟩
      | rt d => exact z
      | ct ρ => exact z.elim
      | rn d => exact z.elim
    · intro o h1 z
      cases o with
      | rt d =>
        obtain ⟨f, rfl, z⟩ := z
        exact ⟨f, rfl, z⟩
      | nx ρ => exact z.elim
      | ct ρ => exact z.elim
      | rn d => exact z.elim
  obtain ⟨rv, h', e, f, rfl, z⟩ := get_ex key
  exact ⟨f, h', e, z⟩
end K03

namespace K03
open Mn
theorem Dr.len {ns : List Int} {k : Nat} {h h' : VH} (d : Dr ns k h h') : h'.length = h.length := by
  obtain ⟨o, rfl, _⟩ := d; simp
theorem At.lt {ns : List Int} {k : Nat} {h : VH} (a : At ns k h) : k < h.length := by
  obtain ⟨o, hk, _⟩ := a; exact (List.getElem?_eq_some_iff.mp hk).1
theorem At.app {ns : List Int} {k : Nat} {h : VH} (a : At ns k h) (t : VH) : At ns k (h ++ t) := by
  have := a.lt
  obtain ⟨o, hk, ho⟩ := a
  exact ⟨o, by rw [List.getElem?_append_left this, hk], ho⟩
theorem Dr.app {ns : List Int} {k : Nat} {h h' t : VH} (a : At ns k h) (d : Dr ns k (h ++ t) h') : ∃ hh, h' = hh ++ t ∧ Dr ns k h hh := by
  have := a.lt
  obtain ⟨o, rfl, ho⟩ := d
  exact ⟨h.set k o, by rw [List.set_append_left _ _ this], o, rfl, ho⟩
theorem drawA {ns : List Int} {k : Nat} {h : VH} {n : Nat} (t : VH) (m : Int) (hn : 1 ≤ n) (hm : 0 < m) (hm2 : m < 1073741824) (a : At ns k h) : ∃ r h', run cfg tbl n 1000 [.ref k, .int m] (h ++ t) = .ok (.val (.int r)) (h' ++ t) ∧ 0 ≤ r ∧ r < m ∧ Dr ns k h h' := by
  obtain ⟨r, h1, e, l, u, d⟩ := draw (n := n) m hn hm hm2 (a.app t)
  obtain ⟨h', rfl, d'⟩ := d.app a
  exact ⟨r, h', e, l, u, d'⟩
theorem ix_any (xs : List D) (s : Int) (h0 : 0 ≤ s) (h1 : s < xs.length) : ∃ x, x ∈ xs ∧ ixL xs (.int s) = some x := by
  obtain ⟨n, rfl⟩ : ∃ n : Nat, s = n := ⟨s.toNat, by omega⟩
  have hn : n < xs.length := by omega
  exact ⟨xs[n], List.getElem_mem hn, v_at _ _ _ (List.getElem?_eq_getElem hn)⟩
theorem row_clean {ns : List Int} {o : O} (n : Nat) (h : RowOk o ns) : cleanO n o = true := by
  obtain ⟨p, s, b, rfl, _⟩ := h; rfl
theorem gcOk_row {ns : List Int} {k : Nat} {h h' : VH} (t : VH) (d : Dr ns k h h') : gcOk h (h' ++ t) = true := by
  have hl := d.len
  obtain ⟨o, rfl, ho⟩ := d
  simp only [gcOk, List.length_append, List.length_set, Bool.and_eq_true, decide_eq_true_eq, List.all_eq_true, Bool.or_eq_true]
  refine ⟨by omega, fun i hi => ?_⟩
  have hi : i < h.length := by simpa using hi
  rw [List.getElem?_append_left (by simpa using hi)]
  by_cases e : k = i
  · subst e
    right
    rw [List.getElem?_set_self hi]
    exact row_clean _ ho
  · left
    rw [List.getElem?_set_ne e]
theorem gd_fin {ns : List Int} {k : Nat} {h h' : VH} (t : VH) (xs : List D) (d : Dr ns k h h') (hc : cleans h.length xs = true) : finish true h (.ok (.rt (.ref h.length)) (h' ++ .lst xs :: t)) = .ok (.new xs) h' := by
  have hl := d.len
  simp only [finish, gcOk_row _ d, if_true, outV, freeze]
  rw [if_neg (by omega)]
  have : (h' ++ O.lst xs :: t)[h.length]? = some (.lst xs) := by rw [← hl]; exact get_app_new _ _ _
  simp only [this, hc, if_true, R.ofO]
  rw [← hl, List.take_left']; rfl
theorem gd_new {ns : List Int} {k : Nat} {h h' : VH} (t : VH) (xs : List D) (d : Dr ns k h h') (hc : cleans h.length xs = true) : finish true h (.ok (.rn xs) (h' ++ t)) = .ok (.new xs) h' := by
  have hl := d.len
  simp only [finish, gcOk_row _ d, if_true, outV, hc, R.ofO]
  rw [← hl, List.take_left']; rfl
theorem gd_rt {ns : List Int} {k : Nat} {h h' : VH} (t : VH) (x : D) (d : Dr ns k h h') (hx : plain x = true) : finish true h (.ok (.rt x) (h' ++ t)) = .ok (.val x) h' := by
  have hl := d.len
  have hf : freeze h.length (h' ++ t) x = some (.val x) := by
    cases x with
    | ref n => simp [plain] at hx
    | _ => simp only [freeze]; rw [if_pos (clean_plain _ _ hx)]
  simp only [finish, gcOk_row _ d, if_true, outV, hf, R.ofO]
  rw [← hl, List.take_left']; rfl
theorem row {ns : List Int} {k : Nat} {h : VH} {n : Nat} (most : Nat) (hn : 10 ≤ n) (hm : most ≤ 200) (a : At ns k h) :
    ∃ (r : List Hap) (h' : VH), run cfg tbl n 1008 [.ref k, .int most] h = .ok (.new (r.map Hap.d)) h' ∧ (RowGood r ∧ r.length ≤ most) ∧ Dr ns k h h' := by
  obtain ⟨n, rfl⟩ : ∃ q, n = q + 1 := ⟨n - 1, by omega⟩
  have key : (run cfg tbl (n + 1) 1008 [.ref k, .int most] h).get fun rv h' => ∃ r : List Hap, rv = .new (r.map Hap.d) ∧ (RowGood r ∧ r.length ≤ most) ∧ Dr ns k h h' := by
    rw [u_1008]
    simp only [fn_1008]
    obtain ⟨r1, h1, e1, l1, u1, d1⟩ := drawA (n := n) [.lst []] 900000 (by omega) (by omega) (by omega) a
    obtain ⟨r2, h2, e2, l2, u2, d2⟩ := drawA (n := n) [.lst []] 3 (by omega) (by omega) (by omega) (d1.at a)
    obtain ⟨x1, hx1, ex1⟩ := ix_any [.int 0, .int 0, .int r1] r2 l2 u2
    obtain ⟨t0, rfl, ht0, ht1⟩ : ∃ t : Int, x1 = .int t ∧ 0 ≤ t ∧ t < 900000 := by
      simp only [List.mem_cons, List.mem_nil_iff, or_false] at hx1
      rcases hx1 with rfl | rfl | rfl
      · exact ⟨0, rfl, by omega, by omega⟩
      · exact ⟨0, rfl, by omega, by omega⟩
      · exact ⟨r1, rfl, by omega, by omega⟩
    have D2 := d1.trans d2
    obtain ⟨r3, h3, e3, l3, u3, d3⟩ := drawA (n := n) [.lst []] 5 (by omega) (by omega) (by omega) (D2.at a)
    obtain ⟨x2, hx2, ex2⟩ := ix_any [.int 1, .int 2, .int 4, .int 9, .int 400] r3 l3 u3
    obtain ⟨wd, rfl, hw0, hw1⟩ : ∃ t : Int, x2 = .int t ∧ 0 < t ∧ t ≤ 400 := by
      simp only [List.mem_cons, List.mem_nil_iff, or_false] at hx2
      rcases hx2 with rfl | rfl | rfl | rfl | rfl
      · exact ⟨1, rfl, by omega, by omega⟩
      · exact ⟨2, rfl, by omega, by omega⟩
      · exact ⟨4, rfl, by omega, by omega⟩
      · exact ⟨9, rfl, by omega, by omega⟩
      · exact ⟨400, rfl, by omega, by omega⟩
    have D3 := D2.trans d3
    obtain ⟨r4, h4, e4, l4, u4, d4⟩ := drawA (n := n) [.lst []] (most + 1) (by omega) (by omega) (by omega) (D3.at a)
    have D4 := D3.trans d4
    have hl5 : ([D.int 1, .int 2, .int 4, .int 9, .int 400] : List D).length ≤ LINE := by show 5 ≤ LINE; decide
    simp (disch := first | assumption | omega | (simp only [List.length_cons, List.length_nil]; omega)) only [x_c, x_g, x_v0, x_v1, x_v2, x_v3, x_v4, x_v5, x_v6, x_v7, x_v8, x_v9, x_v10, x_v11, x_v12, x_v13, x_v14, x_v15, x_tup, x_lst, x_op, x_neg, x_not, x_and, x_or, x_ite, x_cmp, x_chain, x_ix, x_sl, x_rev, x_call, x_meth, x_new, x_fld, x_isi, x_bi, x_listof, x_bm, x_nil, x_cons, x_eno, x_eso, x_ival, x_irange, x_irev, x_fcall, x_flst, x_flistof, x_asg, x_asgB, x_ex, x_ret, x_retF, x_site, x_raise, x_cont, x_pass, x_par, x_snil, x_scons, x_tnm, x_ttup, x_tsub, x_tfld, x_cono, x_con0, y_thenT, y_thenF, y_then, y_elseT, y_elseF, y_else, y_ifT, y_ifF, y_if, y_not, y_neg, y_opt, y_chT, y_chF, y_ch, y_seq, y_seqR, y_seqN, y_seqC, y_len0, y_len1, y_len2, y_len3, y_len4, y_len5, y_len6, y_fldQ, y_fldS, y_methQ, y_methS, y_setQ, y_setS, y_new, y_non, y_rvN, y_dV, y_dN, y_bindi, y_bindE, y_map, f_nx, f_rt, f_rn, f_ex, l_w0, l_ws, v_bind, v_some, v_add, v_sub, v_lt, v_le, v_gt, v_ge, v_eqI, v_eqS, v_neN, v_isN, v_isNN, v_ixL, v_ixT, v_lenS, v_lenL, v_lenT, List.getElem?_cons_zero, List.getElem?_cons_succ, List.set_cons_zero, List.set_cons_succ, List.length_cons, List.length_nil, Nat.reduceAdd, Option.map_some, if_true, f_if, Option.bind_some, Bool.true_or, Bool.or_true, Bool.false_or, Bool.or_false, Bool.true_and, Bool.and_true, Bool.false_and, Bool.and_false, Bool.not_true, Bool.not_false, Bool.false_eq_true, if_false, wq_0_0, wq_0_1, wq_0_2, wq_0_3, wq_0_4, wq_0_5, wq_0_6, wq_0_7, wq_0_8, wq_1_0, wq_1_1, wq_1_2, wq_1_3, wq_1_4, wq_1_5, wq_1_6, wq_1_7, wq_1_8, wq_2_0, wq_2_1, wq_2_2, wq_2_3, wq_2_4, wq_2_5, wq_2_6, wq_2_7, wq_2_8, wq_3_0, wq_3_1, wq_3_2, wq_3_3, wq_3_4, wq_3_5, wq_3_6, wq_3_7, wq_3_8, wq_4_0, wq_4_1, wq_4_2, wq_4_3, wq_4_4, wq_4_5, wq_4_6, wq_4_7, wq_4_8, wq_5_0, wq_5_1, wq_5_2, wq_5_3, wq_5_4, wq_5_5, wq_5_6, wq_5_7, wq_5_8, wq_6_0, wq_6_1, wq_6_2, wq_6_3, wq_6_4, wq_6_5, wq_6_6, wq_6_7, wq_6_8, wq_7_0, wq_7_1, wq_7_2, wq_7_3, wq_7_4, wq_7_5, wq_7_6, wq_7_7, wq_7_8, wq_8_0, wq_8_1, wq_8_2, wq_8_3, wq_8_4, wq_8_5, wq_8_6, wq_8_7, wq_8_8, x_flst, Nat.zero_le, e1, e2, e3, ex1, ex2]
    refine get_fing (get_bind (e_for' (fun i ρ h' => ∃ (hh : VH) (r : List Hap) (t : Int) (x : Option D), ρ = [some (.ref k), some (.int most), some (.ref h.length), some (.int t), some (.int wd), x] ∧ Dr ns k h hh ∧ h' = hh ++ [.lst (r.map Hap.d)] ∧ r.length = i ∧ (∀ x ∈ r, x.ok ∧ x.t < t) ∧ (r.Pairwise fun a b => a.t < b.t) ∧ 0 ≤ t ∧ t ≤ 900000 + 400 * i)
      (fun o h' => ∃ (hh : VH) (r : List Hap) (t : Int) (x : Option D), o = .nx [some (.ref k), some (.int most), some (.ref h.length), some (.int t), some (.int wd), x] ∧ Dr ns k h hh ∧ h' = hh ++ [.lst (r.map Hap.d)] ∧ RowGood r ∧ r.length ≤ most)
      ((List.range r4.toNat).map fun k : Nat => .int k) ?_ ⟨h4, [], t0, none, rfl, D4, rfl, rfl, by simp, by simp, by omega, by omega⟩ ?_ ?_) ?_) (P := fun o h' => ∃ (hh : VH) (r : List Hap), o = .rt (.ref h.length) ∧ Dr ns k h hh ∧ h' = hh ++ [.lst (r.map Hap.d)] ∧ RowGood r ∧ r.length ≤ most) ?_
    · simp (disch := first | assumption | omega | (simp only [List.length_cons, List.length_nil]; omega)) only [x_c, x_g, x_v0, x_v1, x_v2, x_v3, x_v4, x_v5, x_v6, x_v7, x_v8, x_v9, x_v10, x_v11, x_v12, x_v13, x_v14, x_v15, x_tup, x_lst, x_op, x_neg, x_not, x_and, x_or, x_ite, x_cmp, x_chain, x_ix, x_sl, x_rev, x_call, x_meth, x_new, x_fld, x_isi, x_bi, x_listof, x_bm, x_nil, x_cons, x_eno, x_eso, x_ival, x_irange, x_irev, x_fcall, x_flst, x_flistof, x_asg, x_asgB, x_ex, x_ret, x_retF, x_site, x_raise, x_cont, x_pass, x_par, x_snil, x_scons, x_tnm, x_ttup, x_tsub, x_tfld, x_cono, x_con0, y_thenT, y_thenF, y_then, y_elseT, y_elseF, y_else, y_ifT, y_ifF, y_if, y_not, y_neg, y_opt, y_chT, y_chF, y_ch, y_seq, y_seqR, y_seqN, y_seqC, y_len0, y_len1, y_len2, y_len3, y_len4, y_len5, y_len6, y_fldQ, y_fldS, y_methQ, y_methS, y_setQ, y_setS, y_new, y_non, y_rvN, y_dV, y_dN, y_bindi, y_bindE, y_map, f_nx, f_rt, f_rn, f_ex, l_w0, l_ws, v_bind, v_some, v_add, v_sub, v_lt, v_le, v_gt, v_ge, v_eqI, v_eqS, v_neN, v_isN, v_isNN, v_ixL, v_ixT, v_lenS, v_lenL, v_lenT, List.getElem?_cons_zero, List.getElem?_cons_succ, List.set_cons_zero, List.set_cons_succ, List.length_cons, List.length_nil, Nat.reduceAdd, Option.map_some, if_true, f_if, Option.bind_some, Bool.true_or, Bool.or_true, Bool.false_or, Bool.or_false, Bool.true_and, Bool.and_true, Bool.false_and, Bool.and_false, Bool.not_true, Bool.not_false, Bool.false_eq_true, if_false, wq_0_0, wq_0_1, wq_0_2, wq_0_3, wq_0_4, wq_0_5, wq_0_6, wq_0_7, wq_0_8, wq_1_0, wq_1_1, wq_1_2, wq_1_3, wq_1_4, wq_1_5, wq_1_6, wq_1_7, wq_1_8, wq_2_0, wq_2_1, wq_2_2, wq_2_3, wq_2_4, wq_2_5, wq_2_6, wq_2_7, wq_2_8, wq_3_0, wq_3_1, wq_3_2, wq_3_3, wq_3_4, wq_3_5, wq_3_6, wq_3_7, wq_3_8, wq_4_0, wq_4_1, wq_4_2, wq_4_3, wq_4_4, wq_4_5, wq_4_6, wq_4_7, wq_4_8, wq_5_0, wq_5_1, wq_5_2, wq_5_3, wq_5_4, wq_5_5, wq_5_6, wq_5_7, wq_5_8, wq_6_0, wq_6_1, wq_6_2, wq_6_3, wq_6_4, wq_6_5, wq_6_6, wq_6_7, wq_6_8, wq_7_0, wq_7_1, wq_7_2, wq_7_3, wq_7_4, wq_7_5, wq_7_6, wq_7_7, wq_7_8, wq_8_0, wq_8_1, wq_8_2, wq_8_3, wq_8_4, wq_8_5, wq_8_6, wq_8_7, wq_8_8, e4, range_eq r4 (by omega) (by omega)]; rfl
    · rintro i x ρ h' hi ⟨hh, r, t, x0, rfl, dd, rfl, hr, hok, hup, ht0, ht⟩
      have hil : i < r4.toNat := by
        have := (List.getElem?_eq_some_iff.mp hi).1
        simpa using this
      refine ⟨_, rfl, ?_⟩
      obtain ⟨q1, g1, f1, a1, b1, c1⟩ := drawA (n := n) [.lst (r.map Hap.d)] 2 (by omega) (by omega) (by omega) (dd.at a)
      have C1 := dd.trans c1
      obtain ⟨q2, g2, f2, a2, b2, c2⟩ := drawA (n := n) [.lst (r.map Hap.d)] (if q1 = 0 then 2 else 4) (by omega) (by split <;> omega) (by split <;> omega) (C1.at a)
      have C2 := C1.trans c2
      obtain ⟨q3, g3, f3, a3, b3, c3⟩ := drawA (n := n) [.lst (r.map Hap.d)] 2 (by omega) (by omega) (by omega) (C2.at a)
      have C3 := C2.trans c3
      obtain ⟨q4, g4, f4, a4, b4, c4⟩ := drawA (n := n) [.lst (r.map Hap.d)] (if q3 = 0 then 3 else 10) (by omega) (by split <;> omega) (by split <;> omega) (C3.at a)
      have C4 := C3.trans c4
      have hg : (g4 ++ [O.lst (r.map Hap.d)])[h.length]? = some (.lst (r.map Hap.d)) := by rw [← C4.len]; exact get_app_new _ _ _
      have hg0 : (hh ++ [O.lst (r.map Hap.d)])[h.length]? = some (.lst (r.map Hap.d)) := by rw [← dd.len]; exact get_app_new _ _ _
      have hs : (g4 ++ [O.lst (r.map Hap.d)]).set h.length (.lst (r.map Hap.d ++ [.tup [.int t, .int q2, .int q4]])) = g4 ++ [.lst ((r ++ [(⟨t, q2, q4⟩ : Hap)]).map Hap.d)] := by
        rw [← C4.len, set_app_new]; simp [Hap.d]
      obtain ⟨q5, g5, f5, a5, b5, c5⟩ := drawA (n := n) [.lst ((r ++ [(⟨t, q2, q4⟩ : Hap)]).map Hap.d)] wd (by omega) (by omega) (by omega) (C4.at a)
      simp (disch := first | assumption | omega | (simp only [List.length_cons, List.length_nil]; omega)) only [x_c, x_g, x_v0, x_v1, x_v2, x_v3, x_v4, x_v5, x_v6, x_v7, x_v8, x_v9, x_v10, x_v11, x_v12, x_v13, x_v14, x_v15, x_tup, x_lst, x_op, x_neg, x_not, x_and, x_or, x_ite, x_cmp, x_chain, x_ix, x_sl, x_rev, x_call, x_meth, x_new, x_fld, x_isi, x_bi, x_listof, x_bm, x_nil, x_cons, x_eno, x_eso, x_ival, x_irange, x_irev, x_fcall, x_flst, x_flistof, x_asg, x_asgB, x_ex, x_ret, x_retF, x_site, x_raise, x_cont, x_pass, x_par, x_snil, x_scons, x_tnm, x_ttup, x_tsub, x_tfld, x_cono, x_con0, y_thenT, y_thenF, y_then, y_elseT, y_elseF, y_else, y_ifT, y_ifF, y_if, y_not, y_neg, y_opt, y_chT, y_chF, y_ch, y_seq, y_seqR, y_seqN, y_seqC, y_len0, y_len1, y_len2, y_len3, y_len4, y_len5, y_len6, y_fldQ, y_fldS, y_methQ, y_methS, y_setQ, y_setS, y_new, y_non, y_rvN, y_dV, y_dN, y_bindi, y_bindE, y_map, f_nx, f_rt, f_rn, f_ex, l_w0, l_ws, v_bind, v_some, v_add, v_sub, v_lt, v_le, v_gt, v_ge, v_eqI, v_eqS, v_neN, v_isN, v_isNN, v_ixL, v_ixT, v_lenS, v_lenL, v_lenT, List.getElem?_cons_zero, List.getElem?_cons_succ, List.set_cons_zero, List.set_cons_succ, List.length_cons, List.length_nil, Nat.reduceAdd, Option.map_some, if_true, f_if, Option.bind_some, Bool.true_or, Bool.or_true, Bool.false_or, Bool.or_false, Bool.true_and, Bool.and_true, Bool.false_and, Bool.and_false, Bool.not_true, Bool.not_false, Bool.false_eq_true, if_false, wq_0_0, wq_0_1, wq_0_2, wq_0_3, wq_0_4, wq_0_5, wq_0_6, wq_0_7, wq_0_8, wq_1_0, wq_1_1, wq_1_2, wq_1_3, wq_1_4, wq_1_5, wq_1_6, wq_1_7, wq_1_8, wq_2_0, wq_2_1, wq_2_2, wq_2_3, wq_2_4, wq_2_5, wq_2_6, wq_2_7, wq_2_8, wq_3_0, wq_3_1, wq_3_2, wq_3_3, wq_3_4, wq_3_5, wq_3_6, wq_3_7, wq_3_8, wq_4_0, wq_4_1, wq_4_2, wq_4_3, wq_4_4, wq_4_5, wq_4_6, wq_4_7, wq_4_8, wq_5_0, wq_5_1, wq_5_2, wq_5_3, wq_5_4, wq_5_5, wq_5_6, wq_5_7, wq_5_8, wq_6_0, wq_6_1, wq_6_2, wq_6_3, wq_6_4, wq_6_5, wq_6_6, wq_6_7, wq_6_8, wq_7_0, wq_7_1, wq_7_2, wq_7_3, wq_7_4, wq_7_5, wq_7_6, wq_7_7, wq_7_8, wq_8_0, wq_8_1, wq_8_2, wq_8_3, wq_8_4, wq_8_5, wq_8_6, wq_8_7, wq_8_8, f1, f2, f3, f4, f5, two_ix _ _ _ a1 b1, two_ix _ _ _ a3 b3, v_append _ _ _ _ hg (by show _ < 16777216; simp; omega), t_append _ _ _ hg0, hs, get_ok]
      refine ⟨g5, _, _, _, rfl, C4.trans c5, rfl, by simp [hr], ?_, ?_, by omega, by omega⟩
      · intro x hx
        rcases List.mem_append.mp hx with hx | hx
        · have := hok x hx; exact ⟨this.1, by omega⟩
        · simp only [List.mem_cons, List.mem_nil_iff, or_false] at hx
          subst hx
          refine ⟨⟨by simpa using ht0, by show t ≤ 1000000; omega, a2, by show q2 ≤ 3; split at b2 <;> omega, a4, by show q4 ≤ 9; split at b4 <;> omega⟩, by show t < _; omega⟩
      · rw [List.pairwise_append]
        exact ⟨hup, by simp, fun x hx y hy => by simp only [List.mem_cons, List.mem_nil_iff, or_false] at hy; subst hy; exact (hok x hx).2⟩
    · rintro ρ h' ⟨hh, r, t, x0, rfl, dd, rfl, hr, hok, hup, ht0, ht⟩
      have hl : r.length = r4.toNat := by simpa using hr
      exact ⟨hh, r, t, x0, rfl, dd, rfl, ⟨by omega, fun x hx => (hok x hx).1, hup⟩, by omega⟩
    · rintro o h' ⟨hh, r, t, x0, rfl, dd, rfl, hg, hl⟩
      simp (disch := first | assumption | omega | (simp only [List.length_cons, List.length_nil]; omega)) only [x_c, x_g, x_v0, x_v1, x_v2, x_v3, x_v4, x_v5, x_v6, x_v7, x_v8, x_v9, x_v10, x_v11, x_v12, x_v13, x_v14, x_v15, x_tup, x_lst, x_op, x_neg, x_not, x_and, x_or, x_ite, x_cmp, x_chain, x_ix, x_sl, x_rev, x_call, x_meth, x_new, x_fld, x_isi, x_bi, x_listof, x_bm, x_nil, x_cons, x_eno, x_eso, x_ival, x_irange, x_irev, x_fcall, x_flst, x_flistof, x_asg, x_asgB, x_ex, x_ret, x_retF, x_site, x_raise, x_cont, x_pass, x_par, x_snil, x_scons, x_tnm, x_ttup, x_tsub, x_tfld, x_cono, x_con0, y_thenT, y_thenF, y_then, y_elseT, y_elseF, y_else, y_ifT, y_ifF, y_if, y_not, y_neg, y_opt, y_chT, y_chF, y_ch, y_seq, y_seqR, y_seqN, y_seqC, y_len0, y_len1, y_len2, y_len3, y_len4, y_len5, y_len6, y_fldQ, y_fldS, y_methQ, y_methS, y_setQ, y_setS, y_new, y_non, y_rvN, y_dV, y_dN, y_bindi, y_bindE, y_map, f_nx, f_rt, f_rn, f_ex, l_w0, l_ws, v_bind, v_some, v_add, v_sub, v_lt, v_le, v_gt, v_ge, v_eqI, v_eqS, v_neN, v_isN, v_isNN, v_ixL, v_ixT, v_lenS, v_lenL, v_lenT, List.getElem?_cons_zero, List.getElem?_cons_succ, List.set_cons_zero, List.set_cons_succ, List.length_cons, List.length_nil, Nat.reduceAdd, Option.map_some, if_true, f_if, Option.bind_some, Bool.true_or, Bool.or_true, Bool.false_or, Bool.or_false, Bool.true_and, Bool.and_true, Bool.false_and, Bool.and_false, Bool.not_true, Bool.not_false, Bool.false_eq_true, if_false, wq_0_0, wq_0_1, wq_0_2, wq_0_3, wq_0_4, wq_0_5, wq_0_6, wq_0_7, wq_0_8, wq_1_0, wq_1_1, wq_1_2, wq_1_3, wq_1_4, wq_1_5, wq_1_6, wq_1_7, wq_1_8, wq_2_0, wq_2_1, wq_2_2, wq_2_3, wq_2_4, wq_2_5, wq_2_6, wq_2_7, wq_2_8, wq_3_0, wq_3_1, wq_3_2, wq_3_3, wq_3_4, wq_3_5, wq_3_6, wq_3_7, wq_3_8, wq_4_0, wq_4_1, wq_4_2, wq_4_3, wq_4_4, wq_4_5, wq_4_6, wq_4_7, wq_4_8, wq_5_0, wq_5_1, wq_5_2, wq_5_3, wq_5_4, wq_5_5, wq_5_6, wq_5_7, wq_5_8, wq_6_0, wq_6_1, wq_6_2, wq_6_3, wq_6_4, wq_6_5, wq_6_6, wq_6_7, wq_6_8, wq_7_0, wq_7_1, wq_7_2, wq_7_3, wq_7_4, wq_7_5, wq_7_6, wq_7_7, wq_7_8, wq_8_0, wq_8_1, wq_8_2, wq_8_3, wq_8_4, wq_8_5, wq_8_6, wq_8_7, wq_8_8, get_ok]
      exact ⟨hh, r, trivial, dd, rfl, hg, hl⟩
    · rintro o h' ⟨hh, r, rfl, dd, rfl, hg, hl⟩
      rw [gd_fin _ _ dd (cleans_plain _ _ (plains_map _ Hap.plain r)), get_ok]
      exact ⟨r, rfl, ⟨hg, hl⟩, dd⟩
  obtain ⟨rv, h', e, r, rfl, z⟩ := get_ex key
  exact ⟨r, h', e, z⟩
end K03

namespace K03
open Mn
theorem fm_in (h : VH) (f : F) : cpD cfg.gds h .notin (.str f.word) (.gd 0) = some false := by cases f <;> rfl
theorem fm_ix (h : VH) (f : F) : ixD cfg.gds h (.gd 0) (.str f.word) = some (.str f.form) := by cases f <;> rfl
theorem cases6 {a : Int} (h : 1 ≤ a) (h2 : a ≤ 6) : a = 1 ∨ a = 2 ∨ a = 3 ∨ a = 4 ∨ a = 5 ∨ a = 6 := by omega
theorem is_one {n : Nat} (hn : 3 ≤ n) (f : F) (hf : f.ok 6) (h : VH) : run cfg tbl n 16 [f.d] h = .ok (.val (.bl true)) h := by
  obtain ⟨n, rfl⟩ : ∃ q, n = q + 3 := ⟨n - 3, by omega⟩
  have hne : ((f.form.length : Int) + 1 == (f.form.length : Int) + 1) = true := by simp
  rw [u_16]
  simp (disch := first | assumption | omega | (simp only [List.length_cons, List.length_nil]; omega)) only [x_c, x_g, x_v0, x_v1, x_v2, x_v3, x_v4, x_v5, x_v6, x_v7, x_v8, x_v9, x_v10, x_v11, x_v12, x_v13, x_v14, x_v15, x_tup, x_lst, x_op, x_neg, x_not, x_and, x_or, x_ite, x_cmp, x_chain, x_ix, x_sl, x_rev, x_call, x_meth, x_new, x_fld, x_isi, x_bi, x_listof, x_bm, x_nil, x_cons, x_eno, x_eso, x_ival, x_irange, x_irev, x_fcall, x_flst, x_flistof, x_asg, x_asgB, x_ex, x_ret, x_retF, x_site, x_raise, x_cont, x_pass, x_par, x_snil, x_scons, x_tnm, x_ttup, x_tsub, x_tfld, x_cono, x_con0, y_thenT, y_thenF, y_then, y_elseT, y_elseF, y_else, y_ifT, y_ifF, y_if, y_not, y_neg, y_opt, y_chT, y_chF, y_ch, y_seq, y_seqR, y_seqN, y_seqC, y_len0, y_len1, y_len2, y_len3, y_len4, y_len5, y_len6, y_fldQ, y_fldS, y_methQ, y_methS, y_setQ, y_setS, y_new, y_non, y_rvN, y_dV, y_dN, y_bindi, y_bindE, y_map, f_nx, f_rt, f_rn, f_ex, l_w0, l_ws, v_bind, v_some, v_add, v_sub, v_lt, v_le, v_gt, v_ge, v_eqI, v_eqS, v_neN, v_isN, v_isNN, v_ixL, v_ixT, v_lenS, v_lenL, v_lenT, List.getElem?_cons_zero, List.getElem?_cons_succ, List.set_cons_zero, List.set_cons_succ, List.length_cons, List.length_nil, Nat.reduceAdd, Option.map_some, if_true, f_if, Option.bind_some, Bool.true_or, Bool.or_true, Bool.false_or, Bool.or_false, Bool.true_and, Bool.and_true, Bool.false_and, Bool.and_false, Bool.not_true, Bool.not_false, Bool.false_eq_true, if_false, wq_0_0, wq_0_1, wq_0_2, wq_0_3, wq_0_4, wq_0_5, wq_0_6, wq_0_7, wq_0_8, wq_1_0, wq_1_1, wq_1_2, wq_1_3, wq_1_4, wq_1_5, wq_1_6, wq_1_7, wq_1_8, wq_2_0, wq_2_1, wq_2_2, wq_2_3, wq_2_4, wq_2_5, wq_2_6, wq_2_7, wq_2_8, wq_3_0, wq_3_1, wq_3_2, wq_3_3, wq_3_4, wq_3_5, wq_3_6, wq_3_7, wq_3_8, wq_4_0, wq_4_1, wq_4_2, wq_4_3, wq_4_4, wq_4_5, wq_4_6, wq_4_7, wq_4_8, wq_5_0, wq_5_1, wq_5_2, wq_5_3, wq_5_4, wq_5_5, wq_5_6, wq_5_7, wq_5_8, wq_6_0, wq_6_1, wq_6_2, wq_6_3, wq_6_4, wq_6_5, wq_6_6, wq_6_7, wq_6_8, wq_7_0, wq_7_1, wq_7_2, wq_7_3, wq_7_4, wq_7_5, wq_7_6, wq_7_7, wq_7_8, wq_8_0, wq_8_1, wq_8_2, wq_8_3, wq_8_4, wq_8_5, wq_8_6, wq_8_7, wq_8_8, fn_16, F.isi, F.eqE, F.ix0, isi_S, fm_in, fm_ix, F.lenD, v_lenStr, hne]
  cases f with
  | is w =>
    obtain ⟨h0, h1⟩ := hf
    have : w = 0 ∨ w = 1 ∨ w = 2 ∨ w = 3 := by omega
    rcases this with rfl | rfl | rfl | rfl <;> rfl
  | frm w =>
    obtain ⟨h0, h1⟩ := hf
    have : w = 0 ∨ w = 1 ∨ w = 2 ∨ w = 3 ∨ w = 4 ∨ w = 5 ∨ w = 6 ∨ w = 7 ∨ w = 8 ∨ w = 9 := by omega
    rcases this with rfl | rfl | rfl | rfl | rfl | rfl | rfl | rfl | rfl | rfl <;> rfl
  | not p => rfl
  | and p q => rfl
  | or p q => rfl
  | behind p a b =>
    obtain ⟨_, h0, h1, h2⟩ := hf
    cases b with
    | none => rcases cases6 h0 h1 with rfl | rfl | rfl | rfl | rfl | rfl <;> rfl
    | some b =>
      obtain ⟨h3, h4⟩ := h2 b rfl
      rcases cases6 h0 h1 with rfl | rfl | rfl | rfl | rfl | rfl <;> rcases cases6 (by omega) h4 with rfl | rfl | rfl | rfl | rfl | rfl <;> first | omega | rfl
  | since p q a b =>
    obtain ⟨_, _, h0, h1, h2⟩ := hf
    cases b with
    | none => rcases cases6 h0 h1 with rfl | rfl | rfl | rfl | rfl | rfl <;> rfl
    | some b =>
      obtain ⟨h3, h4⟩ := h2 b rfl
      rcases cases6 h0 h1 with rfl | rfl | rfl | rfl | rfl | rfl <;> rcases cases6 (by omega) h4 with rfl | rfl | rfl | rfl | rfl | rfl <;> first | omega | rfl
  | many p a b =>
    obtain ⟨_, h0, h1, h3, h4⟩ := hf
    have : a = 1 ∨ a = 2 ∨ a = 3 ∨ a = 4 := by omega
    have : b = 0 ∨ b = 1 ∨ b = 2 ∨ b = 3 ∨ b = 4 ∨ b = 5 ∨ b = 6 := by omega
    rcases this with rfl | rfl | rfl | rfl | rfl | rfl | rfl <;> rcases ‹a = 1 ∨ _› with rfl | rfl | rfl | rfl <;> rfl
  | asmany p q b =>
    obtain ⟨_, _, h3, h4⟩ := hf
    have : b = 0 ∨ b = 1 ∨ b = 2 ∨ b = 3 ∨ b = 4 ∨ b = 5 ∨ b = 6 := by omega
    rcases this with rfl | rfl | rfl | rfl | rfl | rfl | rfl <;> rfl
theorem parts_of {n : Nat} (hn : 1 ≤ n) (f : F) (h : VH) : run cfg tbl n 15 [f.d] h = .ok (.new (f.kids.map F.d)) h := by
  obtain ⟨n, rfl⟩ : ∃ q, n = q + 1 := ⟨n - 1, by omega⟩
  cases f <;> rfl
/-- what is left to be looked at, the next one last -/
def leftD (l : List (F × Nat)) : List D := l.map fun p => .tup [p.1.d, .int p.2]
def sizeL (l : List (F × Nat)) : Nat := (l.map fun p => p.1.parts.length).sum
theorem size_kids (f : F) (k : Nat) : sizeL (f.kids.reverse.map fun x => (x, k)) + 1 = f.parts.length := by
  cases f <;> simp [sizeL, F.kids, F.parts] <;> omega
theorem sizeL_app (a b : List (F × Nat)) : sizeL (a ++ b) = sizeL a + sizeL b := by simp [sizeL]
theorem leftD_app (a b : List (F × Nat)) : leftD (a ++ b) = leftD a ++ leftD b := by simp [leftD]
theorem leftD_plain (l : List (F × Nat)) : plains (leftD l) = true := plains_map _ (fun p => by simp [plain, plains, F.plain_d]) l
theorem kids_len (f : F) : f.kids.length ≤ 2 := by cases f <;> simp [F.kids]
theorem v_neE' (g : Nat → List (D × D)) (h : VH) (k : Nat) (xs : List D) (e : h[k]? = some (.lst xs)) (hp : plains xs = true) : cpD g h .ne (.ref k) (.lst []) = some (!xs.isEmpty) := by
  simp only [cpD, eqH, res, e, plain, plains, deepD, deepDs, hp]
  cases xs <;> simp [eqv, eqvs]
def needC : E := .cmp .ne (.v 1) (.lst .nil)
def needB : Ss := .cons (.asg (.tup [3, 4]) (.bm .pop (.v 1) .nil)) (.cons (.ite (.or (.not (.call 16 (.cons (.v 3) .nil))) (.or (.cmp .gt (.v 4) (.g 4 (.int 6))) (.cmp .ge (.v 2) (.g 3 (.int 24))))) (.cons (.raise 2 (.cons (.v 2) .nil)) .nil) .nil)
  (.cons (.asg (.nm 2) (.op .add (.v 2) (.c (.int 1)))) (.cons (.ex (.bm .extend (.v 1) (.cons (.lc (.tup (.cons (.v 5) (.cons (.op .add (.v 4) (.c (.int 1))) .nil))) (.nm 5) (.revd (.call 15 (.cons (.v 3) .nil))) .none [5]) .nil))) .nil)))
theorem need_loop (n : Nat) (hn : 3 ≤ n) (h : VH) (s : D) : ∀ (z fuel : Nat) (l : List (F × Nat)) (p : Nat) (a b c : Option D), sizeL l = z → z < fuel → (∀ x ∈ l, x.1.ok 6 ∧ x.2 + x.1.dep ≤ 7) → p + z ≤ 24 → l.length ≤ 100 →
    ∃ ρ t, whL (evE cfg (run cfg tbl n) needC) (evSs cfg (run cfg tbl n) needB) fuel [some s, some (.ref h.length), some (.int p), a, b, c] (h ++ [.lst (leftD l)]) = .ok (.nx ρ) (h ++ t) := by
  intro z
  induction z using Nat.strongRecOn with
  | ind z ih =>
  intro fuel l p a b c hz hf hl hp hlen
  obtain ⟨fuel, rfl⟩ : ∃ q, fuel = q + 1 := ⟨fuel - 1, by omega⟩
  have hg := get_app_new h (.lst (leftD l)) []
  have ec : evE cfg (run cfg tbl n) needC [some s, some (.ref h.length), some (.int p), a, b, c] (h ++ [.lst (leftD l)]) = .ok (.bl !(leftD l).isEmpty) (h ++ [.lst (leftD l)]) := by
    simp (disch := first | assumption | omega | (simp only [List.length_cons, List.length_nil]; omega)) only [x_c, x_g, x_v0, x_v1, x_v2, x_v3, x_v4, x_v5, x_v6, x_v7, x_v8, x_v9, x_v10, x_v11, x_v12, x_v13, x_v14, x_v15, x_tup, x_lst, x_op, x_neg, x_not, x_and, x_or, x_ite, x_cmp, x_chain, x_ix, x_sl, x_rev, x_call, x_meth, x_new, x_fld, x_isi, x_bi, x_listof, x_bm, x_nil, x_cons, x_eno, x_eso, x_ival, x_irange, x_irev, x_fcall, x_flst, x_flistof, x_asg, x_asgB, x_ex, x_ret, x_retF, x_site, x_raise, x_cont, x_pass, x_par, x_snil, x_scons, x_tnm, x_ttup, x_tsub, x_tfld, x_cono, x_con0, y_thenT, y_thenF, y_then, y_elseT, y_elseF, y_else, y_ifT, y_ifF, y_if, y_not, y_neg, y_opt, y_chT, y_chF, y_ch, y_seq, y_seqR, y_seqN, y_seqC, y_len0, y_len1, y_len2, y_len3, y_len4, y_len5, y_len6, y_fldQ, y_fldS, y_methQ, y_methS, y_setQ, y_setS, y_new, y_non, y_rvN, y_dV, y_dN, y_bindi, y_bindE, y_map, f_nx, f_rt, f_rn, f_ex, l_w0, l_ws, v_bind, v_some, v_add, v_sub, v_lt, v_le, v_gt, v_ge, v_eqI, v_eqS, v_neN, v_isN, v_isNN, v_ixL, v_ixT, v_lenS, v_lenL, v_lenT, List.getElem?_cons_zero, List.getElem?_cons_succ, List.set_cons_zero, List.set_cons_succ, List.length_cons, List.length_nil, Nat.reduceAdd, Option.map_some, if_true, f_if, Option.bind_some, Bool.true_or, Bool.or_true, Bool.false_or, Bool.or_false, Bool.true_and, Bool.and_true, Bool.false_and, Bool.and_false, Bool.not_true, Bool.not_false, Bool.false_eq_true, if_false, wq_0_0, wq_0_1, wq_0_2, wq_0_3, wq_0_4, wq_0_5, wq_0_6, wq_0_7, wq_0_8, wq_1_0, wq_1_1, wq_1_2, wq_1_3, wq_1_4, wq_1_5, wq_1_6, wq_1_7, wq_1_8, wq_2_0, wq_2_1, wq_2_2, wq_2_3, wq_2_4, wq_2_5, wq_2_6, wq_2_7, wq_2_8, wq_3_0, wq_3_1, wq_3_2, wq_3_3, wq_3_4, wq_3_5, wq_3_6, wq_3_7, wq_3_8, wq_4_0, wq_4_1, wq_4_2, wq_4_3, wq_4_4, wq_4_5, wq_4_6, wq_4_7, wq_4_8, wq_5_0, wq_5_1, wq_5_2, wq_5_3, wq_5_4, wq_5_5, wq_5_6, wq_5_7, wq_5_8, wq_6_0, wq_6_1, wq_6_2, wq_6_3, wq_6_4, wq_6_5, wq_6_6, wq_6_7, wq_6_8, wq_7_0, wq_7_1, wq_7_2, wq_7_3, wq_7_4, wq_7_5, wq_7_6, wq_7_7, wq_7_8, wq_8_0, wq_8_1, wq_8_2, wq_8_3, wq_8_4, wq_8_5, wq_8_6, wq_8_7, wq_8_8, needC, v_neE' _ _ _ _ hg (leftD_plain l)]
  simp only [whL, ec, v_bind]
  rcases List.eq_nil_or_concat l with rfl | ⟨l', x, rfl⟩
  · exact ⟨_, [.lst []], rfl⟩
  · obtain ⟨f, k⟩ := x
    simp only [List.concat_eq_append] at *
    obtain ⟨hok, hdp⟩ := hl (f, k) (by simp)
    simp only at hok hdp
    have hfd := F.dep_pos f
    have hpp := F.parts_pos f
    simp only [sizeL_app] at hz
    have hz1 : sizeL [(f, k)] = f.parts.length := by simp [sizeL]
    rw [hz1] at hz
    have e1 : leftD (l' ++ [(f, k)]) = leftD l' ++ [.tup [f.d, .int k]] := by rw [leftD_app]; rfl
    rw [e1] at hg ⊢
    have hg2 : (h ++ [O.lst (leftD l')])[h.length]? = some (.lst (leftD l')) := get_app_new h _ []
    have hkl := kids_len f
    have hgt : ¬ (6 : Int) < k := by omega
    have hge : ¬ (24 : Int) ≤ p := by omega
    have ei : (fun x : F => D.tup [x.d, .int ((k : Int) + 1)]) = fun x : F => D.tup [x.d, .int ((k + 1 : Nat) : Int)] := by funext x; congr 4
    have eb : evSs cfg (run cfg tbl n) needB [some s, some (.ref h.length), some (.int p), a, b, c] (h ++ [.lst (leftD l' ++ [.tup [f.d, .int k]])]) =
        .ok (.nx [some s, some (.ref h.length), some (.int (p + 1 : Nat)), some f.d, some (.int k), c]) (h ++ [.lst (leftD (l' ++ f.kids.reverse.map fun x => (x, k + 1)))]) := by
      have hset : (h ++ [O.lst (leftD l' ++ [.tup [f.d, .int k]])]).set h.length (.lst (leftD l')) = h ++ [.lst (leftD l')] := set_app_new h _ _ []
      have e2 : evE cfg (run cfg tbl n) (.lc (.tup (.cons (.v 5) (.cons (.op .add (.v 4) (.c (.int 1))) .nil))) (.nm 5) (.revd (.call 15 (.cons (.v 3) .nil))) .none [5])
          [some s, some (.ref h.length), some (.int ((p : Int) + 1)), some f.d, some (.int k), c] (h ++ [.lst (leftD l')]) = .ok (.lst ((f.kids.reverse.filter fun _ => true).map fun x => .tup [x.d, .int ((k : Int) + 1)])) (h ++ [.lst (leftD l')]) := by
        refine e_lc F.d (fun _ => true) (fun x => .tup [x.d, .int ((k : Int) + 1)]) f.kids.reverse ?_ (by show _ ≤ 16777216; simp; omega) ?_
        · simp (disch := first | assumption | omega | (simp only [List.length_cons, List.length_nil]; omega)) only [x_c, x_g, x_v0, x_v1, x_v2, x_v3, x_v4, x_v5, x_v6, x_v7, x_v8, x_v9, x_v10, x_v11, x_v12, x_v13, x_v14, x_v15, x_tup, x_lst, x_op, x_neg, x_not, x_and, x_or, x_ite, x_cmp, x_chain, x_ix, x_sl, x_rev, x_call, x_meth, x_new, x_fld, x_isi, x_bi, x_listof, x_bm, x_nil, x_cons, x_eno, x_eso, x_ival, x_irange, x_irev, x_fcall, x_flst, x_flistof, x_asg, x_asgB, x_ex, x_ret, x_retF, x_site, x_raise, x_cont, x_pass, x_par, x_snil, x_scons, x_tnm, x_ttup, x_tsub, x_tfld, x_cono, x_con0, y_thenT, y_thenF, y_then, y_elseT, y_elseF, y_else, y_ifT, y_ifF, y_if, y_not, y_neg, y_opt, y_chT, y_chF, y_ch, y_seq, y_seqR, y_seqN, y_seqC, y_len0, y_len1, y_len2, y_len3, y_len4, y_len5, y_len6, y_fldQ, y_fldS, y_methQ, y_methS, y_setQ, y_setS, y_new, y_non, y_rvN, y_dV, y_dN, y_bindi, y_bindE, y_map, f_nx, f_rt, f_rn, f_ex, l_w0, l_ws, v_bind, v_some, v_add, v_sub, v_lt, v_le, v_gt, v_ge, v_eqI, v_eqS, v_neN, v_isN, v_isNN, v_ixL, v_ixT, v_lenS, v_lenL, v_lenT, List.getElem?_cons_zero, List.getElem?_cons_succ, List.set_cons_zero, List.set_cons_succ, List.length_cons, List.length_nil, Nat.reduceAdd, Option.map_some, if_true, f_if, Option.bind_some, Bool.true_or, Bool.or_true, Bool.false_or, Bool.or_false, Bool.true_and, Bool.and_true, Bool.false_and, Bool.and_false, Bool.not_true, Bool.not_false, Bool.false_eq_true, if_false, wq_0_0, wq_0_1, wq_0_2, wq_0_3, wq_0_4, wq_0_5, wq_0_6, wq_0_7, wq_0_8, wq_1_0, wq_1_1, wq_1_2, wq_1_3, wq_1_4, wq_1_5, wq_1_6, wq_1_7, wq_1_8, wq_2_0, wq_2_1, wq_2_2, wq_2_3, wq_2_4, wq_2_5, wq_2_6, wq_2_7, wq_2_8, wq_3_0, wq_3_1, wq_3_2, wq_3_3, wq_3_4, wq_3_5, wq_3_6, wq_3_7, wq_3_8, wq_4_0, wq_4_1, wq_4_2, wq_4_3, wq_4_4, wq_4_5, wq_4_6, wq_4_7, wq_4_8, wq_5_0, wq_5_1, wq_5_2, wq_5_3, wq_5_4, wq_5_5, wq_5_6, wq_5_7, wq_5_8, wq_6_0, wq_6_1, wq_6_2, wq_6_3, wq_6_4, wq_6_5, wq_6_6, wq_6_7, wq_6_8, wq_7_0, wq_7_1, wq_7_2, wq_7_3, wq_7_4, wq_7_5, wq_7_6, wq_7_7, wq_7_8, wq_8_0, wq_8_1, wq_8_2, wq_8_3, wq_8_4, wq_8_5, wq_8_6, wq_8_7, wq_8_8, parts_of (by omega : 1 ≤ n) f]
          simp
        · intro y hy
          refine ⟨_, rfl, rfl, fun _ => ?_⟩
          simp (disch := first | assumption | omega | (simp only [List.length_cons, List.length_nil]; omega)) only [x_c, x_g, x_v0, x_v1, x_v2, x_v3, x_v4, x_v5, x_v6, x_v7, x_v8, x_v9, x_v10, x_v11, x_v12, x_v13, x_v14, x_v15, x_tup, x_lst, x_op, x_neg, x_not, x_and, x_or, x_ite, x_cmp, x_chain, x_ix, x_sl, x_rev, x_call, x_meth, x_new, x_fld, x_isi, x_bi, x_listof, x_bm, x_nil, x_cons, x_eno, x_eso, x_ival, x_irange, x_irev, x_fcall, x_flst, x_flistof, x_asg, x_asgB, x_ex, x_ret, x_retF, x_site, x_raise, x_cont, x_pass, x_par, x_snil, x_scons, x_tnm, x_ttup, x_tsub, x_tfld, x_cono, x_con0, y_thenT, y_thenF, y_then, y_elseT, y_elseF, y_else, y_ifT, y_ifF, y_if, y_not, y_neg, y_opt, y_chT, y_chF, y_ch, y_seq, y_seqR, y_seqN, y_seqC, y_len0, y_len1, y_len2, y_len3, y_len4, y_len5, y_len6, y_fldQ, y_fldS, y_methQ, y_methS, y_setQ, y_setS, y_new, y_non, y_rvN, y_dV, y_dN, y_bindi, y_bindE, y_map, f_nx, f_rt, f_rn, f_ex, l_w0, l_ws, v_bind, v_some, v_add, v_sub, v_lt, v_le, v_gt, v_ge, v_eqI, v_eqS, v_neN, v_isN, v_isNN, v_ixL, v_ixT, v_lenS, v_lenL, v_lenT, List.getElem?_cons_zero, List.getElem?_cons_succ, List.set_cons_zero, List.set_cons_succ, List.length_cons, List.length_nil, Nat.reduceAdd, Option.map_some, if_true, f_if, Option.bind_some, Bool.true_or, Bool.or_true, Bool.false_or, Bool.or_false, Bool.true_and, Bool.and_true, Bool.false_and, Bool.and_false, Bool.not_true, Bool.not_false, Bool.false_eq_true, if_false, wq_0_0, wq_0_1, wq_0_2, wq_0_3, wq_0_4, wq_0_5, wq_0_6, wq_0_7, wq_0_8, wq_1_0, wq_1_1, wq_1_2, wq_1_3, wq_1_4, wq_1_5, wq_1_6, wq_1_7, wq_1_8, wq_2_0, wq_2_1, wq_2_2, wq_2_3, wq_2_4, wq_2_5, wq_2_6, wq_2_7, wq_2_8, wq_3_0, wq_3_1, wq_3_2, wq_3_3, wq_3_4, wq_3_5, wq_3_6, wq_3_7, wq_3_8, wq_4_0, wq_4_1, wq_4_2, wq_4_3, wq_4_4, wq_4_5, wq_4_6, wq_4_7, wq_4_8, wq_5_0, wq_5_1, wq_5_2, wq_5_3, wq_5_4, wq_5_5, wq_5_6, wq_5_7, wq_5_8, wq_6_0, wq_6_1, wq_6_2, wq_6_3, wq_6_4, wq_6_5, wq_6_6, wq_6_7, wq_6_8, wq_7_0, wq_7_1, wq_7_2, wq_7_3, wq_7_4, wq_7_5, wq_7_6, wq_7_7, wq_7_8, wq_8_0, wq_8_1, wq_8_2, wq_8_3, wq_8_4, wq_8_5, wq_8_6, wq_8_7, wq_8_8]
      have e3 : leftD (f.kids.reverse.map fun x => (x, k + 1)) = (f.kids.reverse.filter fun _ => true).map fun x => D.tup [x.d, .int ((k : Int) + 1)] := by
        rw [filter_true, ei]; simp [leftD]
      have hext := v_extend (h ++ [O.lst (leftD l')]) h.length (leftD l') ((f.kids.reverse.filter fun _ => true).map fun x => D.tup [x.d, .int ((k : Int) + 1)]) hg2 (by
        have : l'.length ≤ 100 := by simp only [List.length_append, List.length_cons, List.length_nil] at hlen; omega
        show _ ≤ 16777216
        rw [filter_true]; simp [leftD]; omega)
      rw [← e3, ← leftD_app, set_app_new] at hext
      simp (disch := first | assumption | omega | (simp only [List.length_cons, List.length_nil]; omega)) only [x_c, x_g, x_v0, x_v1, x_v2, x_v3, x_v4, x_v5, x_v6, x_v7, x_v8, x_v9, x_v10, x_v11, x_v12, x_v13, x_v14, x_v15, x_tup, x_lst, x_op, x_neg, x_not, x_and, x_or, x_ite, x_cmp, x_chain, x_ix, x_sl, x_rev, x_call, x_meth, x_new, x_fld, x_isi, x_bi, x_listof, x_bm, x_nil, x_cons, x_eno, x_eso, x_ival, x_irange, x_irev, x_fcall, x_flst, x_flistof, x_asg, x_asgB, x_ex, x_ret, x_retF, x_site, x_raise, x_cont, x_pass, x_par, x_snil, x_scons, x_tnm, x_ttup, x_tsub, x_tfld, x_cono, x_con0, y_thenT, y_thenF, y_then, y_elseT, y_elseF, y_else, y_ifT, y_ifF, y_if, y_not, y_neg, y_opt, y_chT, y_chF, y_ch, y_seq, y_seqR, y_seqN, y_seqC, y_len0, y_len1, y_len2, y_len3, y_len4, y_len5, y_len6, y_fldQ, y_fldS, y_methQ, y_methS, y_setQ, y_setS, y_new, y_non, y_rvN, y_dV, y_dN, y_bindi, y_bindE, y_map, f_nx, f_rt, f_rn, f_ex, l_w0, l_ws, v_bind, v_some, v_add, v_sub, v_lt, v_le, v_gt, v_ge, v_eqI, v_eqS, v_neN, v_isN, v_isNN, v_ixL, v_ixT, v_lenS, v_lenL, v_lenT, List.getElem?_cons_zero, List.getElem?_cons_succ, List.set_cons_zero, List.set_cons_succ, List.length_cons, List.length_nil, Nat.reduceAdd, Option.map_some, if_true, f_if, Option.bind_some, Bool.true_or, Bool.or_true, Bool.false_or, Bool.or_false, Bool.true_and, Bool.and_true, Bool.false_and, Bool.and_false, Bool.not_true, Bool.not_false, Bool.false_eq_true, if_false, wq_0_0, wq_0_1, wq_0_2, wq_0_3, wq_0_4, wq_0_5, wq_0_6, wq_0_7, wq_0_8, wq_1_0, wq_1_1, wq_1_2, wq_1_3, wq_1_4, wq_1_5, wq_1_6, wq_1_7, wq_1_8, wq_2_0, wq_2_1, wq_2_2, wq_2_3, wq_2_4, wq_2_5, wq_2_6, wq_2_7, wq_2_8, wq_3_0, wq_3_1, wq_3_2, wq_3_3, wq_3_4, wq_3_5, wq_3_6, wq_3_7, wq_3_8, wq_4_0, wq_4_1, wq_4_2, wq_4_3, wq_4_4, wq_4_5, wq_4_6, wq_4_7, wq_4_8, wq_5_0, wq_5_1, wq_5_2, wq_5_3, wq_5_4, wq_5_5, wq_5_6, wq_5_7, wq_5_8, wq_6_0, wq_6_1, wq_6_2, wq_6_3, wq_6_4, wq_6_5, wq_6_6, wq_6_7, wq_6_8, wq_7_0, wq_7_1, wq_7_2, wq_7_3, wq_7_4, wq_7_5, wq_7_6, wq_7_7, wq_7_8, wq_8_0, wq_8_1, wq_8_2, wq_8_3, wq_8_4, wq_8_5, wq_8_6, wq_8_7, wq_8_8, needB, v_pop _ _ _ _ hg, t_pop _ _ _ hg, hset, setN, is_one hn f hok, hgt, hge, decide_false, e2, t_extend _ _ _ hg2]
      rw [← e3, hext]
      simp only [v_bind, y_seq, evSs]
      rfl
    simp only [e1] at *
    rw [show (!(leftD l' ++ [D.tup [f.d, .int k]]).isEmpty) = true by simp]
    simp only [eb, v_bind]
    refine ih (sizeL (l' ++ f.kids.reverse.map fun x => (x, k + 1))) ?_ fuel _ (p + 1) _ _ _ rfl ?_ ?_ ?_ ?_
    · rw [sizeL_app]; have := size_kids f (k + 1); omega
    · rw [sizeL_app]; have := size_kids f (k + 1); omega
    · intro x hx
      rcases List.mem_append.mp hx with hx | hx
      · exact hl x (by simp [hx])
      · simp only [List.mem_map, List.mem_reverse] at hx
        obtain ⟨y, hy, rfl⟩ := hx
        have := F.dep_kids f y hy
        exact ⟨F.ok_kids hok y hy, by simp only; omega⟩
    · rw [sizeL_app]; have := size_kids f (k + 1); omega
    · have hb : ∀ l : List (F × Nat), l.length ≤ sizeL l := by
        intro l
        induction l with
        | nil => simp [sizeL]
        | cons x r ihr => have := F.parts_pos x.1; simp only [sizeL, List.map_cons, List.sum_cons, List.length_cons] at *; omega
      have := hb (l' ++ f.kids.reverse.map fun x => (x, k + 1))
      rw [sizeL_app] at this; have := size_kids f (k + 1); omega
theorem need_sentence {n : Nat} (hn : 4 ≤ n) (f : F) (hf : f.good) (h : VH) : run cfg tbl n 17 [f.d] h = .ok (.val .non) h := by
  obtain ⟨n, rfl⟩ : ∃ q, n = q + 1 := ⟨n - 1, by omega⟩
  obtain ⟨h0, h1, h2⟩ := hf
  rw [u_17]
  obtain ⟨ρ, t, e⟩ := need_loop n (by omega) h f.d f.parts.length 1000 [(f, 1)] 0 none none none (by simp [sizeL]) (by omega) (by simp; exact ⟨h0, by omega⟩) (by omega) (by simp)
  have e' : evS cfg (run cfg tbl n) (.while_ needC needB) [some f.d, some (.ref h.length), some (.int 0), none, none, none] (h ++ [.lst [.tup [f.d, .int 1]]]) = .ok (.nx ρ) (h ++ t) := e
  have hb : fn_17.body = .cons (.asgB (.nm 1) (.lst (.cons (.tup (.cons (.v 0) (.cons (.c (.int 1)) .nil))) .nil))) (.cons (.asg (.nm 2) (.c (.int 0))) (.cons (.while_ needC needB) .nil)) := rfl
  rw [hb]
  simp (disch := first | assumption | omega | (simp only [List.length_cons, List.length_nil]; omega)) only [x_c, x_g, x_v0, x_v1, x_v2, x_v3, x_v4, x_v5, x_v6, x_v7, x_v8, x_v9, x_v10, x_v11, x_v12, x_v13, x_v14, x_v15, x_tup, x_lst, x_op, x_neg, x_not, x_and, x_or, x_ite, x_cmp, x_chain, x_ix, x_sl, x_rev, x_call, x_meth, x_new, x_fld, x_isi, x_bi, x_listof, x_bm, x_nil, x_cons, x_eno, x_eso, x_ival, x_irange, x_irev, x_fcall, x_flst, x_flistof, x_asg, x_asgB, x_ex, x_ret, x_retF, x_site, x_raise, x_cont, x_pass, x_par, x_snil, x_scons, x_tnm, x_ttup, x_tsub, x_tfld, x_cono, x_con0, y_thenT, y_thenF, y_then, y_elseT, y_elseF, y_else, y_ifT, y_ifF, y_if, y_not, y_neg, y_opt, y_chT, y_chF, y_ch, y_seq, y_seqR, y_seqN, y_seqC, y_len0, y_len1, y_len2, y_len3, y_len4, y_len5, y_len6, y_fldQ, y_fldS, y_methQ, y_methS, y_setQ, y_setS, y_new, y_non, y_rvN, y_dV, y_dN, y_bindi, y_bindE, y_map, f_nx, f_rt, f_rn, f_ex, l_w0, l_ws, v_bind, v_some, v_add, v_sub, v_lt, v_le, v_gt, v_ge, v_eqI, v_eqS, v_neN, v_isN, v_isNN, v_ixL, v_ixT, v_lenS, v_lenL, v_lenT, List.getElem?_cons_zero, List.getElem?_cons_succ, List.set_cons_zero, List.set_cons_succ, List.length_cons, List.length_nil, Nat.reduceAdd, Option.map_some, if_true, f_if, Option.bind_some, Bool.true_or, Bool.or_true, Bool.false_or, Bool.or_false, Bool.true_and, Bool.and_true, Bool.false_and, Bool.and_false, Bool.not_true, Bool.not_false, Bool.false_eq_true, if_false, wq_0_0, wq_0_1, wq_0_2, wq_0_3, wq_0_4, wq_0_5, wq_0_6, wq_0_7, wq_0_8, wq_1_0, wq_1_1, wq_1_2, wq_1_3, wq_1_4, wq_1_5, wq_1_6, wq_1_7, wq_1_8, wq_2_0, wq_2_1, wq_2_2, wq_2_3, wq_2_4, wq_2_5, wq_2_6, wq_2_7, wq_2_8, wq_3_0, wq_3_1, wq_3_2, wq_3_3, wq_3_4, wq_3_5, wq_3_6, wq_3_7, wq_3_8, wq_4_0, wq_4_1, wq_4_2, wq_4_3, wq_4_4, wq_4_5, wq_4_6, wq_4_7, wq_4_8, wq_5_0, wq_5_1, wq_5_2, wq_5_3, wq_5_4, wq_5_5, wq_5_6, wq_5_7, wq_5_8, wq_6_0, wq_6_1, wq_6_2, wq_6_3, wq_6_4, wq_6_5, wq_6_6, wq_6_7, wq_6_8, wq_7_0, wq_7_1, wq_7_2, wq_7_3, wq_7_4, wq_7_5, wq_7_6, wq_7_7, wq_7_8, wq_8_0, wq_8_1, wq_8_2, wq_8_3, wq_8_4, wq_8_5, wq_8_6, wq_8_7, wq_8_8, x_flst, Nat.reduceLeDiff, LINE, e', g_nx]
/-- a row -/
theorem is_num {n : Nat} (hn : 1 ≤ n) (i lo hi : Int) (h : VH) : run cfg tbl n 13 [.int i, .int lo, .int hi] h = .ok (.val (.bl (decide (lo ≤ i) && decide (i ≤ hi)))) h := by
  obtain ⟨n, rfl⟩ : ∃ q, n = q + 1 := ⟨n - 1, by omega⟩
  rw [u_13]
  have h1 : isiD h (.int i) [.int] = some true := rfl
  have h2 : isiD h (.int i) [.bool] = some false := rfl
  simp (disch := first | assumption | omega | (simp only [List.length_cons, List.length_nil]; omega)) only [x_c, x_g, x_v0, x_v1, x_v2, x_v3, x_v4, x_v5, x_v6, x_v7, x_v8, x_v9, x_v10, x_v11, x_v12, x_v13, x_v14, x_v15, x_tup, x_lst, x_op, x_neg, x_not, x_and, x_or, x_ite, x_cmp, x_chain, x_ix, x_sl, x_rev, x_call, x_meth, x_new, x_fld, x_isi, x_bi, x_listof, x_bm, x_nil, x_cons, x_eno, x_eso, x_ival, x_irange, x_irev, x_fcall, x_flst, x_flistof, x_asg, x_asgB, x_ex, x_ret, x_retF, x_site, x_raise, x_cont, x_pass, x_par, x_snil, x_scons, x_tnm, x_ttup, x_tsub, x_tfld, x_cono, x_con0, y_thenT, y_thenF, y_then, y_elseT, y_elseF, y_else, y_ifT, y_ifF, y_if, y_not, y_neg, y_opt, y_chT, y_chF, y_ch, y_seq, y_seqR, y_seqN, y_seqC, y_len0, y_len1, y_len2, y_len3, y_len4, y_len5, y_len6, y_fldQ, y_fldS, y_methQ, y_methS, y_setQ, y_setS, y_new, y_non, y_rvN, y_dV, y_dN, y_bindi, y_bindE, y_map, f_nx, f_rt, f_rn, f_ex, l_w0, l_ws, v_bind, v_some, v_add, v_sub, v_lt, v_le, v_gt, v_ge, v_eqI, v_eqS, v_neN, v_isN, v_isNN, v_ixL, v_ixT, v_lenS, v_lenL, v_lenT, List.getElem?_cons_zero, List.getElem?_cons_succ, List.set_cons_zero, List.set_cons_succ, List.length_cons, List.length_nil, Nat.reduceAdd, Option.map_some, if_true, f_if, Option.bind_some, Bool.true_or, Bool.or_true, Bool.false_or, Bool.or_false, Bool.true_and, Bool.and_true, Bool.false_and, Bool.and_false, Bool.not_true, Bool.not_false, Bool.false_eq_true, if_false, wq_0_0, wq_0_1, wq_0_2, wq_0_3, wq_0_4, wq_0_5, wq_0_6, wq_0_7, wq_0_8, wq_1_0, wq_1_1, wq_1_2, wq_1_3, wq_1_4, wq_1_5, wq_1_6, wq_1_7, wq_1_8, wq_2_0, wq_2_1, wq_2_2, wq_2_3, wq_2_4, wq_2_5, wq_2_6, wq_2_7, wq_2_8, wq_3_0, wq_3_1, wq_3_2, wq_3_3, wq_3_4, wq_3_5, wq_3_6, wq_3_7, wq_3_8, wq_4_0, wq_4_1, wq_4_2, wq_4_3, wq_4_4, wq_4_5, wq_4_6, wq_4_7, wq_4_8, wq_5_0, wq_5_1, wq_5_2, wq_5_3, wq_5_4, wq_5_5, wq_5_6, wq_5_7, wq_5_8, wq_6_0, wq_6_1, wq_6_2, wq_6_3, wq_6_4, wq_6_5, wq_6_6, wq_6_7, wq_6_8, wq_7_0, wq_7_1, wq_7_2, wq_7_3, wq_7_4, wq_7_5, wq_7_6, wq_7_7, wq_7_8, wq_8_0, wq_8_1, wq_8_2, wq_8_3, wq_8_4, wq_8_5, wq_8_6, wq_8_7, wq_8_8, fn_13, h1, h2]
theorem need_row {n : Nat} (hn : 2 ≤ n) (r : List Hap) (hr : RowGood r) (h : VH) : run cfg tbl n 18 [rowD r] h = .ok (.val .non) h := by
  obtain ⟨n, rfl⟩ : ∃ q, n = q + 1 := ⟨n - 1, by omega⟩
  have hlen := hr.len
  have key : (run cfg tbl (n + 1) 18 [rowD r] h).get fun rv h' => rv = .val .non ∧ h' = h := by
    rw [u_18]
    simp only [fn_18]
    rw [x_scons]
    refine get_fin (get_bind (e_for (fun _ ρ h' => ∃ a b c d e, ρ = [some (rowD r), a, b, c, d, e] ∧ h' = h) (fun o h' => (∃ ρ, o = .nx ρ) ∧ h' = h) ((List.range r.length).map fun k : Nat => .int k)
      (by simp (disch := first | assumption | omega | (simp only [List.length_cons, List.length_nil]; omega)) only [x_c, x_g, x_v0, x_v1, x_v2, x_v3, x_v4, x_v5, x_v6, x_v7, x_v8, x_v9, x_v10, x_v11, x_v12, x_v13, x_v14, x_v15, x_tup, x_lst, x_op, x_neg, x_not, x_and, x_or, x_ite, x_cmp, x_chain, x_ix, x_sl, x_rev, x_call, x_meth, x_new, x_fld, x_isi, x_bi, x_listof, x_bm, x_nil, x_cons, x_eno, x_eso, x_ival, x_irange, x_irev, x_fcall, x_flst, x_flistof, x_asg, x_asgB, x_ex, x_ret, x_retF, x_site, x_raise, x_cont, x_pass, x_par, x_snil, x_scons, x_tnm, x_ttup, x_tsub, x_tfld, x_cono, x_con0, y_thenT, y_thenF, y_then, y_elseT, y_elseF, y_else, y_ifT, y_ifF, y_if, y_not, y_neg, y_opt, y_chT, y_chF, y_ch, y_seq, y_seqR, y_seqN, y_seqC, y_len0, y_len1, y_len2, y_len3, y_len4, y_len5, y_len6, y_fldQ, y_fldS, y_methQ, y_methS, y_setQ, y_setS, y_new, y_non, y_rvN, y_dV, y_dN, y_bindi, y_bindE, y_map, f_nx, f_rt, f_rn, f_ex, l_w0, l_ws, v_bind, v_some, v_add, v_sub, v_lt, v_le, v_gt, v_ge, v_eqI, v_eqS, v_neN, v_isN, v_isNN, v_ixL, v_ixT, v_lenS, v_lenL, v_lenT, List.getElem?_cons_zero, List.getElem?_cons_succ, List.set_cons_zero, List.set_cons_succ, List.length_cons, List.length_nil, Nat.reduceAdd, Option.map_some, if_true, f_if, Option.bind_some, Bool.true_or, Bool.or_true, Bool.false_or, Bool.or_false, Bool.true_and, Bool.and_true, Bool.false_and, Bool.and_false, Bool.not_true, Bool.not_false, Bool.false_eq_true, if_false, wq_0_0, wq_0_1, wq_0_2, wq_0_3, wq_0_4, wq_0_5, wq_0_6, wq_0_7, wq_0_8, wq_1_0, wq_1_1, wq_1_2, wq_1_3, wq_1_4, wq_1_5, wq_1_6, wq_1_7, wq_1_8, wq_2_0, wq_2_1, wq_2_2, wq_2_3, wq_2_4, wq_2_5, wq_2_6, wq_2_7, wq_2_8, wq_3_0, wq_3_1, wq_3_2, wq_3_3, wq_3_4, wq_3_5, wq_3_6, wq_3_7, wq_3_8, wq_4_0, wq_4_1, wq_4_2, wq_4_3, wq_4_4, wq_4_5, wq_4_6, wq_4_7, wq_4_8, wq_5_0, wq_5_1, wq_5_2, wq_5_3, wq_5_4, wq_5_5, wq_5_6, wq_5_7, wq_5_8, wq_6_0, wq_6_1, wq_6_2, wq_6_3, wq_6_4, wq_6_5, wq_6_6, wq_6_7, wq_6_8, wq_7_0, wq_7_1, wq_7_2, wq_7_3, wq_7_4, wq_7_5, wq_7_6, wq_7_7, wq_7_8, wq_8_0, wq_8_1, wq_8_2, wq_8_3, wq_8_4, wq_8_5, wq_8_6, wq_8_7, wq_8_8, rowD, v_lenL, List.length_map, range_nat r.length (by omega)]) ⟨_, _, _, _, _, rfl, rfl⟩ ?_ ?_) ?_) (P := fun o h' => (∃ ρ, o = .nx ρ) ∧ h' = h) ?_
    · rintro i x ρ h' hi ⟨a, b, c, d, e, rfl, rfl⟩
      obtain ⟨hil, rfl⟩ : i < r.length ∧ x = .int i := by
        have := List.getElem?_eq_some_iff.mp hi
        obtain ⟨h1, h2⟩ := this
        simp at h1 h2
        exact ⟨h1, h2.symm⟩
      refine ⟨_, rfl, ?_⟩
      have ex : r[i]? = some r[i] := List.getElem?_eq_getElem hil
      have e1 := at_map Hap.d r i r[i] ex
      obtain ⟨o1, o2, o3, o4, o5, o6⟩ := hr.ok r[i] (List.getElem_mem hil)
      have hge : ¬ (200 : Int) ≤ i := by omega
      have c1 : (decide ((0 : Int) ≤ r[i].t) && decide (r[i].t ≤ 1000000)) = true := by simp [o1, o2]
      have c2 : (decide ((0 : Int) ≤ r[i].w) && decide (r[i].w ≤ 4 - 1)) = true := by simp [o3]; omega
      have c3 : (decide ((0 : Int) ≤ r[i].v) && decide (r[i].v ≤ 10 - 1)) = true := by simp [o5]; omega
      have l3 : biD h' .len [Hap.d r[i]] = some (.int 3) := rfl
      have n3 : ((3 : Int) == 3) = true := rfl
      by_cases hi0 : (0 : Int) < i
      · have ex2 : r[i - 1]? = some (r[i - 1]'(by omega)) := List.getElem?_eq_getElem (by omega)
        have e2 := at_map Hap.d r (i - 1) _ ex2
        rw [show (((i - 1 : Nat)) : Int) = (i : Int) - 1 by omega] at e2
        have hup := (List.pairwise_iff_getElem.mp hr.up) (i - 1) i (by omega) hil (by omega)
        have hle : ¬ r[i].t ≤ (r[i - 1]'(by omega)).t := by omega
        have d0 : ∀ y : Hap, ixD cfg.gds h' (Hap.d y) (.int 0) = some (.int y.t) := fun _ => rfl
        simp (disch := first | assumption | omega | (simp only [List.length_cons, List.length_nil]; omega)) only [x_c, x_g, x_v0, x_v1, x_v2, x_v3, x_v4, x_v5, x_v6, x_v7, x_v8, x_v9, x_v10, x_v11, x_v12, x_v13, x_v14, x_v15, x_tup, x_lst, x_op, x_neg, x_not, x_and, x_or, x_ite, x_cmp, x_chain, x_ix, x_sl, x_rev, x_call, x_meth, x_new, x_fld, x_isi, x_bi, x_listof, x_bm, x_nil, x_cons, x_eno, x_eso, x_ival, x_irange, x_irev, x_fcall, x_flst, x_flistof, x_asg, x_asgB, x_ex, x_ret, x_retF, x_site, x_raise, x_cont, x_pass, x_par, x_snil, x_scons, x_tnm, x_ttup, x_tsub, x_tfld, x_cono, x_con0, y_thenT, y_thenF, y_then, y_elseT, y_elseF, y_else, y_ifT, y_ifF, y_if, y_not, y_neg, y_opt, y_chT, y_chF, y_ch, y_seq, y_seqR, y_seqN, y_seqC, y_len0, y_len1, y_len2, y_len3, y_len4, y_len5, y_len6, y_fldQ, y_fldS, y_methQ, y_methS, y_setQ, y_setS, y_new, y_non, y_rvN, y_dV, y_dN, y_bindi, y_bindE, y_map, f_nx, f_rt, f_rn, f_ex, l_w0, l_ws, v_bind, v_some, v_add, v_sub, v_lt, v_le, v_gt, v_ge, v_eqI, v_eqS, v_neN, v_isN, v_isNN, v_ixL, v_ixT, v_lenS, v_lenL, v_lenT, List.getElem?_cons_zero, List.getElem?_cons_succ, List.set_cons_zero, List.set_cons_succ, List.length_cons, List.length_nil, Nat.reduceAdd, Option.map_some, if_true, f_if, Option.bind_some, Bool.true_or, Bool.or_true, Bool.false_or, Bool.or_false, Bool.true_and, Bool.and_true, Bool.false_and, Bool.and_false, Bool.not_true, Bool.not_false, Bool.false_eq_true, if_false, wq_0_0, wq_0_1, wq_0_2, wq_0_3, wq_0_4, wq_0_5, wq_0_6, wq_0_7, wq_0_8, wq_1_0, wq_1_1, wq_1_2, wq_1_3, wq_1_4, wq_1_5, wq_1_6, wq_1_7, wq_1_8, wq_2_0, wq_2_1, wq_2_2, wq_2_3, wq_2_4, wq_2_5, wq_2_6, wq_2_7, wq_2_8, wq_3_0, wq_3_1, wq_3_2, wq_3_3, wq_3_4, wq_3_5, wq_3_6, wq_3_7, wq_3_8, wq_4_0, wq_4_1, wq_4_2, wq_4_3, wq_4_4, wq_4_5, wq_4_6, wq_4_7, wq_4_8, wq_5_0, wq_5_1, wq_5_2, wq_5_3, wq_5_4, wq_5_5, wq_5_6, wq_5_7, wq_5_8, wq_6_0, wq_6_1, wq_6_2, wq_6_3, wq_6_4, wq_6_5, wq_6_6, wq_6_7, wq_6_8, wq_7_0, wq_7_1, wq_7_2, wq_7_3, wq_7_4, wq_7_5, wq_7_6, wq_7_7, wq_7_8, wq_8_0, wq_8_1, wq_8_2, wq_8_3, wq_8_4, wq_8_5, wq_8_6, wq_8_7, wq_8_8, rowD, e1, hge, decide_false, l3, n3, Hap.d, setN, is_num (by omega : 1 ≤ n), c1, c2, c3, hi0, decide_true, e2, hle]
        have d0 : ∀ y : Hap, ixL [.int y.t, .int y.w, .int y.v] (.int 0) = some (.int y.t) := fun _ => rfl
        simp (disch := first | assumption | omega | (simp only [List.length_cons, List.length_nil]; omega)) only [x_c, x_g, x_v0, x_v1, x_v2, x_v3, x_v4, x_v5, x_v6, x_v7, x_v8, x_v9, x_v10, x_v11, x_v12, x_v13, x_v14, x_v15, x_tup, x_lst, x_op, x_neg, x_not, x_and, x_or, x_ite, x_cmp, x_chain, x_ix, x_sl, x_rev, x_call, x_meth, x_new, x_fld, x_isi, x_bi, x_listof, x_bm, x_nil, x_cons, x_eno, x_eso, x_ival, x_irange, x_irev, x_fcall, x_flst, x_flistof, x_asg, x_asgB, x_ex, x_ret, x_retF, x_site, x_raise, x_cont, x_pass, x_par, x_snil, x_scons, x_tnm, x_ttup, x_tsub, x_tfld, x_cono, x_con0, y_thenT, y_thenF, y_then, y_elseT, y_elseF, y_else, y_ifT, y_ifF, y_if, y_not, y_neg, y_opt, y_chT, y_chF, y_ch, y_seq, y_seqR, y_seqN, y_seqC, y_len0, y_len1, y_len2, y_len3, y_len4, y_len5, y_len6, y_fldQ, y_fldS, y_methQ, y_methS, y_setQ, y_setS, y_new, y_non, y_rvN, y_dV, y_dN, y_bindi, y_bindE, y_map, f_nx, f_rt, f_rn, f_ex, l_w0, l_ws, v_bind, v_some, v_add, v_sub, v_lt, v_le, v_gt, v_ge, v_eqI, v_eqS, v_neN, v_isN, v_isNN, v_ixL, v_ixT, v_lenS, v_lenL, v_lenT, List.getElem?_cons_zero, List.getElem?_cons_succ, List.set_cons_zero, List.set_cons_succ, List.length_cons, List.length_nil, Nat.reduceAdd, Option.map_some, if_true, f_if, Option.bind_some, Bool.true_or, Bool.or_true, Bool.false_or, Bool.or_false, Bool.true_and, Bool.and_true, Bool.false_and, Bool.and_false, Bool.not_true, Bool.not_false, Bool.false_eq_true, if_false, wq_0_0, wq_0_1, wq_0_2, wq_0_3, wq_0_4, wq_0_5, wq_0_6, wq_0_7, wq_0_8, wq_1_0, wq_1_1, wq_1_2, wq_1_3, wq_1_4, wq_1_5, wq_1_6, wq_1_7, wq_1_8, wq_2_0, wq_2_1, wq_2_2, wq_2_3, wq_2_4, wq_2_5, wq_2_6, wq_2_7, wq_2_8, wq_3_0, wq_3_1, wq_3_2, wq_3_3, wq_3_4, wq_3_5, wq_3_6, wq_3_7, wq_3_8, wq_4_0, wq_4_1, wq_4_2, wq_4_3, wq_4_4, wq_4_5, wq_4_6, wq_4_7, wq_4_8, wq_5_0, wq_5_1, wq_5_2, wq_5_3, wq_5_4, wq_5_5, wq_5_6, wq_5_7, wq_5_8, wq_6_0, wq_6_1, wq_6_2, wq_6_3, wq_6_4, wq_6_5, wq_6_6, wq_6_7, wq_6_8, wq_7_0, wq_7_1, wq_7_2, wq_7_3, wq_7_4, wq_7_5, wq_7_6, wq_7_7, wq_7_8, wq_8_0, wq_8_1, wq_8_2, wq_8_3, wq_8_4, wq_8_5, wq_8_6, wq_8_7, wq_8_8, d0, hle, decide_false, get_ok]
        exact ⟨_, _, _, _, _, rfl, rfl⟩
      · simp (disch := first | assumption | omega | (simp only [List.length_cons, List.length_nil]; omega)) only [x_c, x_g, x_v0, x_v1, x_v2, x_v3, x_v4, x_v5, x_v6, x_v7, x_v8, x_v9, x_v10, x_v11, x_v12, x_v13, x_v14, x_v15, x_tup, x_lst, x_op, x_neg, x_not, x_and, x_or, x_ite, x_cmp, x_chain, x_ix, x_sl, x_rev, x_call, x_meth, x_new, x_fld, x_isi, x_bi, x_listof, x_bm, x_nil, x_cons, x_eno, x_eso, x_ival, x_irange, x_irev, x_fcall, x_flst, x_flistof, x_asg, x_asgB, x_ex, x_ret, x_retF, x_site, x_raise, x_cont, x_pass, x_par, x_snil, x_scons, x_tnm, x_ttup, x_tsub, x_tfld, x_cono, x_con0, y_thenT, y_thenF, y_then, y_elseT, y_elseF, y_else, y_ifT, y_ifF, y_if, y_not, y_neg, y_opt, y_chT, y_chF, y_ch, y_seq, y_seqR, y_seqN, y_seqC, y_len0, y_len1, y_len2, y_len3, y_len4, y_len5, y_len6, y_fldQ, y_fldS, y_methQ, y_methS, y_setQ, y_setS, y_new, y_non, y_rvN, y_dV, y_dN, y_bindi, y_bindE, y_map, f_nx, f_rt, f_rn, f_ex, l_w0, l_ws, v_bind, v_some, v_add, v_sub, v_lt, v_le, v_gt, v_ge, v_eqI, v_eqS, v_neN, v_isN, v_isNN, v_ixL, v_ixT, v_lenS, v_lenL, v_lenT, List.getElem?_cons_zero, List.getElem?_cons_succ, List.set_cons_zero, List.set_cons_succ, List.length_cons, List.length_nil, Nat.reduceAdd, Option.map_some, if_true, f_if, Option.bind_some, Bool.true_or, Bool.or_true, Bool.false_or, Bool.or_false, Bool.true_and, Bool.and_true, Bool.false_and, Bool.and_false, Bool.not_true, Bool.not_false, Bool.false_eq_true, if_false, wq_0_0, wq_0_1, wq_0_2, wq_0_3, wq_0_4, wq_0_5, wq_0_6, wq_0_7, wq_0_8, wq_1_0, wq_1_1, wq_1_2, wq_1_3, wq_1_4, wq_1_5, wq_1_6, wq_1_7, wq_1_8, wq_2_0, wq_2_1, wq_2_2, wq_2_3, wq_2_4, wq_2_5, wq_2_6, wq_2_7, wq_2_8, wq_3_0, wq_3_1, wq_3_2, wq_3_3, wq_3_4, wq_3_5, wq_3_6, wq_3_7, wq_3_8, wq_4_0, wq_4_1, wq_4_2, wq_4_3, wq_4_4, wq_4_5, wq_4_6, wq_4_7, wq_4_8, wq_5_0, wq_5_1, wq_5_2, wq_5_3, wq_5_4, wq_5_5, wq_5_6, wq_5_7, wq_5_8, wq_6_0, wq_6_1, wq_6_2, wq_6_3, wq_6_4, wq_6_5, wq_6_6, wq_6_7, wq_6_8, wq_7_0, wq_7_1, wq_7_2, wq_7_3, wq_7_4, wq_7_5, wq_7_6, wq_7_7, wq_7_8, wq_8_0, wq_8_1, wq_8_2, wq_8_3, wq_8_4, wq_8_5, wq_8_6, wq_8_7, wq_8_8, rowD, e1, hge, decide_false, l3, n3, Hap.d, setN, is_num (by omega : 1 ≤ n), c1, c2, c3, hi0, decide_false, get_ok]
        exact ⟨_, _, _, _, _, rfl, rfl⟩
    · rintro ρ h' ⟨a, b, c, d, e, rfl, rfl⟩
      exact ⟨⟨_, rfl⟩, rfl⟩
    · rintro o h' ⟨⟨ρ, rfl⟩, rfl⟩
      simp (disch := first | assumption | omega | (simp only [List.length_cons, List.length_nil]; omega)) only [x_c, x_g, x_v0, x_v1, x_v2, x_v3, x_v4, x_v5, x_v6, x_v7, x_v8, x_v9, x_v10, x_v11, x_v12, x_v13, x_v14, x_v15, x_tup, x_lst, x_op, x_neg, x_not, x_and, x_or, x_ite, x_cmp, x_chain, x_ix, x_sl, x_rev, x_call, x_meth, x_new, x_fld, x_isi, x_bi, x_listof, x_bm, x_nil, x_cons, x_eno, x_eso, x_ival, x_irange, x_irev, x_fcall, x_flst, x_flistof, x_asg, x_asgB, x_ex, x_ret, x_retF, x_site, x_raise, x_cont, x_pass, x_par, x_snil, x_scons, x_tnm, x_ttup, x_tsub, x_tfld, x_cono, x_con0, y_thenT, y_thenF, y_then, y_elseT, y_elseF, y_else, y_ifT, y_ifF, y_if, y_not, y_neg, y_opt, y_chT, y_chF, y_ch, y_seq, y_seqR, y_seqN, y_seqC, y_len0, y_len1, y_len2, y_len3, y_len4, y_len5, y_len6, y_fldQ, y_fldS, y_methQ, y_methS, y_setQ, y_setS, y_new, y_non, y_rvN, y_dV, y_dN, y_bindi, y_bindE, y_map, f_nx, f_rt, f_rn, f_ex, l_w0, l_ws, v_bind, v_some, v_add, v_sub, v_lt, v_le, v_gt, v_ge, v_eqI, v_eqS, v_neN, v_isN, v_isNN, v_ixL, v_ixT, v_lenS, v_lenL, v_lenT, List.getElem?_cons_zero, List.getElem?_cons_succ, List.set_cons_zero, List.set_cons_succ, List.length_cons, List.length_nil, Nat.reduceAdd, Option.map_some, if_true, f_if, Option.bind_some, Bool.true_or, Bool.or_true, Bool.false_or, Bool.or_false, Bool.true_and, Bool.and_true, Bool.false_and, Bool.and_false, Bool.not_true, Bool.not_false, Bool.false_eq_true, if_false, wq_0_0, wq_0_1, wq_0_2, wq_0_3, wq_0_4, wq_0_5, wq_0_6, wq_0_7, wq_0_8, wq_1_0, wq_1_1, wq_1_2, wq_1_3, wq_1_4, wq_1_5, wq_1_6, wq_1_7, wq_1_8, wq_2_0, wq_2_1, wq_2_2, wq_2_3, wq_2_4, wq_2_5, wq_2_6, wq_2_7, wq_2_8, wq_3_0, wq_3_1, wq_3_2, wq_3_3, wq_3_4, wq_3_5, wq_3_6, wq_3_7, wq_3_8, wq_4_0, wq_4_1, wq_4_2, wq_4_3, wq_4_4, wq_4_5, wq_4_6, wq_4_7, wq_4_8, wq_5_0, wq_5_1, wq_5_2, wq_5_3, wq_5_4, wq_5_5, wq_5_6, wq_5_7, wq_5_8, wq_6_0, wq_6_1, wq_6_2, wq_6_3, wq_6_4, wq_6_5, wq_6_6, wq_6_7, wq_6_8, wq_7_0, wq_7_1, wq_7_2, wq_7_3, wq_7_4, wq_7_5, wq_7_6, wq_7_7, wq_7_8, wq_8_0, wq_8_1, wq_8_2, wq_8_3, wq_8_4, wq_8_5, wq_8_6, wq_8_7, wq_8_8, get_ok]
      exact ⟨⟨_, rfl⟩, trivial⟩
    · rintro o h' ⟨⟨ρ, rfl⟩, rfl⟩
      exact ⟨rfl, rfl⟩
  obtain ⟨rv, h', e, rfl, rfl⟩ := get_ex key
  exact e
end K03

namespace K03
open Mn
/-- the list of where a sentence holds -/
def bD (r : List Hap) (p : F) : D := .lst ((holds r p).map .bl)
theorem at_hold (r : List Hap) (p : F) (j : Nat) (hj : j < r.length) : ixL ((holds r p).map .bl) (.int j) = some (.bl (hold r p j)) := by
  refine at_map D.bl _ j _ ?_
  simp [holds, hj]
def heldO (r : List Hap) (ps : List F) : O := .ins 13 [(3, rowD r), (4, .lst (ps.map (bD r)))]
section
variable {r : List Hap} {ps : List F} {a : Nat} {h : VH}
theorem o_row : fldO (some (heldO r ps)) 3 h = .ok (rowD r) h := rfl
theorem o_told : fldO (some (heldO r ps)) 4 h = .ok (.lst (ps.map (bD r))) h := rfl
theorem o_meth (m : Nat) (kk : Nat → R D) : methO cfg (some (heldO r ps)) m kk = newR (mt 13 m) kk := rfl
theorem row_at (k : Nat) (hk : k < r.length) : ∃ x, r[k]? = some x ∧ ∀ h : VH, ixD cfg.gds h (rowD r) (.int k) = some (Hap.d x) :=
  ⟨r[k], List.getElem?_eq_getElem hk, fun _ => at_map Hap.d r k _ (List.getElem?_eq_getElem hk)⟩
theorem hap0 (x : Hap) (h : VH) : ixD cfg.gds h (Hap.d x) (.int 0) = some (.int x.t) := rfl
theorem hap1 (x : Hap) (h : VH) : ixD cfg.gds h (Hap.d x) (.int 1) = some (.int x.w) := rfl
theorem hap2 (x : Hap) (h : VH) : ixD cfg.gds h (Hap.d x) (.int 2) = some (.int x.v) := rfl
theorem held_ago {n : Nat} (hn : 1 ≤ n) (ha : h[a]? = some (heldO r ps)) (j k : Nat) (hj : j < r.length) (hk : k < r.length) : run cfg tbl n 22 [.ref a, .int j, .int k] h = .ok (.val (.int (ago r j k))) h := by
  obtain ⟨n, rfl⟩ : ∃ q, n = q + 1 := ⟨n - 1, by omega⟩
  obtain ⟨x, e1, e2⟩ := row_at j hj
  obtain ⟨y, e3, e4⟩ := row_at k hk
  rw [u_22]
  simp (disch := first | assumption | omega | (simp only [List.length_cons, List.length_nil]; omega)) only [x_c, x_g, x_v0, x_v1, x_v2, x_v3, x_v4, x_v5, x_v6, x_v7, x_v8, x_v9, x_v10, x_v11, x_v12, x_v13, x_v14, x_v15, x_tup, x_lst, x_op, x_neg, x_not, x_and, x_or, x_ite, x_cmp, x_chain, x_ix, x_sl, x_rev, x_call, x_meth, x_new, x_fld, x_isi, x_bi, x_listof, x_bm, x_nil, x_cons, x_eno, x_eso, x_ival, x_irange, x_irev, x_fcall, x_flst, x_flistof, x_asg, x_asgB, x_ex, x_ret, x_retF, x_site, x_raise, x_cont, x_pass, x_par, x_snil, x_scons, x_tnm, x_ttup, x_tsub, x_tfld, x_cono, x_con0, y_thenT, y_thenF, y_then, y_elseT, y_elseF, y_else, y_ifT, y_ifF, y_if, y_not, y_neg, y_opt, y_chT, y_chF, y_ch, y_seq, y_seqR, y_seqN, y_seqC, y_len0, y_len1, y_len2, y_len3, y_len4, y_len5, y_len6, y_fldQ, y_fldS, y_methQ, y_methS, y_setQ, y_setS, y_new, y_non, y_rvN, y_dV, y_dN, y_bindi, y_bindE, y_map, f_nx, f_rt, f_rn, f_ex, l_w0, l_ws, v_bind, v_some, v_add, v_sub, v_lt, v_le, v_gt, v_ge, v_eqI, v_eqS, v_neN, v_isN, v_isNN, v_ixL, v_ixT, v_lenS, v_lenL, v_lenT, List.getElem?_cons_zero, List.getElem?_cons_succ, List.set_cons_zero, List.set_cons_succ, List.length_cons, List.length_nil, Nat.reduceAdd, Option.map_some, if_true, f_if, Option.bind_some, Bool.true_or, Bool.or_true, Bool.false_or, Bool.or_false, Bool.true_and, Bool.and_true, Bool.false_and, Bool.and_false, Bool.not_true, Bool.not_false, Bool.false_eq_true, if_false, wq_0_0, wq_0_1, wq_0_2, wq_0_3, wq_0_4, wq_0_5, wq_0_6, wq_0_7, wq_0_8, wq_1_0, wq_1_1, wq_1_2, wq_1_3, wq_1_4, wq_1_5, wq_1_6, wq_1_7, wq_1_8, wq_2_0, wq_2_1, wq_2_2, wq_2_3, wq_2_4, wq_2_5, wq_2_6, wq_2_7, wq_2_8, wq_3_0, wq_3_1, wq_3_2, wq_3_3, wq_3_4, wq_3_5, wq_3_6, wq_3_7, wq_3_8, wq_4_0, wq_4_1, wq_4_2, wq_4_3, wq_4_4, wq_4_5, wq_4_6, wq_4_7, wq_4_8, wq_5_0, wq_5_1, wq_5_2, wq_5_3, wq_5_4, wq_5_5, wq_5_6, wq_5_7, wq_5_8, wq_6_0, wq_6_1, wq_6_2, wq_6_3, wq_6_4, wq_6_5, wq_6_6, wq_6_7, wq_6_8, wq_7_0, wq_7_1, wq_7_2, wq_7_3, wq_7_4, wq_7_5, wq_7_6, wq_7_7, wq_7_8, wq_8_0, wq_8_1, wq_8_2, wq_8_3, wq_8_4, wq_8_5, wq_8_6, wq_8_7, wq_8_8, fn_22, ha, o_row, e2, e4, hap0]
  simp [ago, e1, e3]
theorem m_ago : cfg.mt 13 1 = some 22 := rfl
theorem held_within {n : Nat} (hn : 2 ≤ n) (ha : h[a]? = some (heldO r ps)) (d : D) (lo : Int) (hi : Option Int) (e1 : ixD cfg.gds h d (.int (-2)) = some (.int lo)) (e2 : ixD cfg.gds h d (.int (-1)) = some (F.oD hi)) (j k : Nat) (hj : j < r.length) (hk : k < r.length) :
    run cfg tbl n 23 [.ref a, d, .int j, .int k] h = .ok (.val (.bl (within lo hi (ago r j k)))) h := by
  obtain ⟨n, rfl⟩ : ∃ q, n = q + 1 := ⟨n - 1, by omega⟩
  have e3 := held_ago (n := n) (by omega) ha j k hj hk
  rw [u_23]
  cases hi with
  | none => simp (disch := first | assumption | omega | (simp only [List.length_cons, List.length_nil]; omega)) only [x_c, x_g, x_v0, x_v1, x_v2, x_v3, x_v4, x_v5, x_v6, x_v7, x_v8, x_v9, x_v10, x_v11, x_v12, x_v13, x_v14, x_v15, x_tup, x_lst, x_op, x_neg, x_not, x_and, x_or, x_ite, x_cmp, x_chain, x_ix, x_sl, x_rev, x_call, x_meth, x_new, x_fld, x_isi, x_bi, x_listof, x_bm, x_nil, x_cons, x_eno, x_eso, x_ival, x_irange, x_irev, x_fcall, x_flst, x_flistof, x_asg, x_asgB, x_ex, x_ret, x_retF, x_site, x_raise, x_cont, x_pass, x_par, x_snil, x_scons, x_tnm, x_ttup, x_tsub, x_tfld, x_cono, x_con0, y_thenT, y_thenF, y_then, y_elseT, y_elseF, y_else, y_ifT, y_ifF, y_if, y_not, y_neg, y_opt, y_chT, y_chF, y_ch, y_seq, y_seqR, y_seqN, y_seqC, y_len0, y_len1, y_len2, y_len3, y_len4, y_len5, y_len6, y_fldQ, y_fldS, y_methQ, y_methS, y_setQ, y_setS, y_new, y_non, y_rvN, y_dV, y_dN, y_bindi, y_bindE, y_map, f_nx, f_rt, f_rn, f_ex, l_w0, l_ws, v_bind, v_some, v_add, v_sub, v_lt, v_le, v_gt, v_ge, v_eqI, v_eqS, v_neN, v_isN, v_isNN, v_ixL, v_ixT, v_lenS, v_lenL, v_lenT, List.getElem?_cons_zero, List.getElem?_cons_succ, List.set_cons_zero, List.set_cons_succ, List.length_cons, List.length_nil, Nat.reduceAdd, Option.map_some, if_true, f_if, Option.bind_some, Bool.true_or, Bool.or_true, Bool.false_or, Bool.or_false, Bool.true_and, Bool.and_true, Bool.false_and, Bool.and_false, Bool.not_true, Bool.not_false, Bool.false_eq_true, if_false, wq_0_0, wq_0_1, wq_0_2, wq_0_3, wq_0_4, wq_0_5, wq_0_6, wq_0_7, wq_0_8, wq_1_0, wq_1_1, wq_1_2, wq_1_3, wq_1_4, wq_1_5, wq_1_6, wq_1_7, wq_1_8, wq_2_0, wq_2_1, wq_2_2, wq_2_3, wq_2_4, wq_2_5, wq_2_6, wq_2_7, wq_2_8, wq_3_0, wq_3_1, wq_3_2, wq_3_3, wq_3_4, wq_3_5, wq_3_6, wq_3_7, wq_3_8, wq_4_0, wq_4_1, wq_4_2, wq_4_3, wq_4_4, wq_4_5, wq_4_6, wq_4_7, wq_4_8, wq_5_0, wq_5_1, wq_5_2, wq_5_3, wq_5_4, wq_5_5, wq_5_6, wq_5_7, wq_5_8, wq_6_0, wq_6_1, wq_6_2, wq_6_3, wq_6_4, wq_6_5, wq_6_6, wq_6_7, wq_6_8, wq_7_0, wq_7_1, wq_7_2, wq_7_3, wq_7_4, wq_7_5, wq_7_6, wq_7_7, wq_7_8, wq_8_0, wq_8_1, wq_8_2, wq_8_3, wq_8_4, wq_8_5, wq_8_6, wq_8_7, wq_8_8, fn_23, ha, o_meth, mt, e1, e2, e3, F.oD, within]
  | some b => simp (disch := first | assumption | omega | (simp only [List.length_cons, List.length_nil]; omega)) only [x_c, x_g, x_v0, x_v1, x_v2, x_v3, x_v4, x_v5, x_v6, x_v7, x_v8, x_v9, x_v10, x_v11, x_v12, x_v13, x_v14, x_v15, x_tup, x_lst, x_op, x_neg, x_not, x_and, x_or, x_ite, x_cmp, x_chain, x_ix, x_sl, x_rev, x_call, x_meth, x_new, x_fld, x_isi, x_bi, x_listof, x_bm, x_nil, x_cons, x_eno, x_eso, x_ival, x_irange, x_irev, x_fcall, x_flst, x_flistof, x_asg, x_asgB, x_ex, x_ret, x_retF, x_site, x_raise, x_cont, x_pass, x_par, x_snil, x_scons, x_tnm, x_ttup, x_tsub, x_tfld, x_cono, x_con0, y_thenT, y_thenF, y_then, y_elseT, y_elseF, y_else, y_ifT, y_ifF, y_if, y_not, y_neg, y_opt, y_chT, y_chF, y_ch, y_seq, y_seqR, y_seqN, y_seqC, y_len0, y_len1, y_len2, y_len3, y_len4, y_len5, y_len6, y_fldQ, y_fldS, y_methQ, y_methS, y_setQ, y_setS, y_new, y_non, y_rvN, y_dV, y_dN, y_bindi, y_bindE, y_map, f_nx, f_rt, f_rn, f_ex, l_w0, l_ws, v_bind, v_some, v_add, v_sub, v_lt, v_le, v_gt, v_ge, v_eqI, v_eqS, v_neN, v_isN, v_isNN, v_ixL, v_ixT, v_lenS, v_lenL, v_lenT, List.getElem?_cons_zero, List.getElem?_cons_succ, List.set_cons_zero, List.set_cons_succ, List.length_cons, List.length_nil, Nat.reduceAdd, Option.map_some, if_true, f_if, Option.bind_some, Bool.true_or, Bool.or_true, Bool.false_or, Bool.or_false, Bool.true_and, Bool.and_true, Bool.false_and, Bool.and_false, Bool.not_true, Bool.not_false, Bool.false_eq_true, if_false, wq_0_0, wq_0_1, wq_0_2, wq_0_3, wq_0_4, wq_0_5, wq_0_6, wq_0_7, wq_0_8, wq_1_0, wq_1_1, wq_1_2, wq_1_3, wq_1_4, wq_1_5, wq_1_6, wq_1_7, wq_1_8, wq_2_0, wq_2_1, wq_2_2, wq_2_3, wq_2_4, wq_2_5, wq_2_6, wq_2_7, wq_2_8, wq_3_0, wq_3_1, wq_3_2, wq_3_3, wq_3_4, wq_3_5, wq_3_6, wq_3_7, wq_3_8, wq_4_0, wq_4_1, wq_4_2, wq_4_3, wq_4_4, wq_4_5, wq_4_6, wq_4_7, wq_4_8, wq_5_0, wq_5_1, wq_5_2, wq_5_3, wq_5_4, wq_5_5, wq_5_6, wq_5_7, wq_5_8, wq_6_0, wq_6_1, wq_6_2, wq_6_3, wq_6_4, wq_6_5, wq_6_6, wq_6_7, wq_6_8, wq_7_0, wq_7_1, wq_7_2, wq_7_3, wq_7_4, wq_7_5, wq_7_6, wq_7_7, wq_7_8, wq_8_0, wq_8_1, wq_8_2, wq_8_3, wq_8_4, wq_8_5, wq_8_6, wq_8_7, wq_8_8, fn_23, ha, o_meth, mt, e1, e2, e3, F.oD, within]
theorem held_behind {n : Nat} (hn : 3 ≤ n) (ha : h[a]? = some (heldO r ps)) (p : F) (hp : ps.head? = some p) (d : D) (lo : Int) (hi : Option Int) (e1 : ixD cfg.gds h d (.int (-2)) = some (.int lo)) (e2 : ixD cfg.gds h d (.int (-1)) = some (F.oD hi)) (k : Nat) (hk : k < r.length) (hr : r.length ≤ 1000) :
    run cfg tbl n 24 [.ref a, d, .int k] h = .ok (.val (.bl (hold r (.behind p lo hi) k))) h := by
  obtain ⟨n, rfl⟩ : ∃ q, n = q + 1 := ⟨n - 1, by omega⟩
  obtain ⟨ps', rfl⟩ : ∃ ps', ps = p :: ps' := by cases ps with | nil => simp at hp | cons x y => simp at hp; exact ⟨y, by rw [hp]⟩
  have i0 : ixL ((p :: ps').map (bD r)) (.int 0) = some (bD r p) := at_map (bD r) _ 0 _ rfl
  rw [u_24]
  have e : evE cfg (run cfg tbl n) (.lc (.v 3) (.nm 3) (.range (.cons (.v 2) .nil)) (.some (.and (.ix (.ix (.fld (.v 0) 4) (.c (.int 0))) (.v 3)) (.meth (.v 0) 2 (.cons (.v 1) (.cons (.v 3) (.cons (.v 2) .nil)))))) [3]) [some (.ref a), some d, some (.int k), none] h =
      .ok (.lst (((List.range k).filter fun j => hold r p j && within lo hi (ago r j k)).map fun j : Nat => .int j)) h := by
    refine e_lc (fun j : Nat => .int j) _ (fun j : Nat => .int j) (List.range k) ?_ (rng_le _ (by omega)) ?_
    · simp (disch := first | assumption | omega | (simp only [List.length_cons, List.length_nil]; omega)) only [x_c, x_g, x_v0, x_v1, x_v2, x_v3, x_v4, x_v5, x_v6, x_v7, x_v8, x_v9, x_v10, x_v11, x_v12, x_v13, x_v14, x_v15, x_tup, x_lst, x_op, x_neg, x_not, x_and, x_or, x_ite, x_cmp, x_chain, x_ix, x_sl, x_rev, x_call, x_meth, x_new, x_fld, x_isi, x_bi, x_listof, x_bm, x_nil, x_cons, x_eno, x_eso, x_ival, x_irange, x_irev, x_fcall, x_flst, x_flistof, x_asg, x_asgB, x_ex, x_ret, x_retF, x_site, x_raise, x_cont, x_pass, x_par, x_snil, x_scons, x_tnm, x_ttup, x_tsub, x_tfld, x_cono, x_con0, y_thenT, y_thenF, y_then, y_elseT, y_elseF, y_else, y_ifT, y_ifF, y_if, y_not, y_neg, y_opt, y_chT, y_chF, y_ch, y_seq, y_seqR, y_seqN, y_seqC, y_len0, y_len1, y_len2, y_len3, y_len4, y_len5, y_len6, y_fldQ, y_fldS, y_methQ, y_methS, y_setQ, y_setS, y_new, y_non, y_rvN, y_dV, y_dN, y_bindi, y_bindE, y_map, f_nx, f_rt, f_rn, f_ex, l_w0, l_ws, v_bind, v_some, v_add, v_sub, v_lt, v_le, v_gt, v_ge, v_eqI, v_eqS, v_neN, v_isN, v_isNN, v_ixL, v_ixT, v_lenS, v_lenL, v_lenT, List.getElem?_cons_zero, List.getElem?_cons_succ, List.set_cons_zero, List.set_cons_succ, List.length_cons, List.length_nil, Nat.reduceAdd, Option.map_some, if_true, f_if, Option.bind_some, Bool.true_or, Bool.or_true, Bool.false_or, Bool.or_false, Bool.true_and, Bool.and_true, Bool.false_and, Bool.and_false, Bool.not_true, Bool.not_false, Bool.false_eq_true, if_false, wq_0_0, wq_0_1, wq_0_2, wq_0_3, wq_0_4, wq_0_5, wq_0_6, wq_0_7, wq_0_8, wq_1_0, wq_1_1, wq_1_2, wq_1_3, wq_1_4, wq_1_5, wq_1_6, wq_1_7, wq_1_8, wq_2_0, wq_2_1, wq_2_2, wq_2_3, wq_2_4, wq_2_5, wq_2_6, wq_2_7, wq_2_8, wq_3_0, wq_3_1, wq_3_2, wq_3_3, wq_3_4, wq_3_5, wq_3_6, wq_3_7, wq_3_8, wq_4_0, wq_4_1, wq_4_2, wq_4_3, wq_4_4, wq_4_5, wq_4_6, wq_4_7, wq_4_8, wq_5_0, wq_5_1, wq_5_2, wq_5_3, wq_5_4, wq_5_5, wq_5_6, wq_5_7, wq_5_8, wq_6_0, wq_6_1, wq_6_2, wq_6_3, wq_6_4, wq_6_5, wq_6_6, wq_6_7, wq_6_8, wq_7_0, wq_7_1, wq_7_2, wq_7_3, wq_7_4, wq_7_5, wq_7_6, wq_7_7, wq_7_8, wq_8_0, wq_8_1, wq_8_2, wq_8_3, wq_8_4, wq_8_5, wq_8_6, wq_8_7, wq_8_8, range_nat k (by omega)]
    · intro j hj
      have hj : j < k := by simpa using hj
      refine ⟨_, rfl, ?_, fun _ => by simp (disch := first | assumption | omega | (simp only [List.length_cons, List.length_nil]; omega)) only [x_c, x_g, x_v0, x_v1, x_v2, x_v3, x_v4, x_v5, x_v6, x_v7, x_v8, x_v9, x_v10, x_v11, x_v12, x_v13, x_v14, x_v15, x_tup, x_lst, x_op, x_neg, x_not, x_and, x_or, x_ite, x_cmp, x_chain, x_ix, x_sl, x_rev, x_call, x_meth, x_new, x_fld, x_isi, x_bi, x_listof, x_bm, x_nil, x_cons, x_eno, x_eso, x_ival, x_irange, x_irev, x_fcall, x_flst, x_flistof, x_asg, x_asgB, x_ex, x_ret, x_retF, x_site, x_raise, x_cont, x_pass, x_par, x_snil, x_scons, x_tnm, x_ttup, x_tsub, x_tfld, x_cono, x_con0, y_thenT, y_thenF, y_then, y_elseT, y_elseF, y_else, y_ifT, y_ifF, y_if, y_not, y_neg, y_opt, y_chT, y_chF, y_ch, y_seq, y_seqR, y_seqN, y_seqC, y_len0, y_len1, y_len2, y_len3, y_len4, y_len5, y_len6, y_fldQ, y_fldS, y_methQ, y_methS, y_setQ, y_setS, y_new, y_non, y_rvN, y_dV, y_dN, y_bindi, y_bindE, y_map, f_nx, f_rt, f_rn, f_ex, l_w0, l_ws, v_bind, v_some, v_add, v_sub, v_lt, v_le, v_gt, v_ge, v_eqI, v_eqS, v_neN, v_isN, v_isNN, v_ixL, v_ixT, v_lenS, v_lenL, v_lenT, List.getElem?_cons_zero, List.getElem?_cons_succ, List.set_cons_zero, List.set_cons_succ, List.length_cons, List.length_nil, Nat.reduceAdd, Option.map_some, if_true, f_if, Option.bind_some, Bool.true_or, Bool.or_true, Bool.false_or, Bool.or_false, Bool.true_and, Bool.and_true, Bool.false_and, Bool.and_false, Bool.not_true, Bool.not_false, Bool.false_eq_true, if_false, wq_0_0, wq_0_1, wq_0_2, wq_0_3, wq_0_4, wq_0_5, wq_0_6, wq_0_7, wq_0_8, wq_1_0, wq_1_1, wq_1_2, wq_1_3, wq_1_4, wq_1_5, wq_1_6, wq_1_7, wq_1_8, wq_2_0, wq_2_1, wq_2_2, wq_2_3, wq_2_4, wq_2_5, wq_2_6, wq_2_7, wq_2_8, wq_3_0, wq_3_1, wq_3_2, wq_3_3, wq_3_4, wq_3_5, wq_3_6, wq_3_7, wq_3_8, wq_4_0, wq_4_1, wq_4_2, wq_4_3, wq_4_4, wq_4_5, wq_4_6, wq_4_7, wq_4_8, wq_5_0, wq_5_1, wq_5_2, wq_5_3, wq_5_4, wq_5_5, wq_5_6, wq_5_7, wq_5_8, wq_6_0, wq_6_1, wq_6_2, wq_6_3, wq_6_4, wq_6_5, wq_6_6, wq_6_7, wq_6_8, wq_7_0, wq_7_1, wq_7_2, wq_7_3, wq_7_4, wq_7_5, wq_7_6, wq_7_7, wq_7_8, wq_8_0, wq_8_1, wq_8_2, wq_8_3, wq_8_4, wq_8_5, wq_8_6, wq_8_7, wq_8_8]⟩
      simp (disch := first | assumption | omega | (simp only [List.length_cons, List.length_nil]; omega)) only [x_c, x_g, x_v0, x_v1, x_v2, x_v3, x_v4, x_v5, x_v6, x_v7, x_v8, x_v9, x_v10, x_v11, x_v12, x_v13, x_v14, x_v15, x_tup, x_lst, x_op, x_neg, x_not, x_and, x_or, x_ite, x_cmp, x_chain, x_ix, x_sl, x_rev, x_call, x_meth, x_new, x_fld, x_isi, x_bi, x_listof, x_bm, x_nil, x_cons, x_eno, x_eso, x_ival, x_irange, x_irev, x_fcall, x_flst, x_flistof, x_asg, x_asgB, x_ex, x_ret, x_retF, x_site, x_raise, x_cont, x_pass, x_par, x_snil, x_scons, x_tnm, x_ttup, x_tsub, x_tfld, x_cono, x_con0, y_thenT, y_thenF, y_then, y_elseT, y_elseF, y_else, y_ifT, y_ifF, y_if, y_not, y_neg, y_opt, y_chT, y_chF, y_ch, y_seq, y_seqR, y_seqN, y_seqC, y_len0, y_len1, y_len2, y_len3, y_len4, y_len5, y_len6, y_fldQ, y_fldS, y_methQ, y_methS, y_setQ, y_setS, y_new, y_non, y_rvN, y_dV, y_dN, y_bindi, y_bindE, y_map, f_nx, f_rt, f_rn, f_ex, l_w0, l_ws, v_bind, v_some, v_add, v_sub, v_lt, v_le, v_gt, v_ge, v_eqI, v_eqS, v_neN, v_isN, v_isNN, v_ixL, v_ixT, v_lenS, v_lenL, v_lenT, List.getElem?_cons_zero, List.getElem?_cons_succ, List.set_cons_zero, List.set_cons_succ, List.length_cons, List.length_nil, Nat.reduceAdd, Option.map_some, if_true, f_if, Option.bind_some, Bool.true_or, Bool.or_true, Bool.false_or, Bool.or_false, Bool.true_and, Bool.and_true, Bool.false_and, Bool.and_false, Bool.not_true, Bool.not_false, Bool.false_eq_true, if_false, wq_0_0, wq_0_1, wq_0_2, wq_0_3, wq_0_4, wq_0_5, wq_0_6, wq_0_7, wq_0_8, wq_1_0, wq_1_1, wq_1_2, wq_1_3, wq_1_4, wq_1_5, wq_1_6, wq_1_7, wq_1_8, wq_2_0, wq_2_1, wq_2_2, wq_2_3, wq_2_4, wq_2_5, wq_2_6, wq_2_7, wq_2_8, wq_3_0, wq_3_1, wq_3_2, wq_3_3, wq_3_4, wq_3_5, wq_3_6, wq_3_7, wq_3_8, wq_4_0, wq_4_1, wq_4_2, wq_4_3, wq_4_4, wq_4_5, wq_4_6, wq_4_7, wq_4_8, wq_5_0, wq_5_1, wq_5_2, wq_5_3, wq_5_4, wq_5_5, wq_5_6, wq_5_7, wq_5_8, wq_6_0, wq_6_1, wq_6_2, wq_6_3, wq_6_4, wq_6_5, wq_6_6, wq_6_7, wq_6_8, wq_7_0, wq_7_1, wq_7_2, wq_7_3, wq_7_4, wq_7_5, wq_7_6, wq_7_7, wq_7_8, wq_8_0, wq_8_1, wq_8_2, wq_8_3, wq_8_4, wq_8_5, wq_8_6, wq_8_7, wq_8_8, ha, o_told, o_meth, mt, i0, bD, at_hold r p j (by omega), held_within (by omega : 2 ≤ n) ha d lo hi e1 e2 j k (by omega) hk]
  simp only [fn_24]
  simp (disch := first | assumption | omega | (simp only [List.length_cons, List.length_nil]; omega)) only [x_c, x_g, x_v0, x_v1, x_v2, x_v3, x_v4, x_v5, x_v6, x_v7, x_v8, x_v9, x_v10, x_v11, x_v12, x_v13, x_v14, x_v15, x_tup, x_lst, x_op, x_neg, x_not, x_and, x_or, x_ite, x_cmp, x_chain, x_ix, x_sl, x_rev, x_call, x_meth, x_new, x_fld, x_isi, x_bi, x_listof, x_bm, x_nil, x_cons, x_eno, x_eso, x_ival, x_irange, x_irev, x_fcall, x_flst, x_flistof, x_asg, x_asgB, x_ex, x_ret, x_retF, x_site, x_raise, x_cont, x_pass, x_par, x_snil, x_scons, x_tnm, x_ttup, x_tsub, x_tfld, x_cono, x_con0, y_thenT, y_thenF, y_then, y_elseT, y_elseF, y_else, y_ifT, y_ifF, y_if, y_not, y_neg, y_opt, y_chT, y_chF, y_ch, y_seq, y_seqR, y_seqN, y_seqC, y_len0, y_len1, y_len2, y_len3, y_len4, y_len5, y_len6, y_fldQ, y_fldS, y_methQ, y_methS, y_setQ, y_setS, y_new, y_non, y_rvN, y_dV, y_dN, y_bindi, y_bindE, y_map, f_nx, f_rt, f_rn, f_ex, l_w0, l_ws, v_bind, v_some, v_add, v_sub, v_lt, v_le, v_gt, v_ge, v_eqI, v_eqS, v_neN, v_isN, v_isNN, v_ixL, v_ixT, v_lenS, v_lenL, v_lenT, List.getElem?_cons_zero, List.getElem?_cons_succ, List.set_cons_zero, List.set_cons_succ, List.length_cons, List.length_nil, Nat.reduceAdd, Option.map_some, if_true, f_if, Option.bind_some, Bool.true_or, Bool.or_true, Bool.false_or, Bool.or_false, Bool.true_and, Bool.and_true, Bool.false_and, Bool.and_false, Bool.not_true, Bool.not_false, Bool.false_eq_true, if_false, wq_0_0, wq_0_1, wq_0_2, wq_0_3, wq_0_4, wq_0_5, wq_0_6, wq_0_7, wq_0_8, wq_1_0, wq_1_1, wq_1_2, wq_1_3, wq_1_4, wq_1_5, wq_1_6, wq_1_7, wq_1_8, wq_2_0, wq_2_1, wq_2_2, wq_2_3, wq_2_4, wq_2_5, wq_2_6, wq_2_7, wq_2_8, wq_3_0, wq_3_1, wq_3_2, wq_3_3, wq_3_4, wq_3_5, wq_3_6, wq_3_7, wq_3_8, wq_4_0, wq_4_1, wq_4_2, wq_4_3, wq_4_4, wq_4_5, wq_4_6, wq_4_7, wq_4_8, wq_5_0, wq_5_1, wq_5_2, wq_5_3, wq_5_4, wq_5_5, wq_5_6, wq_5_7, wq_5_8, wq_6_0, wq_6_1, wq_6_2, wq_6_3, wq_6_4, wq_6_5, wq_6_6, wq_6_7, wq_6_8, wq_7_0, wq_7_1, wq_7_2, wq_7_3, wq_7_4, wq_7_5, wq_7_6, wq_7_7, wq_7_8, wq_8_0, wq_8_1, wq_8_2, wq_8_3, wq_8_4, wq_8_5, wq_8_6, wq_8_7, wq_8_8, e, v_neE _ _ _ (plains_map (fun j : Nat => D.int j) (fun _ => rfl) _)]
  simp only [hold, any_filter, List.isEmpty_map]
theorem held_since {n : Nat} (hn : 3 ≤ n) (ha : h[a]? = some (heldO r ps)) (p q : F) (hp : ps = [p, q]) (d : D) (lo : Int) (hi : Option Int) (e1 : ixD cfg.gds h d (.int (-2)) = some (.int lo)) (e2 : ixD cfg.gds h d (.int (-1)) = some (F.oD hi)) (k : Nat) (hk : k < r.length) (hr : r.length ≤ 1000) :
    run cfg tbl n 25 [.ref a, d, .int k] h = .ok (.val (.bl (hold r (.since p q lo hi) k))) h := by
  obtain ⟨n, rfl⟩ : ∃ q, n = q + 1 := ⟨n - 1, by omega⟩
  subst hp
  have i0 : ixL ([p, q].map (bD r)) (.int 0) = some (bD r p) := rfl
  have i1 : ixL ([p, q].map (bD r)) (.int 1) = some (bD r q) := rfl
  have key : (run cfg tbl (n + 1) 25 [.ref a, d, .int k] h).get fun rv h' => rv = .val (.bl (hold r (.since p q lo hi) k)) ∧ h' = h := by
    rw [u_25]
    simp only [fn_25]
    rw [x_scons]
    refine get_fin (get_bind (e_for (fun i ρ h' => (∃ x, ρ = [some (.ref a), some d, some (.int k), x]) ∧ h' = h ∧ ∀ j, j < k → k ≤ j + i → (hold r q j && within lo hi (ago r j k)) = false ∧ hold r p j = true)
      (fun o h' => h' = h ∧ match o with | .nx ρ => (∃ x, ρ = [some (.ref a), some d, some (.int k), x]) ∧ hold r (.since p q lo hi) k = false | .rt v => v = .bl (hold r (.since p q lo hi) k) | _ => False) _
      (by simp (disch := first | assumption | omega | (simp only [List.length_cons, List.length_nil]; omega)) only [x_c, x_g, x_v0, x_v1, x_v2, x_v3, x_v4, x_v5, x_v6, x_v7, x_v8, x_v9, x_v10, x_v11, x_v12, x_v13, x_v14, x_v15, x_tup, x_lst, x_op, x_neg, x_not, x_and, x_or, x_ite, x_cmp, x_chain, x_ix, x_sl, x_rev, x_call, x_meth, x_new, x_fld, x_isi, x_bi, x_listof, x_bm, x_nil, x_cons, x_eno, x_eso, x_ival, x_irange, x_irev, x_fcall, x_flst, x_flistof, x_asg, x_asgB, x_ex, x_ret, x_retF, x_site, x_raise, x_cont, x_pass, x_par, x_snil, x_scons, x_tnm, x_ttup, x_tsub, x_tfld, x_cono, x_con0, y_thenT, y_thenF, y_then, y_elseT, y_elseF, y_else, y_ifT, y_ifF, y_if, y_not, y_neg, y_opt, y_chT, y_chF, y_ch, y_seq, y_seqR, y_seqN, y_seqC, y_len0, y_len1, y_len2, y_len3, y_len4, y_len5, y_len6, y_fldQ, y_fldS, y_methQ, y_methS, y_setQ, y_setS, y_new, y_non, y_rvN, y_dV, y_dN, y_bindi, y_bindE, y_map, f_nx, f_rt, f_rn, f_ex, l_w0, l_ws, v_bind, v_some, v_add, v_sub, v_lt, v_le, v_gt, v_ge, v_eqI, v_eqS, v_neN, v_isN, v_isNN, v_ixL, v_ixT, v_lenS, v_lenL, v_lenT, List.getElem?_cons_zero, List.getElem?_cons_succ, List.set_cons_zero, List.set_cons_succ, List.length_cons, List.length_nil, Nat.reduceAdd, Option.map_some, if_true, f_if, Option.bind_some, Bool.true_or, Bool.or_true, Bool.false_or, Bool.or_false, Bool.true_and, Bool.and_true, Bool.false_and, Bool.and_false, Bool.not_true, Bool.not_false, Bool.false_eq_true, if_false, wq_0_0, wq_0_1, wq_0_2, wq_0_3, wq_0_4, wq_0_5, wq_0_6, wq_0_7, wq_0_8, wq_1_0, wq_1_1, wq_1_2, wq_1_3, wq_1_4, wq_1_5, wq_1_6, wq_1_7, wq_1_8, wq_2_0, wq_2_1, wq_2_2, wq_2_3, wq_2_4, wq_2_5, wq_2_6, wq_2_7, wq_2_8, wq_3_0, wq_3_1, wq_3_2, wq_3_3, wq_3_4, wq_3_5, wq_3_6, wq_3_7, wq_3_8, wq_4_0, wq_4_1, wq_4_2, wq_4_3, wq_4_4, wq_4_5, wq_4_6, wq_4_7, wq_4_8, wq_5_0, wq_5_1, wq_5_2, wq_5_3, wq_5_4, wq_5_5, wq_5_6, wq_5_7, wq_5_8, wq_6_0, wq_6_1, wq_6_2, wq_6_3, wq_6_4, wq_6_5, wq_6_6, wq_6_7, wq_6_8, wq_7_0, wq_7_1, wq_7_2, wq_7_3, wq_7_4, wq_7_5, wq_7_6, wq_7_7, wq_7_8, wq_8_0, wq_8_1, wq_8_2, wq_8_3, wq_8_4, wq_8_5, wq_8_6, wq_8_7, wq_8_8, range_3 ((k : Int) - 1) (-1) (by omega) (by omega) (by omega) (by omega)]; rfl) ⟨⟨_, rfl⟩, rfl, by omega⟩ ?_ ?_) ?_) (P := fun o h' => h' = h ∧ o = .rt (.bl (hold r (.since p q lo hi) k))) ?_
    · rintro i x ρ h' hx ⟨⟨y, rfl⟩, rfl, hI⟩
      obtain ⟨hil, rfl⟩ : i < k ∧ x = .int ((k - 1 - i : Nat) : Int) := by
        obtain ⟨h1, h2⟩ := List.getElem?_eq_some_iff.mp hx
        simp at h1 h2
        refine ⟨by omega, h2.symm.trans ?_⟩
        congr 1; omega
      refine ⟨_, rfl, ?_⟩
      have hj : k - 1 - i < r.length := by omega
      have ew := held_within (by omega : 2 ≤ n) ha d lo hi e1 e2 (k - 1 - i) k hj hk
      have a0 := at_hold r p (k - 1 - i) hj
      have a1 := at_hold r q (k - 1 - i) hj
      by_cases hc : (hold r q (k - 1 - i) && within lo hi (ago r (k - 1 - i) k)) = true
      · simp (disch := first | assumption | omega | (simp only [List.length_cons, List.length_nil]; omega)) only [x_c, x_g, x_v0, x_v1, x_v2, x_v3, x_v4, x_v5, x_v6, x_v7, x_v8, x_v9, x_v10, x_v11, x_v12, x_v13, x_v14, x_v15, x_tup, x_lst, x_op, x_neg, x_not, x_and, x_or, x_ite, x_cmp, x_chain, x_ix, x_sl, x_rev, x_call, x_meth, x_new, x_fld, x_isi, x_bi, x_listof, x_bm, x_nil, x_cons, x_eno, x_eso, x_ival, x_irange, x_irev, x_fcall, x_flst, x_flistof, x_asg, x_asgB, x_ex, x_ret, x_retF, x_site, x_raise, x_cont, x_pass, x_par, x_snil, x_scons, x_tnm, x_ttup, x_tsub, x_tfld, x_cono, x_con0, y_thenT, y_thenF, y_then, y_elseT, y_elseF, y_else, y_ifT, y_ifF, y_if, y_not, y_neg, y_opt, y_chT, y_chF, y_ch, y_seq, y_seqR, y_seqN, y_seqC, y_len0, y_len1, y_len2, y_len3, y_len4, y_len5, y_len6, y_fldQ, y_fldS, y_methQ, y_methS, y_setQ, y_setS, y_new, y_non, y_rvN, y_dV, y_dN, y_bindi, y_bindE, y_map, f_nx, f_rt, f_rn, f_ex, l_w0, l_ws, v_bind, v_some, v_add, v_sub, v_lt, v_le, v_gt, v_ge, v_eqI, v_eqS, v_neN, v_isN, v_isNN, v_ixL, v_ixT, v_lenS, v_lenL, v_lenT, List.getElem?_cons_zero, List.getElem?_cons_succ, List.set_cons_zero, List.set_cons_succ, List.length_cons, List.length_nil, Nat.reduceAdd, Option.map_some, if_true, f_if, Option.bind_some, Bool.true_or, Bool.or_true, Bool.false_or, Bool.or_false, Bool.true_and, Bool.and_true, Bool.false_and, Bool.and_false, Bool.not_true, Bool.not_false, Bool.false_eq_true, if_false, wq_0_0, wq_0_1, wq_0_2, wq_0_3, wq_0_4, wq_0_5, wq_0_6, wq_0_7, wq_0_8, wq_1_0, wq_1_1, wq_1_2, wq_1_3, wq_1_4, wq_1_5, wq_1_6, wq_1_7, wq_1_8, wq_2_0, wq_2_1, wq_2_2, wq_2_3, wq_2_4, wq_2_5, wq_2_6, wq_2_7, wq_2_8, wq_3_0, wq_3_1, wq_3_2, wq_3_3, wq_3_4, wq_3_5, wq_3_6, wq_3_7, wq_3_8, wq_4_0, wq_4_1, wq_4_2, wq_4_3, wq_4_4, wq_4_5, wq_4_6, wq_4_7, wq_4_8, wq_5_0, wq_5_1, wq_5_2, wq_5_3, wq_5_4, wq_5_5, wq_5_6, wq_5_7, wq_5_8, wq_6_0, wq_6_1, wq_6_2, wq_6_3, wq_6_4, wq_6_5, wq_6_6, wq_6_7, wq_6_8, wq_7_0, wq_7_1, wq_7_2, wq_7_3, wq_7_4, wq_7_5, wq_7_6, wq_7_7, wq_7_8, wq_8_0, wq_8_1, wq_8_2, wq_8_3, wq_8_4, wq_8_5, wq_8_6, wq_8_7, wq_8_8, ha, o_told, o_meth, mt, i0, i1, bD, a0, a1, ew, hc, get_ok]
        refine ⟨trivial, ?_⟩
        congr 1
        symm
        simp only [hold, List.any_eq_true, List.mem_range, Bool.and_eq_true, List.all_eq_true, Bool.or_eq_true, decide_eq_true_eq]
        refine ⟨k - 1 - i, by omega, by simpa using hc, fun j hj => ?_⟩
        by_cases hj2 : j ≤ k - 1 - i
        · exact .inl hj2
        · exact .inr (hI j hj (by omega)).2
      · have hc : (hold r q (k - 1 - i) && within lo hi (ago r (k - 1 - i) k)) = false := by simpa using hc
        cases hp0 : hold r p (k - 1 - i) with
        | true =>
          simp (disch := first | assumption | omega | (simp only [List.length_cons, List.length_nil]; omega)) only [x_c, x_g, x_v0, x_v1, x_v2, x_v3, x_v4, x_v5, x_v6, x_v7, x_v8, x_v9, x_v10, x_v11, x_v12, x_v13, x_v14, x_v15, x_tup, x_lst, x_op, x_neg, x_not, x_and, x_or, x_ite, x_cmp, x_chain, x_ix, x_sl, x_rev, x_call, x_meth, x_new, x_fld, x_isi, x_bi, x_listof, x_bm, x_nil, x_cons, x_eno, x_eso, x_ival, x_irange, x_irev, x_fcall, x_flst, x_flistof, x_asg, x_asgB, x_ex, x_ret, x_retF, x_site, x_raise, x_cont, x_pass, x_par, x_snil, x_scons, x_tnm, x_ttup, x_tsub, x_tfld, x_cono, x_con0, y_thenT, y_thenF, y_then, y_elseT, y_elseF, y_else, y_ifT, y_ifF, y_if, y_not, y_neg, y_opt, y_chT, y_chF, y_ch, y_seq, y_seqR, y_seqN, y_seqC, y_len0, y_len1, y_len2, y_len3, y_len4, y_len5, y_len6, y_fldQ, y_fldS, y_methQ, y_methS, y_setQ, y_setS, y_new, y_non, y_rvN, y_dV, y_dN, y_bindi, y_bindE, y_map, f_nx, f_rt, f_rn, f_ex, l_w0, l_ws, v_bind, v_some, v_add, v_sub, v_lt, v_le, v_gt, v_ge, v_eqI, v_eqS, v_neN, v_isN, v_isNN, v_ixL, v_ixT, v_lenS, v_lenL, v_lenT, List.getElem?_cons_zero, List.getElem?_cons_succ, List.set_cons_zero, List.set_cons_succ, List.length_cons, List.length_nil, Nat.reduceAdd, Option.map_some, if_true, f_if, Option.bind_some, Bool.true_or, Bool.or_true, Bool.false_or, Bool.or_false, Bool.true_and, Bool.and_true, Bool.false_and, Bool.and_false, Bool.not_true, Bool.not_false, Bool.false_eq_true, if_false, wq_0_0, wq_0_1, wq_0_2, wq_0_3, wq_0_4, wq_0_5, wq_0_6, wq_0_7, wq_0_8, wq_1_0, wq_1_1, wq_1_2, wq_1_3, wq_1_4, wq_1_5, wq_1_6, wq_1_7, wq_1_8, wq_2_0, wq_2_1, wq_2_2, wq_2_3, wq_2_4, wq_2_5, wq_2_6, wq_2_7, wq_2_8, wq_3_0, wq_3_1, wq_3_2, wq_3_3, wq_3_4, wq_3_5, wq_3_6, wq_3_7, wq_3_8, wq_4_0, wq_4_1, wq_4_2, wq_4_3, wq_4_4, wq_4_5, wq_4_6, wq_4_7, wq_4_8, wq_5_0, wq_5_1, wq_5_2, wq_5_3, wq_5_4, wq_5_5, wq_5_6, wq_5_7, wq_5_8, wq_6_0, wq_6_1, wq_6_2, wq_6_3, wq_6_4, wq_6_5, wq_6_6, wq_6_7, wq_6_8, wq_7_0, wq_7_1, wq_7_2, wq_7_3, wq_7_4, wq_7_5, wq_7_6, wq_7_7, wq_7_8, wq_8_0, wq_8_1, wq_8_2, wq_8_3, wq_8_4, wq_8_5, wq_8_6, wq_8_7, wq_8_8, ha, o_told, o_meth, mt, i0, i1, bD, a0, a1, ew, hc, hp0, get_ok]
          refine ⟨⟨_, rfl⟩, trivial, fun j hj hji => ?_⟩
          rcases Nat.lt_or_ge j (k - i) with z | z
          · have : j = k - 1 - i := by omega
            subst this
            exact ⟨hc, hp0⟩
          · exact hI j hj (by omega)
        | false =>
          simp (disch := first | assumption | omega | (simp only [List.length_cons, List.length_nil]; omega)) only [x_c, x_g, x_v0, x_v1, x_v2, x_v3, x_v4, x_v5, x_v6, x_v7, x_v8, x_v9, x_v10, x_v11, x_v12, x_v13, x_v14, x_v15, x_tup, x_lst, x_op, x_neg, x_not, x_and, x_or, x_ite, x_cmp, x_chain, x_ix, x_sl, x_rev, x_call, x_meth, x_new, x_fld, x_isi, x_bi, x_listof, x_bm, x_nil, x_cons, x_eno, x_eso, x_ival, x_irange, x_irev, x_fcall, x_flst, x_flistof, x_asg, x_asgB, x_ex, x_ret, x_retF, x_site, x_raise, x_cont, x_pass, x_par, x_snil, x_scons, x_tnm, x_ttup, x_tsub, x_tfld, x_cono, x_con0, y_thenT, y_thenF, y_then, y_elseT, y_elseF, y_else, y_ifT, y_ifF, y_if, y_not, y_neg, y_opt, y_chT, y_chF, y_ch, y_seq, y_seqR, y_seqN, y_seqC, y_len0, y_len1, y_len2, y_len3, y_len4, y_len5, y_len6, y_fldQ, y_fldS, y_methQ, y_methS, y_setQ, y_setS, y_new, y_non, y_rvN, y_dV, y_dN, y_bindi, y_bindE, y_map, f_nx, f_rt, f_rn, f_ex, l_w0, l_ws, v_bind, v_some, v_add, v_sub, v_lt, v_le, v_gt, v_ge, v_eqI, v_eqS, v_neN, v_isN, v_isNN, v_ixL, v_ixT, v_lenS, v_lenL, v_lenT, List.getElem?_cons_zero, List.getElem?_cons_succ, List.set_cons_zero, List.set_cons_succ, List.length_cons, List.length_nil, Nat.reduceAdd, Option.map_some, if_true, f_if, Option.bind_some, Bool.true_or, Bool.or_true, Bool.false_or, Bool.or_false, Bool.true_and, Bool.and_true, Bool.false_and, Bool.and_false, Bool.not_true, Bool.not_false, Bool.false_eq_true, if_false, wq_0_0, wq_0_1, wq_0_2, wq_0_3, wq_0_4, wq_0_5, wq_0_6, wq_0_7, wq_0_8, wq_1_0, wq_1_1, wq_1_2, wq_1_3, wq_1_4, wq_1_5, wq_1_6, wq_1_7, wq_1_8, wq_2_0, wq_2_1, wq_2_2, wq_2_3, wq_2_4, wq_2_5, wq_2_6, wq_2_7, wq_2_8, wq_3_0, wq_3_1, wq_3_2, wq_3_3, wq_3_4, wq_3_5, wq_3_6, wq_3_7, wq_3_8, wq_4_0, wq_4_1, wq_4_2, wq_4_3, wq_4_4, wq_4_5, wq_4_6, wq_4_7, wq_4_8, wq_5_0, wq_5_1, wq_5_2, wq_5_3, wq_5_4, wq_5_5, wq_5_6, wq_5_7, wq_5_8, wq_6_0, wq_6_1, wq_6_2, wq_6_3, wq_6_4, wq_6_5, wq_6_6, wq_6_7, wq_6_8, wq_7_0, wq_7_1, wq_7_2, wq_7_3, wq_7_4, wq_7_5, wq_7_6, wq_7_7, wq_7_8, wq_8_0, wq_8_1, wq_8_2, wq_8_3, wq_8_4, wq_8_5, wq_8_6, wq_8_7, wq_8_8, ha, o_told, o_meth, mt, i0, i1, bD, a0, a1, ew, hc, hp0, get_ok]
          refine ⟨trivial, ?_⟩
          congr 1
          symm
          rw [← Bool.not_eq_true]
          simp only [hold, List.any_eq_true, List.mem_range, Bool.and_eq_true, List.all_eq_true, Bool.or_eq_true, decide_eq_true_eq, not_exists]
          rintro j ⟨hj, hq, hall⟩
          by_cases hj2 : j ≤ k - 1 - i
          · by_cases hj3 : j = k - 1 - i
            · subst hj3; simp [hq] at hc
            · rcases hall (k - 1 - i) (by omega) with z | z
              · omega
              · rw [hp0] at z; cases z
          · have := (hI j hj (by omega)).1
            simp [hq] at this
    · rintro ρ h' ⟨⟨y, rfl⟩, rfl, hI⟩
      refine ⟨rfl, ⟨_, rfl⟩, ?_⟩
      rw [← Bool.not_eq_true]
      simp only [hold, List.any_eq_true, List.mem_range, Bool.and_eq_true, List.all_eq_true, Bool.or_eq_true, decide_eq_true_eq, not_exists]
      rintro j ⟨hj, hq, hall⟩
      have := (hI j hj (by simp only [List.length_map, List.length_range]; omega)).1
      simp [hq] at this
    · rintro o h' ⟨rfl, z⟩
      cases o with
      | nx ρ =>
        obtain ⟨⟨y, rfl⟩, z⟩ := z
        simp (disch := first | assumption | omega | (simp only [List.length_cons, List.length_nil]; omega)) only [x_c, x_g, x_v0, x_v1, x_v2, x_v3, x_v4, x_v5, x_v6, x_v7, x_v8, x_v9, x_v10, x_v11, x_v12, x_v13, x_v14, x_v15, x_tup, x_lst, x_op, x_neg, x_not, x_and, x_or, x_ite, x_cmp, x_chain, x_ix, x_sl, x_rev, x_call, x_meth, x_new, x_fld, x_isi, x_bi, x_listof, x_bm, x_nil, x_cons, x_eno, x_eso, x_ival, x_irange, x_irev, x_fcall, x_flst, x_flistof, x_asg, x_asgB, x_ex, x_ret, x_retF, x_site, x_raise, x_cont, x_pass, x_par, x_snil, x_scons, x_tnm, x_ttup, x_tsub, x_tfld, x_cono, x_con0, y_thenT, y_thenF, y_then, y_elseT, y_elseF, y_else, y_ifT, y_ifF, y_if, y_not, y_neg, y_opt, y_chT, y_chF, y_ch, y_seq, y_seqR, y_seqN, y_seqC, y_len0, y_len1, y_len2, y_len3, y_len4, y_len5, y_len6, y_fldQ, y_fldS, y_methQ, y_methS, y_setQ, y_setS, y_new, y_non, y_rvN, y_dV, y_dN, y_bindi, y_bindE, y_map, f_nx, f_rt, f_rn, f_ex, l_w0, l_ws, v_bind, v_some, v_add, v_sub, v_lt, v_le, v_gt, v_ge, v_eqI, v_eqS, v_neN, v_isN, v_isNN, v_ixL, v_ixT, v_lenS, v_lenL, v_lenT, List.getElem?_cons_zero, List.getElem?_cons_succ, List.set_cons_zero, List.set_cons_succ, List.length_cons, List.length_nil, Nat.reduceAdd, Option.map_some, if_true, f_if, Option.bind_some, Bool.true_or, Bool.or_true, Bool.false_or, Bool.or_false, Bool.true_and, Bool.and_true, Bool.false_and, Bool.and_false, Bool.not_true, Bool.not_false, Bool.false_eq_true, if_false, wq_0_0, wq_0_1, wq_0_2, wq_0_3, wq_0_4, wq_0_5, wq_0_6, wq_0_7, wq_0_8, wq_1_0, wq_1_1, wq_1_2, wq_1_3, wq_1_4, wq_1_5, wq_1_6, wq_1_7, wq_1_8, wq_2_0, wq_2_1, wq_2_2, wq_2_3, wq_2_4, wq_2_5, wq_2_6, wq_2_7, wq_2_8, wq_3_0, wq_3_1, wq_3_2, wq_3_3, wq_3_4, wq_3_5, wq_3_6, wq_3_7, wq_3_8, wq_4_0, wq_4_1, wq_4_2, wq_4_3, wq_4_4, wq_4_5, wq_4_6, wq_4_7, wq_4_8, wq_5_0, wq_5_1, wq_5_2, wq_5_3, wq_5_4, wq_5_5, wq_5_6, wq_5_7, wq_5_8, wq_6_0, wq_6_1, wq_6_2, wq_6_3, wq_6_4, wq_6_5, wq_6_6, wq_6_7, wq_6_8, wq_7_0, wq_7_1, wq_7_2, wq_7_3, wq_7_4, wq_7_5, wq_7_6, wq_7_7, wq_7_8, wq_8_0, wq_8_1, wq_8_2, wq_8_3, wq_8_4, wq_8_5, wq_8_6, wq_8_7, wq_8_8, get_ok, z]
        exact ⟨trivial, trivial⟩
      | rt v =>
        simp only at z
        subst z
        exact ⟨rfl, rfl⟩
      | ct ρ => exact z.elim
      | rn v => exact z.elim
    · rintro o h' ⟨rfl, rfl⟩
      exact ⟨rfl, rfl⟩
  obtain ⟨rv, h', e, rfl, rfl⟩ := get_ex key
  exact e
theorem held_count {n : Nat} (hn : 2 ≤ n) (ha : h[a]? = some (heldO r ps)) (w : Nat) (p : F) (hp : ps[w]? = some p) (k : Nat) (hk : k < r.length) (b : Int) (hr : r.length ≤ 1000) :
    run cfg tbl n 26 [.ref a, .int w, .int k, .int b] h = .ok (.val (.int (((List.range (k + 1)).filter fun j => hold r p j && decide (ago r j k ≤ b)).length : Int))) h := by
  obtain ⟨n, rfl⟩ : ∃ q, n = q + 1 := ⟨n - 1, by omega⟩
  have i0 : ixL (ps.map (bD r)) (.int w) = some (bD r p) := at_map (bD r) _ w _ hp
  rw [u_26]
  have e : evE cfg (run cfg tbl n) (.lc (.v 4) (.nm 4) (.range (.cons (.op .add (.v 2) (.c (.int 1))) .nil)) (.some (.and (.ix (.ix (.fld (.v 0) 4) (.v 1)) (.v 4)) (.cmp .le (.meth (.v 0) 1 (.cons (.v 4) (.cons (.v 2) .nil))) (.v 3)))) [4]) [some (.ref a), some (.int w), some (.int k), some (.int b), none] h =
      .ok (.lst (((List.range (k + 1)).filter fun j => hold r p j && decide (ago r j k ≤ b)).map fun j : Nat => .int j)) h := by
    refine e_lc (fun j : Nat => .int j) _ (fun j : Nat => .int j) (List.range (k + 1)) ?_ (rng_le _ (by omega)) ?_
    · have hk1 : ((k : Int) + 1).toNat = k + 1 := by omega
      simp (disch := first | assumption | omega | (simp only [List.length_cons, List.length_nil]; omega)) only [x_c, x_g, x_v0, x_v1, x_v2, x_v3, x_v4, x_v5, x_v6, x_v7, x_v8, x_v9, x_v10, x_v11, x_v12, x_v13, x_v14, x_v15, x_tup, x_lst, x_op, x_neg, x_not, x_and, x_or, x_ite, x_cmp, x_chain, x_ix, x_sl, x_rev, x_call, x_meth, x_new, x_fld, x_isi, x_bi, x_listof, x_bm, x_nil, x_cons, x_eno, x_eso, x_ival, x_irange, x_irev, x_fcall, x_flst, x_flistof, x_asg, x_asgB, x_ex, x_ret, x_retF, x_site, x_raise, x_cont, x_pass, x_par, x_snil, x_scons, x_tnm, x_ttup, x_tsub, x_tfld, x_cono, x_con0, y_thenT, y_thenF, y_then, y_elseT, y_elseF, y_else, y_ifT, y_ifF, y_if, y_not, y_neg, y_opt, y_chT, y_chF, y_ch, y_seq, y_seqR, y_seqN, y_seqC, y_len0, y_len1, y_len2, y_len3, y_len4, y_len5, y_len6, y_fldQ, y_fldS, y_methQ, y_methS, y_setQ, y_setS, y_new, y_non, y_rvN, y_dV, y_dN, y_bindi, y_bindE, y_map, f_nx, f_rt, f_rn, f_ex, l_w0, l_ws, v_bind, v_some, v_add, v_sub, v_lt, v_le, v_gt, v_ge, v_eqI, v_eqS, v_neN, v_isN, v_isNN, v_ixL, v_ixT, v_lenS, v_lenL, v_lenT, List.getElem?_cons_zero, List.getElem?_cons_succ, List.set_cons_zero, List.set_cons_succ, List.length_cons, List.length_nil, Nat.reduceAdd, Option.map_some, if_true, f_if, Option.bind_some, Bool.true_or, Bool.or_true, Bool.false_or, Bool.or_false, Bool.true_and, Bool.and_true, Bool.false_and, Bool.and_false, Bool.not_true, Bool.not_false, Bool.false_eq_true, if_false, wq_0_0, wq_0_1, wq_0_2, wq_0_3, wq_0_4, wq_0_5, wq_0_6, wq_0_7, wq_0_8, wq_1_0, wq_1_1, wq_1_2, wq_1_3, wq_1_4, wq_1_5, wq_1_6, wq_1_7, wq_1_8, wq_2_0, wq_2_1, wq_2_2, wq_2_3, wq_2_4, wq_2_5, wq_2_6, wq_2_7, wq_2_8, wq_3_0, wq_3_1, wq_3_2, wq_3_3, wq_3_4, wq_3_5, wq_3_6, wq_3_7, wq_3_8, wq_4_0, wq_4_1, wq_4_2, wq_4_3, wq_4_4, wq_4_5, wq_4_6, wq_4_7, wq_4_8, wq_5_0, wq_5_1, wq_5_2, wq_5_3, wq_5_4, wq_5_5, wq_5_6, wq_5_7, wq_5_8, wq_6_0, wq_6_1, wq_6_2, wq_6_3, wq_6_4, wq_6_5, wq_6_6, wq_6_7, wq_6_8, wq_7_0, wq_7_1, wq_7_2, wq_7_3, wq_7_4, wq_7_5, wq_7_6, wq_7_7, wq_7_8, wq_8_0, wq_8_1, wq_8_2, wq_8_3, wq_8_4, wq_8_5, wq_8_6, wq_8_7, wq_8_8, range_eq ((k : Int) + 1) (by omega) (by omega), hk1]
    · intro j hj
      have hj : j < k + 1 := by simpa using hj
      refine ⟨_, rfl, ?_, fun _ => by simp (disch := first | assumption | omega | (simp only [List.length_cons, List.length_nil]; omega)) only [x_c, x_g, x_v0, x_v1, x_v2, x_v3, x_v4, x_v5, x_v6, x_v7, x_v8, x_v9, x_v10, x_v11, x_v12, x_v13, x_v14, x_v15, x_tup, x_lst, x_op, x_neg, x_not, x_and, x_or, x_ite, x_cmp, x_chain, x_ix, x_sl, x_rev, x_call, x_meth, x_new, x_fld, x_isi, x_bi, x_listof, x_bm, x_nil, x_cons, x_eno, x_eso, x_ival, x_irange, x_irev, x_fcall, x_flst, x_flistof, x_asg, x_asgB, x_ex, x_ret, x_retF, x_site, x_raise, x_cont, x_pass, x_par, x_snil, x_scons, x_tnm, x_ttup, x_tsub, x_tfld, x_cono, x_con0, y_thenT, y_thenF, y_then, y_elseT, y_elseF, y_else, y_ifT, y_ifF, y_if, y_not, y_neg, y_opt, y_chT, y_chF, y_ch, y_seq, y_seqR, y_seqN, y_seqC, y_len0, y_len1, y_len2, y_len3, y_len4, y_len5, y_len6, y_fldQ, y_fldS, y_methQ, y_methS, y_setQ, y_setS, y_new, y_non, y_rvN, y_dV, y_dN, y_bindi, y_bindE, y_map, f_nx, f_rt, f_rn, f_ex, l_w0, l_ws, v_bind, v_some, v_add, v_sub, v_lt, v_le, v_gt, v_ge, v_eqI, v_eqS, v_neN, v_isN, v_isNN, v_ixL, v_ixT, v_lenS, v_lenL, v_lenT, List.getElem?_cons_zero, List.getElem?_cons_succ, List.set_cons_zero, List.set_cons_succ, List.length_cons, List.length_nil, Nat.reduceAdd, Option.map_some, if_true, f_if, Option.bind_some, Bool.true_or, Bool.or_true, Bool.false_or, Bool.or_false, Bool.true_and, Bool.and_true, Bool.false_and, Bool.and_false, Bool.not_true, Bool.not_false, Bool.false_eq_true, if_false, wq_0_0, wq_0_1, wq_0_2, wq_0_3, wq_0_4, wq_0_5, wq_0_6, wq_0_7, wq_0_8, wq_1_0, wq_1_1, wq_1_2, wq_1_3, wq_1_4, wq_1_5, wq_1_6, wq_1_7, wq_1_8, wq_2_0, wq_2_1, wq_2_2, wq_2_3, wq_2_4, wq_2_5, wq_2_6, wq_2_7, wq_2_8, wq_3_0, wq_3_1, wq_3_2, wq_3_3, wq_3_4, wq_3_5, wq_3_6, wq_3_7, wq_3_8, wq_4_0, wq_4_1, wq_4_2, wq_4_3, wq_4_4, wq_4_5, wq_4_6, wq_4_7, wq_4_8, wq_5_0, wq_5_1, wq_5_2, wq_5_3, wq_5_4, wq_5_5, wq_5_6, wq_5_7, wq_5_8, wq_6_0, wq_6_1, wq_6_2, wq_6_3, wq_6_4, wq_6_5, wq_6_6, wq_6_7, wq_6_8, wq_7_0, wq_7_1, wq_7_2, wq_7_3, wq_7_4, wq_7_5, wq_7_6, wq_7_7, wq_7_8, wq_8_0, wq_8_1, wq_8_2, wq_8_3, wq_8_4, wq_8_5, wq_8_6, wq_8_7, wq_8_8]⟩
      simp (disch := first | assumption | omega | (simp only [List.length_cons, List.length_nil]; omega)) only [x_c, x_g, x_v0, x_v1, x_v2, x_v3, x_v4, x_v5, x_v6, x_v7, x_v8, x_v9, x_v10, x_v11, x_v12, x_v13, x_v14, x_v15, x_tup, x_lst, x_op, x_neg, x_not, x_and, x_or, x_ite, x_cmp, x_chain, x_ix, x_sl, x_rev, x_call, x_meth, x_new, x_fld, x_isi, x_bi, x_listof, x_bm, x_nil, x_cons, x_eno, x_eso, x_ival, x_irange, x_irev, x_fcall, x_flst, x_flistof, x_asg, x_asgB, x_ex, x_ret, x_retF, x_site, x_raise, x_cont, x_pass, x_par, x_snil, x_scons, x_tnm, x_ttup, x_tsub, x_tfld, x_cono, x_con0, y_thenT, y_thenF, y_then, y_elseT, y_elseF, y_else, y_ifT, y_ifF, y_if, y_not, y_neg, y_opt, y_chT, y_chF, y_ch, y_seq, y_seqR, y_seqN, y_seqC, y_len0, y_len1, y_len2, y_len3, y_len4, y_len5, y_len6, y_fldQ, y_fldS, y_methQ, y_methS, y_setQ, y_setS, y_new, y_non, y_rvN, y_dV, y_dN, y_bindi, y_bindE, y_map, f_nx, f_rt, f_rn, f_ex, l_w0, l_ws, v_bind, v_some, v_add, v_sub, v_lt, v_le, v_gt, v_ge, v_eqI, v_eqS, v_neN, v_isN, v_isNN, v_ixL, v_ixT, v_lenS, v_lenL, v_lenT, List.getElem?_cons_zero, List.getElem?_cons_succ, List.set_cons_zero, List.set_cons_succ, List.length_cons, List.length_nil, Nat.reduceAdd, Option.map_some, if_true, f_if, Option.bind_some, Bool.true_or, Bool.or_true, Bool.false_or, Bool.or_false, Bool.true_and, Bool.and_true, Bool.false_and, Bool.and_false, Bool.not_true, Bool.not_false, Bool.false_eq_true, if_false, wq_0_0, wq_0_1, wq_0_2, wq_0_3, wq_0_4, wq_0_5, wq_0_6, wq_0_7, wq_0_8, wq_1_0, wq_1_1, wq_1_2, wq_1_3, wq_1_4, wq_1_5, wq_1_6, wq_1_7, wq_1_8, wq_2_0, wq_2_1, wq_2_2, wq_2_3, wq_2_4, wq_2_5, wq_2_6, wq_2_7, wq_2_8, wq_3_0, wq_3_1, wq_3_2, wq_3_3, wq_3_4, wq_3_5, wq_3_6, wq_3_7, wq_3_8, wq_4_0, wq_4_1, wq_4_2, wq_4_3, wq_4_4, wq_4_5, wq_4_6, wq_4_7, wq_4_8, wq_5_0, wq_5_1, wq_5_2, wq_5_3, wq_5_4, wq_5_5, wq_5_6, wq_5_7, wq_5_8, wq_6_0, wq_6_1, wq_6_2, wq_6_3, wq_6_4, wq_6_5, wq_6_6, wq_6_7, wq_6_8, wq_7_0, wq_7_1, wq_7_2, wq_7_3, wq_7_4, wq_7_5, wq_7_6, wq_7_7, wq_7_8, wq_8_0, wq_8_1, wq_8_2, wq_8_3, wq_8_4, wq_8_5, wq_8_6, wq_8_7, wq_8_8, ha, o_told, o_meth, mt, i0, bD, at_hold r p j (by omega), held_ago (by omega : 1 ≤ n) ha j k (by omega) hk]
  simp only [fn_26]
  simp (disch := first | assumption | omega | (simp only [List.length_cons, List.length_nil]; omega)) only [x_c, x_g, x_v0, x_v1, x_v2, x_v3, x_v4, x_v5, x_v6, x_v7, x_v8, x_v9, x_v10, x_v11, x_v12, x_v13, x_v14, x_v15, x_tup, x_lst, x_op, x_neg, x_not, x_and, x_or, x_ite, x_cmp, x_chain, x_ix, x_sl, x_rev, x_call, x_meth, x_new, x_fld, x_isi, x_bi, x_listof, x_bm, x_nil, x_cons, x_eno, x_eso, x_ival, x_irange, x_irev, x_fcall, x_flst, x_flistof, x_asg, x_asgB, x_ex, x_ret, x_retF, x_site, x_raise, x_cont, x_pass, x_par, x_snil, x_scons, x_tnm, x_ttup, x_tsub, x_tfld, x_cono, x_con0, y_thenT, y_thenF, y_then, y_elseT, y_elseF, y_else, y_ifT, y_ifF, y_if, y_not, y_neg, y_opt, y_chT, y_chF, y_ch, y_seq, y_seqR, y_seqN, y_seqC, y_len0, y_len1, y_len2, y_len3, y_len4, y_len5, y_len6, y_fldQ, y_fldS, y_methQ, y_methS, y_setQ, y_setS, y_new, y_non, y_rvN, y_dV, y_dN, y_bindi, y_bindE, y_map, f_nx, f_rt, f_rn, f_ex, l_w0, l_ws, v_bind, v_some, v_add, v_sub, v_lt, v_le, v_gt, v_ge, v_eqI, v_eqS, v_neN, v_isN, v_isNN, v_ixL, v_ixT, v_lenS, v_lenL, v_lenT, List.getElem?_cons_zero, List.getElem?_cons_succ, List.set_cons_zero, List.set_cons_succ, List.length_cons, List.length_nil, Nat.reduceAdd, Option.map_some, if_true, f_if, Option.bind_some, Bool.true_or, Bool.or_true, Bool.false_or, Bool.or_false, Bool.true_and, Bool.and_true, Bool.false_and, Bool.and_false, Bool.not_true, Bool.not_false, Bool.false_eq_true, if_false, wq_0_0, wq_0_1, wq_0_2, wq_0_3, wq_0_4, wq_0_5, wq_0_6, wq_0_7, wq_0_8, wq_1_0, wq_1_1, wq_1_2, wq_1_3, wq_1_4, wq_1_5, wq_1_6, wq_1_7, wq_1_8, wq_2_0, wq_2_1, wq_2_2, wq_2_3, wq_2_4, wq_2_5, wq_2_6, wq_2_7, wq_2_8, wq_3_0, wq_3_1, wq_3_2, wq_3_3, wq_3_4, wq_3_5, wq_3_6, wq_3_7, wq_3_8, wq_4_0, wq_4_1, wq_4_2, wq_4_3, wq_4_4, wq_4_5, wq_4_6, wq_4_7, wq_4_8, wq_5_0, wq_5_1, wq_5_2, wq_5_3, wq_5_4, wq_5_5, wq_5_6, wq_5_7, wq_5_8, wq_6_0, wq_6_1, wq_6_2, wq_6_3, wq_6_4, wq_6_5, wq_6_6, wq_6_7, wq_6_8, wq_7_0, wq_7_1, wq_7_2, wq_7_3, wq_7_4, wq_7_5, wq_7_6, wq_7_7, wq_7_8, wq_8_0, wq_8_1, wq_8_2, wq_8_3, wq_8_4, wq_8_5, wq_8_6, wq_8_7, wq_8_8, e, v_lenL, List.length_map]
end
theorem held_tells {n : Nat} (hn : 4 ≤ n) {r : List Hap} {a : Nat} {h : VH} (f : F) (ha : h[a]? = some (heldO r f.kids)) (k : Nat) (hk : k < r.length) (hr : r.length ≤ 1000) :
    run cfg tbl n 27 [.ref a, f.d, .int k] h = .ok (.val (.bl (hold r f k))) h := by
  obtain ⟨n, rfl⟩ : ∃ q, n = q + 1 := ⟨n - 1, by omega⟩
  obtain ⟨x, ex, ex2⟩ := row_at (r := r) k hk
  have i0 : ∀ p, ixL ([p].map (bD r)) (.int 0) = some (bD r p) := fun _ => rfl
  have j0 : ∀ p q, ixL ([p, q].map (bD r)) (.int 0) = some (bD r p) := fun _ _ => rfl
  have j1 : ∀ p q, ixL ([p, q].map (bD r)) (.int 1) = some (bD r q) := fun _ _ => rfl
  have ah := fun p => at_hold r p k hk
  have hg : r[k]?.getD default = x := by rw [ex]; rfl
  rw [u_27]
  cases f with
  | is w =>
    have e1 : ixD cfg.gds h (F.is w).d (.int 1) = some (.int w) := rfl
    have c1 : (sIs == [105, 115]) = true := rfl
    simp (disch := first | assumption | omega | (simp only [List.length_cons, List.length_nil]; omega)) only [x_c, x_g, x_v0, x_v1, x_v2, x_v3, x_v4, x_v5, x_v6, x_v7, x_v8, x_v9, x_v10, x_v11, x_v12, x_v13, x_v14, x_v15, x_tup, x_lst, x_op, x_neg, x_not, x_and, x_or, x_ite, x_cmp, x_chain, x_ix, x_sl, x_rev, x_call, x_meth, x_new, x_fld, x_isi, x_bi, x_listof, x_bm, x_nil, x_cons, x_eno, x_eso, x_ival, x_irange, x_irev, x_fcall, x_flst, x_flistof, x_asg, x_asgB, x_ex, x_ret, x_retF, x_site, x_raise, x_cont, x_pass, x_par, x_snil, x_scons, x_tnm, x_ttup, x_tsub, x_tfld, x_cono, x_con0, y_thenT, y_thenF, y_then, y_elseT, y_elseF, y_else, y_ifT, y_ifF, y_if, y_not, y_neg, y_opt, y_chT, y_chF, y_ch, y_seq, y_seqR, y_seqN, y_seqC, y_len0, y_len1, y_len2, y_len3, y_len4, y_len5, y_len6, y_fldQ, y_fldS, y_methQ, y_methS, y_setQ, y_setS, y_new, y_non, y_rvN, y_dV, y_dN, y_bindi, y_bindE, y_map, f_nx, f_rt, f_rn, f_ex, l_w0, l_ws, v_bind, v_some, v_add, v_sub, v_lt, v_le, v_gt, v_ge, v_eqI, v_eqS, v_neN, v_isN, v_isNN, v_ixL, v_ixT, v_lenS, v_lenL, v_lenT, List.getElem?_cons_zero, List.getElem?_cons_succ, List.set_cons_zero, List.set_cons_succ, List.length_cons, List.length_nil, Nat.reduceAdd, Option.map_some, if_true, f_if, Option.bind_some, Bool.true_or, Bool.or_true, Bool.false_or, Bool.or_false, Bool.true_and, Bool.and_true, Bool.false_and, Bool.and_false, Bool.not_true, Bool.not_false, Bool.false_eq_true, if_false, wq_0_0, wq_0_1, wq_0_2, wq_0_3, wq_0_4, wq_0_5, wq_0_6, wq_0_7, wq_0_8, wq_1_0, wq_1_1, wq_1_2, wq_1_3, wq_1_4, wq_1_5, wq_1_6, wq_1_7, wq_1_8, wq_2_0, wq_2_1, wq_2_2, wq_2_3, wq_2_4, wq_2_5, wq_2_6, wq_2_7, wq_2_8, wq_3_0, wq_3_1, wq_3_2, wq_3_3, wq_3_4, wq_3_5, wq_3_6, wq_3_7, wq_3_8, wq_4_0, wq_4_1, wq_4_2, wq_4_3, wq_4_4, wq_4_5, wq_4_6, wq_4_7, wq_4_8, wq_5_0, wq_5_1, wq_5_2, wq_5_3, wq_5_4, wq_5_5, wq_5_6, wq_5_7, wq_5_8, wq_6_0, wq_6_1, wq_6_2, wq_6_3, wq_6_4, wq_6_5, wq_6_6, wq_6_7, wq_6_8, wq_7_0, wq_7_1, wq_7_2, wq_7_3, wq_7_4, wq_7_5, wq_7_6, wq_7_7, wq_7_8, wq_8_0, wq_8_1, wq_8_2, wq_8_3, wq_8_4, wq_8_5, wq_8_6, wq_8_7, wq_8_8, fn_27, F.ix0, F.word, c1, ha, o_row, ex2, hap1, e1]
    simp only [hold, hg]
  | frm w =>
    have e1 : ixD cfg.gds h (F.frm w).d (.int 1) = some (.int w) := rfl
    have c1 : (sFrom == [105, 115]) = false := rfl
    have c2 : (sFrom == [102, 114, 111, 109]) = true := rfl
    simp (disch := first | assumption | omega | (simp only [List.length_cons, List.length_nil]; omega)) only [x_c, x_g, x_v0, x_v1, x_v2, x_v3, x_v4, x_v5, x_v6, x_v7, x_v8, x_v9, x_v10, x_v11, x_v12, x_v13, x_v14, x_v15, x_tup, x_lst, x_op, x_neg, x_not, x_and, x_or, x_ite, x_cmp, x_chain, x_ix, x_sl, x_rev, x_call, x_meth, x_new, x_fld, x_isi, x_bi, x_listof, x_bm, x_nil, x_cons, x_eno, x_eso, x_ival, x_irange, x_irev, x_fcall, x_flst, x_flistof, x_asg, x_asgB, x_ex, x_ret, x_retF, x_site, x_raise, x_cont, x_pass, x_par, x_snil, x_scons, x_tnm, x_ttup, x_tsub, x_tfld, x_cono, x_con0, y_thenT, y_thenF, y_then, y_elseT, y_elseF, y_else, y_ifT, y_ifF, y_if, y_not, y_neg, y_opt, y_chT, y_chF, y_ch, y_seq, y_seqR, y_seqN, y_seqC, y_len0, y_len1, y_len2, y_len3, y_len4, y_len5, y_len6, y_fldQ, y_fldS, y_methQ, y_methS, y_setQ, y_setS, y_new, y_non, y_rvN, y_dV, y_dN, y_bindi, y_bindE, y_map, f_nx, f_rt, f_rn, f_ex, l_w0, l_ws, v_bind, v_some, v_add, v_sub, v_lt, v_le, v_gt, v_ge, v_eqI, v_eqS, v_neN, v_isN, v_isNN, v_ixL, v_ixT, v_lenS, v_lenL, v_lenT, List.getElem?_cons_zero, List.getElem?_cons_succ, List.set_cons_zero, List.set_cons_succ, List.length_cons, List.length_nil, Nat.reduceAdd, Option.map_some, if_true, f_if, Option.bind_some, Bool.true_or, Bool.or_true, Bool.false_or, Bool.or_false, Bool.true_and, Bool.and_true, Bool.false_and, Bool.and_false, Bool.not_true, Bool.not_false, Bool.false_eq_true, if_false, wq_0_0, wq_0_1, wq_0_2, wq_0_3, wq_0_4, wq_0_5, wq_0_6, wq_0_7, wq_0_8, wq_1_0, wq_1_1, wq_1_2, wq_1_3, wq_1_4, wq_1_5, wq_1_6, wq_1_7, wq_1_8, wq_2_0, wq_2_1, wq_2_2, wq_2_3, wq_2_4, wq_2_5, wq_2_6, wq_2_7, wq_2_8, wq_3_0, wq_3_1, wq_3_2, wq_3_3, wq_3_4, wq_3_5, wq_3_6, wq_3_7, wq_3_8, wq_4_0, wq_4_1, wq_4_2, wq_4_3, wq_4_4, wq_4_5, wq_4_6, wq_4_7, wq_4_8, wq_5_0, wq_5_1, wq_5_2, wq_5_3, wq_5_4, wq_5_5, wq_5_6, wq_5_7, wq_5_8, wq_6_0, wq_6_1, wq_6_2, wq_6_3, wq_6_4, wq_6_5, wq_6_6, wq_6_7, wq_6_8, wq_7_0, wq_7_1, wq_7_2, wq_7_3, wq_7_4, wq_7_5, wq_7_6, wq_7_7, wq_7_8, wq_8_0, wq_8_1, wq_8_2, wq_8_3, wq_8_4, wq_8_5, wq_8_6, wq_8_7, wq_8_8, fn_27, F.ix0, F.word, c1, c2, ha, o_row, ex2, hap2, e1]
    simp only [hold, hg]
  | not p =>
    have c1 : (sNot == [105, 115]) = false := rfl
    have c2 : (sNot == [102, 114, 111, 109]) = false := rfl
    have c3 : (sNot == [110, 111, 116]) = true := rfl
    simp (disch := first | assumption | omega | (simp only [List.length_cons, List.length_nil]; omega)) only [x_c, x_g, x_v0, x_v1, x_v2, x_v3, x_v4, x_v5, x_v6, x_v7, x_v8, x_v9, x_v10, x_v11, x_v12, x_v13, x_v14, x_v15, x_tup, x_lst, x_op, x_neg, x_not, x_and, x_or, x_ite, x_cmp, x_chain, x_ix, x_sl, x_rev, x_call, x_meth, x_new, x_fld, x_isi, x_bi, x_listof, x_bm, x_nil, x_cons, x_eno, x_eso, x_ival, x_irange, x_irev, x_fcall, x_flst, x_flistof, x_asg, x_asgB, x_ex, x_ret, x_retF, x_site, x_raise, x_cont, x_pass, x_par, x_snil, x_scons, x_tnm, x_ttup, x_tsub, x_tfld, x_cono, x_con0, y_thenT, y_thenF, y_then, y_elseT, y_elseF, y_else, y_ifT, y_ifF, y_if, y_not, y_neg, y_opt, y_chT, y_chF, y_ch, y_seq, y_seqR, y_seqN, y_seqC, y_len0, y_len1, y_len2, y_len3, y_len4, y_len5, y_len6, y_fldQ, y_fldS, y_methQ, y_methS, y_setQ, y_setS, y_new, y_non, y_rvN, y_dV, y_dN, y_bindi, y_bindE, y_map, f_nx, f_rt, f_rn, f_ex, l_w0, l_ws, v_bind, v_some, v_add, v_sub, v_lt, v_le, v_gt, v_ge, v_eqI, v_eqS, v_neN, v_isN, v_isNN, v_ixL, v_ixT, v_lenS, v_lenL, v_lenT, List.getElem?_cons_zero, List.getElem?_cons_succ, List.set_cons_zero, List.set_cons_succ, List.length_cons, List.length_nil, Nat.reduceAdd, Option.map_some, if_true, f_if, Option.bind_some, Bool.true_or, Bool.or_true, Bool.false_or, Bool.or_false, Bool.true_and, Bool.and_true, Bool.false_and, Bool.and_false, Bool.not_true, Bool.not_false, Bool.false_eq_true, if_false, wq_0_0, wq_0_1, wq_0_2, wq_0_3, wq_0_4, wq_0_5, wq_0_6, wq_0_7, wq_0_8, wq_1_0, wq_1_1, wq_1_2, wq_1_3, wq_1_4, wq_1_5, wq_1_6, wq_1_7, wq_1_8, wq_2_0, wq_2_1, wq_2_2, wq_2_3, wq_2_4, wq_2_5, wq_2_6, wq_2_7, wq_2_8, wq_3_0, wq_3_1, wq_3_2, wq_3_3, wq_3_4, wq_3_5, wq_3_6, wq_3_7, wq_3_8, wq_4_0, wq_4_1, wq_4_2, wq_4_3, wq_4_4, wq_4_5, wq_4_6, wq_4_7, wq_4_8, wq_5_0, wq_5_1, wq_5_2, wq_5_3, wq_5_4, wq_5_5, wq_5_6, wq_5_7, wq_5_8, wq_6_0, wq_6_1, wq_6_2, wq_6_3, wq_6_4, wq_6_5, wq_6_6, wq_6_7, wq_6_8, wq_7_0, wq_7_1, wq_7_2, wq_7_3, wq_7_4, wq_7_5, wq_7_6, wq_7_7, wq_7_8, wq_8_0, wq_8_1, wq_8_2, wq_8_3, wq_8_4, wq_8_5, wq_8_6, wq_8_7, wq_8_8, fn_27, F.ix0, F.word, c1, c2, c3, ha, o_told, F.kids, i0, bD, ah]
    simp only [hold]
  | and p q =>
    have c1 : (sAnd == [105, 115]) = false := rfl
    have c2 : (sAnd == [102, 114, 111, 109]) = false := rfl
    have c3 : (sAnd == [110, 111, 116]) = false := rfl
    have c4 : (sAnd == [97, 110, 100]) = true := rfl
    simp (disch := first | assumption | omega | (simp only [List.length_cons, List.length_nil]; omega)) only [x_c, x_g, x_v0, x_v1, x_v2, x_v3, x_v4, x_v5, x_v6, x_v7, x_v8, x_v9, x_v10, x_v11, x_v12, x_v13, x_v14, x_v15, x_tup, x_lst, x_op, x_neg, x_not, x_and, x_or, x_ite, x_cmp, x_chain, x_ix, x_sl, x_rev, x_call, x_meth, x_new, x_fld, x_isi, x_bi, x_listof, x_bm, x_nil, x_cons, x_eno, x_eso, x_ival, x_irange, x_irev, x_fcall, x_flst, x_flistof, x_asg, x_asgB, x_ex, x_ret, x_retF, x_site, x_raise, x_cont, x_pass, x_par, x_snil, x_scons, x_tnm, x_ttup, x_tsub, x_tfld, x_cono, x_con0, y_thenT, y_thenF, y_then, y_elseT, y_elseF, y_else, y_ifT, y_ifF, y_if, y_not, y_neg, y_opt, y_chT, y_chF, y_ch, y_seq, y_seqR, y_seqN, y_seqC, y_len0, y_len1, y_len2, y_len3, y_len4, y_len5, y_len6, y_fldQ, y_fldS, y_methQ, y_methS, y_setQ, y_setS, y_new, y_non, y_rvN, y_dV, y_dN, y_bindi, y_bindE, y_map, f_nx, f_rt, f_rn, f_ex, l_w0, l_ws, v_bind, v_some, v_add, v_sub, v_lt, v_le, v_gt, v_ge, v_eqI, v_eqS, v_neN, v_isN, v_isNN, v_ixL, v_ixT, v_lenS, v_lenL, v_lenT, List.getElem?_cons_zero, List.getElem?_cons_succ, List.set_cons_zero, List.set_cons_succ, List.length_cons, List.length_nil, Nat.reduceAdd, Option.map_some, if_true, f_if, Option.bind_some, Bool.true_or, Bool.or_true, Bool.false_or, Bool.or_false, Bool.true_and, Bool.and_true, Bool.false_and, Bool.and_false, Bool.not_true, Bool.not_false, Bool.false_eq_true, if_false, wq_0_0, wq_0_1, wq_0_2, wq_0_3, wq_0_4, wq_0_5, wq_0_6, wq_0_7, wq_0_8, wq_1_0, wq_1_1, wq_1_2, wq_1_3, wq_1_4, wq_1_5, wq_1_6, wq_1_7, wq_1_8, wq_2_0, wq_2_1, wq_2_2, wq_2_3, wq_2_4, wq_2_5, wq_2_6, wq_2_7, wq_2_8, wq_3_0, wq_3_1, wq_3_2, wq_3_3, wq_3_4, wq_3_5, wq_3_6, wq_3_7, wq_3_8, wq_4_0, wq_4_1, wq_4_2, wq_4_3, wq_4_4, wq_4_5, wq_4_6, wq_4_7, wq_4_8, wq_5_0, wq_5_1, wq_5_2, wq_5_3, wq_5_4, wq_5_5, wq_5_6, wq_5_7, wq_5_8, wq_6_0, wq_6_1, wq_6_2, wq_6_3, wq_6_4, wq_6_5, wq_6_6, wq_6_7, wq_6_8, wq_7_0, wq_7_1, wq_7_2, wq_7_3, wq_7_4, wq_7_5, wq_7_6, wq_7_7, wq_7_8, wq_8_0, wq_8_1, wq_8_2, wq_8_3, wq_8_4, wq_8_5, wq_8_6, wq_8_7, wq_8_8, fn_27, F.ix0, F.word, c1, c2, c3, c4, ha, o_told, F.kids, j0, j1, bD, ah]
    simp only [hold]
  | or p q =>
    have c1 : (sOr == [105, 115]) = false := rfl
    have c2 : (sOr == [102, 114, 111, 109]) = false := rfl
    have c3 : (sOr == [110, 111, 116]) = false := rfl
    have c4 : (sOr == [97, 110, 100]) = false := rfl
    have c5 : (sOr == [111, 114]) = true := rfl
    simp (disch := first | assumption | omega | (simp only [List.length_cons, List.length_nil]; omega)) only [x_c, x_g, x_v0, x_v1, x_v2, x_v3, x_v4, x_v5, x_v6, x_v7, x_v8, x_v9, x_v10, x_v11, x_v12, x_v13, x_v14, x_v15, x_tup, x_lst, x_op, x_neg, x_not, x_and, x_or, x_ite, x_cmp, x_chain, x_ix, x_sl, x_rev, x_call, x_meth, x_new, x_fld, x_isi, x_bi, x_listof, x_bm, x_nil, x_cons, x_eno, x_eso, x_ival, x_irange, x_irev, x_fcall, x_flst, x_flistof, x_asg, x_asgB, x_ex, x_ret, x_retF, x_site, x_raise, x_cont, x_pass, x_par, x_snil, x_scons, x_tnm, x_ttup, x_tsub, x_tfld, x_cono, x_con0, y_thenT, y_thenF, y_then, y_elseT, y_elseF, y_else, y_ifT, y_ifF, y_if, y_not, y_neg, y_opt, y_chT, y_chF, y_ch, y_seq, y_seqR, y_seqN, y_seqC, y_len0, y_len1, y_len2, y_len3, y_len4, y_len5, y_len6, y_fldQ, y_fldS, y_methQ, y_methS, y_setQ, y_setS, y_new, y_non, y_rvN, y_dV, y_dN, y_bindi, y_bindE, y_map, f_nx, f_rt, f_rn, f_ex, l_w0, l_ws, v_bind, v_some, v_add, v_sub, v_lt, v_le, v_gt, v_ge, v_eqI, v_eqS, v_neN, v_isN, v_isNN, v_ixL, v_ixT, v_lenS, v_lenL, v_lenT, List.getElem?_cons_zero, List.getElem?_cons_succ, List.set_cons_zero, List.set_cons_succ, List.length_cons, List.length_nil, Nat.reduceAdd, Option.map_some, if_true, f_if, Option.bind_some, Bool.true_or, Bool.or_true, Bool.false_or, Bool.or_false, Bool.true_and, Bool.and_true, Bool.false_and, Bool.and_false, Bool.not_true, Bool.not_false, Bool.false_eq_true, if_false, wq_0_0, wq_0_1, wq_0_2, wq_0_3, wq_0_4, wq_0_5, wq_0_6, wq_0_7, wq_0_8, wq_1_0, wq_1_1, wq_1_2, wq_1_3, wq_1_4, wq_1_5, wq_1_6, wq_1_7, wq_1_8, wq_2_0, wq_2_1, wq_2_2, wq_2_3, wq_2_4, wq_2_5, wq_2_6, wq_2_7, wq_2_8, wq_3_0, wq_3_1, wq_3_2, wq_3_3, wq_3_4, wq_3_5, wq_3_6, wq_3_7, wq_3_8, wq_4_0, wq_4_1, wq_4_2, wq_4_3, wq_4_4, wq_4_5, wq_4_6, wq_4_7, wq_4_8, wq_5_0, wq_5_1, wq_5_2, wq_5_3, wq_5_4, wq_5_5, wq_5_6, wq_5_7, wq_5_8, wq_6_0, wq_6_1, wq_6_2, wq_6_3, wq_6_4, wq_6_5, wq_6_6, wq_6_7, wq_6_8, wq_7_0, wq_7_1, wq_7_2, wq_7_3, wq_7_4, wq_7_5, wq_7_6, wq_7_7, wq_7_8, wq_8_0, wq_8_1, wq_8_2, wq_8_3, wq_8_4, wq_8_5, wq_8_6, wq_8_7, wq_8_8, fn_27, F.ix0, F.word, c1, c2, c3, c4, c5, ha, o_told, F.kids, j0, j1, bD, ah]
    simp only [hold]
  | behind p lo hi =>
    have c1 : (sBehind == [105, 115]) = false := rfl
    have c2 : (sBehind == [102, 114, 111, 109]) = false := rfl
    have c3 : (sBehind == [110, 111, 116]) = false := rfl
    have c4 : (sBehind == [97, 110, 100]) = false := rfl
    have c5 : (sBehind == [111, 114]) = false := rfl
    have c6 : (sBehind == [98, 101, 104, 105, 110, 100]) = true := rfl
    have eb := held_behind (by omega : 3 ≤ n) ha p rfl (F.behind p lo hi).d lo hi rfl rfl k hk hr
    simp (disch := first | assumption | omega | (simp only [List.length_cons, List.length_nil]; omega)) only [x_c, x_g, x_v0, x_v1, x_v2, x_v3, x_v4, x_v5, x_v6, x_v7, x_v8, x_v9, x_v10, x_v11, x_v12, x_v13, x_v14, x_v15, x_tup, x_lst, x_op, x_neg, x_not, x_and, x_or, x_ite, x_cmp, x_chain, x_ix, x_sl, x_rev, x_call, x_meth, x_new, x_fld, x_isi, x_bi, x_listof, x_bm, x_nil, x_cons, x_eno, x_eso, x_ival, x_irange, x_irev, x_fcall, x_flst, x_flistof, x_asg, x_asgB, x_ex, x_ret, x_retF, x_site, x_raise, x_cont, x_pass, x_par, x_snil, x_scons, x_tnm, x_ttup, x_tsub, x_tfld, x_cono, x_con0, y_thenT, y_thenF, y_then, y_elseT, y_elseF, y_else, y_ifT, y_ifF, y_if, y_not, y_neg, y_opt, y_chT, y_chF, y_ch, y_seq, y_seqR, y_seqN, y_seqC, y_len0, y_len1, y_len2, y_len3, y_len4, y_len5, y_len6, y_fldQ, y_fldS, y_methQ, y_methS, y_setQ, y_setS, y_new, y_non, y_rvN, y_dV, y_dN, y_bindi, y_bindE, y_map, f_nx, f_rt, f_rn, f_ex, l_w0, l_ws, v_bind, v_some, v_add, v_sub, v_lt, v_le, v_gt, v_ge, v_eqI, v_eqS, v_neN, v_isN, v_isNN, v_ixL, v_ixT, v_lenS, v_lenL, v_lenT, List.getElem?_cons_zero, List.getElem?_cons_succ, List.set_cons_zero, List.set_cons_succ, List.length_cons, List.length_nil, Nat.reduceAdd, Option.map_some, if_true, f_if, Option.bind_some, Bool.true_or, Bool.or_true, Bool.false_or, Bool.or_false, Bool.true_and, Bool.and_true, Bool.false_and, Bool.and_false, Bool.not_true, Bool.not_false, Bool.false_eq_true, if_false, wq_0_0, wq_0_1, wq_0_2, wq_0_3, wq_0_4, wq_0_5, wq_0_6, wq_0_7, wq_0_8, wq_1_0, wq_1_1, wq_1_2, wq_1_3, wq_1_4, wq_1_5, wq_1_6, wq_1_7, wq_1_8, wq_2_0, wq_2_1, wq_2_2, wq_2_3, wq_2_4, wq_2_5, wq_2_6, wq_2_7, wq_2_8, wq_3_0, wq_3_1, wq_3_2, wq_3_3, wq_3_4, wq_3_5, wq_3_6, wq_3_7, wq_3_8, wq_4_0, wq_4_1, wq_4_2, wq_4_3, wq_4_4, wq_4_5, wq_4_6, wq_4_7, wq_4_8, wq_5_0, wq_5_1, wq_5_2, wq_5_3, wq_5_4, wq_5_5, wq_5_6, wq_5_7, wq_5_8, wq_6_0, wq_6_1, wq_6_2, wq_6_3, wq_6_4, wq_6_5, wq_6_6, wq_6_7, wq_6_8, wq_7_0, wq_7_1, wq_7_2, wq_7_3, wq_7_4, wq_7_5, wq_7_6, wq_7_7, wq_7_8, wq_8_0, wq_8_1, wq_8_2, wq_8_3, wq_8_4, wq_8_5, wq_8_6, wq_8_7, wq_8_8, fn_27, F.ix0, F.word, c1, c2, c3, c4, c5, c6, ha, o_meth, mt, eb]
  | since p q lo hi =>
    have c1 : (sSince == [105, 115]) = false := rfl
    have c2 : (sSince == [102, 114, 111, 109]) = false := rfl
    have c3 : (sSince == [110, 111, 116]) = false := rfl
    have c4 : (sSince == [97, 110, 100]) = false := rfl
    have c5 : (sSince == [111, 114]) = false := rfl
    have c6 : (sSince == [98, 101, 104, 105, 110, 100]) = false := rfl
    have c7 : (sSince == [115, 105, 110, 99, 101]) = true := rfl
    have eb := held_since (by omega : 3 ≤ n) ha p q rfl (F.since p q lo hi).d lo hi rfl rfl k hk hr
    simp (disch := first | assumption | omega | (simp only [List.length_cons, List.length_nil]; omega)) only [x_c, x_g, x_v0, x_v1, x_v2, x_v3, x_v4, x_v5, x_v6, x_v7, x_v8, x_v9, x_v10, x_v11, x_v12, x_v13, x_v14, x_v15, x_tup, x_lst, x_op, x_neg, x_not, x_and, x_or, x_ite, x_cmp, x_chain, x_ix, x_sl, x_rev, x_call, x_meth, x_new, x_fld, x_isi, x_bi, x_listof, x_bm, x_nil, x_cons, x_eno, x_eso, x_ival, x_irange, x_irev, x_fcall, x_flst, x_flistof, x_asg, x_asgB, x_ex, x_ret, x_retF, x_site, x_raise, x_cont, x_pass, x_par, x_snil, x_scons, x_tnm, x_ttup, x_tsub, x_tfld, x_cono, x_con0, y_thenT, y_thenF, y_then, y_elseT, y_elseF, y_else, y_ifT, y_ifF, y_if, y_not, y_neg, y_opt, y_chT, y_chF, y_ch, y_seq, y_seqR, y_seqN, y_seqC, y_len0, y_len1, y_len2, y_len3, y_len4, y_len5, y_len6, y_fldQ, y_fldS, y_methQ, y_methS, y_setQ, y_setS, y_new, y_non, y_rvN, y_dV, y_dN, y_bindi, y_bindE, y_map, f_nx, f_rt, f_rn, f_ex, l_w0, l_ws, v_bind, v_some, v_add, v_sub, v_lt, v_le, v_gt, v_ge, v_eqI, v_eqS, v_neN, v_isN, v_isNN, v_ixL, v_ixT, v_lenS, v_lenL, v_lenT, List.getElem?_cons_zero, List.getElem?_cons_succ, List.set_cons_zero, List.set_cons_succ, List.length_cons, List.length_nil, Nat.reduceAdd, Option.map_some, if_true, f_if, Option.bind_some, Bool.true_or, Bool.or_true, Bool.false_or, Bool.or_false, Bool.true_and, Bool.and_true, Bool.false_and, Bool.and_false, Bool.not_true, Bool.not_false, Bool.false_eq_true, if_false, wq_0_0, wq_0_1, wq_0_2, wq_0_3, wq_0_4, wq_0_5, wq_0_6, wq_0_7, wq_0_8, wq_1_0, wq_1_1, wq_1_2, wq_1_3, wq_1_4, wq_1_5, wq_1_6, wq_1_7, wq_1_8, wq_2_0, wq_2_1, wq_2_2, wq_2_3, wq_2_4, wq_2_5, wq_2_6, wq_2_7, wq_2_8, wq_3_0, wq_3_1, wq_3_2, wq_3_3, wq_3_4, wq_3_5, wq_3_6, wq_3_7, wq_3_8, wq_4_0, wq_4_1, wq_4_2, wq_4_3, wq_4_4, wq_4_5, wq_4_6, wq_4_7, wq_4_8, wq_5_0, wq_5_1, wq_5_2, wq_5_3, wq_5_4, wq_5_5, wq_5_6, wq_5_7, wq_5_8, wq_6_0, wq_6_1, wq_6_2, wq_6_3, wq_6_4, wq_6_5, wq_6_6, wq_6_7, wq_6_8, wq_7_0, wq_7_1, wq_7_2, wq_7_3, wq_7_4, wq_7_5, wq_7_6, wq_7_7, wq_7_8, wq_8_0, wq_8_1, wq_8_2, wq_8_3, wq_8_4, wq_8_5, wq_8_6, wq_8_7, wq_8_8, fn_27, F.ix0, F.word, c1, c2, c3, c4, c5, c6, c7, ha, o_meth, mt, eb]
  | many p m b =>
    have c1 : (sMany == [105, 115]) = false := rfl
    have c2 : (sMany == [102, 114, 111, 109]) = false := rfl
    have c3 : (sMany == [110, 111, 116]) = false := rfl
    have c4 : (sMany == [97, 110, 100]) = false := rfl
    have c5 : (sMany == [111, 114]) = false := rfl
    have c6 : (sMany == [98, 101, 104, 105, 110, 100]) = false := rfl
    have c7 : (sMany == [115, 105, 110, 99, 101]) = false := rfl
    have c8 : (sMany == [109, 97, 110, 121]) = true := rfl
    have eb := held_count (by omega : 2 ≤ n) ha 0 p rfl k hk b hr
    have e3 : ixD cfg.gds h (F.many p m b).d (.int 3) = some (.int b) := rfl
    have e2 : ixD cfg.gds h (F.many p m b).d (.int 2) = some (.int m) := rfl
    simp (disch := first | assumption | omega | (simp only [List.length_cons, List.length_nil]; omega)) only [x_c, x_g, x_v0, x_v1, x_v2, x_v3, x_v4, x_v5, x_v6, x_v7, x_v8, x_v9, x_v10, x_v11, x_v12, x_v13, x_v14, x_v15, x_tup, x_lst, x_op, x_neg, x_not, x_and, x_or, x_ite, x_cmp, x_chain, x_ix, x_sl, x_rev, x_call, x_meth, x_new, x_fld, x_isi, x_bi, x_listof, x_bm, x_nil, x_cons, x_eno, x_eso, x_ival, x_irange, x_irev, x_fcall, x_flst, x_flistof, x_asg, x_asgB, x_ex, x_ret, x_retF, x_site, x_raise, x_cont, x_pass, x_par, x_snil, x_scons, x_tnm, x_ttup, x_tsub, x_tfld, x_cono, x_con0, y_thenT, y_thenF, y_then, y_elseT, y_elseF, y_else, y_ifT, y_ifF, y_if, y_not, y_neg, y_opt, y_chT, y_chF, y_ch, y_seq, y_seqR, y_seqN, y_seqC, y_len0, y_len1, y_len2, y_len3, y_len4, y_len5, y_len6, y_fldQ, y_fldS, y_methQ, y_methS, y_setQ, y_setS, y_new, y_non, y_rvN, y_dV, y_dN, y_bindi, y_bindE, y_map, f_nx, f_rt, f_rn, f_ex, l_w0, l_ws, v_bind, v_some, v_add, v_sub, v_lt, v_le, v_gt, v_ge, v_eqI, v_eqS, v_neN, v_isN, v_isNN, v_ixL, v_ixT, v_lenS, v_lenL, v_lenT, List.getElem?_cons_zero, List.getElem?_cons_succ, List.set_cons_zero, List.set_cons_succ, List.length_cons, List.length_nil, Nat.reduceAdd, Option.map_some, if_true, f_if, Option.bind_some, Bool.true_or, Bool.or_true, Bool.false_or, Bool.or_false, Bool.true_and, Bool.and_true, Bool.false_and, Bool.and_false, Bool.not_true, Bool.not_false, Bool.false_eq_true, if_false, wq_0_0, wq_0_1, wq_0_2, wq_0_3, wq_0_4, wq_0_5, wq_0_6, wq_0_7, wq_0_8, wq_1_0, wq_1_1, wq_1_2, wq_1_3, wq_1_4, wq_1_5, wq_1_6, wq_1_7, wq_1_8, wq_2_0, wq_2_1, wq_2_2, wq_2_3, wq_2_4, wq_2_5, wq_2_6, wq_2_7, wq_2_8, wq_3_0, wq_3_1, wq_3_2, wq_3_3, wq_3_4, wq_3_5, wq_3_6, wq_3_7, wq_3_8, wq_4_0, wq_4_1, wq_4_2, wq_4_3, wq_4_4, wq_4_5, wq_4_6, wq_4_7, wq_4_8, wq_5_0, wq_5_1, wq_5_2, wq_5_3, wq_5_4, wq_5_5, wq_5_6, wq_5_7, wq_5_8, wq_6_0, wq_6_1, wq_6_2, wq_6_3, wq_6_4, wq_6_5, wq_6_6, wq_6_7, wq_6_8, wq_7_0, wq_7_1, wq_7_2, wq_7_3, wq_7_4, wq_7_5, wq_7_6, wq_7_7, wq_7_8, wq_8_0, wq_8_1, wq_8_2, wq_8_3, wq_8_4, wq_8_5, wq_8_6, wq_8_7, wq_8_8, fn_27, F.ix0, F.word, c1, c2, c3, c4, c5, c6, c7, c8, ha, o_meth, mt, e3, e2]
    rw [show (D.int 0) = D.int ((0 : Nat) : Int) from rfl, eb]
    simp (disch := first | assumption | omega | (simp only [List.length_cons, List.length_nil]; omega)) only [x_c, x_g, x_v0, x_v1, x_v2, x_v3, x_v4, x_v5, x_v6, x_v7, x_v8, x_v9, x_v10, x_v11, x_v12, x_v13, x_v14, x_v15, x_tup, x_lst, x_op, x_neg, x_not, x_and, x_or, x_ite, x_cmp, x_chain, x_ix, x_sl, x_rev, x_call, x_meth, x_new, x_fld, x_isi, x_bi, x_listof, x_bm, x_nil, x_cons, x_eno, x_eso, x_ival, x_irange, x_irev, x_fcall, x_flst, x_flistof, x_asg, x_asgB, x_ex, x_ret, x_retF, x_site, x_raise, x_cont, x_pass, x_par, x_snil, x_scons, x_tnm, x_ttup, x_tsub, x_tfld, x_cono, x_con0, y_thenT, y_thenF, y_then, y_elseT, y_elseF, y_else, y_ifT, y_ifF, y_if, y_not, y_neg, y_opt, y_chT, y_chF, y_ch, y_seq, y_seqR, y_seqN, y_seqC, y_len0, y_len1, y_len2, y_len3, y_len4, y_len5, y_len6, y_fldQ, y_fldS, y_methQ, y_methS, y_setQ, y_setS, y_new, y_non, y_rvN, y_dV, y_dN, y_bindi, y_bindE, y_map, f_nx, f_rt, f_rn, f_ex, l_w0, l_ws, v_bind, v_some, v_add, v_sub, v_lt, v_le, v_gt, v_ge, v_eqI, v_eqS, v_neN, v_isN, v_isNN, v_ixL, v_ixT, v_lenS, v_lenL, v_lenT, List.getElem?_cons_zero, List.getElem?_cons_succ, List.set_cons_zero, List.set_cons_succ, List.length_cons, List.length_nil, Nat.reduceAdd, Option.map_some, if_true, f_if, Option.bind_some, Bool.true_or, Bool.or_true, Bool.false_or, Bool.or_false, Bool.true_and, Bool.and_true, Bool.false_and, Bool.and_false, Bool.not_true, Bool.not_false, Bool.false_eq_true, if_false, wq_0_0, wq_0_1, wq_0_2, wq_0_3, wq_0_4, wq_0_5, wq_0_6, wq_0_7, wq_0_8, wq_1_0, wq_1_1, wq_1_2, wq_1_3, wq_1_4, wq_1_5, wq_1_6, wq_1_7, wq_1_8, wq_2_0, wq_2_1, wq_2_2, wq_2_3, wq_2_4, wq_2_5, wq_2_6, wq_2_7, wq_2_8, wq_3_0, wq_3_1, wq_3_2, wq_3_3, wq_3_4, wq_3_5, wq_3_6, wq_3_7, wq_3_8, wq_4_0, wq_4_1, wq_4_2, wq_4_3, wq_4_4, wq_4_5, wq_4_6, wq_4_7, wq_4_8, wq_5_0, wq_5_1, wq_5_2, wq_5_3, wq_5_4, wq_5_5, wq_5_6, wq_5_7, wq_5_8, wq_6_0, wq_6_1, wq_6_2, wq_6_3, wq_6_4, wq_6_5, wq_6_6, wq_6_7, wq_6_8, wq_7_0, wq_7_1, wq_7_2, wq_7_3, wq_7_4, wq_7_5, wq_7_6, wq_7_7, wq_7_8, wq_8_0, wq_8_1, wq_8_2, wq_8_3, wq_8_4, wq_8_5, wq_8_6, wq_8_7, wq_8_8, e2]
    simp only [hold]
  | asmany p q b =>
    have c1 : (sAsmany == [105, 115]) = false := rfl
    have c2 : (sAsmany == [102, 114, 111, 109]) = false := rfl
    have c3 : (sAsmany == [110, 111, 116]) = false := rfl
    have c4 : (sAsmany == [97, 110, 100]) = false := rfl
    have c5 : (sAsmany == [111, 114]) = false := rfl
    have c6 : (sAsmany == [98, 101, 104, 105, 110, 100]) = false := rfl
    have c7 : (sAsmany == [115, 105, 110, 99, 101]) = false := rfl
    have c8 : (sAsmany == [109, 97, 110, 121]) = false := rfl
    have eb := held_count (by omega : 2 ≤ n) ha 0 p rfl k hk b hr
    have ec := held_count (by omega : 2 ≤ n) ha 1 q rfl k hk b hr
    have e3 : ixD cfg.gds h (F.asmany p q b).d (.int 3) = some (.int b) := rfl
    have eb' : run cfg tbl n 26 [.ref a, .int 0, .int k, .int b] h = _ := eb
    have ec' : run cfg tbl n 26 [.ref a, .int 1, .int k, .int b] h = _ := ec
    simp (disch := first | assumption | omega | (simp only [List.length_cons, List.length_nil]; omega)) only [x_c, x_g, x_v0, x_v1, x_v2, x_v3, x_v4, x_v5, x_v6, x_v7, x_v8, x_v9, x_v10, x_v11, x_v12, x_v13, x_v14, x_v15, x_tup, x_lst, x_op, x_neg, x_not, x_and, x_or, x_ite, x_cmp, x_chain, x_ix, x_sl, x_rev, x_call, x_meth, x_new, x_fld, x_isi, x_bi, x_listof, x_bm, x_nil, x_cons, x_eno, x_eso, x_ival, x_irange, x_irev, x_fcall, x_flst, x_flistof, x_asg, x_asgB, x_ex, x_ret, x_retF, x_site, x_raise, x_cont, x_pass, x_par, x_snil, x_scons, x_tnm, x_ttup, x_tsub, x_tfld, x_cono, x_con0, y_thenT, y_thenF, y_then, y_elseT, y_elseF, y_else, y_ifT, y_ifF, y_if, y_not, y_neg, y_opt, y_chT, y_chF, y_ch, y_seq, y_seqR, y_seqN, y_seqC, y_len0, y_len1, y_len2, y_len3, y_len4, y_len5, y_len6, y_fldQ, y_fldS, y_methQ, y_methS, y_setQ, y_setS, y_new, y_non, y_rvN, y_dV, y_dN, y_bindi, y_bindE, y_map, f_nx, f_rt, f_rn, f_ex, l_w0, l_ws, v_bind, v_some, v_add, v_sub, v_lt, v_le, v_gt, v_ge, v_eqI, v_eqS, v_neN, v_isN, v_isNN, v_ixL, v_ixT, v_lenS, v_lenL, v_lenT, List.getElem?_cons_zero, List.getElem?_cons_succ, List.set_cons_zero, List.set_cons_succ, List.length_cons, List.length_nil, Nat.reduceAdd, Option.map_some, if_true, f_if, Option.bind_some, Bool.true_or, Bool.or_true, Bool.false_or, Bool.or_false, Bool.true_and, Bool.and_true, Bool.false_and, Bool.and_false, Bool.not_true, Bool.not_false, Bool.false_eq_true, if_false, wq_0_0, wq_0_1, wq_0_2, wq_0_3, wq_0_4, wq_0_5, wq_0_6, wq_0_7, wq_0_8, wq_1_0, wq_1_1, wq_1_2, wq_1_3, wq_1_4, wq_1_5, wq_1_6, wq_1_7, wq_1_8, wq_2_0, wq_2_1, wq_2_2, wq_2_3, wq_2_4, wq_2_5, wq_2_6, wq_2_7, wq_2_8, wq_3_0, wq_3_1, wq_3_2, wq_3_3, wq_3_4, wq_3_5, wq_3_6, wq_3_7, wq_3_8, wq_4_0, wq_4_1, wq_4_2, wq_4_3, wq_4_4, wq_4_5, wq_4_6, wq_4_7, wq_4_8, wq_5_0, wq_5_1, wq_5_2, wq_5_3, wq_5_4, wq_5_5, wq_5_6, wq_5_7, wq_5_8, wq_6_0, wq_6_1, wq_6_2, wq_6_3, wq_6_4, wq_6_5, wq_6_6, wq_6_7, wq_6_8, wq_7_0, wq_7_1, wq_7_2, wq_7_3, wq_7_4, wq_7_5, wq_7_6, wq_7_7, wq_7_8, wq_8_0, wq_8_1, wq_8_2, wq_8_3, wq_8_4, wq_8_5, wq_8_6, wq_8_7, wq_8_8, fn_27, F.ix0, F.word, c1, c2, c3, c4, c5, c6, c7, c8, ha, o_meth, mt, e3, eb', ec']
    simp only [hold, Int.ofNat_le]
theorem held (r : List Hap) (hr : r.length ≤ 1000) : ∀ (f : F) (n : Nat), 2 * f.dep + 5 ≤ n → ∀ h : VH, run cfg tbl n 28 [f.d, rowD r] h = .ok (.new ((holds r f).map .bl)) h := by
  intro f
  generalize hd : f.dep = z
  induction z using Nat.strongRecOn generalizing f with
  | ind z ih =>
  intro n hn h
  subst hd
  have hdp := F.dep_pos f
  obtain ⟨n, rfl⟩ : ∃ q, n = q + 2 := ⟨n - 2, by omega⟩
  rw [u_28]
  have m0 : cfg.mt 13 0 = some 21 := rfl
  have ei : run cfg tbl (n + 1) 21 [.ref h.length, f.d, rowD r] (h ++ [.ins 13 []]) = .ok (.val .non) (h ++ [heldO r f.kids]) := by
    rw [u_21]
    have e2 : evE cfg (run cfg tbl n) (.lc (.call 28 (.cons (.v 3) (.cons (.v 2) .nil))) (.nm 3) (.val (.call 15 (.cons (.v 1) .nil))) .none [3]) [some (.ref h.length), some f.d, some (rowD r), none] (h ++ [.ins 13 [(3, rowD r)]]) =
        .ok (.lst ((f.kids.filter fun _ => true).map (bD r))) (h ++ [.ins 13 [(3, rowD r)]]) := by
      refine e_lc F.d (fun _ => true) (bD r) f.kids ?_ (by have := kids_len f; show _ ≤ 16777216; omega) ?_
      · simp (disch := first | assumption | omega | (simp only [List.length_cons, List.length_nil]; omega)) only [x_c, x_g, x_v0, x_v1, x_v2, x_v3, x_v4, x_v5, x_v6, x_v7, x_v8, x_v9, x_v10, x_v11, x_v12, x_v13, x_v14, x_v15, x_tup, x_lst, x_op, x_neg, x_not, x_and, x_or, x_ite, x_cmp, x_chain, x_ix, x_sl, x_rev, x_call, x_meth, x_new, x_fld, x_isi, x_bi, x_listof, x_bm, x_nil, x_cons, x_eno, x_eso, x_ival, x_irange, x_irev, x_fcall, x_flst, x_flistof, x_asg, x_asgB, x_ex, x_ret, x_retF, x_site, x_raise, x_cont, x_pass, x_par, x_snil, x_scons, x_tnm, x_ttup, x_tsub, x_tfld, x_cono, x_con0, y_thenT, y_thenF, y_then, y_elseT, y_elseF, y_else, y_ifT, y_ifF, y_if, y_not, y_neg, y_opt, y_chT, y_chF, y_ch, y_seq, y_seqR, y_seqN, y_seqC, y_len0, y_len1, y_len2, y_len3, y_len4, y_len5, y_len6, y_fldQ, y_fldS, y_methQ, y_methS, y_setQ, y_setS, y_new, y_non, y_rvN, y_dV, y_dN, y_bindi, y_bindE, y_map, f_nx, f_rt, f_rn, f_ex, l_w0, l_ws, v_bind, v_some, v_add, v_sub, v_lt, v_le, v_gt, v_ge, v_eqI, v_eqS, v_neN, v_isN, v_isNN, v_ixL, v_ixT, v_lenS, v_lenL, v_lenT, List.getElem?_cons_zero, List.getElem?_cons_succ, List.set_cons_zero, List.set_cons_succ, List.length_cons, List.length_nil, Nat.reduceAdd, Option.map_some, if_true, f_if, Option.bind_some, Bool.true_or, Bool.or_true, Bool.false_or, Bool.or_false, Bool.true_and, Bool.and_true, Bool.false_and, Bool.and_false, Bool.not_true, Bool.not_false, Bool.false_eq_true, if_false, wq_0_0, wq_0_1, wq_0_2, wq_0_3, wq_0_4, wq_0_5, wq_0_6, wq_0_7, wq_0_8, wq_1_0, wq_1_1, wq_1_2, wq_1_3, wq_1_4, wq_1_5, wq_1_6, wq_1_7, wq_1_8, wq_2_0, wq_2_1, wq_2_2, wq_2_3, wq_2_4, wq_2_5, wq_2_6, wq_2_7, wq_2_8, wq_3_0, wq_3_1, wq_3_2, wq_3_3, wq_3_4, wq_3_5, wq_3_6, wq_3_7, wq_3_8, wq_4_0, wq_4_1, wq_4_2, wq_4_3, wq_4_4, wq_4_5, wq_4_6, wq_4_7, wq_4_8, wq_5_0, wq_5_1, wq_5_2, wq_5_3, wq_5_4, wq_5_5, wq_5_6, wq_5_7, wq_5_8, wq_6_0, wq_6_1, wq_6_2, wq_6_3, wq_6_4, wq_6_5, wq_6_6, wq_6_7, wq_6_8, wq_7_0, wq_7_1, wq_7_2, wq_7_3, wq_7_4, wq_7_5, wq_7_6, wq_7_7, wq_7_8, wq_8_0, wq_8_1, wq_8_2, wq_8_3, wq_8_4, wq_8_5, wq_8_6, wq_8_7, wq_8_8, parts_of (by omega : 1 ≤ n) f]
        rfl
      · intro y hy
        refine ⟨_, rfl, rfl, fun _ => ?_⟩
        simp (disch := first | assumption | omega | (simp only [List.length_cons, List.length_nil]; omega)) only [x_c, x_g, x_v0, x_v1, x_v2, x_v3, x_v4, x_v5, x_v6, x_v7, x_v8, x_v9, x_v10, x_v11, x_v12, x_v13, x_v14, x_v15, x_tup, x_lst, x_op, x_neg, x_not, x_and, x_or, x_ite, x_cmp, x_chain, x_ix, x_sl, x_rev, x_call, x_meth, x_new, x_fld, x_isi, x_bi, x_listof, x_bm, x_nil, x_cons, x_eno, x_eso, x_ival, x_irange, x_irev, x_fcall, x_flst, x_flistof, x_asg, x_asgB, x_ex, x_ret, x_retF, x_site, x_raise, x_cont, x_pass, x_par, x_snil, x_scons, x_tnm, x_ttup, x_tsub, x_tfld, x_cono, x_con0, y_thenT, y_thenF, y_then, y_elseT, y_elseF, y_else, y_ifT, y_ifF, y_if, y_not, y_neg, y_opt, y_chT, y_chF, y_ch, y_seq, y_seqR, y_seqN, y_seqC, y_len0, y_len1, y_len2, y_len3, y_len4, y_len5, y_len6, y_fldQ, y_fldS, y_methQ, y_methS, y_setQ, y_setS, y_new, y_non, y_rvN, y_dV, y_dN, y_bindi, y_bindE, y_map, f_nx, f_rt, f_rn, f_ex, l_w0, l_ws, v_bind, v_some, v_add, v_sub, v_lt, v_le, v_gt, v_ge, v_eqI, v_eqS, v_neN, v_isN, v_isNN, v_ixL, v_ixT, v_lenS, v_lenL, v_lenT, List.getElem?_cons_zero, List.getElem?_cons_succ, List.set_cons_zero, List.set_cons_succ, List.length_cons, List.length_nil, Nat.reduceAdd, Option.map_some, if_true, f_if, Option.bind_some, Bool.true_or, Bool.or_true, Bool.false_or, Bool.or_false, Bool.true_and, Bool.and_true, Bool.false_and, Bool.and_false, Bool.not_true, Bool.not_false, Bool.false_eq_true, if_false, wq_0_0, wq_0_1, wq_0_2, wq_0_3, wq_0_4, wq_0_5, wq_0_6, wq_0_7, wq_0_8, wq_1_0, wq_1_1, wq_1_2, wq_1_3, wq_1_4, wq_1_5, wq_1_6, wq_1_7, wq_1_8, wq_2_0, wq_2_1, wq_2_2, wq_2_3, wq_2_4, wq_2_5, wq_2_6, wq_2_7, wq_2_8, wq_3_0, wq_3_1, wq_3_2, wq_3_3, wq_3_4, wq_3_5, wq_3_6, wq_3_7, wq_3_8, wq_4_0, wq_4_1, wq_4_2, wq_4_3, wq_4_4, wq_4_5, wq_4_6, wq_4_7, wq_4_8, wq_5_0, wq_5_1, wq_5_2, wq_5_3, wq_5_4, wq_5_5, wq_5_6, wq_5_7, wq_5_8, wq_6_0, wq_6_1, wq_6_2, wq_6_3, wq_6_4, wq_6_5, wq_6_6, wq_6_7, wq_6_8, wq_7_0, wq_7_1, wq_7_2, wq_7_3, wq_7_4, wq_7_5, wq_7_6, wq_7_7, wq_7_8, wq_8_0, wq_8_1, wq_8_2, wq_8_3, wq_8_4, wq_8_5, wq_8_6, wq_8_7, wq_8_8, ih y.dep (F.dep_kids f y hy) y rfl n (by have := F.dep_kids f y hy; omega)]
        rfl
    rw [filter_true] at e2
    have s1 : ∀ o o' : O, (h ++ [o]).set h.length o' = h ++ [o'] := fun o o' => set_app_new h o o' []
    have s2 : ∀ o : O, (h ++ [o])[h.length]? = some o := fun o => get_app_new h o []
    have p0 : ∀ x, fput 3 x [] = [(3, x)] := fun _ => rfl
    have p1 : ∀ x y, fput 4 y [(3, x)] = [(3, x), (4, y)] := fun _ _ => rfl
    simp (disch := first | assumption | omega | (simp only [List.length_cons, List.length_nil]; omega)) only [x_c, x_g, x_v0, x_v1, x_v2, x_v3, x_v4, x_v5, x_v6, x_v7, x_v8, x_v9, x_v10, x_v11, x_v12, x_v13, x_v14, x_v15, x_tup, x_lst, x_op, x_neg, x_not, x_and, x_or, x_ite, x_cmp, x_chain, x_ix, x_sl, x_rev, x_call, x_meth, x_new, x_fld, x_isi, x_bi, x_listof, x_bm, x_nil, x_cons, x_eno, x_eso, x_ival, x_irange, x_irev, x_fcall, x_flst, x_flistof, x_asg, x_asgB, x_ex, x_ret, x_retF, x_site, x_raise, x_cont, x_pass, x_par, x_snil, x_scons, x_tnm, x_ttup, x_tsub, x_tfld, x_cono, x_con0, y_thenT, y_thenF, y_then, y_elseT, y_elseF, y_else, y_ifT, y_ifF, y_if, y_not, y_neg, y_opt, y_chT, y_chF, y_ch, y_seq, y_seqR, y_seqN, y_seqC, y_len0, y_len1, y_len2, y_len3, y_len4, y_len5, y_len6, y_fldQ, y_fldS, y_methQ, y_methS, y_setQ, y_setS, y_new, y_non, y_rvN, y_dV, y_dN, y_bindi, y_bindE, y_map, f_nx, f_rt, f_rn, f_ex, l_w0, l_ws, v_bind, v_some, v_add, v_sub, v_lt, v_le, v_gt, v_ge, v_eqI, v_eqS, v_neN, v_isN, v_isNN, v_ixL, v_ixT, v_lenS, v_lenL, v_lenT, List.getElem?_cons_zero, List.getElem?_cons_succ, List.set_cons_zero, List.set_cons_succ, List.length_cons, List.length_nil, Nat.reduceAdd, Option.map_some, if_true, f_if, Option.bind_some, Bool.true_or, Bool.or_true, Bool.false_or, Bool.or_false, Bool.true_and, Bool.and_true, Bool.false_and, Bool.and_false, Bool.not_true, Bool.not_false, Bool.false_eq_true, if_false, wq_0_0, wq_0_1, wq_0_2, wq_0_3, wq_0_4, wq_0_5, wq_0_6, wq_0_7, wq_0_8, wq_1_0, wq_1_1, wq_1_2, wq_1_3, wq_1_4, wq_1_5, wq_1_6, wq_1_7, wq_1_8, wq_2_0, wq_2_1, wq_2_2, wq_2_3, wq_2_4, wq_2_5, wq_2_6, wq_2_7, wq_2_8, wq_3_0, wq_3_1, wq_3_2, wq_3_3, wq_3_4, wq_3_5, wq_3_6, wq_3_7, wq_3_8, wq_4_0, wq_4_1, wq_4_2, wq_4_3, wq_4_4, wq_4_5, wq_4_6, wq_4_7, wq_4_8, wq_5_0, wq_5_1, wq_5_2, wq_5_3, wq_5_4, wq_5_5, wq_5_6, wq_5_7, wq_5_8, wq_6_0, wq_6_1, wq_6_2, wq_6_3, wq_6_4, wq_6_5, wq_6_6, wq_6_7, wq_6_8, wq_7_0, wq_7_1, wq_7_2, wq_7_3, wq_7_4, wq_7_5, wq_7_6, wq_7_7, wq_7_8, wq_8_0, wq_8_1, wq_8_2, wq_8_3, wq_8_4, wq_8_5, wq_8_6, wq_8_7, wq_8_8, fn_21, s1, s2, e2, p0, p1]
    rfl
  have er : evF cfg (run cfg tbl (n + 1)) (.lc (.meth (.v 2) 6 (.cons (.v 0) (.cons (.v 3) .nil))) (.nm 3) (.range (.cons (.bi .len (.cons (.v 1) .nil)) .nil)) .none [3]) [some f.d, some (rowD r), some (.ref h.length), none] (h ++ [heldO r f.kids]) =
      .ok (((List.range r.length).filter fun _ => true).map fun k => .bl (hold r f k)) (h ++ [heldO r f.kids]) := by
    refine e_flc (fun j : Nat => .int j) (fun _ => true) (fun k => .bl (hold r f k)) (List.range r.length) ?_ (rng_le _ (by omega)) ?_
    · simp (disch := first | assumption | omega | (simp only [List.length_cons, List.length_nil]; omega)) only [x_c, x_g, x_v0, x_v1, x_v2, x_v3, x_v4, x_v5, x_v6, x_v7, x_v8, x_v9, x_v10, x_v11, x_v12, x_v13, x_v14, x_v15, x_tup, x_lst, x_op, x_neg, x_not, x_and, x_or, x_ite, x_cmp, x_chain, x_ix, x_sl, x_rev, x_call, x_meth, x_new, x_fld, x_isi, x_bi, x_listof, x_bm, x_nil, x_cons, x_eno, x_eso, x_ival, x_irange, x_irev, x_fcall, x_flst, x_flistof, x_asg, x_asgB, x_ex, x_ret, x_retF, x_site, x_raise, x_cont, x_pass, x_par, x_snil, x_scons, x_tnm, x_ttup, x_tsub, x_tfld, x_cono, x_con0, y_thenT, y_thenF, y_then, y_elseT, y_elseF, y_else, y_ifT, y_ifF, y_if, y_not, y_neg, y_opt, y_chT, y_chF, y_ch, y_seq, y_seqR, y_seqN, y_seqC, y_len0, y_len1, y_len2, y_len3, y_len4, y_len5, y_len6, y_fldQ, y_fldS, y_methQ, y_methS, y_setQ, y_setS, y_new, y_non, y_rvN, y_dV, y_dN, y_bindi, y_bindE, y_map, f_nx, f_rt, f_rn, f_ex, l_w0, l_ws, v_bind, v_some, v_add, v_sub, v_lt, v_le, v_gt, v_ge, v_eqI, v_eqS, v_neN, v_isN, v_isNN, v_ixL, v_ixT, v_lenS, v_lenL, v_lenT, List.getElem?_cons_zero, List.getElem?_cons_succ, List.set_cons_zero, List.set_cons_succ, List.length_cons, List.length_nil, Nat.reduceAdd, Option.map_some, if_true, f_if, Option.bind_some, Bool.true_or, Bool.or_true, Bool.false_or, Bool.or_false, Bool.true_and, Bool.and_true, Bool.false_and, Bool.and_false, Bool.not_true, Bool.not_false, Bool.false_eq_true, if_false, wq_0_0, wq_0_1, wq_0_2, wq_0_3, wq_0_4, wq_0_5, wq_0_6, wq_0_7, wq_0_8, wq_1_0, wq_1_1, wq_1_2, wq_1_3, wq_1_4, wq_1_5, wq_1_6, wq_1_7, wq_1_8, wq_2_0, wq_2_1, wq_2_2, wq_2_3, wq_2_4, wq_2_5, wq_2_6, wq_2_7, wq_2_8, wq_3_0, wq_3_1, wq_3_2, wq_3_3, wq_3_4, wq_3_5, wq_3_6, wq_3_7, wq_3_8, wq_4_0, wq_4_1, wq_4_2, wq_4_3, wq_4_4, wq_4_5, wq_4_6, wq_4_7, wq_4_8, wq_5_0, wq_5_1, wq_5_2, wq_5_3, wq_5_4, wq_5_5, wq_5_6, wq_5_7, wq_5_8, wq_6_0, wq_6_1, wq_6_2, wq_6_3, wq_6_4, wq_6_5, wq_6_6, wq_6_7, wq_6_8, wq_7_0, wq_7_1, wq_7_2, wq_7_3, wq_7_4, wq_7_5, wq_7_6, wq_7_7, wq_7_8, wq_8_0, wq_8_1, wq_8_2, wq_8_3, wq_8_4, wq_8_5, wq_8_6, wq_8_7, wq_8_8, rowD, v_lenL, List.length_map, range_nat r.length (by omega)]
    · intro k hk
      refine ⟨_, rfl, rfl, fun _ => ?_⟩
      have hg : (h ++ [heldO r f.kids])[h.length]? = some (heldO r f.kids) := get_app_new h _ []
      simp (disch := first | assumption | omega | (simp only [List.length_cons, List.length_nil]; omega)) only [x_c, x_g, x_v0, x_v1, x_v2, x_v3, x_v4, x_v5, x_v6, x_v7, x_v8, x_v9, x_v10, x_v11, x_v12, x_v13, x_v14, x_v15, x_tup, x_lst, x_op, x_neg, x_not, x_and, x_or, x_ite, x_cmp, x_chain, x_ix, x_sl, x_rev, x_call, x_meth, x_new, x_fld, x_isi, x_bi, x_listof, x_bm, x_nil, x_cons, x_eno, x_eso, x_ival, x_irange, x_irev, x_fcall, x_flst, x_flistof, x_asg, x_asgB, x_ex, x_ret, x_retF, x_site, x_raise, x_cont, x_pass, x_par, x_snil, x_scons, x_tnm, x_ttup, x_tsub, x_tfld, x_cono, x_con0, y_thenT, y_thenF, y_then, y_elseT, y_elseF, y_else, y_ifT, y_ifF, y_if, y_not, y_neg, y_opt, y_chT, y_chF, y_ch, y_seq, y_seqR, y_seqN, y_seqC, y_len0, y_len1, y_len2, y_len3, y_len4, y_len5, y_len6, y_fldQ, y_fldS, y_methQ, y_methS, y_setQ, y_setS, y_new, y_non, y_rvN, y_dV, y_dN, y_bindi, y_bindE, y_map, f_nx, f_rt, f_rn, f_ex, l_w0, l_ws, v_bind, v_some, v_add, v_sub, v_lt, v_le, v_gt, v_ge, v_eqI, v_eqS, v_neN, v_isN, v_isNN, v_ixL, v_ixT, v_lenS, v_lenL, v_lenT, List.getElem?_cons_zero, List.getElem?_cons_succ, List.set_cons_zero, List.set_cons_succ, List.length_cons, List.length_nil, Nat.reduceAdd, Option.map_some, if_true, f_if, Option.bind_some, Bool.true_or, Bool.or_true, Bool.false_or, Bool.or_false, Bool.true_and, Bool.and_true, Bool.false_and, Bool.and_false, Bool.not_true, Bool.not_false, Bool.false_eq_true, if_false, wq_0_0, wq_0_1, wq_0_2, wq_0_3, wq_0_4, wq_0_5, wq_0_6, wq_0_7, wq_0_8, wq_1_0, wq_1_1, wq_1_2, wq_1_3, wq_1_4, wq_1_5, wq_1_6, wq_1_7, wq_1_8, wq_2_0, wq_2_1, wq_2_2, wq_2_3, wq_2_4, wq_2_5, wq_2_6, wq_2_7, wq_2_8, wq_3_0, wq_3_1, wq_3_2, wq_3_3, wq_3_4, wq_3_5, wq_3_6, wq_3_7, wq_3_8, wq_4_0, wq_4_1, wq_4_2, wq_4_3, wq_4_4, wq_4_5, wq_4_6, wq_4_7, wq_4_8, wq_5_0, wq_5_1, wq_5_2, wq_5_3, wq_5_4, wq_5_5, wq_5_6, wq_5_7, wq_5_8, wq_6_0, wq_6_1, wq_6_2, wq_6_3, wq_6_4, wq_6_5, wq_6_6, wq_6_7, wq_6_8, wq_7_0, wq_7_1, wq_7_2, wq_7_3, wq_7_4, wq_7_5, wq_7_6, wq_7_7, wq_7_8, wq_8_0, wq_8_1, wq_8_2, wq_8_3, wq_8_4, wq_8_5, wq_8_6, wq_8_7, wq_8_8, hg, o_meth, mt, held_tells (by omega : 4 ≤ n + 1) f hg k (by simpa using hk) hr]
  simp (disch := first | assumption | omega | (simp only [List.length_cons, List.length_nil]; omega)) only [x_c, x_g, x_v0, x_v1, x_v2, x_v3, x_v4, x_v5, x_v6, x_v7, x_v8, x_v9, x_v10, x_v11, x_v12, x_v13, x_v14, x_v15, x_tup, x_lst, x_op, x_neg, x_not, x_and, x_or, x_ite, x_cmp, x_chain, x_ix, x_sl, x_rev, x_call, x_meth, x_new, x_fld, x_isi, x_bi, x_listof, x_bm, x_nil, x_cons, x_eno, x_eso, x_ival, x_irange, x_irev, x_fcall, x_flst, x_flistof, x_asg, x_asgB, x_ex, x_ret, x_retF, x_site, x_raise, x_cont, x_pass, x_par, x_snil, x_scons, x_tnm, x_ttup, x_tsub, x_tfld, x_cono, x_con0, y_thenT, y_thenF, y_then, y_elseT, y_elseF, y_else, y_ifT, y_ifF, y_if, y_not, y_neg, y_opt, y_chT, y_chF, y_ch, y_seq, y_seqR, y_seqN, y_seqC, y_len0, y_len1, y_len2, y_len3, y_len4, y_len5, y_len6, y_fldQ, y_fldS, y_methQ, y_methS, y_setQ, y_setS, y_new, y_non, y_rvN, y_dV, y_dN, y_bindi, y_bindE, y_map, f_nx, f_rt, f_rn, f_ex, l_w0, l_ws, v_bind, v_some, v_add, v_sub, v_lt, v_le, v_gt, v_ge, v_eqI, v_eqS, v_neN, v_isN, v_isNN, v_ixL, v_ixT, v_lenS, v_lenL, v_lenT, List.getElem?_cons_zero, List.getElem?_cons_succ, List.set_cons_zero, List.set_cons_succ, List.length_cons, List.length_nil, Nat.reduceAdd, Option.map_some, if_true, f_if, Option.bind_some, Bool.true_or, Bool.or_true, Bool.false_or, Bool.or_false, Bool.true_and, Bool.and_true, Bool.false_and, Bool.and_false, Bool.not_true, Bool.not_false, Bool.false_eq_true, if_false, wq_0_0, wq_0_1, wq_0_2, wq_0_3, wq_0_4, wq_0_5, wq_0_6, wq_0_7, wq_0_8, wq_1_0, wq_1_1, wq_1_2, wq_1_3, wq_1_4, wq_1_5, wq_1_6, wq_1_7, wq_1_8, wq_2_0, wq_2_1, wq_2_2, wq_2_3, wq_2_4, wq_2_5, wq_2_6, wq_2_7, wq_2_8, wq_3_0, wq_3_1, wq_3_2, wq_3_3, wq_3_4, wq_3_5, wq_3_6, wq_3_7, wq_3_8, wq_4_0, wq_4_1, wq_4_2, wq_4_3, wq_4_4, wq_4_5, wq_4_6, wq_4_7, wq_4_8, wq_5_0, wq_5_1, wq_5_2, wq_5_3, wq_5_4, wq_5_5, wq_5_6, wq_5_7, wq_5_8, wq_6_0, wq_6_1, wq_6_2, wq_6_3, wq_6_4, wq_6_5, wq_6_6, wq_6_7, wq_6_8, wq_7_0, wq_7_1, wq_7_2, wq_7_3, wq_7_4, wq_7_5, wq_7_6, wq_7_7, wq_7_8, wq_8_0, wq_8_1, wq_8_2, wq_8_3, wq_8_4, wq_8_5, wq_8_6, wq_8_7, wq_8_8, fn_28, m0, ei, er, filter_true]
  rw [g_rn _ _ _ (cleans_plain _ _ (plains_map _ (fun _ => rfl) _))]
  simp [holds]
theorem p_holds {n : Nat} (hn : 20 ≤ n) (f : F) (hf : f.good) (r : List Hap) (hr : RowGood r) (h : VH) : run cfg tbl n 29 [f.d, rowD r] h = .ok (.new ((holds r f).map .bl)) h := by
  obtain ⟨n, rfl⟩ : ∃ q, n = q + 1 := ⟨n - 1, by omega⟩
  have := hf.2.1
  have := hr.len
  rw [u_29]
  simp (disch := first | assumption | omega | (simp only [List.length_cons, List.length_nil]; omega)) only [x_c, x_g, x_v0, x_v1, x_v2, x_v3, x_v4, x_v5, x_v6, x_v7, x_v8, x_v9, x_v10, x_v11, x_v12, x_v13, x_v14, x_v15, x_tup, x_lst, x_op, x_neg, x_not, x_and, x_or, x_ite, x_cmp, x_chain, x_ix, x_sl, x_rev, x_call, x_meth, x_new, x_fld, x_isi, x_bi, x_listof, x_bm, x_nil, x_cons, x_eno, x_eso, x_ival, x_irange, x_irev, x_fcall, x_flst, x_flistof, x_asg, x_asgB, x_ex, x_ret, x_retF, x_site, x_raise, x_cont, x_pass, x_par, x_snil, x_scons, x_tnm, x_ttup, x_tsub, x_tfld, x_cono, x_con0, y_thenT, y_thenF, y_then, y_elseT, y_elseF, y_else, y_ifT, y_ifF, y_if, y_not, y_neg, y_opt, y_chT, y_chF, y_ch, y_seq, y_seqR, y_seqN, y_seqC, y_len0, y_len1, y_len2, y_len3, y_len4, y_len5, y_len6, y_fldQ, y_fldS, y_methQ, y_methS, y_setQ, y_setS, y_new, y_non, y_rvN, y_dV, y_dN, y_bindi, y_bindE, y_map, f_nx, f_rt, f_rn, f_ex, l_w0, l_ws, v_bind, v_some, v_add, v_sub, v_lt, v_le, v_gt, v_ge, v_eqI, v_eqS, v_neN, v_isN, v_isNN, v_ixL, v_ixT, v_lenS, v_lenL, v_lenT, List.getElem?_cons_zero, List.getElem?_cons_succ, List.set_cons_zero, List.set_cons_succ, List.length_cons, List.length_nil, Nat.reduceAdd, Option.map_some, if_true, f_if, Option.bind_some, Bool.true_or, Bool.or_true, Bool.false_or, Bool.or_false, Bool.true_and, Bool.and_true, Bool.false_and, Bool.and_false, Bool.not_true, Bool.not_false, Bool.false_eq_true, if_false, wq_0_0, wq_0_1, wq_0_2, wq_0_3, wq_0_4, wq_0_5, wq_0_6, wq_0_7, wq_0_8, wq_1_0, wq_1_1, wq_1_2, wq_1_3, wq_1_4, wq_1_5, wq_1_6, wq_1_7, wq_1_8, wq_2_0, wq_2_1, wq_2_2, wq_2_3, wq_2_4, wq_2_5, wq_2_6, wq_2_7, wq_2_8, wq_3_0, wq_3_1, wq_3_2, wq_3_3, wq_3_4, wq_3_5, wq_3_6, wq_3_7, wq_3_8, wq_4_0, wq_4_1, wq_4_2, wq_4_3, wq_4_4, wq_4_5, wq_4_6, wq_4_7, wq_4_8, wq_5_0, wq_5_1, wq_5_2, wq_5_3, wq_5_4, wq_5_5, wq_5_6, wq_5_7, wq_5_8, wq_6_0, wq_6_1, wq_6_2, wq_6_3, wq_6_4, wq_6_5, wq_6_6, wq_6_7, wq_6_8, wq_7_0, wq_7_1, wq_7_2, wq_7_3, wq_7_4, wq_7_5, wq_7_6, wq_7_7, wq_7_8, wq_8_0, wq_8_1, wq_8_2, wq_8_3, wq_8_4, wq_8_5, wq_8_6, wq_8_7, wq_8_8, fn_29, need_sentence (by omega : 4 ≤ n) f hf, need_row (by omega : 2 ≤ n) r hr, held r (by omega) f n (by omega)]
end K03

namespace K03
open Mn
/-- the gaps at a happening -/
theorem gaps_eq (r : List Hap) (k : Nat) (hk : k < r.length) (x : Hap) (hx : r[k]? = some x) : (r.take (k + 1)).map (fun y => D.int (x.t - y.t)) = (List.range (k + 1)).map fun j => D.int (ago r j k) := by
  refine List.ext_getElem (by simp; omega) fun i h1 h2 => ?_
  simp at h1 h2
  have : i < r.length := by omega
  simp [ago, hx, this]
theorem tl_T (h : VH) (x : D) (xs : List D) : slD h (.tup (x :: xs)) (some 1) none = some (.tup xs) := sl_1 h x xs
theorem sl_take (h : VH) (xs : List D) (k : Nat) (hk : k < xs.length) : slD h (.lst xs) none (some ((k : Int) + 1)) = some (.lst (xs.take (k + 1))) := by
  have : ¬ ((k : Int) + 1 < 0) := by omega
  have h2 : ((k : Int) + 1).toNat = k + 1 := by omega
  simp only [slD, asL, cut, sIx, this, if_false, h2, Option.map_some, List.drop_zero]
  congr 3; omega
theorem sl_mid (h : VH) (xs : List D) (j k : Nat) (hj : j < k) (hk : k ≤ xs.length) : slD h (.lst xs) (some ((j : Int) + 1)) (some (k : Int)) = some (.lst ((xs.drop (j + 1)).take (k - (j + 1)))) := by
  have a : ¬ ((j : Int) + 1 < 0) := by omega
  have b : ¬ ((k : Int) < 0) := by omega
  have c : ((j : Int) + 1).toNat = j + 1 := by omega
  have d : ((k : Int)).toNat = k := by omega
  simp only [slD, asL, cut, sIx, a, b, c, d, if_false, Option.map_some]
  rw [Nat.min_eq_left (by omega), Nat.min_eq_left (by omega)]
theorem flat_bl (xs : List Bool) : (xs.map D.bl).all flat = true := by simp [flat]
theorem notin_bl (g : Nat → List (D × D)) (h : VH) (xs : List Bool) : cpD g h .notin (.bl false) (.lst (xs.map .bl)) = some (xs.all fun b => b) := by
  simp only [cpD, inD, flat_bl, flat, Bool.and_self, if_true, Option.map_some]
  congr 1
  induction xs with
  | nil => rfl
  | cons x r ih => simp only [List.map_cons, List.any_cons, List.all_cons, Bool.not_or, ih]; cases x <;> simp [eqv]
theorem mid_all (r : List Hap) (p : F) (j k : Nat) (hj : j < k) (hk : k ≤ r.length) : (((((holds r p).map D.bl).drop (j + 1)).take (k - (j + 1)))) = ((((List.range r.length).map (hold r p)).drop (j + 1)).take (k - (j + 1))).map D.bl := by
  simp [holds, List.map_drop, List.map_take]
theorem mid_all2 (r : List Hap) (p : F) (j k : Nat) (hj : j < k) (hk : k ≤ r.length) : ((((List.range r.length).map (hold r p)).drop (j + 1)).take (k - (j + 1))).all (fun b => b) = (List.range k).all fun i => decide (i ≤ j) || hold r p i := by
  rw [Bool.eq_iff_iff]
  simp only [List.all_eq_true, List.mem_range, Bool.or_eq_true, decide_eq_true_eq]
  constructor
  · intro H i hi
    by_cases hij : i ≤ j
    · exact .inl hij
    · refine .inr (H _ ?_)
      rw [List.mem_iff_getElem]
      refine ⟨i - (j + 1), by simp; omega, ?_⟩
      simp only [List.getElem_take, List.getElem_drop, List.getElem_map, List.getElem_range]
      congr 1; omega
  · intro H b hb
    rw [List.mem_iff_getElem] at hb
    obtain ⟨i, hi, rfl⟩ := hb
    simp only [List.length_take, List.length_drop, List.length_map, List.length_range] at hi
    simp only [List.getElem_take, List.getElem_drop, List.getElem_map, List.getElem_range]
    rcases H (j + 1 + i) (by omega) with z | z
    · omega
    · exact z
theorem range_map_get {β : Type} (g : F → β) (l : List F) : (List.range l.length).map (fun i => g (l[i]?.getD default)) = l.map g := by
  refine List.ext_getElem (by simp) fun i h1 h2 => ?_
  simp at h1
  simp [h1]
/-- a turn of the law's loop: what it puts -/
def lhBody : Ss := match fn_1009.body with
  | .cons _ (.cons _ (.cons _ (.cons (.for_ _ _ b) _))) => b
  | _ => .nil
theorem neg2 (h : VH) (a b c d : D) : slD h (.tup [a, b, c, d]) (some (-2)) none = some (.tup [c, d]) := rfl
theorem neg2' (h : VH) (a b c d e : D) : slD h (.tup [a, b, c, d, e]) (some (-2)) none = some (.tup [d, e]) := rfl
theorem ten {n : Nat} {r : List Hap} (hr : r.length ≤ 1000) (f : F) (h : VH) (hh : Nat) (acc : List D) (hg : h[hh]? = some (.lst acc)) (hacc : acc.length ≤ 1000) (k : Nat) (hk : k < r.length) (x4 x7 x8 x9 x10 x11 x12 x13 x14 : Option D) :
    (evSs cfg (run cfg tbl n) lhBody [some f.d, some (rowD r), some (.str f.word), some (.lst (f.kids.map (bD r))), x4, some (.ref hh), some (.int k), x7, x8, x9, x10, x11, x12, x13, x14] h).get fun o h' => h' = h.set hh (.lst (acc ++ [.bl (hold r f k)])) ∧ ∃ y7 y8 y9 y10 y11 y12 y13 y14,
      o = .nx [some f.d, some (rowD r), some (.str f.word), some (.lst (f.kids.map (bD r))), x4, some (.ref hh), some (.int k), y7, y8, y9, y10, y11, y12, y13, y14] := by
  obtain ⟨x, ex, ex2⟩ := row_at (r := r) k hk
  have hgx : r[k]?.getD default = x := by rw [ex]; rfl
  have ht := t_append h hh acc hg
  have hv := fun y => v_append h hh acc y hg (by show _ < 16777216; omega)
  have egaps : ∀ (rest : Env), evE cfg (run cfg tbl n) (.lc (.op .sub (.ix (.ix (.v 1) (.v 6)) (.c (.int 0))) (.ix (.v 8) (.c (.int 0)))) (.nm 8) (.val (.sl (.v 1) .none (.some (.op .add (.v 6) (.c (.int 1)))))) .none [8])
      [some f.d, some (rowD r), some (.str f.word), some (.lst (f.kids.map (bD r))), x4, some (.ref hh), some (.int k), x7, x8, x9, x10, x11, x12, x13, x14] h =
      .ok (.lst ((List.range (k + 1)).map fun j => D.int (ago r j k))) h := by
    intro _
    have := e_lc (C := cfg) (call := run cfg tbl n) (h := h) (ρ := [some f.d, some (rowD r), some (.str f.word), some (.lst (f.kids.map (bD r))), x4, some (.ref hh), some (.int k), x7, x8, x9, x10, x11, x12, x13, x14]) (elt := .op .sub (.ix (.ix (.v 1) (.v 6)) (.c (.int 0))) (.ix (.v 8) (.c (.int 0)))) (t := .nm 8) (it := .val (.sl (.v 1) .none (.some (.op .add (.v 6) (.c (.int 1)))))) (cond := .none) (own := [8])
      Hap.d (fun _ => true) (fun y => .int (x.t - y.t)) (r.take (k + 1)) (by
        have e1 : slD h (rowD r) none (some ((k : Int) + 1)) = some (.lst ((r.map Hap.d).take (k + 1))) := sl_take h (r.map Hap.d) k (by simpa using hk)
        simp (disch := first | assumption | omega | (simp only [List.length_cons, List.length_nil]; omega)) only [x_c, x_g, x_v0, x_v1, x_v2, x_v3, x_v4, x_v5, x_v6, x_v7, x_v8, x_v9, x_v10, x_v11, x_v12, x_v13, x_v14, x_v15, x_tup, x_lst, x_op, x_neg, x_not, x_and, x_or, x_ite, x_cmp, x_chain, x_ix, x_sl, x_rev, x_call, x_meth, x_new, x_fld, x_isi, x_bi, x_listof, x_bm, x_nil, x_cons, x_eno, x_eso, x_ival, x_irange, x_irev, x_fcall, x_flst, x_flistof, x_asg, x_asgB, x_ex, x_ret, x_retF, x_site, x_raise, x_cont, x_pass, x_par, x_snil, x_scons, x_tnm, x_ttup, x_tsub, x_tfld, x_cono, x_con0, y_thenT, y_thenF, y_then, y_elseT, y_elseF, y_else, y_ifT, y_ifF, y_if, y_not, y_neg, y_opt, y_chT, y_chF, y_ch, y_seq, y_seqR, y_seqN, y_seqC, y_len0, y_len1, y_len2, y_len3, y_len4, y_len5, y_len6, y_fldQ, y_fldS, y_methQ, y_methS, y_setQ, y_setS, y_new, y_non, y_rvN, y_dV, y_dN, y_bindi, y_bindE, y_map, f_nx, f_rt, f_rn, f_ex, l_w0, l_ws, v_bind, v_some, v_add, v_sub, v_lt, v_le, v_gt, v_ge, v_eqI, v_eqS, v_neN, v_isN, v_isNN, v_ixL, v_ixT, v_lenS, v_lenL, v_lenT, List.getElem?_cons_zero, List.getElem?_cons_succ, List.set_cons_zero, List.set_cons_succ, List.length_cons, List.length_nil, Nat.reduceAdd, Option.map_some, if_true, f_if, Option.bind_some, Bool.true_or, Bool.or_true, Bool.false_or, Bool.or_false, Bool.true_and, Bool.and_true, Bool.false_and, Bool.and_false, Bool.not_true, Bool.not_false, Bool.false_eq_true, if_false, wq_0_0, wq_0_1, wq_0_2, wq_0_3, wq_0_4, wq_0_5, wq_0_6, wq_0_7, wq_0_8, wq_1_0, wq_1_1, wq_1_2, wq_1_3, wq_1_4, wq_1_5, wq_1_6, wq_1_7, wq_1_8, wq_2_0, wq_2_1, wq_2_2, wq_2_3, wq_2_4, wq_2_5, wq_2_6, wq_2_7, wq_2_8, wq_3_0, wq_3_1, wq_3_2, wq_3_3, wq_3_4, wq_3_5, wq_3_6, wq_3_7, wq_3_8, wq_4_0, wq_4_1, wq_4_2, wq_4_3, wq_4_4, wq_4_5, wq_4_6, wq_4_7, wq_4_8, wq_5_0, wq_5_1, wq_5_2, wq_5_3, wq_5_4, wq_5_5, wq_5_6, wq_5_7, wq_5_8, wq_6_0, wq_6_1, wq_6_2, wq_6_3, wq_6_4, wq_6_5, wq_6_6, wq_6_7, wq_6_8, wq_7_0, wq_7_1, wq_7_2, wq_7_3, wq_7_4, wq_7_5, wq_7_6, wq_7_7, wq_7_8, wq_8_0, wq_8_1, wq_8_2, wq_8_3, wq_8_4, wq_8_5, wq_8_6, wq_8_7, wq_8_8, e1, l_vL, List.map_take]) (le_LINE (by simp; omega)) (by
        intro y hy
        refine ⟨_, rfl, rfl, fun _ => ?_⟩
        simp (disch := first | assumption | omega | (simp only [List.length_cons, List.length_nil]; omega)) only [x_c, x_g, x_v0, x_v1, x_v2, x_v3, x_v4, x_v5, x_v6, x_v7, x_v8, x_v9, x_v10, x_v11, x_v12, x_v13, x_v14, x_v15, x_tup, x_lst, x_op, x_neg, x_not, x_and, x_or, x_ite, x_cmp, x_chain, x_ix, x_sl, x_rev, x_call, x_meth, x_new, x_fld, x_isi, x_bi, x_listof, x_bm, x_nil, x_cons, x_eno, x_eso, x_ival, x_irange, x_irev, x_fcall, x_flst, x_flistof, x_asg, x_asgB, x_ex, x_ret, x_retF, x_site, x_raise, x_cont, x_pass, x_par, x_snil, x_scons, x_tnm, x_ttup, x_tsub, x_tfld, x_cono, x_con0, y_thenT, y_thenF, y_then, y_elseT, y_elseF, y_else, y_ifT, y_ifF, y_if, y_not, y_neg, y_opt, y_chT, y_chF, y_ch, y_seq, y_seqR, y_seqN, y_seqC, y_len0, y_len1, y_len2, y_len3, y_len4, y_len5, y_len6, y_fldQ, y_fldS, y_methQ, y_methS, y_setQ, y_setS, y_new, y_non, y_rvN, y_dV, y_dN, y_bindi, y_bindE, y_map, f_nx, f_rt, f_rn, f_ex, l_w0, l_ws, v_bind, v_some, v_add, v_sub, v_lt, v_le, v_gt, v_ge, v_eqI, v_eqS, v_neN, v_isN, v_isNN, v_ixL, v_ixT, v_lenS, v_lenL, v_lenT, List.getElem?_cons_zero, List.getElem?_cons_succ, List.set_cons_zero, List.set_cons_succ, List.length_cons, List.length_nil, Nat.reduceAdd, Option.map_some, if_true, f_if, Option.bind_some, Bool.true_or, Bool.or_true, Bool.false_or, Bool.or_false, Bool.true_and, Bool.and_true, Bool.false_and, Bool.and_false, Bool.not_true, Bool.not_false, Bool.false_eq_true, if_false, wq_0_0, wq_0_1, wq_0_2, wq_0_3, wq_0_4, wq_0_5, wq_0_6, wq_0_7, wq_0_8, wq_1_0, wq_1_1, wq_1_2, wq_1_3, wq_1_4, wq_1_5, wq_1_6, wq_1_7, wq_1_8, wq_2_0, wq_2_1, wq_2_2, wq_2_3, wq_2_4, wq_2_5, wq_2_6, wq_2_7, wq_2_8, wq_3_0, wq_3_1, wq_3_2, wq_3_3, wq_3_4, wq_3_5, wq_3_6, wq_3_7, wq_3_8, wq_4_0, wq_4_1, wq_4_2, wq_4_3, wq_4_4, wq_4_5, wq_4_6, wq_4_7, wq_4_8, wq_5_0, wq_5_1, wq_5_2, wq_5_3, wq_5_4, wq_5_5, wq_5_6, wq_5_7, wq_5_8, wq_6_0, wq_6_1, wq_6_2, wq_6_3, wq_6_4, wq_6_5, wq_6_6, wq_6_7, wq_6_8, wq_7_0, wq_7_1, wq_7_2, wq_7_3, wq_7_4, wq_7_5, wq_7_6, wq_7_7, wq_7_8, wq_8_0, wq_8_1, wq_8_2, wq_8_3, wq_8_4, wq_8_5, wq_8_6, wq_8_7, wq_8_8, ex2, hap0])
    rw [filter_true, gaps_eq r k hk x ex] at this
    exact this
  have egaps := egaps []
  have gat : ∀ j, j < k + 1 → ixL ((List.range (k + 1)).map fun j => D.int (ago r j k)) (.int j) = some (.int (ago r j k)) := fun j hj => at_map (fun j => D.int (ago r j k)) _ j j (by simp [hj])
  have ah := fun p => at_hold r p k hk
  have i0 : ∀ p, ixL ([p].map (bD r)) (.int 0) = some (bD r p) := fun _ => rfl
  have j0 : ∀ p q, ixL ([p, q].map (bD r)) (.int 0) = some (bD r p) := fun _ _ => rfl
  have j1 : ∀ p q, ixL ([p, q].map (bD r)) (.int 1) = some (bD r q) := fun _ _ => rfl
  have im : ∀ p, ixL ([p].map (bD r)) (.int (-1)) = some (bD r p) := fun _ => rfl
  have jm : ∀ p q, ixL ([p, q].map (bD r)) (.int (-1)) = some (bD r q) := fun _ _ => rfl
  -- what is near, of many and asmany
  have enear : ∀ (b : Int) (y9 : Option D), ixD cfg.gds h f.d (.int 3) = some (.int b) → evE cfg (run cfg tbl n) (.lc (.v 10) (.nm 10) (.range (.cons (.op .add (.v 6) (.c (.int 1))) .nil)) (.some (.cmp .le (.ix (.v 7) (.v 10)) (.ix (.v 0) (.c (.int 3))))) [10])
      [some f.d, some (rowD r), some (.str f.word), some (.lst (f.kids.map (bD r))), x4, some (.ref hh), some (.int k), some (.lst ((List.range (k + 1)).map fun j => D.int (ago r j k))), x8, x9, x10, x11, x12, x13, x14] h =
      .ok (.lst (((List.range (k + 1)).filter fun j => decide (ago r j k ≤ b)).map fun j : Nat => .int j)) h := by
    intro b _ e3
    refine e_lc (fun j : Nat => .int j) _ (fun j : Nat => .int j) (List.range (k + 1)) ?_ (rng_le _ (by omega)) ?_
    · have hk1 : ((k : Int) + 1).toNat = k + 1 := by omega
      simp (disch := first | assumption | omega | (simp only [List.length_cons, List.length_nil]; omega)) only [x_c, x_g, x_v0, x_v1, x_v2, x_v3, x_v4, x_v5, x_v6, x_v7, x_v8, x_v9, x_v10, x_v11, x_v12, x_v13, x_v14, x_v15, x_tup, x_lst, x_op, x_neg, x_not, x_and, x_or, x_ite, x_cmp, x_chain, x_ix, x_sl, x_rev, x_call, x_meth, x_new, x_fld, x_isi, x_bi, x_listof, x_bm, x_nil, x_cons, x_eno, x_eso, x_ival, x_irange, x_irev, x_fcall, x_flst, x_flistof, x_asg, x_asgB, x_ex, x_ret, x_retF, x_site, x_raise, x_cont, x_pass, x_par, x_snil, x_scons, x_tnm, x_ttup, x_tsub, x_tfld, x_cono, x_con0, y_thenT, y_thenF, y_then, y_elseT, y_elseF, y_else, y_ifT, y_ifF, y_if, y_not, y_neg, y_opt, y_chT, y_chF, y_ch, y_seq, y_seqR, y_seqN, y_seqC, y_len0, y_len1, y_len2, y_len3, y_len4, y_len5, y_len6, y_fldQ, y_fldS, y_methQ, y_methS, y_setQ, y_setS, y_new, y_non, y_rvN, y_dV, y_dN, y_bindi, y_bindE, y_map, f_nx, f_rt, f_rn, f_ex, l_w0, l_ws, v_bind, v_some, v_add, v_sub, v_lt, v_le, v_gt, v_ge, v_eqI, v_eqS, v_neN, v_isN, v_isNN, v_ixL, v_ixT, v_lenS, v_lenL, v_lenT, List.getElem?_cons_zero, List.getElem?_cons_succ, List.set_cons_zero, List.set_cons_succ, List.length_cons, List.length_nil, Nat.reduceAdd, Option.map_some, if_true, f_if, Option.bind_some, Bool.true_or, Bool.or_true, Bool.false_or, Bool.or_false, Bool.true_and, Bool.and_true, Bool.false_and, Bool.and_false, Bool.not_true, Bool.not_false, Bool.false_eq_true, if_false, wq_0_0, wq_0_1, wq_0_2, wq_0_3, wq_0_4, wq_0_5, wq_0_6, wq_0_7, wq_0_8, wq_1_0, wq_1_1, wq_1_2, wq_1_3, wq_1_4, wq_1_5, wq_1_6, wq_1_7, wq_1_8, wq_2_0, wq_2_1, wq_2_2, wq_2_3, wq_2_4, wq_2_5, wq_2_6, wq_2_7, wq_2_8, wq_3_0, wq_3_1, wq_3_2, wq_3_3, wq_3_4, wq_3_5, wq_3_6, wq_3_7, wq_3_8, wq_4_0, wq_4_1, wq_4_2, wq_4_3, wq_4_4, wq_4_5, wq_4_6, wq_4_7, wq_4_8, wq_5_0, wq_5_1, wq_5_2, wq_5_3, wq_5_4, wq_5_5, wq_5_6, wq_5_7, wq_5_8, wq_6_0, wq_6_1, wq_6_2, wq_6_3, wq_6_4, wq_6_5, wq_6_6, wq_6_7, wq_6_8, wq_7_0, wq_7_1, wq_7_2, wq_7_3, wq_7_4, wq_7_5, wq_7_6, wq_7_7, wq_7_8, wq_8_0, wq_8_1, wq_8_2, wq_8_3, wq_8_4, wq_8_5, wq_8_6, wq_8_7, wq_8_8, range_eq ((k : Int) + 1) (by omega) (by omega), hk1]
    · intro j hj
      have hj : j < k + 1 := by simpa using hj
      refine ⟨_, rfl, ?_, fun _ => by simp (disch := first | assumption | omega | (simp only [List.length_cons, List.length_nil]; omega)) only [x_c, x_g, x_v0, x_v1, x_v2, x_v3, x_v4, x_v5, x_v6, x_v7, x_v8, x_v9, x_v10, x_v11, x_v12, x_v13, x_v14, x_v15, x_tup, x_lst, x_op, x_neg, x_not, x_and, x_or, x_ite, x_cmp, x_chain, x_ix, x_sl, x_rev, x_call, x_meth, x_new, x_fld, x_isi, x_bi, x_listof, x_bm, x_nil, x_cons, x_eno, x_eso, x_ival, x_irange, x_irev, x_fcall, x_flst, x_flistof, x_asg, x_asgB, x_ex, x_ret, x_retF, x_site, x_raise, x_cont, x_pass, x_par, x_snil, x_scons, x_tnm, x_ttup, x_tsub, x_tfld, x_cono, x_con0, y_thenT, y_thenF, y_then, y_elseT, y_elseF, y_else, y_ifT, y_ifF, y_if, y_not, y_neg, y_opt, y_chT, y_chF, y_ch, y_seq, y_seqR, y_seqN, y_seqC, y_len0, y_len1, y_len2, y_len3, y_len4, y_len5, y_len6, y_fldQ, y_fldS, y_methQ, y_methS, y_setQ, y_setS, y_new, y_non, y_rvN, y_dV, y_dN, y_bindi, y_bindE, y_map, f_nx, f_rt, f_rn, f_ex, l_w0, l_ws, v_bind, v_some, v_add, v_sub, v_lt, v_le, v_gt, v_ge, v_eqI, v_eqS, v_neN, v_isN, v_isNN, v_ixL, v_ixT, v_lenS, v_lenL, v_lenT, List.getElem?_cons_zero, List.getElem?_cons_succ, List.set_cons_zero, List.set_cons_succ, List.length_cons, List.length_nil, Nat.reduceAdd, Option.map_some, if_true, f_if, Option.bind_some, Bool.true_or, Bool.or_true, Bool.false_or, Bool.or_false, Bool.true_and, Bool.and_true, Bool.false_and, Bool.and_false, Bool.not_true, Bool.not_false, Bool.false_eq_true, if_false, wq_0_0, wq_0_1, wq_0_2, wq_0_3, wq_0_4, wq_0_5, wq_0_6, wq_0_7, wq_0_8, wq_1_0, wq_1_1, wq_1_2, wq_1_3, wq_1_4, wq_1_5, wq_1_6, wq_1_7, wq_1_8, wq_2_0, wq_2_1, wq_2_2, wq_2_3, wq_2_4, wq_2_5, wq_2_6, wq_2_7, wq_2_8, wq_3_0, wq_3_1, wq_3_2, wq_3_3, wq_3_4, wq_3_5, wq_3_6, wq_3_7, wq_3_8, wq_4_0, wq_4_1, wq_4_2, wq_4_3, wq_4_4, wq_4_5, wq_4_6, wq_4_7, wq_4_8, wq_5_0, wq_5_1, wq_5_2, wq_5_3, wq_5_4, wq_5_5, wq_5_6, wq_5_7, wq_5_8, wq_6_0, wq_6_1, wq_6_2, wq_6_3, wq_6_4, wq_6_5, wq_6_6, wq_6_7, wq_6_8, wq_7_0, wq_7_1, wq_7_2, wq_7_3, wq_7_4, wq_7_5, wq_7_6, wq_7_7, wq_7_8, wq_8_0, wq_8_1, wq_8_2, wq_8_3, wq_8_4, wq_8_5, wq_8_6, wq_8_7, wq_8_8]⟩
      simp (disch := first | assumption | omega | (simp only [List.length_cons, List.length_nil]; omega)) only [x_c, x_g, x_v0, x_v1, x_v2, x_v3, x_v4, x_v5, x_v6, x_v7, x_v8, x_v9, x_v10, x_v11, x_v12, x_v13, x_v14, x_v15, x_tup, x_lst, x_op, x_neg, x_not, x_and, x_or, x_ite, x_cmp, x_chain, x_ix, x_sl, x_rev, x_call, x_meth, x_new, x_fld, x_isi, x_bi, x_listof, x_bm, x_nil, x_cons, x_eno, x_eso, x_ival, x_irange, x_irev, x_fcall, x_flst, x_flistof, x_asg, x_asgB, x_ex, x_ret, x_retF, x_site, x_raise, x_cont, x_pass, x_par, x_snil, x_scons, x_tnm, x_ttup, x_tsub, x_tfld, x_cono, x_con0, y_thenT, y_thenF, y_then, y_elseT, y_elseF, y_else, y_ifT, y_ifF, y_if, y_not, y_neg, y_opt, y_chT, y_chF, y_ch, y_seq, y_seqR, y_seqN, y_seqC, y_len0, y_len1, y_len2, y_len3, y_len4, y_len5, y_len6, y_fldQ, y_fldS, y_methQ, y_methS, y_setQ, y_setS, y_new, y_non, y_rvN, y_dV, y_dN, y_bindi, y_bindE, y_map, f_nx, f_rt, f_rn, f_ex, l_w0, l_ws, v_bind, v_some, v_add, v_sub, v_lt, v_le, v_gt, v_ge, v_eqI, v_eqS, v_neN, v_isN, v_isNN, v_ixL, v_ixT, v_lenS, v_lenL, v_lenT, List.getElem?_cons_zero, List.getElem?_cons_succ, List.set_cons_zero, List.set_cons_succ, List.length_cons, List.length_nil, Nat.reduceAdd, Option.map_some, if_true, f_if, Option.bind_some, Bool.true_or, Bool.or_true, Bool.false_or, Bool.or_false, Bool.true_and, Bool.and_true, Bool.false_and, Bool.and_false, Bool.not_true, Bool.not_false, Bool.false_eq_true, if_false, wq_0_0, wq_0_1, wq_0_2, wq_0_3, wq_0_4, wq_0_5, wq_0_6, wq_0_7, wq_0_8, wq_1_0, wq_1_1, wq_1_2, wq_1_3, wq_1_4, wq_1_5, wq_1_6, wq_1_7, wq_1_8, wq_2_0, wq_2_1, wq_2_2, wq_2_3, wq_2_4, wq_2_5, wq_2_6, wq_2_7, wq_2_8, wq_3_0, wq_3_1, wq_3_2, wq_3_3, wq_3_4, wq_3_5, wq_3_6, wq_3_7, wq_3_8, wq_4_0, wq_4_1, wq_4_2, wq_4_3, wq_4_4, wq_4_5, wq_4_6, wq_4_7, wq_4_8, wq_5_0, wq_5_1, wq_5_2, wq_5_3, wq_5_4, wq_5_5, wq_5_6, wq_5_7, wq_5_8, wq_6_0, wq_6_1, wq_6_2, wq_6_3, wq_6_4, wq_6_5, wq_6_6, wq_6_7, wq_6_8, wq_7_0, wq_7_1, wq_7_2, wq_7_3, wq_7_4, wq_7_5, wq_7_6, wq_7_7, wq_7_8, wq_8_0, wq_8_1, wq_8_2, wq_8_3, wq_8_4, wq_8_5, wq_8_6, wq_8_7, wq_8_8, gat j hj, e3]
  have ecnt : ∀ (b : Int) (p : F) (w : Nat), f.kids[w]? = some p → ∀ (ps : List F), ps = f.kids → evE cfg (run cfg tbl n) (.lc (.v 10) (.nm 10) (.val (.v 9)) (.some (.ix (.ix (.v 3) (.v 12)) (.v 10))) [10])
      [some f.d, some (rowD r), some (.str f.word), some (.lst (ps.map (bD r))), x4, some (.ref hh), some (.int k), some (.lst ((List.range (k + 1)).map fun j => D.int (ago r j k))), x8, some (.lst (((List.range (k + 1)).filter fun j => decide (ago r j k ≤ b)).map fun j : Nat => .int j)), x10, x11, some (.int w), x13, x14] h =
      .ok (.lst (((List.range (k + 1)).filter fun j => hold r p j && decide (ago r j k ≤ b)).map fun j : Nat => .int j)) h := by
    intro b p w hw ps hps
    subst hps
    have iw : ixL (f.kids.map (bD r)) (.int w) = some (bD r p) := at_map (bD r) _ w _ hw
    rw [← List.filter_filter]
    refine e_lc (fun j : Nat => .int j) _ (fun j : Nat => .int j) ((List.range (k + 1)).filter fun j => decide (ago r j k ≤ b)) ?_ (le_LINE (Nat.le_trans (List.length_filter_le _ _) (rng_le _ (by omega)))) ?_
    · simp (disch := first | assumption | omega | (simp only [List.length_cons, List.length_nil]; omega)) only [x_c, x_g, x_v0, x_v1, x_v2, x_v3, x_v4, x_v5, x_v6, x_v7, x_v8, x_v9, x_v10, x_v11, x_v12, x_v13, x_v14, x_v15, x_tup, x_lst, x_op, x_neg, x_not, x_and, x_or, x_ite, x_cmp, x_chain, x_ix, x_sl, x_rev, x_call, x_meth, x_new, x_fld, x_isi, x_bi, x_listof, x_bm, x_nil, x_cons, x_eno, x_eso, x_ival, x_irange, x_irev, x_fcall, x_flst, x_flistof, x_asg, x_asgB, x_ex, x_ret, x_retF, x_site, x_raise, x_cont, x_pass, x_par, x_snil, x_scons, x_tnm, x_ttup, x_tsub, x_tfld, x_cono, x_con0, y_thenT, y_thenF, y_then, y_elseT, y_elseF, y_else, y_ifT, y_ifF, y_if, y_not, y_neg, y_opt, y_chT, y_chF, y_ch, y_seq, y_seqR, y_seqN, y_seqC, y_len0, y_len1, y_len2, y_len3, y_len4, y_len5, y_len6, y_fldQ, y_fldS, y_methQ, y_methS, y_setQ, y_setS, y_new, y_non, y_rvN, y_dV, y_dN, y_bindi, y_bindE, y_map, f_nx, f_rt, f_rn, f_ex, l_w0, l_ws, v_bind, v_some, v_add, v_sub, v_lt, v_le, v_gt, v_ge, v_eqI, v_eqS, v_neN, v_isN, v_isNN, v_ixL, v_ixT, v_lenS, v_lenL, v_lenT, List.getElem?_cons_zero, List.getElem?_cons_succ, List.set_cons_zero, List.set_cons_succ, List.length_cons, List.length_nil, Nat.reduceAdd, Option.map_some, if_true, f_if, Option.bind_some, Bool.true_or, Bool.or_true, Bool.false_or, Bool.or_false, Bool.true_and, Bool.and_true, Bool.false_and, Bool.and_false, Bool.not_true, Bool.not_false, Bool.false_eq_true, if_false, wq_0_0, wq_0_1, wq_0_2, wq_0_3, wq_0_4, wq_0_5, wq_0_6, wq_0_7, wq_0_8, wq_1_0, wq_1_1, wq_1_2, wq_1_3, wq_1_4, wq_1_5, wq_1_6, wq_1_7, wq_1_8, wq_2_0, wq_2_1, wq_2_2, wq_2_3, wq_2_4, wq_2_5, wq_2_6, wq_2_7, wq_2_8, wq_3_0, wq_3_1, wq_3_2, wq_3_3, wq_3_4, wq_3_5, wq_3_6, wq_3_7, wq_3_8, wq_4_0, wq_4_1, wq_4_2, wq_4_3, wq_4_4, wq_4_5, wq_4_6, wq_4_7, wq_4_8, wq_5_0, wq_5_1, wq_5_2, wq_5_3, wq_5_4, wq_5_5, wq_5_6, wq_5_7, wq_5_8, wq_6_0, wq_6_1, wq_6_2, wq_6_3, wq_6_4, wq_6_5, wq_6_6, wq_6_7, wq_6_8, wq_7_0, wq_7_1, wq_7_2, wq_7_3, wq_7_4, wq_7_5, wq_7_6, wq_7_7, wq_7_8, wq_8_0, wq_8_1, wq_8_2, wq_8_3, wq_8_4, wq_8_5, wq_8_6, wq_8_7, wq_8_8, l_vL]
    · intro j hj
      have hj : j < k + 1 := by simpa using (List.mem_filter.mp hj).1
      refine ⟨_, rfl, ?_, fun _ => by simp (disch := first | assumption | omega | (simp only [List.length_cons, List.length_nil]; omega)) only [x_c, x_g, x_v0, x_v1, x_v2, x_v3, x_v4, x_v5, x_v6, x_v7, x_v8, x_v9, x_v10, x_v11, x_v12, x_v13, x_v14, x_v15, x_tup, x_lst, x_op, x_neg, x_not, x_and, x_or, x_ite, x_cmp, x_chain, x_ix, x_sl, x_rev, x_call, x_meth, x_new, x_fld, x_isi, x_bi, x_listof, x_bm, x_nil, x_cons, x_eno, x_eso, x_ival, x_irange, x_irev, x_fcall, x_flst, x_flistof, x_asg, x_asgB, x_ex, x_ret, x_retF, x_site, x_raise, x_cont, x_pass, x_par, x_snil, x_scons, x_tnm, x_ttup, x_tsub, x_tfld, x_cono, x_con0, y_thenT, y_thenF, y_then, y_elseT, y_elseF, y_else, y_ifT, y_ifF, y_if, y_not, y_neg, y_opt, y_chT, y_chF, y_ch, y_seq, y_seqR, y_seqN, y_seqC, y_len0, y_len1, y_len2, y_len3, y_len4, y_len5, y_len6, y_fldQ, y_fldS, y_methQ, y_methS, y_setQ, y_setS, y_new, y_non, y_rvN, y_dV, y_dN, y_bindi, y_bindE, y_map, f_nx, f_rt, f_rn, f_ex, l_w0, l_ws, v_bind, v_some, v_add, v_sub, v_lt, v_le, v_gt, v_ge, v_eqI, v_eqS, v_neN, v_isN, v_isNN, v_ixL, v_ixT, v_lenS, v_lenL, v_lenT, List.getElem?_cons_zero, List.getElem?_cons_succ, List.set_cons_zero, List.set_cons_succ, List.length_cons, List.length_nil, Nat.reduceAdd, Option.map_some, if_true, f_if, Option.bind_some, Bool.true_or, Bool.or_true, Bool.false_or, Bool.or_false, Bool.true_and, Bool.and_true, Bool.false_and, Bool.and_false, Bool.not_true, Bool.not_false, Bool.false_eq_true, if_false, wq_0_0, wq_0_1, wq_0_2, wq_0_3, wq_0_4, wq_0_5, wq_0_6, wq_0_7, wq_0_8, wq_1_0, wq_1_1, wq_1_2, wq_1_3, wq_1_4, wq_1_5, wq_1_6, wq_1_7, wq_1_8, wq_2_0, wq_2_1, wq_2_2, wq_2_3, wq_2_4, wq_2_5, wq_2_6, wq_2_7, wq_2_8, wq_3_0, wq_3_1, wq_3_2, wq_3_3, wq_3_4, wq_3_5, wq_3_6, wq_3_7, wq_3_8, wq_4_0, wq_4_1, wq_4_2, wq_4_3, wq_4_4, wq_4_5, wq_4_6, wq_4_7, wq_4_8, wq_5_0, wq_5_1, wq_5_2, wq_5_3, wq_5_4, wq_5_5, wq_5_6, wq_5_7, wq_5_8, wq_6_0, wq_6_1, wq_6_2, wq_6_3, wq_6_4, wq_6_5, wq_6_6, wq_6_7, wq_6_8, wq_7_0, wq_7_1, wq_7_2, wq_7_3, wq_7_4, wq_7_5, wq_7_6, wq_7_7, wq_7_8, wq_8_0, wq_8_1, wq_8_2, wq_8_3, wq_8_4, wq_8_5, wq_8_6, wq_8_7, wq_8_8]⟩
      simp (disch := first | assumption | omega | (simp only [List.length_cons, List.length_nil]; omega)) only [x_c, x_g, x_v0, x_v1, x_v2, x_v3, x_v4, x_v5, x_v6, x_v7, x_v8, x_v9, x_v10, x_v11, x_v12, x_v13, x_v14, x_v15, x_tup, x_lst, x_op, x_neg, x_not, x_and, x_or, x_ite, x_cmp, x_chain, x_ix, x_sl, x_rev, x_call, x_meth, x_new, x_fld, x_isi, x_bi, x_listof, x_bm, x_nil, x_cons, x_eno, x_eso, x_ival, x_irange, x_irev, x_fcall, x_flst, x_flistof, x_asg, x_asgB, x_ex, x_ret, x_retF, x_site, x_raise, x_cont, x_pass, x_par, x_snil, x_scons, x_tnm, x_ttup, x_tsub, x_tfld, x_cono, x_con0, y_thenT, y_thenF, y_then, y_elseT, y_elseF, y_else, y_ifT, y_ifF, y_if, y_not, y_neg, y_opt, y_chT, y_chF, y_ch, y_seq, y_seqR, y_seqN, y_seqC, y_len0, y_len1, y_len2, y_len3, y_len4, y_len5, y_len6, y_fldQ, y_fldS, y_methQ, y_methS, y_setQ, y_setS, y_new, y_non, y_rvN, y_dV, y_dN, y_bindi, y_bindE, y_map, f_nx, f_rt, f_rn, f_ex, l_w0, l_ws, v_bind, v_some, v_add, v_sub, v_lt, v_le, v_gt, v_ge, v_eqI, v_eqS, v_neN, v_isN, v_isNN, v_ixL, v_ixT, v_lenS, v_lenL, v_lenT, List.getElem?_cons_zero, List.getElem?_cons_succ, List.set_cons_zero, List.set_cons_succ, List.length_cons, List.length_nil, Nat.reduceAdd, Option.map_some, if_true, f_if, Option.bind_some, Bool.true_or, Bool.or_true, Bool.false_or, Bool.or_false, Bool.true_and, Bool.and_true, Bool.false_and, Bool.and_false, Bool.not_true, Bool.not_false, Bool.false_eq_true, if_false, wq_0_0, wq_0_1, wq_0_2, wq_0_3, wq_0_4, wq_0_5, wq_0_6, wq_0_7, wq_0_8, wq_1_0, wq_1_1, wq_1_2, wq_1_3, wq_1_4, wq_1_5, wq_1_6, wq_1_7, wq_1_8, wq_2_0, wq_2_1, wq_2_2, wq_2_3, wq_2_4, wq_2_5, wq_2_6, wq_2_7, wq_2_8, wq_3_0, wq_3_1, wq_3_2, wq_3_3, wq_3_4, wq_3_5, wq_3_6, wq_3_7, wq_3_8, wq_4_0, wq_4_1, wq_4_2, wq_4_3, wq_4_4, wq_4_5, wq_4_6, wq_4_7, wq_4_8, wq_5_0, wq_5_1, wq_5_2, wq_5_3, wq_5_4, wq_5_5, wq_5_6, wq_5_7, wq_5_8, wq_6_0, wq_6_1, wq_6_2, wq_6_3, wq_6_4, wq_6_5, wq_6_6, wq_6_7, wq_6_8, wq_7_0, wq_7_1, wq_7_2, wq_7_3, wq_7_4, wq_7_5, wq_7_6, wq_7_7, wq_7_8, wq_8_0, wq_8_1, wq_8_2, wq_8_3, wq_8_4, wq_8_5, wq_8_6, wq_8_7, wq_8_8, iw, bD, at_hold r p j (by omega)]
  have ecs : ∀ (b : Int), evE cfg (run cfg tbl n) (.lc (.bi .len (.cons (.lc (.v 10) (.nm 10) (.val (.v 9)) (.some (.ix (.ix (.v 3) (.v 12)) (.v 10))) [10]) .nil)) (.nm 12) (.range (.cons (.bi .len (.cons (.v 3) .nil)) .nil)) .none [12])
      [some f.d, some (rowD r), some (.str f.word), some (.lst (f.kids.map (bD r))), x4, some (.ref hh), some (.int k), some (.lst ((List.range (k + 1)).map fun j => D.int (ago r j k))), x8, some (.lst (((List.range (k + 1)).filter fun j => decide (ago r j k ≤ b)).map fun j : Nat => .int j)), x10, x11, x12, x13, x14] h =
      .ok (.lst (f.kids.map fun p => .int (((List.range (k + 1)).filter fun j => hold r p j && decide (ago r j k ≤ b)).length : Int))) h := by
    intro b
    have hkl := kids_len f
    have := e_lc (C := cfg) (call := run cfg tbl n) (h := h) (ρ := [some f.d, some (rowD r), some (.str f.word), some (.lst (f.kids.map (bD r))), x4, some (.ref hh), some (.int k), some (.lst ((List.range (k + 1)).map fun j => D.int (ago r j k))), x8, some (.lst (((List.range (k + 1)).filter fun j => decide (ago r j k ≤ b)).map fun j : Nat => .int j)), x10, x11, x12, x13, x14])
      (elt := .bi .len (.cons (.lc (.v 10) (.nm 10) (.val (.v 9)) (.some (.ix (.ix (.v 3) (.v 12)) (.v 10))) [10]) .nil)) (t := .nm 12) (it := .range (.cons (.bi .len (.cons (.v 3) .nil)) .nil)) (cond := .none) (own := [12])
      (fun j : Nat => .int j) (fun _ => true) (fun i => .int (((List.range (k + 1)).filter fun j => hold r (f.kids[i]?.getD default) j && decide (ago r j k ≤ b)).length : Int)) (List.range f.kids.length) (by
        simp (disch := first | assumption | omega | (simp only [List.length_cons, List.length_nil]; omega)) only [x_c, x_g, x_v0, x_v1, x_v2, x_v3, x_v4, x_v5, x_v6, x_v7, x_v8, x_v9, x_v10, x_v11, x_v12, x_v13, x_v14, x_v15, x_tup, x_lst, x_op, x_neg, x_not, x_and, x_or, x_ite, x_cmp, x_chain, x_ix, x_sl, x_rev, x_call, x_meth, x_new, x_fld, x_isi, x_bi, x_listof, x_bm, x_nil, x_cons, x_eno, x_eso, x_ival, x_irange, x_irev, x_fcall, x_flst, x_flistof, x_asg, x_asgB, x_ex, x_ret, x_retF, x_site, x_raise, x_cont, x_pass, x_par, x_snil, x_scons, x_tnm, x_ttup, x_tsub, x_tfld, x_cono, x_con0, y_thenT, y_thenF, y_then, y_elseT, y_elseF, y_else, y_ifT, y_ifF, y_if, y_not, y_neg, y_opt, y_chT, y_chF, y_ch, y_seq, y_seqR, y_seqN, y_seqC, y_len0, y_len1, y_len2, y_len3, y_len4, y_len5, y_len6, y_fldQ, y_fldS, y_methQ, y_methS, y_setQ, y_setS, y_new, y_non, y_rvN, y_dV, y_dN, y_bindi, y_bindE, y_map, f_nx, f_rt, f_rn, f_ex, l_w0, l_ws, v_bind, v_some, v_add, v_sub, v_lt, v_le, v_gt, v_ge, v_eqI, v_eqS, v_neN, v_isN, v_isNN, v_ixL, v_ixT, v_lenS, v_lenL, v_lenT, List.getElem?_cons_zero, List.getElem?_cons_succ, List.set_cons_zero, List.set_cons_succ, List.length_cons, List.length_nil, Nat.reduceAdd, Option.map_some, if_true, f_if, Option.bind_some, Bool.true_or, Bool.or_true, Bool.false_or, Bool.or_false, Bool.true_and, Bool.and_true, Bool.false_and, Bool.and_false, Bool.not_true, Bool.not_false, Bool.false_eq_true, if_false, wq_0_0, wq_0_1, wq_0_2, wq_0_3, wq_0_4, wq_0_5, wq_0_6, wq_0_7, wq_0_8, wq_1_0, wq_1_1, wq_1_2, wq_1_3, wq_1_4, wq_1_5, wq_1_6, wq_1_7, wq_1_8, wq_2_0, wq_2_1, wq_2_2, wq_2_3, wq_2_4, wq_2_5, wq_2_6, wq_2_7, wq_2_8, wq_3_0, wq_3_1, wq_3_2, wq_3_3, wq_3_4, wq_3_5, wq_3_6, wq_3_7, wq_3_8, wq_4_0, wq_4_1, wq_4_2, wq_4_3, wq_4_4, wq_4_5, wq_4_6, wq_4_7, wq_4_8, wq_5_0, wq_5_1, wq_5_2, wq_5_3, wq_5_4, wq_5_5, wq_5_6, wq_5_7, wq_5_8, wq_6_0, wq_6_1, wq_6_2, wq_6_3, wq_6_4, wq_6_5, wq_6_6, wq_6_7, wq_6_8, wq_7_0, wq_7_1, wq_7_2, wq_7_3, wq_7_4, wq_7_5, wq_7_6, wq_7_7, wq_7_8, wq_8_0, wq_8_1, wq_8_2, wq_8_3, wq_8_4, wq_8_5, wq_8_6, wq_8_7, wq_8_8, List.length_map, range_nat f.kids.length (by omega)]) (rng_le _ (by omega)) (by
        intro i hi
        have hi : i < f.kids.length := by simpa using hi
        refine ⟨_, rfl, rfl, fun _ => ?_⟩
        have ec := ecnt b f.kids[i] i (List.getElem?_eq_getElem hi) f.kids rfl
        simp (disch := first | assumption | omega | (simp only [List.length_cons, List.length_nil]; omega)) only [x_c, x_g, x_v0, x_v1, x_v2, x_v3, x_v4, x_v5, x_v6, x_v7, x_v8, x_v9, x_v10, x_v11, x_v12, x_v13, x_v14, x_v15, x_tup, x_lst, x_op, x_neg, x_not, x_and, x_or, x_ite, x_cmp, x_chain, x_ix, x_sl, x_rev, x_call, x_meth, x_new, x_fld, x_isi, x_bi, x_listof, x_bm, x_nil, x_cons, x_eno, x_eso, x_ival, x_irange, x_irev, x_fcall, x_flst, x_flistof, x_asg, x_asgB, x_ex, x_ret, x_retF, x_site, x_raise, x_cont, x_pass, x_par, x_snil, x_scons, x_tnm, x_ttup, x_tsub, x_tfld, x_cono, x_con0, y_thenT, y_thenF, y_then, y_elseT, y_elseF, y_else, y_ifT, y_ifF, y_if, y_not, y_neg, y_opt, y_chT, y_chF, y_ch, y_seq, y_seqR, y_seqN, y_seqC, y_len0, y_len1, y_len2, y_len3, y_len4, y_len5, y_len6, y_fldQ, y_fldS, y_methQ, y_methS, y_setQ, y_setS, y_new, y_non, y_rvN, y_dV, y_dN, y_bindi, y_bindE, y_map, f_nx, f_rt, f_rn, f_ex, l_w0, l_ws, v_bind, v_some, v_add, v_sub, v_lt, v_le, v_gt, v_ge, v_eqI, v_eqS, v_neN, v_isN, v_isNN, v_ixL, v_ixT, v_lenS, v_lenL, v_lenT, List.getElem?_cons_zero, List.getElem?_cons_succ, List.set_cons_zero, List.set_cons_succ, List.length_cons, List.length_nil, Nat.reduceAdd, Option.map_some, if_true, f_if, Option.bind_some, Bool.true_or, Bool.or_true, Bool.false_or, Bool.or_false, Bool.true_and, Bool.and_true, Bool.false_and, Bool.and_false, Bool.not_true, Bool.not_false, Bool.false_eq_true, if_false, wq_0_0, wq_0_1, wq_0_2, wq_0_3, wq_0_4, wq_0_5, wq_0_6, wq_0_7, wq_0_8, wq_1_0, wq_1_1, wq_1_2, wq_1_3, wq_1_4, wq_1_5, wq_1_6, wq_1_7, wq_1_8, wq_2_0, wq_2_1, wq_2_2, wq_2_3, wq_2_4, wq_2_5, wq_2_6, wq_2_7, wq_2_8, wq_3_0, wq_3_1, wq_3_2, wq_3_3, wq_3_4, wq_3_5, wq_3_6, wq_3_7, wq_3_8, wq_4_0, wq_4_1, wq_4_2, wq_4_3, wq_4_4, wq_4_5, wq_4_6, wq_4_7, wq_4_8, wq_5_0, wq_5_1, wq_5_2, wq_5_3, wq_5_4, wq_5_5, wq_5_6, wq_5_7, wq_5_8, wq_6_0, wq_6_1, wq_6_2, wq_6_3, wq_6_4, wq_6_5, wq_6_6, wq_6_7, wq_6_8, wq_7_0, wq_7_1, wq_7_2, wq_7_3, wq_7_4, wq_7_5, wq_7_6, wq_7_7, wq_7_8, wq_8_0, wq_8_1, wq_8_2, wq_8_3, wq_8_4, wq_8_5, wq_8_6, wq_8_7, wq_8_8, ec, List.length_map]
        rw [List.getElem?_eq_getElem hi]; rfl)
    rw [filter_true, range_map_get (fun p => D.int (((List.range (k + 1)).filter fun j => hold r p j && decide (ago r j k ≤ b)).length : Int))] at this
    exact this
  have k0 : ∀ (a : D) (xs : List D), ixL (a :: xs) (.int 0) = some a := fun a xs => v_at _ 0 _ rfl
  have k1 : ∀ (a b : D) (xs : List D), ixL (a :: b :: xs) (.int 1) = some b := fun a b xs => v_at _ 1 _ rfl
  -- what is near, of behind and since
  have ebeh : ∀ (p : F) (lo : Int) (hi : Option Int) (y9 y10 : Option D), f.kids.getLast? = some p → evE cfg (run cfg tbl n) (.lc (.v 10) (.nm 10) (.range (.cons (.v 6) .nil)) (.some (.and (.cmp .ge (.ix (.v 7) (.v 10)) (.v 13)) (.and (.or (.cmp .is_ (.v 14) (.c (.non))) (.cmp .le (.ix (.v 7) (.v 10)) (.v 14))) (.ix (.ix (.v 3) (.neg (.c (.int 1)))) (.v 10))))) [10])
      [some f.d, some (rowD r), some (.str f.word), some (.lst (f.kids.map (bD r))), x4, some (.ref hh), some (.int k), some (.lst ((List.range (k + 1)).map fun j => D.int (ago r j k))), x8, x9, x10, x11, x12, some (.int lo), some (F.oD hi)] h =
      .ok (.lst (((List.range k).filter fun j => hold r p j && within lo hi (ago r j k)).map fun j : Nat => .int j)) h := by
    intro p lo hi _ _ hp
    have im : ixL (f.kids.map (bD r)) (.int (-1)) = some (bD r p) := by
      obtain ⟨ys, hys⟩ := List.getLast?_eq_some_iff.mp hp
      rw [hys, List.map_append, List.map_cons, List.map_nil]; exact ix_neg1 _ _
    have hfl : (fun j => hold r p j && within lo hi (ago r j k)) = fun j => decide (lo ≤ ago r j k) && ((match hi with | none => true | some b => decide (ago r j k ≤ b)) && hold r p j) := by
      funext j
      cases hi <;> simp only [within] <;> cases hold r p j <;> simp
    rw [hfl]
    refine e_lc (fun j : Nat => .int j) _ (fun j : Nat => .int j) (List.range k) ?_ (rng_le _ (by omega)) ?_
    · simp (disch := first | assumption | omega | (simp only [List.length_cons, List.length_nil]; omega)) only [x_c, x_g, x_v0, x_v1, x_v2, x_v3, x_v4, x_v5, x_v6, x_v7, x_v8, x_v9, x_v10, x_v11, x_v12, x_v13, x_v14, x_v15, x_tup, x_lst, x_op, x_neg, x_not, x_and, x_or, x_ite, x_cmp, x_chain, x_ix, x_sl, x_rev, x_call, x_meth, x_new, x_fld, x_isi, x_bi, x_listof, x_bm, x_nil, x_cons, x_eno, x_eso, x_ival, x_irange, x_irev, x_fcall, x_flst, x_flistof, x_asg, x_asgB, x_ex, x_ret, x_retF, x_site, x_raise, x_cont, x_pass, x_par, x_snil, x_scons, x_tnm, x_ttup, x_tsub, x_tfld, x_cono, x_con0, y_thenT, y_thenF, y_then, y_elseT, y_elseF, y_else, y_ifT, y_ifF, y_if, y_not, y_neg, y_opt, y_chT, y_chF, y_ch, y_seq, y_seqR, y_seqN, y_seqC, y_len0, y_len1, y_len2, y_len3, y_len4, y_len5, y_len6, y_fldQ, y_fldS, y_methQ, y_methS, y_setQ, y_setS, y_new, y_non, y_rvN, y_dV, y_dN, y_bindi, y_bindE, y_map, f_nx, f_rt, f_rn, f_ex, l_w0, l_ws, v_bind, v_some, v_add, v_sub, v_lt, v_le, v_gt, v_ge, v_eqI, v_eqS, v_neN, v_isN, v_isNN, v_ixL, v_ixT, v_lenS, v_lenL, v_lenT, List.getElem?_cons_zero, List.getElem?_cons_succ, List.set_cons_zero, List.set_cons_succ, List.length_cons, List.length_nil, Nat.reduceAdd, Option.map_some, if_true, f_if, Option.bind_some, Bool.true_or, Bool.or_true, Bool.false_or, Bool.or_false, Bool.true_and, Bool.and_true, Bool.false_and, Bool.and_false, Bool.not_true, Bool.not_false, Bool.false_eq_true, if_false, wq_0_0, wq_0_1, wq_0_2, wq_0_3, wq_0_4, wq_0_5, wq_0_6, wq_0_7, wq_0_8, wq_1_0, wq_1_1, wq_1_2, wq_1_3, wq_1_4, wq_1_5, wq_1_6, wq_1_7, wq_1_8, wq_2_0, wq_2_1, wq_2_2, wq_2_3, wq_2_4, wq_2_5, wq_2_6, wq_2_7, wq_2_8, wq_3_0, wq_3_1, wq_3_2, wq_3_3, wq_3_4, wq_3_5, wq_3_6, wq_3_7, wq_3_8, wq_4_0, wq_4_1, wq_4_2, wq_4_3, wq_4_4, wq_4_5, wq_4_6, wq_4_7, wq_4_8, wq_5_0, wq_5_1, wq_5_2, wq_5_3, wq_5_4, wq_5_5, wq_5_6, wq_5_7, wq_5_8, wq_6_0, wq_6_1, wq_6_2, wq_6_3, wq_6_4, wq_6_5, wq_6_6, wq_6_7, wq_6_8, wq_7_0, wq_7_1, wq_7_2, wq_7_3, wq_7_4, wq_7_5, wq_7_6, wq_7_7, wq_7_8, wq_8_0, wq_8_1, wq_8_2, wq_8_3, wq_8_4, wq_8_5, wq_8_6, wq_8_7, wq_8_8, range_nat k (by omega)]
    · intro j hj
      have hj : j < k := by simpa using hj
      refine ⟨_, rfl, ?_, fun _ => by simp (disch := first | assumption | omega | (simp only [List.length_cons, List.length_nil]; omega)) only [x_c, x_g, x_v0, x_v1, x_v2, x_v3, x_v4, x_v5, x_v6, x_v7, x_v8, x_v9, x_v10, x_v11, x_v12, x_v13, x_v14, x_v15, x_tup, x_lst, x_op, x_neg, x_not, x_and, x_or, x_ite, x_cmp, x_chain, x_ix, x_sl, x_rev, x_call, x_meth, x_new, x_fld, x_isi, x_bi, x_listof, x_bm, x_nil, x_cons, x_eno, x_eso, x_ival, x_irange, x_irev, x_fcall, x_flst, x_flistof, x_asg, x_asgB, x_ex, x_ret, x_retF, x_site, x_raise, x_cont, x_pass, x_par, x_snil, x_scons, x_tnm, x_ttup, x_tsub, x_tfld, x_cono, x_con0, y_thenT, y_thenF, y_then, y_elseT, y_elseF, y_else, y_ifT, y_ifF, y_if, y_not, y_neg, y_opt, y_chT, y_chF, y_ch, y_seq, y_seqR, y_seqN, y_seqC, y_len0, y_len1, y_len2, y_len3, y_len4, y_len5, y_len6, y_fldQ, y_fldS, y_methQ, y_methS, y_setQ, y_setS, y_new, y_non, y_rvN, y_dV, y_dN, y_bindi, y_bindE, y_map, f_nx, f_rt, f_rn, f_ex, l_w0, l_ws, v_bind, v_some, v_add, v_sub, v_lt, v_le, v_gt, v_ge, v_eqI, v_eqS, v_neN, v_isN, v_isNN, v_ixL, v_ixT, v_lenS, v_lenL, v_lenT, List.getElem?_cons_zero, List.getElem?_cons_succ, List.set_cons_zero, List.set_cons_succ, List.length_cons, List.length_nil, Nat.reduceAdd, Option.map_some, if_true, f_if, Option.bind_some, Bool.true_or, Bool.or_true, Bool.false_or, Bool.or_false, Bool.true_and, Bool.and_true, Bool.false_and, Bool.and_false, Bool.not_true, Bool.not_false, Bool.false_eq_true, if_false, wq_0_0, wq_0_1, wq_0_2, wq_0_3, wq_0_4, wq_0_5, wq_0_6, wq_0_7, wq_0_8, wq_1_0, wq_1_1, wq_1_2, wq_1_3, wq_1_4, wq_1_5, wq_1_6, wq_1_7, wq_1_8, wq_2_0, wq_2_1, wq_2_2, wq_2_3, wq_2_4, wq_2_5, wq_2_6, wq_2_7, wq_2_8, wq_3_0, wq_3_1, wq_3_2, wq_3_3, wq_3_4, wq_3_5, wq_3_6, wq_3_7, wq_3_8, wq_4_0, wq_4_1, wq_4_2, wq_4_3, wq_4_4, wq_4_5, wq_4_6, wq_4_7, wq_4_8, wq_5_0, wq_5_1, wq_5_2, wq_5_3, wq_5_4, wq_5_5, wq_5_6, wq_5_7, wq_5_8, wq_6_0, wq_6_1, wq_6_2, wq_6_3, wq_6_4, wq_6_5, wq_6_6, wq_6_7, wq_6_8, wq_7_0, wq_7_1, wq_7_2, wq_7_3, wq_7_4, wq_7_5, wq_7_6, wq_7_7, wq_7_8, wq_8_0, wq_8_1, wq_8_2, wq_8_3, wq_8_4, wq_8_5, wq_8_6, wq_8_7, wq_8_8]⟩
      cases hi with
      | none => simp (disch := first | assumption | omega | (simp only [List.length_cons, List.length_nil]; omega)) only [x_c, x_g, x_v0, x_v1, x_v2, x_v3, x_v4, x_v5, x_v6, x_v7, x_v8, x_v9, x_v10, x_v11, x_v12, x_v13, x_v14, x_v15, x_tup, x_lst, x_op, x_neg, x_not, x_and, x_or, x_ite, x_cmp, x_chain, x_ix, x_sl, x_rev, x_call, x_meth, x_new, x_fld, x_isi, x_bi, x_listof, x_bm, x_nil, x_cons, x_eno, x_eso, x_ival, x_irange, x_irev, x_fcall, x_flst, x_flistof, x_asg, x_asgB, x_ex, x_ret, x_retF, x_site, x_raise, x_cont, x_pass, x_par, x_snil, x_scons, x_tnm, x_ttup, x_tsub, x_tfld, x_cono, x_con0, y_thenT, y_thenF, y_then, y_elseT, y_elseF, y_else, y_ifT, y_ifF, y_if, y_not, y_neg, y_opt, y_chT, y_chF, y_ch, y_seq, y_seqR, y_seqN, y_seqC, y_len0, y_len1, y_len2, y_len3, y_len4, y_len5, y_len6, y_fldQ, y_fldS, y_methQ, y_methS, y_setQ, y_setS, y_new, y_non, y_rvN, y_dV, y_dN, y_bindi, y_bindE, y_map, f_nx, f_rt, f_rn, f_ex, l_w0, l_ws, v_bind, v_some, v_add, v_sub, v_lt, v_le, v_gt, v_ge, v_eqI, v_eqS, v_neN, v_isN, v_isNN, v_ixL, v_ixT, v_lenS, v_lenL, v_lenT, List.getElem?_cons_zero, List.getElem?_cons_succ, List.set_cons_zero, List.set_cons_succ, List.length_cons, List.length_nil, Nat.reduceAdd, Option.map_some, if_true, f_if, Option.bind_some, Bool.true_or, Bool.or_true, Bool.false_or, Bool.or_false, Bool.true_and, Bool.and_true, Bool.false_and, Bool.and_false, Bool.not_true, Bool.not_false, Bool.false_eq_true, if_false, wq_0_0, wq_0_1, wq_0_2, wq_0_3, wq_0_4, wq_0_5, wq_0_6, wq_0_7, wq_0_8, wq_1_0, wq_1_1, wq_1_2, wq_1_3, wq_1_4, wq_1_5, wq_1_6, wq_1_7, wq_1_8, wq_2_0, wq_2_1, wq_2_2, wq_2_3, wq_2_4, wq_2_5, wq_2_6, wq_2_7, wq_2_8, wq_3_0, wq_3_1, wq_3_2, wq_3_3, wq_3_4, wq_3_5, wq_3_6, wq_3_7, wq_3_8, wq_4_0, wq_4_1, wq_4_2, wq_4_3, wq_4_4, wq_4_5, wq_4_6, wq_4_7, wq_4_8, wq_5_0, wq_5_1, wq_5_2, wq_5_3, wq_5_4, wq_5_5, wq_5_6, wq_5_7, wq_5_8, wq_6_0, wq_6_1, wq_6_2, wq_6_3, wq_6_4, wq_6_5, wq_6_6, wq_6_7, wq_6_8, wq_7_0, wq_7_1, wq_7_2, wq_7_3, wq_7_4, wq_7_5, wq_7_6, wq_7_7, wq_7_8, wq_8_0, wq_8_1, wq_8_2, wq_8_3, wq_8_4, wq_8_5, wq_8_6, wq_8_7, wq_8_8, gat j (by omega), F.oD, im, bD, at_hold r p j (by omega)]
      | some b => simp (disch := first | assumption | omega | (simp only [List.length_cons, List.length_nil]; omega)) only [x_c, x_g, x_v0, x_v1, x_v2, x_v3, x_v4, x_v5, x_v6, x_v7, x_v8, x_v9, x_v10, x_v11, x_v12, x_v13, x_v14, x_v15, x_tup, x_lst, x_op, x_neg, x_not, x_and, x_or, x_ite, x_cmp, x_chain, x_ix, x_sl, x_rev, x_call, x_meth, x_new, x_fld, x_isi, x_bi, x_listof, x_bm, x_nil, x_cons, x_eno, x_eso, x_ival, x_irange, x_irev, x_fcall, x_flst, x_flistof, x_asg, x_asgB, x_ex, x_ret, x_retF, x_site, x_raise, x_cont, x_pass, x_par, x_snil, x_scons, x_tnm, x_ttup, x_tsub, x_tfld, x_cono, x_con0, y_thenT, y_thenF, y_then, y_elseT, y_elseF, y_else, y_ifT, y_ifF, y_if, y_not, y_neg, y_opt, y_chT, y_chF, y_ch, y_seq, y_seqR, y_seqN, y_seqC, y_len0, y_len1, y_len2, y_len3, y_len4, y_len5, y_len6, y_fldQ, y_fldS, y_methQ, y_methS, y_setQ, y_setS, y_new, y_non, y_rvN, y_dV, y_dN, y_bindi, y_bindE, y_map, f_nx, f_rt, f_rn, f_ex, l_w0, l_ws, v_bind, v_some, v_add, v_sub, v_lt, v_le, v_gt, v_ge, v_eqI, v_eqS, v_neN, v_isN, v_isNN, v_ixL, v_ixT, v_lenS, v_lenL, v_lenT, List.getElem?_cons_zero, List.getElem?_cons_succ, List.set_cons_zero, List.set_cons_succ, List.length_cons, List.length_nil, Nat.reduceAdd, Option.map_some, if_true, f_if, Option.bind_some, Bool.true_or, Bool.or_true, Bool.false_or, Bool.or_false, Bool.true_and, Bool.and_true, Bool.false_and, Bool.and_false, Bool.not_true, Bool.not_false, Bool.false_eq_true, if_false, wq_0_0, wq_0_1, wq_0_2, wq_0_3, wq_0_4, wq_0_5, wq_0_6, wq_0_7, wq_0_8, wq_1_0, wq_1_1, wq_1_2, wq_1_3, wq_1_4, wq_1_5, wq_1_6, wq_1_7, wq_1_8, wq_2_0, wq_2_1, wq_2_2, wq_2_3, wq_2_4, wq_2_5, wq_2_6, wq_2_7, wq_2_8, wq_3_0, wq_3_1, wq_3_2, wq_3_3, wq_3_4, wq_3_5, wq_3_6, wq_3_7, wq_3_8, wq_4_0, wq_4_1, wq_4_2, wq_4_3, wq_4_4, wq_4_5, wq_4_6, wq_4_7, wq_4_8, wq_5_0, wq_5_1, wq_5_2, wq_5_3, wq_5_4, wq_5_5, wq_5_6, wq_5_7, wq_5_8, wq_6_0, wq_6_1, wq_6_2, wq_6_3, wq_6_4, wq_6_5, wq_6_6, wq_6_7, wq_6_8, wq_7_0, wq_7_1, wq_7_2, wq_7_3, wq_7_4, wq_7_5, wq_7_6, wq_7_7, wq_7_8, wq_8_0, wq_8_1, wq_8_2, wq_8_3, wq_8_4, wq_8_5, wq_8_6, wq_8_7, wq_8_8, gat j (by omega), F.oD, im, bD, at_hold r p j (by omega)]
  have esin : ∀ (p q : F) (lo : Int) (hi : Option Int) (y10 : Option D), f.kids = [p, q] → evE cfg (run cfg tbl n) (.lc (.v 10) (.nm 10) (.val (.v 9)) (.some (.cmp .notin (.c (.bl false)) (.sl (.ix (.v 3) (.c (.int 0))) (.some (.op .add (.v 10) (.c (.int 1)))) (.some (.v 6))))) [10])
      [some f.d, some (rowD r), some (.str f.word), some (.lst (f.kids.map (bD r))), x4, some (.ref hh), some (.int k), some (.lst ((List.range (k + 1)).map fun j => D.int (ago r j k))), x8, some (.lst (((List.range k).filter fun j => hold r q j && within lo hi (ago r j k)).map fun j : Nat => .int j)), x10, x11, x12, some (.int lo), some (F.oD hi)] h =
      .ok (.lst (((List.range k).filter fun j => (hold r q j && within lo hi (ago r j k)) && (List.range k).all fun i => decide (i ≤ j) || hold r p i).map fun j : Nat => .int j)) h := by
    intro p q lo hi _ hps
    have hcm : (fun j => (hold r q j && within lo hi (ago r j k)) && (List.range k).all fun i => decide (i ≤ j) || hold r p i) = fun j => ((List.range k).all fun i => decide (i ≤ j) || hold r p i) && (hold r q j && within lo hi (ago r j k)) := by
      funext j; rw [Bool.and_comm]
    rw [hcm, ← List.filter_filter (p := fun j => (List.range k).all fun i => decide (i ≤ j) || hold r p i) (q := fun j => hold r q j && within lo hi (ago r j k))]
    refine e_lc (fun j : Nat => .int j) _ (fun j : Nat => .int j) ((List.range k).filter fun j => hold r q j && within lo hi (ago r j k)) ?_ (le_LINE (Nat.le_trans (List.length_filter_le _ _) (rng_le _ (by omega)))) ?_
    · simp (disch := first | assumption | omega | (simp only [List.length_cons, List.length_nil]; omega)) only [x_c, x_g, x_v0, x_v1, x_v2, x_v3, x_v4, x_v5, x_v6, x_v7, x_v8, x_v9, x_v10, x_v11, x_v12, x_v13, x_v14, x_v15, x_tup, x_lst, x_op, x_neg, x_not, x_and, x_or, x_ite, x_cmp, x_chain, x_ix, x_sl, x_rev, x_call, x_meth, x_new, x_fld, x_isi, x_bi, x_listof, x_bm, x_nil, x_cons, x_eno, x_eso, x_ival, x_irange, x_irev, x_fcall, x_flst, x_flistof, x_asg, x_asgB, x_ex, x_ret, x_retF, x_site, x_raise, x_cont, x_pass, x_par, x_snil, x_scons, x_tnm, x_ttup, x_tsub, x_tfld, x_cono, x_con0, y_thenT, y_thenF, y_then, y_elseT, y_elseF, y_else, y_ifT, y_ifF, y_if, y_not, y_neg, y_opt, y_chT, y_chF, y_ch, y_seq, y_seqR, y_seqN, y_seqC, y_len0, y_len1, y_len2, y_len3, y_len4, y_len5, y_len6, y_fldQ, y_fldS, y_methQ, y_methS, y_setQ, y_setS, y_new, y_non, y_rvN, y_dV, y_dN, y_bindi, y_bindE, y_map, f_nx, f_rt, f_rn, f_ex, l_w0, l_ws, v_bind, v_some, v_add, v_sub, v_lt, v_le, v_gt, v_ge, v_eqI, v_eqS, v_neN, v_isN, v_isNN, v_ixL, v_ixT, v_lenS, v_lenL, v_lenT, List.getElem?_cons_zero, List.getElem?_cons_succ, List.set_cons_zero, List.set_cons_succ, List.length_cons, List.length_nil, Nat.reduceAdd, Option.map_some, if_true, f_if, Option.bind_some, Bool.true_or, Bool.or_true, Bool.false_or, Bool.or_false, Bool.true_and, Bool.and_true, Bool.false_and, Bool.and_false, Bool.not_true, Bool.not_false, Bool.false_eq_true, if_false, wq_0_0, wq_0_1, wq_0_2, wq_0_3, wq_0_4, wq_0_5, wq_0_6, wq_0_7, wq_0_8, wq_1_0, wq_1_1, wq_1_2, wq_1_3, wq_1_4, wq_1_5, wq_1_6, wq_1_7, wq_1_8, wq_2_0, wq_2_1, wq_2_2, wq_2_3, wq_2_4, wq_2_5, wq_2_6, wq_2_7, wq_2_8, wq_3_0, wq_3_1, wq_3_2, wq_3_3, wq_3_4, wq_3_5, wq_3_6, wq_3_7, wq_3_8, wq_4_0, wq_4_1, wq_4_2, wq_4_3, wq_4_4, wq_4_5, wq_4_6, wq_4_7, wq_4_8, wq_5_0, wq_5_1, wq_5_2, wq_5_3, wq_5_4, wq_5_5, wq_5_6, wq_5_7, wq_5_8, wq_6_0, wq_6_1, wq_6_2, wq_6_3, wq_6_4, wq_6_5, wq_6_6, wq_6_7, wq_6_8, wq_7_0, wq_7_1, wq_7_2, wq_7_3, wq_7_4, wq_7_5, wq_7_6, wq_7_7, wq_7_8, wq_8_0, wq_8_1, wq_8_2, wq_8_3, wq_8_4, wq_8_5, wq_8_6, wq_8_7, wq_8_8, l_vL]
    · intro j hj
      have hj : j < k := by simpa using (List.mem_filter.mp hj).1
      refine ⟨_, rfl, ?_, fun _ => by simp (disch := first | assumption | omega | (simp only [List.length_cons, List.length_nil]; omega)) only [x_c, x_g, x_v0, x_v1, x_v2, x_v3, x_v4, x_v5, x_v6, x_v7, x_v8, x_v9, x_v10, x_v11, x_v12, x_v13, x_v14, x_v15, x_tup, x_lst, x_op, x_neg, x_not, x_and, x_or, x_ite, x_cmp, x_chain, x_ix, x_sl, x_rev, x_call, x_meth, x_new, x_fld, x_isi, x_bi, x_listof, x_bm, x_nil, x_cons, x_eno, x_eso, x_ival, x_irange, x_irev, x_fcall, x_flst, x_flistof, x_asg, x_asgB, x_ex, x_ret, x_retF, x_site, x_raise, x_cont, x_pass, x_par, x_snil, x_scons, x_tnm, x_ttup, x_tsub, x_tfld, x_cono, x_con0, y_thenT, y_thenF, y_then, y_elseT, y_elseF, y_else, y_ifT, y_ifF, y_if, y_not, y_neg, y_opt, y_chT, y_chF, y_ch, y_seq, y_seqR, y_seqN, y_seqC, y_len0, y_len1, y_len2, y_len3, y_len4, y_len5, y_len6, y_fldQ, y_fldS, y_methQ, y_methS, y_setQ, y_setS, y_new, y_non, y_rvN, y_dV, y_dN, y_bindi, y_bindE, y_map, f_nx, f_rt, f_rn, f_ex, l_w0, l_ws, v_bind, v_some, v_add, v_sub, v_lt, v_le, v_gt, v_ge, v_eqI, v_eqS, v_neN, v_isN, v_isNN, v_ixL, v_ixT, v_lenS, v_lenL, v_lenT, List.getElem?_cons_zero, List.getElem?_cons_succ, List.set_cons_zero, List.set_cons_succ, List.length_cons, List.length_nil, Nat.reduceAdd, Option.map_some, if_true, f_if, Option.bind_some, Bool.true_or, Bool.or_true, Bool.false_or, Bool.or_false, Bool.true_and, Bool.and_true, Bool.false_and, Bool.and_false, Bool.not_true, Bool.not_false, Bool.false_eq_true, if_false, wq_0_0, wq_0_1, wq_0_2, wq_0_3, wq_0_4, wq_0_5, wq_0_6, wq_0_7, wq_0_8, wq_1_0, wq_1_1, wq_1_2, wq_1_3, wq_1_4, wq_1_5, wq_1_6, wq_1_7, wq_1_8, wq_2_0, wq_2_1, wq_2_2, wq_2_3, wq_2_4, wq_2_5, wq_2_6, wq_2_7, wq_2_8, wq_3_0, wq_3_1, wq_3_2, wq_3_3, wq_3_4, wq_3_5, wq_3_6, wq_3_7, wq_3_8, wq_4_0, wq_4_1, wq_4_2, wq_4_3, wq_4_4, wq_4_5, wq_4_6, wq_4_7, wq_4_8, wq_5_0, wq_5_1, wq_5_2, wq_5_3, wq_5_4, wq_5_5, wq_5_6, wq_5_7, wq_5_8, wq_6_0, wq_6_1, wq_6_2, wq_6_3, wq_6_4, wq_6_5, wq_6_6, wq_6_7, wq_6_8, wq_7_0, wq_7_1, wq_7_2, wq_7_3, wq_7_4, wq_7_5, wq_7_6, wq_7_7, wq_7_8, wq_8_0, wq_8_1, wq_8_2, wq_8_3, wq_8_4, wq_8_5, wq_8_6, wq_8_7, wq_8_8]⟩
      have i0 : ixL (f.kids.map (bD r)) (.int 0) = some (bD r p) := by rw [hps]; rfl
      have e2 := sl_mid h ((holds r p).map .bl) j k hj (by simp [holds]; omega)
      rw [mid_all r p j k hj (by omega)] at e2
      simp (disch := first | assumption | omega | (simp only [List.length_cons, List.length_nil]; omega)) only [x_c, x_g, x_v0, x_v1, x_v2, x_v3, x_v4, x_v5, x_v6, x_v7, x_v8, x_v9, x_v10, x_v11, x_v12, x_v13, x_v14, x_v15, x_tup, x_lst, x_op, x_neg, x_not, x_and, x_or, x_ite, x_cmp, x_chain, x_ix, x_sl, x_rev, x_call, x_meth, x_new, x_fld, x_isi, x_bi, x_listof, x_bm, x_nil, x_cons, x_eno, x_eso, x_ival, x_irange, x_irev, x_fcall, x_flst, x_flistof, x_asg, x_asgB, x_ex, x_ret, x_retF, x_site, x_raise, x_cont, x_pass, x_par, x_snil, x_scons, x_tnm, x_ttup, x_tsub, x_tfld, x_cono, x_con0, y_thenT, y_thenF, y_then, y_elseT, y_elseF, y_else, y_ifT, y_ifF, y_if, y_not, y_neg, y_opt, y_chT, y_chF, y_ch, y_seq, y_seqR, y_seqN, y_seqC, y_len0, y_len1, y_len2, y_len3, y_len4, y_len5, y_len6, y_fldQ, y_fldS, y_methQ, y_methS, y_setQ, y_setS, y_new, y_non, y_rvN, y_dV, y_dN, y_bindi, y_bindE, y_map, f_nx, f_rt, f_rn, f_ex, l_w0, l_ws, v_bind, v_some, v_add, v_sub, v_lt, v_le, v_gt, v_ge, v_eqI, v_eqS, v_neN, v_isN, v_isNN, v_ixL, v_ixT, v_lenS, v_lenL, v_lenT, List.getElem?_cons_zero, List.getElem?_cons_succ, List.set_cons_zero, List.set_cons_succ, List.length_cons, List.length_nil, Nat.reduceAdd, Option.map_some, if_true, f_if, Option.bind_some, Bool.true_or, Bool.or_true, Bool.false_or, Bool.or_false, Bool.true_and, Bool.and_true, Bool.false_and, Bool.and_false, Bool.not_true, Bool.not_false, Bool.false_eq_true, if_false, wq_0_0, wq_0_1, wq_0_2, wq_0_3, wq_0_4, wq_0_5, wq_0_6, wq_0_7, wq_0_8, wq_1_0, wq_1_1, wq_1_2, wq_1_3, wq_1_4, wq_1_5, wq_1_6, wq_1_7, wq_1_8, wq_2_0, wq_2_1, wq_2_2, wq_2_3, wq_2_4, wq_2_5, wq_2_6, wq_2_7, wq_2_8, wq_3_0, wq_3_1, wq_3_2, wq_3_3, wq_3_4, wq_3_5, wq_3_6, wq_3_7, wq_3_8, wq_4_0, wq_4_1, wq_4_2, wq_4_3, wq_4_4, wq_4_5, wq_4_6, wq_4_7, wq_4_8, wq_5_0, wq_5_1, wq_5_2, wq_5_3, wq_5_4, wq_5_5, wq_5_6, wq_5_7, wq_5_8, wq_6_0, wq_6_1, wq_6_2, wq_6_3, wq_6_4, wq_6_5, wq_6_6, wq_6_7, wq_6_8, wq_7_0, wq_7_1, wq_7_2, wq_7_3, wq_7_4, wq_7_5, wq_7_6, wq_7_7, wq_7_8, wq_8_0, wq_8_1, wq_8_2, wq_8_3, wq_8_4, wq_8_5, wq_8_6, wq_8_7, wq_8_8, i0, bD, e2, notin_bl, mid_all2 r p j k hj (by omega)]
  have nE : ∀ c : Nat → Bool, cpD cfg.gds h .ne (.lst (((List.range k).filter c).map fun j : Nat => D.int j)) (.lst []) = some ((List.range k).any c) := fun c => by
    rw [v_neE _ _ _ (plains_map (fun j : Nat => D.int j) (fun _ => rfl) _), any_filter, List.isEmpty_map]
  cases f with
  | is w =>
    have e1 : ixD cfg.gds h (F.is w).d (.int 1) = some (.int w) := rfl
    simp only [lhBody, fn_1009]
    simp only [F.word, F.kids, List.map_cons, List.map_nil, bD] at egaps
    simp (disch := first | assumption | omega | (simp only [List.length_cons, List.length_nil]; omega)) only [x_c, x_g, x_v0, x_v1, x_v2, x_v3, x_v4, x_v5, x_v6, x_v7, x_v8, x_v9, x_v10, x_v11, x_v12, x_v13, x_v14, x_v15, x_tup, x_lst, x_op, x_neg, x_not, x_and, x_or, x_ite, x_cmp, x_chain, x_ix, x_sl, x_rev, x_call, x_meth, x_new, x_fld, x_isi, x_bi, x_listof, x_bm, x_nil, x_cons, x_eno, x_eso, x_ival, x_irange, x_irev, x_fcall, x_flst, x_flistof, x_asg, x_asgB, x_ex, x_ret, x_retF, x_site, x_raise, x_cont, x_pass, x_par, x_snil, x_scons, x_tnm, x_ttup, x_tsub, x_tfld, x_cono, x_con0, y_thenT, y_thenF, y_then, y_elseT, y_elseF, y_else, y_ifT, y_ifF, y_if, y_not, y_neg, y_opt, y_chT, y_chF, y_ch, y_seq, y_seqR, y_seqN, y_seqC, y_len0, y_len1, y_len2, y_len3, y_len4, y_len5, y_len6, y_fldQ, y_fldS, y_methQ, y_methS, y_setQ, y_setS, y_new, y_non, y_rvN, y_dV, y_dN, y_bindi, y_bindE, y_map, f_nx, f_rt, f_rn, f_ex, l_w0, l_ws, v_bind, v_some, v_add, v_sub, v_lt, v_le, v_gt, v_ge, v_eqI, v_eqS, v_neN, v_isN, v_isNN, v_ixL, v_ixT, v_lenS, v_lenL, v_lenT, List.getElem?_cons_zero, List.getElem?_cons_succ, List.set_cons_zero, List.set_cons_succ, List.length_cons, List.length_nil, Nat.reduceAdd, Option.map_some, if_true, f_if, Option.bind_some, Bool.true_or, Bool.or_true, Bool.false_or, Bool.or_false, Bool.true_and, Bool.and_true, Bool.false_and, Bool.and_false, Bool.not_true, Bool.not_false, Bool.false_eq_true, if_false, wq_0_0, wq_0_1, wq_0_2, wq_0_3, wq_0_4, wq_0_5, wq_0_6, wq_0_7, wq_0_8, wq_1_0, wq_1_1, wq_1_2, wq_1_3, wq_1_4, wq_1_5, wq_1_6, wq_1_7, wq_1_8, wq_2_0, wq_2_1, wq_2_2, wq_2_3, wq_2_4, wq_2_5, wq_2_6, wq_2_7, wq_2_8, wq_3_0, wq_3_1, wq_3_2, wq_3_3, wq_3_4, wq_3_5, wq_3_6, wq_3_7, wq_3_8, wq_4_0, wq_4_1, wq_4_2, wq_4_3, wq_4_4, wq_4_5, wq_4_6, wq_4_7, wq_4_8, wq_5_0, wq_5_1, wq_5_2, wq_5_3, wq_5_4, wq_5_5, wq_5_6, wq_5_7, wq_5_8, wq_6_0, wq_6_1, wq_6_2, wq_6_3, wq_6_4, wq_6_5, wq_6_6, wq_6_7, wq_6_8, wq_7_0, wq_7_1, wq_7_2, wq_7_3, wq_7_4, wq_7_5, wq_7_6, wq_7_7, wq_7_8, wq_8_0, wq_8_1, wq_8_2, wq_8_3, wq_8_4, wq_8_5, wq_8_6, wq_8_7, wq_8_8, egaps, bD, F.word, F.kids, List.map_cons, List.map_nil, ex2, hap1, e1, ht, hv, get_ok]
    simp only [hold, hgx]
    exact ⟨by trivial, _, _, _, _, _, _, _, _, rfl⟩
  | frm w =>
    have e1 : ixD cfg.gds h (F.frm w).d (.int 1) = some (.int w) := rfl
    simp only [lhBody, fn_1009]
    simp only [F.word, F.kids, List.map_cons, List.map_nil, bD] at egaps
    simp (disch := first | assumption | omega | (simp only [List.length_cons, List.length_nil]; omega)) only [x_c, x_g, x_v0, x_v1, x_v2, x_v3, x_v4, x_v5, x_v6, x_v7, x_v8, x_v9, x_v10, x_v11, x_v12, x_v13, x_v14, x_v15, x_tup, x_lst, x_op, x_neg, x_not, x_and, x_or, x_ite, x_cmp, x_chain, x_ix, x_sl, x_rev, x_call, x_meth, x_new, x_fld, x_isi, x_bi, x_listof, x_bm, x_nil, x_cons, x_eno, x_eso, x_ival, x_irange, x_irev, x_fcall, x_flst, x_flistof, x_asg, x_asgB, x_ex, x_ret, x_retF, x_site, x_raise, x_cont, x_pass, x_par, x_snil, x_scons, x_tnm, x_ttup, x_tsub, x_tfld, x_cono, x_con0, y_thenT, y_thenF, y_then, y_elseT, y_elseF, y_else, y_ifT, y_ifF, y_if, y_not, y_neg, y_opt, y_chT, y_chF, y_ch, y_seq, y_seqR, y_seqN, y_seqC, y_len0, y_len1, y_len2, y_len3, y_len4, y_len5, y_len6, y_fldQ, y_fldS, y_methQ, y_methS, y_setQ, y_setS, y_new, y_non, y_rvN, y_dV, y_dN, y_bindi, y_bindE, y_map, f_nx, f_rt, f_rn, f_ex, l_w0, l_ws, v_bind, v_some, v_add, v_sub, v_lt, v_le, v_gt, v_ge, v_eqI, v_eqS, v_neN, v_isN, v_isNN, v_ixL, v_ixT, v_lenS, v_lenL, v_lenT, List.getElem?_cons_zero, List.getElem?_cons_succ, List.set_cons_zero, List.set_cons_succ, List.length_cons, List.length_nil, Nat.reduceAdd, Option.map_some, if_true, f_if, Option.bind_some, Bool.true_or, Bool.or_true, Bool.false_or, Bool.or_false, Bool.true_and, Bool.and_true, Bool.false_and, Bool.and_false, Bool.not_true, Bool.not_false, Bool.false_eq_true, if_false, wq_0_0, wq_0_1, wq_0_2, wq_0_3, wq_0_4, wq_0_5, wq_0_6, wq_0_7, wq_0_8, wq_1_0, wq_1_1, wq_1_2, wq_1_3, wq_1_4, wq_1_5, wq_1_6, wq_1_7, wq_1_8, wq_2_0, wq_2_1, wq_2_2, wq_2_3, wq_2_4, wq_2_5, wq_2_6, wq_2_7, wq_2_8, wq_3_0, wq_3_1, wq_3_2, wq_3_3, wq_3_4, wq_3_5, wq_3_6, wq_3_7, wq_3_8, wq_4_0, wq_4_1, wq_4_2, wq_4_3, wq_4_4, wq_4_5, wq_4_6, wq_4_7, wq_4_8, wq_5_0, wq_5_1, wq_5_2, wq_5_3, wq_5_4, wq_5_5, wq_5_6, wq_5_7, wq_5_8, wq_6_0, wq_6_1, wq_6_2, wq_6_3, wq_6_4, wq_6_5, wq_6_6, wq_6_7, wq_6_8, wq_7_0, wq_7_1, wq_7_2, wq_7_3, wq_7_4, wq_7_5, wq_7_6, wq_7_7, wq_7_8, wq_8_0, wq_8_1, wq_8_2, wq_8_3, wq_8_4, wq_8_5, wq_8_6, wq_8_7, wq_8_8, egaps, bD, F.word, F.kids, List.map_cons, List.map_nil, ex2, hap2, e1, ht, hv, get_ok]
    simp only [hold, hgx]
    exact ⟨by trivial, _, _, _, _, _, _, _, _, rfl⟩
  | not p =>
    simp only [lhBody, fn_1009]
    simp only [F.word, F.kids, List.map_cons, List.map_nil, bD] at egaps
    simp (disch := first | assumption | omega | (simp only [List.length_cons, List.length_nil]; omega)) only [x_c, x_g, x_v0, x_v1, x_v2, x_v3, x_v4, x_v5, x_v6, x_v7, x_v8, x_v9, x_v10, x_v11, x_v12, x_v13, x_v14, x_v15, x_tup, x_lst, x_op, x_neg, x_not, x_and, x_or, x_ite, x_cmp, x_chain, x_ix, x_sl, x_rev, x_call, x_meth, x_new, x_fld, x_isi, x_bi, x_listof, x_bm, x_nil, x_cons, x_eno, x_eso, x_ival, x_irange, x_irev, x_fcall, x_flst, x_flistof, x_asg, x_asgB, x_ex, x_ret, x_retF, x_site, x_raise, x_cont, x_pass, x_par, x_snil, x_scons, x_tnm, x_ttup, x_tsub, x_tfld, x_cono, x_con0, y_thenT, y_thenF, y_then, y_elseT, y_elseF, y_else, y_ifT, y_ifF, y_if, y_not, y_neg, y_opt, y_chT, y_chF, y_ch, y_seq, y_seqR, y_seqN, y_seqC, y_len0, y_len1, y_len2, y_len3, y_len4, y_len5, y_len6, y_fldQ, y_fldS, y_methQ, y_methS, y_setQ, y_setS, y_new, y_non, y_rvN, y_dV, y_dN, y_bindi, y_bindE, y_map, f_nx, f_rt, f_rn, f_ex, l_w0, l_ws, v_bind, v_some, v_add, v_sub, v_lt, v_le, v_gt, v_ge, v_eqI, v_eqS, v_neN, v_isN, v_isNN, v_ixL, v_ixT, v_lenS, v_lenL, v_lenT, List.getElem?_cons_zero, List.getElem?_cons_succ, List.set_cons_zero, List.set_cons_succ, List.length_cons, List.length_nil, Nat.reduceAdd, Option.map_some, if_true, f_if, Option.bind_some, Bool.true_or, Bool.or_true, Bool.false_or, Bool.or_false, Bool.true_and, Bool.and_true, Bool.false_and, Bool.and_false, Bool.not_true, Bool.not_false, Bool.false_eq_true, if_false, wq_0_0, wq_0_1, wq_0_2, wq_0_3, wq_0_4, wq_0_5, wq_0_6, wq_0_7, wq_0_8, wq_1_0, wq_1_1, wq_1_2, wq_1_3, wq_1_4, wq_1_5, wq_1_6, wq_1_7, wq_1_8, wq_2_0, wq_2_1, wq_2_2, wq_2_3, wq_2_4, wq_2_5, wq_2_6, wq_2_7, wq_2_8, wq_3_0, wq_3_1, wq_3_2, wq_3_3, wq_3_4, wq_3_5, wq_3_6, wq_3_7, wq_3_8, wq_4_0, wq_4_1, wq_4_2, wq_4_3, wq_4_4, wq_4_5, wq_4_6, wq_4_7, wq_4_8, wq_5_0, wq_5_1, wq_5_2, wq_5_3, wq_5_4, wq_5_5, wq_5_6, wq_5_7, wq_5_8, wq_6_0, wq_6_1, wq_6_2, wq_6_3, wq_6_4, wq_6_5, wq_6_6, wq_6_7, wq_6_8, wq_7_0, wq_7_1, wq_7_2, wq_7_3, wq_7_4, wq_7_5, wq_7_6, wq_7_7, wq_7_8, wq_8_0, wq_8_1, wq_8_2, wq_8_3, wq_8_4, wq_8_5, wq_8_6, wq_8_7, wq_8_8, egaps, bD, F.word, F.kids, List.map_cons, List.map_nil, k0, bD, ah, ht, hv, get_ok]
    simp only [hold]
    exact ⟨by trivial, _, _, _, _, _, _, _, _, rfl⟩
  | and p q =>
    simp only [lhBody, fn_1009]
    simp only [F.word, F.kids, List.map_cons, List.map_nil, bD] at egaps
    simp (disch := first | assumption | omega | (simp only [List.length_cons, List.length_nil]; omega)) only [x_c, x_g, x_v0, x_v1, x_v2, x_v3, x_v4, x_v5, x_v6, x_v7, x_v8, x_v9, x_v10, x_v11, x_v12, x_v13, x_v14, x_v15, x_tup, x_lst, x_op, x_neg, x_not, x_and, x_or, x_ite, x_cmp, x_chain, x_ix, x_sl, x_rev, x_call, x_meth, x_new, x_fld, x_isi, x_bi, x_listof, x_bm, x_nil, x_cons, x_eno, x_eso, x_ival, x_irange, x_irev, x_fcall, x_flst, x_flistof, x_asg, x_asgB, x_ex, x_ret, x_retF, x_site, x_raise, x_cont, x_pass, x_par, x_snil, x_scons, x_tnm, x_ttup, x_tsub, x_tfld, x_cono, x_con0, y_thenT, y_thenF, y_then, y_elseT, y_elseF, y_else, y_ifT, y_ifF, y_if, y_not, y_neg, y_opt, y_chT, y_chF, y_ch, y_seq, y_seqR, y_seqN, y_seqC, y_len0, y_len1, y_len2, y_len3, y_len4, y_len5, y_len6, y_fldQ, y_fldS, y_methQ, y_methS, y_setQ, y_setS, y_new, y_non, y_rvN, y_dV, y_dN, y_bindi, y_bindE, y_map, f_nx, f_rt, f_rn, f_ex, l_w0, l_ws, v_bind, v_some, v_add, v_sub, v_lt, v_le, v_gt, v_ge, v_eqI, v_eqS, v_neN, v_isN, v_isNN, v_ixL, v_ixT, v_lenS, v_lenL, v_lenT, List.getElem?_cons_zero, List.getElem?_cons_succ, List.set_cons_zero, List.set_cons_succ, List.length_cons, List.length_nil, Nat.reduceAdd, Option.map_some, if_true, f_if, Option.bind_some, Bool.true_or, Bool.or_true, Bool.false_or, Bool.or_false, Bool.true_and, Bool.and_true, Bool.false_and, Bool.and_false, Bool.not_true, Bool.not_false, Bool.false_eq_true, if_false, wq_0_0, wq_0_1, wq_0_2, wq_0_3, wq_0_4, wq_0_5, wq_0_6, wq_0_7, wq_0_8, wq_1_0, wq_1_1, wq_1_2, wq_1_3, wq_1_4, wq_1_5, wq_1_6, wq_1_7, wq_1_8, wq_2_0, wq_2_1, wq_2_2, wq_2_3, wq_2_4, wq_2_5, wq_2_6, wq_2_7, wq_2_8, wq_3_0, wq_3_1, wq_3_2, wq_3_3, wq_3_4, wq_3_5, wq_3_6, wq_3_7, wq_3_8, wq_4_0, wq_4_1, wq_4_2, wq_4_3, wq_4_4, wq_4_5, wq_4_6, wq_4_7, wq_4_8, wq_5_0, wq_5_1, wq_5_2, wq_5_3, wq_5_4, wq_5_5, wq_5_6, wq_5_7, wq_5_8, wq_6_0, wq_6_1, wq_6_2, wq_6_3, wq_6_4, wq_6_5, wq_6_6, wq_6_7, wq_6_8, wq_7_0, wq_7_1, wq_7_2, wq_7_3, wq_7_4, wq_7_5, wq_7_6, wq_7_7, wq_7_8, wq_8_0, wq_8_1, wq_8_2, wq_8_3, wq_8_4, wq_8_5, wq_8_6, wq_8_7, wq_8_8, egaps, bD, F.word, F.kids, List.map_cons, List.map_nil, k0, k1, bD, ah, ht, hv, get_ok]
    simp only [hold]
    exact ⟨by trivial, _, _, _, _, _, _, _, _, rfl⟩
  | or p q =>
    simp only [lhBody, fn_1009]
    simp only [F.word, F.kids, List.map_cons, List.map_nil, bD] at egaps
    simp (disch := first | assumption | omega | (simp only [List.length_cons, List.length_nil]; omega)) only [x_c, x_g, x_v0, x_v1, x_v2, x_v3, x_v4, x_v5, x_v6, x_v7, x_v8, x_v9, x_v10, x_v11, x_v12, x_v13, x_v14, x_v15, x_tup, x_lst, x_op, x_neg, x_not, x_and, x_or, x_ite, x_cmp, x_chain, x_ix, x_sl, x_rev, x_call, x_meth, x_new, x_fld, x_isi, x_bi, x_listof, x_bm, x_nil, x_cons, x_eno, x_eso, x_ival, x_irange, x_irev, x_fcall, x_flst, x_flistof, x_asg, x_asgB, x_ex, x_ret, x_retF, x_site, x_raise, x_cont, x_pass, x_par, x_snil, x_scons, x_tnm, x_ttup, x_tsub, x_tfld, x_cono, x_con0, y_thenT, y_thenF, y_then, y_elseT, y_elseF, y_else, y_ifT, y_ifF, y_if, y_not, y_neg, y_opt, y_chT, y_chF, y_ch, y_seq, y_seqR, y_seqN, y_seqC, y_len0, y_len1, y_len2, y_len3, y_len4, y_len5, y_len6, y_fldQ, y_fldS, y_methQ, y_methS, y_setQ, y_setS, y_new, y_non, y_rvN, y_dV, y_dN, y_bindi, y_bindE, y_map, f_nx, f_rt, f_rn, f_ex, l_w0, l_ws, v_bind, v_some, v_add, v_sub, v_lt, v_le, v_gt, v_ge, v_eqI, v_eqS, v_neN, v_isN, v_isNN, v_ixL, v_ixT, v_lenS, v_lenL, v_lenT, List.getElem?_cons_zero, List.getElem?_cons_succ, List.set_cons_zero, List.set_cons_succ, List.length_cons, List.length_nil, Nat.reduceAdd, Option.map_some, if_true, f_if, Option.bind_some, Bool.true_or, Bool.or_true, Bool.false_or, Bool.or_false, Bool.true_and, Bool.and_true, Bool.false_and, Bool.and_false, Bool.not_true, Bool.not_false, Bool.false_eq_true, if_false, wq_0_0, wq_0_1, wq_0_2, wq_0_3, wq_0_4, wq_0_5, wq_0_6, wq_0_7, wq_0_8, wq_1_0, wq_1_1, wq_1_2, wq_1_3, wq_1_4, wq_1_5, wq_1_6, wq_1_7, wq_1_8, wq_2_0, wq_2_1, wq_2_2, wq_2_3, wq_2_4, wq_2_5, wq_2_6, wq_2_7, wq_2_8, wq_3_0, wq_3_1, wq_3_2, wq_3_3, wq_3_4, wq_3_5, wq_3_6, wq_3_7, wq_3_8, wq_4_0, wq_4_1, wq_4_2, wq_4_3, wq_4_4, wq_4_5, wq_4_6, wq_4_7, wq_4_8, wq_5_0, wq_5_1, wq_5_2, wq_5_3, wq_5_4, wq_5_5, wq_5_6, wq_5_7, wq_5_8, wq_6_0, wq_6_1, wq_6_2, wq_6_3, wq_6_4, wq_6_5, wq_6_6, wq_6_7, wq_6_8, wq_7_0, wq_7_1, wq_7_2, wq_7_3, wq_7_4, wq_7_5, wq_7_6, wq_7_7, wq_7_8, wq_8_0, wq_8_1, wq_8_2, wq_8_3, wq_8_4, wq_8_5, wq_8_6, wq_8_7, wq_8_8, egaps, bD, F.word, F.kids, List.map_cons, List.map_nil, k0, k1, bD, ah, ht, hv, get_ok]
    simp only [hold]
    exact ⟨by trivial, _, _, _, _, _, _, _, _, rfl⟩
  | behind p lo hi =>
    simp only [lhBody, fn_1009]
    simp only [F.word, F.kids, List.map_cons, List.map_nil, bD] at egaps
    have e2 : slD h (F.behind p lo hi).d (some (-2)) none = some (.tup [.int lo, F.oD hi]) := neg2 _ _ _ _ _
    have eb := ebeh p lo hi none none rfl
    simp only [F.word, F.kids, List.map_cons, List.map_nil, bD] at eb
    simp (disch := first | assumption | omega | (simp only [List.length_cons, List.length_nil]; omega)) only [x_c, x_g, x_v0, x_v1, x_v2, x_v3, x_v4, x_v5, x_v6, x_v7, x_v8, x_v9, x_v10, x_v11, x_v12, x_v13, x_v14, x_v15, x_tup, x_lst, x_op, x_neg, x_not, x_and, x_or, x_ite, x_cmp, x_chain, x_ix, x_sl, x_rev, x_call, x_meth, x_new, x_fld, x_isi, x_bi, x_listof, x_bm, x_nil, x_cons, x_eno, x_eso, x_ival, x_irange, x_irev, x_fcall, x_flst, x_flistof, x_asg, x_asgB, x_ex, x_ret, x_retF, x_site, x_raise, x_cont, x_pass, x_par, x_snil, x_scons, x_tnm, x_ttup, x_tsub, x_tfld, x_cono, x_con0, y_thenT, y_thenF, y_then, y_elseT, y_elseF, y_else, y_ifT, y_ifF, y_if, y_not, y_neg, y_opt, y_chT, y_chF, y_ch, y_seq, y_seqR, y_seqN, y_seqC, y_len0, y_len1, y_len2, y_len3, y_len4, y_len5, y_len6, y_fldQ, y_fldS, y_methQ, y_methS, y_setQ, y_setS, y_new, y_non, y_rvN, y_dV, y_dN, y_bindi, y_bindE, y_map, f_nx, f_rt, f_rn, f_ex, l_w0, l_ws, v_bind, v_some, v_add, v_sub, v_lt, v_le, v_gt, v_ge, v_eqI, v_eqS, v_neN, v_isN, v_isNN, v_ixL, v_ixT, v_lenS, v_lenL, v_lenT, List.getElem?_cons_zero, List.getElem?_cons_succ, List.set_cons_zero, List.set_cons_succ, List.length_cons, List.length_nil, Nat.reduceAdd, Option.map_some, if_true, f_if, Option.bind_some, Bool.true_or, Bool.or_true, Bool.false_or, Bool.or_false, Bool.true_and, Bool.and_true, Bool.false_and, Bool.and_false, Bool.not_true, Bool.not_false, Bool.false_eq_true, if_false, wq_0_0, wq_0_1, wq_0_2, wq_0_3, wq_0_4, wq_0_5, wq_0_6, wq_0_7, wq_0_8, wq_1_0, wq_1_1, wq_1_2, wq_1_3, wq_1_4, wq_1_5, wq_1_6, wq_1_7, wq_1_8, wq_2_0, wq_2_1, wq_2_2, wq_2_3, wq_2_4, wq_2_5, wq_2_6, wq_2_7, wq_2_8, wq_3_0, wq_3_1, wq_3_2, wq_3_3, wq_3_4, wq_3_5, wq_3_6, wq_3_7, wq_3_8, wq_4_0, wq_4_1, wq_4_2, wq_4_3, wq_4_4, wq_4_5, wq_4_6, wq_4_7, wq_4_8, wq_5_0, wq_5_1, wq_5_2, wq_5_3, wq_5_4, wq_5_5, wq_5_6, wq_5_7, wq_5_8, wq_6_0, wq_6_1, wq_6_2, wq_6_3, wq_6_4, wq_6_5, wq_6_6, wq_6_7, wq_6_8, wq_7_0, wq_7_1, wq_7_2, wq_7_3, wq_7_4, wq_7_5, wq_7_6, wq_7_7, wq_7_8, wq_8_0, wq_8_1, wq_8_2, wq_8_3, wq_8_4, wq_8_5, wq_8_6, wq_8_7, wq_8_8, egaps, bD, F.word, F.kids, List.map_cons, List.map_nil, e2, setN, eb, nE, ht, hv, get_ok]
    simp only [hold]
    exact ⟨by trivial, _, _, _, _, _, _, _, _, rfl⟩
  | since p q lo hi =>
    simp only [lhBody, fn_1009]
    simp only [F.word, F.kids, List.map_cons, List.map_nil, bD] at egaps
    have e2 : slD h (F.since p q lo hi).d (some (-2)) none = some (.tup [.int lo, F.oD hi]) := neg2' _ _ _ _ _ _
    have eb := ebeh q lo hi none none rfl
    have es := esin p q lo hi none rfl
    simp only [F.word, F.kids, List.map_cons, List.map_nil, bD] at es
    simp only [F.word, F.kids, List.map_cons, List.map_nil, bD] at eb
    simp (disch := first | assumption | omega | (simp only [List.length_cons, List.length_nil]; omega)) only [x_c, x_g, x_v0, x_v1, x_v2, x_v3, x_v4, x_v5, x_v6, x_v7, x_v8, x_v9, x_v10, x_v11, x_v12, x_v13, x_v14, x_v15, x_tup, x_lst, x_op, x_neg, x_not, x_and, x_or, x_ite, x_cmp, x_chain, x_ix, x_sl, x_rev, x_call, x_meth, x_new, x_fld, x_isi, x_bi, x_listof, x_bm, x_nil, x_cons, x_eno, x_eso, x_ival, x_irange, x_irev, x_fcall, x_flst, x_flistof, x_asg, x_asgB, x_ex, x_ret, x_retF, x_site, x_raise, x_cont, x_pass, x_par, x_snil, x_scons, x_tnm, x_ttup, x_tsub, x_tfld, x_cono, x_con0, y_thenT, y_thenF, y_then, y_elseT, y_elseF, y_else, y_ifT, y_ifF, y_if, y_not, y_neg, y_opt, y_chT, y_chF, y_ch, y_seq, y_seqR, y_seqN, y_seqC, y_len0, y_len1, y_len2, y_len3, y_len4, y_len5, y_len6, y_fldQ, y_fldS, y_methQ, y_methS, y_setQ, y_setS, y_new, y_non, y_rvN, y_dV, y_dN, y_bindi, y_bindE, y_map, f_nx, f_rt, f_rn, f_ex, l_w0, l_ws, v_bind, v_some, v_add, v_sub, v_lt, v_le, v_gt, v_ge, v_eqI, v_eqS, v_neN, v_isN, v_isNN, v_ixL, v_ixT, v_lenS, v_lenL, v_lenT, List.getElem?_cons_zero, List.getElem?_cons_succ, List.set_cons_zero, List.set_cons_succ, List.length_cons, List.length_nil, Nat.reduceAdd, Option.map_some, if_true, f_if, Option.bind_some, Bool.true_or, Bool.or_true, Bool.false_or, Bool.or_false, Bool.true_and, Bool.and_true, Bool.false_and, Bool.and_false, Bool.not_true, Bool.not_false, Bool.false_eq_true, if_false, wq_0_0, wq_0_1, wq_0_2, wq_0_3, wq_0_4, wq_0_5, wq_0_6, wq_0_7, wq_0_8, wq_1_0, wq_1_1, wq_1_2, wq_1_3, wq_1_4, wq_1_5, wq_1_6, wq_1_7, wq_1_8, wq_2_0, wq_2_1, wq_2_2, wq_2_3, wq_2_4, wq_2_5, wq_2_6, wq_2_7, wq_2_8, wq_3_0, wq_3_1, wq_3_2, wq_3_3, wq_3_4, wq_3_5, wq_3_6, wq_3_7, wq_3_8, wq_4_0, wq_4_1, wq_4_2, wq_4_3, wq_4_4, wq_4_5, wq_4_6, wq_4_7, wq_4_8, wq_5_0, wq_5_1, wq_5_2, wq_5_3, wq_5_4, wq_5_5, wq_5_6, wq_5_7, wq_5_8, wq_6_0, wq_6_1, wq_6_2, wq_6_3, wq_6_4, wq_6_5, wq_6_6, wq_6_7, wq_6_8, wq_7_0, wq_7_1, wq_7_2, wq_7_3, wq_7_4, wq_7_5, wq_7_6, wq_7_7, wq_7_8, wq_8_0, wq_8_1, wq_8_2, wq_8_3, wq_8_4, wq_8_5, wq_8_6, wq_8_7, wq_8_8, egaps, bD, F.word, F.kids, List.map_cons, List.map_nil, e2, setN, eb, es, nE, ht, hv, get_ok]
    simp only [hold]
    exact ⟨by trivial, _, _, _, _, _, _, _, _, rfl⟩
  | many p m b =>
    simp only [lhBody, fn_1009]
    simp only [F.word, F.kids, List.map_cons, List.map_nil, bD] at egaps
    have e3 : ixD cfg.gds h (F.many p m b).d (.int 3) = some (.int b) := rfl
    have e2 : ixD cfg.gds h (F.many p m b).d (.int 2) = some (.int m) := rfl
    have en := enear b none e3
    have ec := ecs b
    simp only [F.word, F.kids, List.map_cons, List.map_nil, bD] at en ec
    simp (disch := first | assumption | omega | (simp only [List.length_cons, List.length_nil]; omega)) only [x_c, x_g, x_v0, x_v1, x_v2, x_v3, x_v4, x_v5, x_v6, x_v7, x_v8, x_v9, x_v10, x_v11, x_v12, x_v13, x_v14, x_v15, x_tup, x_lst, x_op, x_neg, x_not, x_and, x_or, x_ite, x_cmp, x_chain, x_ix, x_sl, x_rev, x_call, x_meth, x_new, x_fld, x_isi, x_bi, x_listof, x_bm, x_nil, x_cons, x_eno, x_eso, x_ival, x_irange, x_irev, x_fcall, x_flst, x_flistof, x_asg, x_asgB, x_ex, x_ret, x_retF, x_site, x_raise, x_cont, x_pass, x_par, x_snil, x_scons, x_tnm, x_ttup, x_tsub, x_tfld, x_cono, x_con0, y_thenT, y_thenF, y_then, y_elseT, y_elseF, y_else, y_ifT, y_ifF, y_if, y_not, y_neg, y_opt, y_chT, y_chF, y_ch, y_seq, y_seqR, y_seqN, y_seqC, y_len0, y_len1, y_len2, y_len3, y_len4, y_len5, y_len6, y_fldQ, y_fldS, y_methQ, y_methS, y_setQ, y_setS, y_new, y_non, y_rvN, y_dV, y_dN, y_bindi, y_bindE, y_map, f_nx, f_rt, f_rn, f_ex, l_w0, l_ws, v_bind, v_some, v_add, v_sub, v_lt, v_le, v_gt, v_ge, v_eqI, v_eqS, v_neN, v_isN, v_isNN, v_ixL, v_ixT, v_lenS, v_lenL, v_lenT, List.getElem?_cons_zero, List.getElem?_cons_succ, List.set_cons_zero, List.set_cons_succ, List.length_cons, List.length_nil, Nat.reduceAdd, Option.map_some, if_true, f_if, Option.bind_some, Bool.true_or, Bool.or_true, Bool.false_or, Bool.or_false, Bool.true_and, Bool.and_true, Bool.false_and, Bool.and_false, Bool.not_true, Bool.not_false, Bool.false_eq_true, if_false, wq_0_0, wq_0_1, wq_0_2, wq_0_3, wq_0_4, wq_0_5, wq_0_6, wq_0_7, wq_0_8, wq_1_0, wq_1_1, wq_1_2, wq_1_3, wq_1_4, wq_1_5, wq_1_6, wq_1_7, wq_1_8, wq_2_0, wq_2_1, wq_2_2, wq_2_3, wq_2_4, wq_2_5, wq_2_6, wq_2_7, wq_2_8, wq_3_0, wq_3_1, wq_3_2, wq_3_3, wq_3_4, wq_3_5, wq_3_6, wq_3_7, wq_3_8, wq_4_0, wq_4_1, wq_4_2, wq_4_3, wq_4_4, wq_4_5, wq_4_6, wq_4_7, wq_4_8, wq_5_0, wq_5_1, wq_5_2, wq_5_3, wq_5_4, wq_5_5, wq_5_6, wq_5_7, wq_5_8, wq_6_0, wq_6_1, wq_6_2, wq_6_3, wq_6_4, wq_6_5, wq_6_6, wq_6_7, wq_6_8, wq_7_0, wq_7_1, wq_7_2, wq_7_3, wq_7_4, wq_7_5, wq_7_6, wq_7_7, wq_7_8, wq_8_0, wq_8_1, wq_8_2, wq_8_3, wq_8_4, wq_8_5, wq_8_6, wq_8_7, wq_8_8, egaps, bD, F.word, en, ec, F.kids, List.map_cons, List.map_nil, k0, e2, ht, hv, get_ok]
    simp only [hold]
    exact ⟨by trivial, _, _, _, _, _, _, _, _, rfl⟩
  | asmany p q b =>
    simp only [lhBody, fn_1009]
    simp only [F.word, F.kids, List.map_cons, List.map_nil, bD] at egaps
    have e3 : ixD cfg.gds h (F.asmany p q b).d (.int 3) = some (.int b) := rfl
    have en := enear b none e3
    have ec := ecs b
    simp only [F.word, F.kids, List.map_cons, List.map_nil, bD] at en ec
    simp (disch := first | assumption | omega | (simp only [List.length_cons, List.length_nil]; omega)) only [x_c, x_g, x_v0, x_v1, x_v2, x_v3, x_v4, x_v5, x_v6, x_v7, x_v8, x_v9, x_v10, x_v11, x_v12, x_v13, x_v14, x_v15, x_tup, x_lst, x_op, x_neg, x_not, x_and, x_or, x_ite, x_cmp, x_chain, x_ix, x_sl, x_rev, x_call, x_meth, x_new, x_fld, x_isi, x_bi, x_listof, x_bm, x_nil, x_cons, x_eno, x_eso, x_ival, x_irange, x_irev, x_fcall, x_flst, x_flistof, x_asg, x_asgB, x_ex, x_ret, x_retF, x_site, x_raise, x_cont, x_pass, x_par, x_snil, x_scons, x_tnm, x_ttup, x_tsub, x_tfld, x_cono, x_con0, y_thenT, y_thenF, y_then, y_elseT, y_elseF, y_else, y_ifT, y_ifF, y_if, y_not, y_neg, y_opt, y_chT, y_chF, y_ch, y_seq, y_seqR, y_seqN, y_seqC, y_len0, y_len1, y_len2, y_len3, y_len4, y_len5, y_len6, y_fldQ, y_fldS, y_methQ, y_methS, y_setQ, y_setS, y_new, y_non, y_rvN, y_dV, y_dN, y_bindi, y_bindE, y_map, f_nx, f_rt, f_rn, f_ex, l_w0, l_ws, v_bind, v_some, v_add, v_sub, v_lt, v_le, v_gt, v_ge, v_eqI, v_eqS, v_neN, v_isN, v_isNN, v_ixL, v_ixT, v_lenS, v_lenL, v_lenT, List.getElem?_cons_zero, List.getElem?_cons_succ, List.set_cons_zero, List.set_cons_succ, List.length_cons, List.length_nil, Nat.reduceAdd, Option.map_some, if_true, f_if, Option.bind_some, Bool.true_or, Bool.or_true, Bool.false_or, Bool.or_false, Bool.true_and, Bool.and_true, Bool.false_and, Bool.and_false, Bool.not_true, Bool.not_false, Bool.false_eq_true, if_false, wq_0_0, wq_0_1, wq_0_2, wq_0_3, wq_0_4, wq_0_5, wq_0_6, wq_0_7, wq_0_8, wq_1_0, wq_1_1, wq_1_2, wq_1_3, wq_1_4, wq_1_5, wq_1_6, wq_1_7, wq_1_8, wq_2_0, wq_2_1, wq_2_2, wq_2_3, wq_2_4, wq_2_5, wq_2_6, wq_2_7, wq_2_8, wq_3_0, wq_3_1, wq_3_2, wq_3_3, wq_3_4, wq_3_5, wq_3_6, wq_3_7, wq_3_8, wq_4_0, wq_4_1, wq_4_2, wq_4_3, wq_4_4, wq_4_5, wq_4_6, wq_4_7, wq_4_8, wq_5_0, wq_5_1, wq_5_2, wq_5_3, wq_5_4, wq_5_5, wq_5_6, wq_5_7, wq_5_8, wq_6_0, wq_6_1, wq_6_2, wq_6_3, wq_6_4, wq_6_5, wq_6_6, wq_6_7, wq_6_8, wq_7_0, wq_7_1, wq_7_2, wq_7_3, wq_7_4, wq_7_5, wq_7_6, wq_7_7, wq_7_8, wq_8_0, wq_8_1, wq_8_2, wq_8_3, wq_8_4, wq_8_5, wq_8_6, wq_8_7, wq_8_8, egaps, bD, F.word, en, ec, F.kids, List.map_cons, List.map_nil, k0, k1, ht, hv, get_ok]
    simp only [hold, Int.ofNat_le]
    exact ⟨by trivial, _, _, _, _, _, _, _, _, rfl⟩
theorem law_holds (r : List Hap) (hr : r.length ≤ 1000) : ∀ (f : F) (n : Nat), f.dep + 2 ≤ n → ∀ h : VH, run cfg tbl n 1009 [f.d, rowD r] h = .ok (.new ((holds r f).map .bl)) h := by
  intro f
  generalize hd : f.dep = z
  induction z using Nat.strongRecOn generalizing f with
  | ind z ih =>
  intro n hn h
  subst hd
  have hdp := F.dep_pos f
  obtain ⟨n, rfl⟩ : ∃ q, n = q + 1 := ⟨n - 1, by omega⟩
  have etold : evE cfg (run cfg tbl n) (.lc (.call 1009 (.cons (.v 4) (.cons (.v 1) .nil))) (.nm 4) (.val (.sl (.v 0) (.some (.c (.int 1))) .none)) (.some (.isi (.v 4) [.tuple])) [4]) [some f.d, some (rowD r), some (.str f.word), none, none, none, none, none, none, none, none, none, none, none, none] h = .ok (.lst (f.kids.map (bD r))) h := by
    have ih' : ∀ y, y ∈ f.kids → run cfg tbl n 1009 [y.d, rowD r] h = .ok (.new ((holds r y).map .bl)) h := fun y hy => ih y.dep (F.dep_kids f y hy) y rfl n (by have := F.dep_kids f y hy; omega) h
    cases f with
    | is w => simp (disch := first | assumption | omega | (simp only [List.length_cons, List.length_nil]; omega)) only [x_c, x_g, x_v0, x_v1, x_v2, x_v3, x_v4, x_v5, x_v6, x_v7, x_v8, x_v9, x_v10, x_v11, x_v12, x_v13, x_v14, x_v15, x_tup, x_lst, x_op, x_neg, x_not, x_and, x_or, x_ite, x_cmp, x_chain, x_ix, x_sl, x_rev, x_call, x_meth, x_new, x_fld, x_isi, x_bi, x_listof, x_bm, x_nil, x_cons, x_eno, x_eso, x_ival, x_irange, x_irev, x_fcall, x_flst, x_flistof, x_asg, x_asgB, x_ex, x_ret, x_retF, x_site, x_raise, x_cont, x_pass, x_par, x_snil, x_scons, x_tnm, x_ttup, x_tsub, x_tfld, x_cono, x_con0, y_thenT, y_thenF, y_then, y_elseT, y_elseF, y_else, y_ifT, y_ifF, y_if, y_not, y_neg, y_opt, y_chT, y_chF, y_ch, y_seq, y_seqR, y_seqN, y_seqC, y_len0, y_len1, y_len2, y_len3, y_len4, y_len5, y_len6, y_fldQ, y_fldS, y_methQ, y_methS, y_setQ, y_setS, y_new, y_non, y_rvN, y_dV, y_dN, y_bindi, y_bindE, y_map, f_nx, f_rt, f_rn, f_ex, l_w0, l_ws, v_bind, v_some, v_add, v_sub, v_lt, v_le, v_gt, v_ge, v_eqI, v_eqS, v_neN, v_isN, v_isNN, v_ixL, v_ixT, v_lenS, v_lenL, v_lenT, List.getElem?_cons_zero, List.getElem?_cons_succ, List.set_cons_zero, List.set_cons_succ, List.length_cons, List.length_nil, Nat.reduceAdd, Option.map_some, if_true, f_if, Option.bind_some, Bool.true_or, Bool.or_true, Bool.false_or, Bool.or_false, Bool.true_and, Bool.and_true, Bool.false_and, Bool.and_false, Bool.not_true, Bool.not_false, Bool.false_eq_true, if_false, wq_0_0, wq_0_1, wq_0_2, wq_0_3, wq_0_4, wq_0_5, wq_0_6, wq_0_7, wq_0_8, wq_1_0, wq_1_1, wq_1_2, wq_1_3, wq_1_4, wq_1_5, wq_1_6, wq_1_7, wq_1_8, wq_2_0, wq_2_1, wq_2_2, wq_2_3, wq_2_4, wq_2_5, wq_2_6, wq_2_7, wq_2_8, wq_3_0, wq_3_1, wq_3_2, wq_3_3, wq_3_4, wq_3_5, wq_3_6, wq_3_7, wq_3_8, wq_4_0, wq_4_1, wq_4_2, wq_4_3, wq_4_4, wq_4_5, wq_4_6, wq_4_7, wq_4_8, wq_5_0, wq_5_1, wq_5_2, wq_5_3, wq_5_4, wq_5_5, wq_5_6, wq_5_7, wq_5_8, wq_6_0, wq_6_1, wq_6_2, wq_6_3, wq_6_4, wq_6_5, wq_6_6, wq_6_7, wq_6_8, wq_7_0, wq_7_1, wq_7_2, wq_7_3, wq_7_4, wq_7_5, wq_7_6, wq_7_7, wq_7_8, wq_8_0, wq_8_1, wq_8_2, wq_8_3, wq_8_4, wq_8_5, wq_8_6, wq_8_7, wq_8_8, x_for, x_lc, x_flc, l_for0, l_for, l_goN, l_goC, l_goR, l_goL, l_lc0, l_lc, l_lcT, l_lcF, l_lcA0, l_lcA1, l_lcA2, l_lcA3, l_vT, l_vL, F.d, sl_1, isi_I]; rfl
    | frm w => simp (disch := first | assumption | omega | (simp only [List.length_cons, List.length_nil]; omega)) only [x_c, x_g, x_v0, x_v1, x_v2, x_v3, x_v4, x_v5, x_v6, x_v7, x_v8, x_v9, x_v10, x_v11, x_v12, x_v13, x_v14, x_v15, x_tup, x_lst, x_op, x_neg, x_not, x_and, x_or, x_ite, x_cmp, x_chain, x_ix, x_sl, x_rev, x_call, x_meth, x_new, x_fld, x_isi, x_bi, x_listof, x_bm, x_nil, x_cons, x_eno, x_eso, x_ival, x_irange, x_irev, x_fcall, x_flst, x_flistof, x_asg, x_asgB, x_ex, x_ret, x_retF, x_site, x_raise, x_cont, x_pass, x_par, x_snil, x_scons, x_tnm, x_ttup, x_tsub, x_tfld, x_cono, x_con0, y_thenT, y_thenF, y_then, y_elseT, y_elseF, y_else, y_ifT, y_ifF, y_if, y_not, y_neg, y_opt, y_chT, y_chF, y_ch, y_seq, y_seqR, y_seqN, y_seqC, y_len0, y_len1, y_len2, y_len3, y_len4, y_len5, y_len6, y_fldQ, y_fldS, y_methQ, y_methS, y_setQ, y_setS, y_new, y_non, y_rvN, y_dV, y_dN, y_bindi, y_bindE, y_map, f_nx, f_rt, f_rn, f_ex, l_w0, l_ws, v_bind, v_some, v_add, v_sub, v_lt, v_le, v_gt, v_ge, v_eqI, v_eqS, v_neN, v_isN, v_isNN, v_ixL, v_ixT, v_lenS, v_lenL, v_lenT, List.getElem?_cons_zero, List.getElem?_cons_succ, List.set_cons_zero, List.set_cons_succ, List.length_cons, List.length_nil, Nat.reduceAdd, Option.map_some, if_true, f_if, Option.bind_some, Bool.true_or, Bool.or_true, Bool.false_or, Bool.or_false, Bool.true_and, Bool.and_true, Bool.false_and, Bool.and_false, Bool.not_true, Bool.not_false, Bool.false_eq_true, if_false, wq_0_0, wq_0_1, wq_0_2, wq_0_3, wq_0_4, wq_0_5, wq_0_6, wq_0_7, wq_0_8, wq_1_0, wq_1_1, wq_1_2, wq_1_3, wq_1_4, wq_1_5, wq_1_6, wq_1_7, wq_1_8, wq_2_0, wq_2_1, wq_2_2, wq_2_3, wq_2_4, wq_2_5, wq_2_6, wq_2_7, wq_2_8, wq_3_0, wq_3_1, wq_3_2, wq_3_3, wq_3_4, wq_3_5, wq_3_6, wq_3_7, wq_3_8, wq_4_0, wq_4_1, wq_4_2, wq_4_3, wq_4_4, wq_4_5, wq_4_6, wq_4_7, wq_4_8, wq_5_0, wq_5_1, wq_5_2, wq_5_3, wq_5_4, wq_5_5, wq_5_6, wq_5_7, wq_5_8, wq_6_0, wq_6_1, wq_6_2, wq_6_3, wq_6_4, wq_6_5, wq_6_6, wq_6_7, wq_6_8, wq_7_0, wq_7_1, wq_7_2, wq_7_3, wq_7_4, wq_7_5, wq_7_6, wq_7_7, wq_7_8, wq_8_0, wq_8_1, wq_8_2, wq_8_3, wq_8_4, wq_8_5, wq_8_6, wq_8_7, wq_8_8, x_for, x_lc, x_flc, l_for0, l_for, l_goN, l_goC, l_goR, l_goL, l_lc0, l_lc, l_lcT, l_lcF, l_lcA0, l_lcA1, l_lcA2, l_lcA3, l_vT, l_vL, F.d, sl_1, isi_I]; rfl
    | not p => simp (disch := first | assumption | omega | (simp only [List.length_cons, List.length_nil]; omega)) only [x_c, x_g, x_v0, x_v1, x_v2, x_v3, x_v4, x_v5, x_v6, x_v7, x_v8, x_v9, x_v10, x_v11, x_v12, x_v13, x_v14, x_v15, x_tup, x_lst, x_op, x_neg, x_not, x_and, x_or, x_ite, x_cmp, x_chain, x_ix, x_sl, x_rev, x_call, x_meth, x_new, x_fld, x_isi, x_bi, x_listof, x_bm, x_nil, x_cons, x_eno, x_eso, x_ival, x_irange, x_irev, x_fcall, x_flst, x_flistof, x_asg, x_asgB, x_ex, x_ret, x_retF, x_site, x_raise, x_cont, x_pass, x_par, x_snil, x_scons, x_tnm, x_ttup, x_tsub, x_tfld, x_cono, x_con0, y_thenT, y_thenF, y_then, y_elseT, y_elseF, y_else, y_ifT, y_ifF, y_if, y_not, y_neg, y_opt, y_chT, y_chF, y_ch, y_seq, y_seqR, y_seqN, y_seqC, y_len0, y_len1, y_len2, y_len3, y_len4, y_len5, y_len6, y_fldQ, y_fldS, y_methQ, y_methS, y_setQ, y_setS, y_new, y_non, y_rvN, y_dV, y_dN, y_bindi, y_bindE, y_map, f_nx, f_rt, f_rn, f_ex, l_w0, l_ws, v_bind, v_some, v_add, v_sub, v_lt, v_le, v_gt, v_ge, v_eqI, v_eqS, v_neN, v_isN, v_isNN, v_ixL, v_ixT, v_lenS, v_lenL, v_lenT, List.getElem?_cons_zero, List.getElem?_cons_succ, List.set_cons_zero, List.set_cons_succ, List.length_cons, List.length_nil, Nat.reduceAdd, Option.map_some, if_true, f_if, Option.bind_some, Bool.true_or, Bool.or_true, Bool.false_or, Bool.or_false, Bool.true_and, Bool.and_true, Bool.false_and, Bool.and_false, Bool.not_true, Bool.not_false, Bool.false_eq_true, if_false, wq_0_0, wq_0_1, wq_0_2, wq_0_3, wq_0_4, wq_0_5, wq_0_6, wq_0_7, wq_0_8, wq_1_0, wq_1_1, wq_1_2, wq_1_3, wq_1_4, wq_1_5, wq_1_6, wq_1_7, wq_1_8, wq_2_0, wq_2_1, wq_2_2, wq_2_3, wq_2_4, wq_2_5, wq_2_6, wq_2_7, wq_2_8, wq_3_0, wq_3_1, wq_3_2, wq_3_3, wq_3_4, wq_3_5, wq_3_6, wq_3_7, wq_3_8, wq_4_0, wq_4_1, wq_4_2, wq_4_3, wq_4_4, wq_4_5, wq_4_6, wq_4_7, wq_4_8, wq_5_0, wq_5_1, wq_5_2, wq_5_3, wq_5_4, wq_5_5, wq_5_6, wq_5_7, wq_5_8, wq_6_0, wq_6_1, wq_6_2, wq_6_3, wq_6_4, wq_6_5, wq_6_6, wq_6_7, wq_6_8, wq_7_0, wq_7_1, wq_7_2, wq_7_3, wq_7_4, wq_7_5, wq_7_6, wq_7_7, wq_7_8, wq_8_0, wq_8_1, wq_8_2, wq_8_3, wq_8_4, wq_8_5, wq_8_6, wq_8_7, wq_8_8, x_for, x_lc, x_flc, l_for0, l_for, l_goN, l_goC, l_goR, l_goL, l_lc0, l_lc, l_lcT, l_lcF, l_lcA0, l_lcA1, l_lcA2, l_lcA3, l_vT, l_vL, F.d, sl_1, isi_I, isi_O, F.isi, ih' p (by simp [F.kids])]; rfl
    | and p q => simp (disch := first | assumption | omega | (simp only [List.length_cons, List.length_nil]; omega)) only [x_c, x_g, x_v0, x_v1, x_v2, x_v3, x_v4, x_v5, x_v6, x_v7, x_v8, x_v9, x_v10, x_v11, x_v12, x_v13, x_v14, x_v15, x_tup, x_lst, x_op, x_neg, x_not, x_and, x_or, x_ite, x_cmp, x_chain, x_ix, x_sl, x_rev, x_call, x_meth, x_new, x_fld, x_isi, x_bi, x_listof, x_bm, x_nil, x_cons, x_eno, x_eso, x_ival, x_irange, x_irev, x_fcall, x_flst, x_flistof, x_asg, x_asgB, x_ex, x_ret, x_retF, x_site, x_raise, x_cont, x_pass, x_par, x_snil, x_scons, x_tnm, x_ttup, x_tsub, x_tfld, x_cono, x_con0, y_thenT, y_thenF, y_then, y_elseT, y_elseF, y_else, y_ifT, y_ifF, y_if, y_not, y_neg, y_opt, y_chT, y_chF, y_ch, y_seq, y_seqR, y_seqN, y_seqC, y_len0, y_len1, y_len2, y_len3, y_len4, y_len5, y_len6, y_fldQ, y_fldS, y_methQ, y_methS, y_setQ, y_setS, y_new, y_non, y_rvN, y_dV, y_dN, y_bindi, y_bindE, y_map, f_nx, f_rt, f_rn, f_ex, l_w0, l_ws, v_bind, v_some, v_add, v_sub, v_lt, v_le, v_gt, v_ge, v_eqI, v_eqS, v_neN, v_isN, v_isNN, v_ixL, v_ixT, v_lenS, v_lenL, v_lenT, List.getElem?_cons_zero, List.getElem?_cons_succ, List.set_cons_zero, List.set_cons_succ, List.length_cons, List.length_nil, Nat.reduceAdd, Option.map_some, if_true, f_if, Option.bind_some, Bool.true_or, Bool.or_true, Bool.false_or, Bool.or_false, Bool.true_and, Bool.and_true, Bool.false_and, Bool.and_false, Bool.not_true, Bool.not_false, Bool.false_eq_true, if_false, wq_0_0, wq_0_1, wq_0_2, wq_0_3, wq_0_4, wq_0_5, wq_0_6, wq_0_7, wq_0_8, wq_1_0, wq_1_1, wq_1_2, wq_1_3, wq_1_4, wq_1_5, wq_1_6, wq_1_7, wq_1_8, wq_2_0, wq_2_1, wq_2_2, wq_2_3, wq_2_4, wq_2_5, wq_2_6, wq_2_7, wq_2_8, wq_3_0, wq_3_1, wq_3_2, wq_3_3, wq_3_4, wq_3_5, wq_3_6, wq_3_7, wq_3_8, wq_4_0, wq_4_1, wq_4_2, wq_4_3, wq_4_4, wq_4_5, wq_4_6, wq_4_7, wq_4_8, wq_5_0, wq_5_1, wq_5_2, wq_5_3, wq_5_4, wq_5_5, wq_5_6, wq_5_7, wq_5_8, wq_6_0, wq_6_1, wq_6_2, wq_6_3, wq_6_4, wq_6_5, wq_6_6, wq_6_7, wq_6_8, wq_7_0, wq_7_1, wq_7_2, wq_7_3, wq_7_4, wq_7_5, wq_7_6, wq_7_7, wq_7_8, wq_8_0, wq_8_1, wq_8_2, wq_8_3, wq_8_4, wq_8_5, wq_8_6, wq_8_7, wq_8_8, x_for, x_lc, x_flc, l_for0, l_for, l_goN, l_goC, l_goR, l_goL, l_lc0, l_lc, l_lcT, l_lcF, l_lcA0, l_lcA1, l_lcA2, l_lcA3, l_vT, l_vL, F.d, sl_1, isi_I, isi_O, F.isi, ih' p (by simp [F.kids]), ih' q (by simp [F.kids])]; rfl
    | or p q => simp (disch := first | assumption | omega | (simp only [List.length_cons, List.length_nil]; omega)) only [x_c, x_g, x_v0, x_v1, x_v2, x_v3, x_v4, x_v5, x_v6, x_v7, x_v8, x_v9, x_v10, x_v11, x_v12, x_v13, x_v14, x_v15, x_tup, x_lst, x_op, x_neg, x_not, x_and, x_or, x_ite, x_cmp, x_chain, x_ix, x_sl, x_rev, x_call, x_meth, x_new, x_fld, x_isi, x_bi, x_listof, x_bm, x_nil, x_cons, x_eno, x_eso, x_ival, x_irange, x_irev, x_fcall, x_flst, x_flistof, x_asg, x_asgB, x_ex, x_ret, x_retF, x_site, x_raise, x_cont, x_pass, x_par, x_snil, x_scons, x_tnm, x_ttup, x_tsub, x_tfld, x_cono, x_con0, y_thenT, y_thenF, y_then, y_elseT, y_elseF, y_else, y_ifT, y_ifF, y_if, y_not, y_neg, y_opt, y_chT, y_chF, y_ch, y_seq, y_seqR, y_seqN, y_seqC, y_len0, y_len1, y_len2, y_len3, y_len4, y_len5, y_len6, y_fldQ, y_fldS, y_methQ, y_methS, y_setQ, y_setS, y_new, y_non, y_rvN, y_dV, y_dN, y_bindi, y_bindE, y_map, f_nx, f_rt, f_rn, f_ex, l_w0, l_ws, v_bind, v_some, v_add, v_sub, v_lt, v_le, v_gt, v_ge, v_eqI, v_eqS, v_neN, v_isN, v_isNN, v_ixL, v_ixT, v_lenS, v_lenL, v_lenT, List.getElem?_cons_zero, List.getElem?_cons_succ, List.set_cons_zero, List.set_cons_succ, List.length_cons, List.length_nil, Nat.reduceAdd, Option.map_some, if_true, f_if, Option.bind_some, Bool.true_or, Bool.or_true, Bool.false_or, Bool.or_false, Bool.true_and, Bool.and_true, Bool.false_and, Bool.and_false, Bool.not_true, Bool.not_false, Bool.false_eq_true, if_false, wq_0_0, wq_0_1, wq_0_2, wq_0_3, wq_0_4, wq_0_5, wq_0_6, wq_0_7, wq_0_8, wq_1_0, wq_1_1, wq_1_2, wq_1_3, wq_1_4, wq_1_5, wq_1_6, wq_1_7, wq_1_8, wq_2_0, wq_2_1, wq_2_2, wq_2_3, wq_2_4, wq_2_5, wq_2_6, wq_2_7, wq_2_8, wq_3_0, wq_3_1, wq_3_2, wq_3_3, wq_3_4, wq_3_5, wq_3_6, wq_3_7, wq_3_8, wq_4_0, wq_4_1, wq_4_2, wq_4_3, wq_4_4, wq_4_5, wq_4_6, wq_4_7, wq_4_8, wq_5_0, wq_5_1, wq_5_2, wq_5_3, wq_5_4, wq_5_5, wq_5_6, wq_5_7, wq_5_8, wq_6_0, wq_6_1, wq_6_2, wq_6_3, wq_6_4, wq_6_5, wq_6_6, wq_6_7, wq_6_8, wq_7_0, wq_7_1, wq_7_2, wq_7_3, wq_7_4, wq_7_5, wq_7_6, wq_7_7, wq_7_8, wq_8_0, wq_8_1, wq_8_2, wq_8_3, wq_8_4, wq_8_5, wq_8_6, wq_8_7, wq_8_8, x_for, x_lc, x_flc, l_for0, l_for, l_goN, l_goC, l_goR, l_goL, l_lc0, l_lc, l_lcT, l_lcF, l_lcA0, l_lcA1, l_lcA2, l_lcA3, l_vT, l_vL, F.d, sl_1, isi_I, isi_O, F.isi, ih' p (by simp [F.kids]), ih' q (by simp [F.kids])]; rfl
    | behind p a b => simp (disch := first | assumption | omega | (simp only [List.length_cons, List.length_nil]; omega)) only [x_c, x_g, x_v0, x_v1, x_v2, x_v3, x_v4, x_v5, x_v6, x_v7, x_v8, x_v9, x_v10, x_v11, x_v12, x_v13, x_v14, x_v15, x_tup, x_lst, x_op, x_neg, x_not, x_and, x_or, x_ite, x_cmp, x_chain, x_ix, x_sl, x_rev, x_call, x_meth, x_new, x_fld, x_isi, x_bi, x_listof, x_bm, x_nil, x_cons, x_eno, x_eso, x_ival, x_irange, x_irev, x_fcall, x_flst, x_flistof, x_asg, x_asgB, x_ex, x_ret, x_retF, x_site, x_raise, x_cont, x_pass, x_par, x_snil, x_scons, x_tnm, x_ttup, x_tsub, x_tfld, x_cono, x_con0, y_thenT, y_thenF, y_then, y_elseT, y_elseF, y_else, y_ifT, y_ifF, y_if, y_not, y_neg, y_opt, y_chT, y_chF, y_ch, y_seq, y_seqR, y_seqN, y_seqC, y_len0, y_len1, y_len2, y_len3, y_len4, y_len5, y_len6, y_fldQ, y_fldS, y_methQ, y_methS, y_setQ, y_setS, y_new, y_non, y_rvN, y_dV, y_dN, y_bindi, y_bindE, y_map, f_nx, f_rt, f_rn, f_ex, l_w0, l_ws, v_bind, v_some, v_add, v_sub, v_lt, v_le, v_gt, v_ge, v_eqI, v_eqS, v_neN, v_isN, v_isNN, v_ixL, v_ixT, v_lenS, v_lenL, v_lenT, List.getElem?_cons_zero, List.getElem?_cons_succ, List.set_cons_zero, List.set_cons_succ, List.length_cons, List.length_nil, Nat.reduceAdd, Option.map_some, if_true, f_if, Option.bind_some, Bool.true_or, Bool.or_true, Bool.false_or, Bool.or_false, Bool.true_and, Bool.and_true, Bool.false_and, Bool.and_false, Bool.not_true, Bool.not_false, Bool.false_eq_true, if_false, wq_0_0, wq_0_1, wq_0_2, wq_0_3, wq_0_4, wq_0_5, wq_0_6, wq_0_7, wq_0_8, wq_1_0, wq_1_1, wq_1_2, wq_1_3, wq_1_4, wq_1_5, wq_1_6, wq_1_7, wq_1_8, wq_2_0, wq_2_1, wq_2_2, wq_2_3, wq_2_4, wq_2_5, wq_2_6, wq_2_7, wq_2_8, wq_3_0, wq_3_1, wq_3_2, wq_3_3, wq_3_4, wq_3_5, wq_3_6, wq_3_7, wq_3_8, wq_4_0, wq_4_1, wq_4_2, wq_4_3, wq_4_4, wq_4_5, wq_4_6, wq_4_7, wq_4_8, wq_5_0, wq_5_1, wq_5_2, wq_5_3, wq_5_4, wq_5_5, wq_5_6, wq_5_7, wq_5_8, wq_6_0, wq_6_1, wq_6_2, wq_6_3, wq_6_4, wq_6_5, wq_6_6, wq_6_7, wq_6_8, wq_7_0, wq_7_1, wq_7_2, wq_7_3, wq_7_4, wq_7_5, wq_7_6, wq_7_7, wq_7_8, wq_8_0, wq_8_1, wq_8_2, wq_8_3, wq_8_4, wq_8_5, wq_8_6, wq_8_7, wq_8_8, x_for, x_lc, x_flc, l_for0, l_for, l_goN, l_goC, l_goR, l_goL, l_lc0, l_lc, l_lcT, l_lcF, l_lcA0, l_lcA1, l_lcA2, l_lcA3, l_vT, l_vL, F.d, sl_1, isi_I, isi_O, F.isi, ih' p (by simp [F.kids])]; rfl
    | since p q a b => simp (disch := first | assumption | omega | (simp only [List.length_cons, List.length_nil]; omega)) only [x_c, x_g, x_v0, x_v1, x_v2, x_v3, x_v4, x_v5, x_v6, x_v7, x_v8, x_v9, x_v10, x_v11, x_v12, x_v13, x_v14, x_v15, x_tup, x_lst, x_op, x_neg, x_not, x_and, x_or, x_ite, x_cmp, x_chain, x_ix, x_sl, x_rev, x_call, x_meth, x_new, x_fld, x_isi, x_bi, x_listof, x_bm, x_nil, x_cons, x_eno, x_eso, x_ival, x_irange, x_irev, x_fcall, x_flst, x_flistof, x_asg, x_asgB, x_ex, x_ret, x_retF, x_site, x_raise, x_cont, x_pass, x_par, x_snil, x_scons, x_tnm, x_ttup, x_tsub, x_tfld, x_cono, x_con0, y_thenT, y_thenF, y_then, y_elseT, y_elseF, y_else, y_ifT, y_ifF, y_if, y_not, y_neg, y_opt, y_chT, y_chF, y_ch, y_seq, y_seqR, y_seqN, y_seqC, y_len0, y_len1, y_len2, y_len3, y_len4, y_len5, y_len6, y_fldQ, y_fldS, y_methQ, y_methS, y_setQ, y_setS, y_new, y_non, y_rvN, y_dV, y_dN, y_bindi, y_bindE, y_map, f_nx, f_rt, f_rn, f_ex, l_w0, l_ws, v_bind, v_some, v_add, v_sub, v_lt, v_le, v_gt, v_ge, v_eqI, v_eqS, v_neN, v_isN, v_isNN, v_ixL, v_ixT, v_lenS, v_lenL, v_lenT, List.getElem?_cons_zero, List.getElem?_cons_succ, List.set_cons_zero, List.set_cons_succ, List.length_cons, List.length_nil, Nat.reduceAdd, Option.map_some, if_true, f_if, Option.bind_some, Bool.true_or, Bool.or_true, Bool.false_or, Bool.or_false, Bool.true_and, Bool.and_true, Bool.false_and, Bool.and_false, Bool.not_true, Bool.not_false, Bool.false_eq_true, if_false, wq_0_0, wq_0_1, wq_0_2, wq_0_3, wq_0_4, wq_0_5, wq_0_6, wq_0_7, wq_0_8, wq_1_0, wq_1_1, wq_1_2, wq_1_3, wq_1_4, wq_1_5, wq_1_6, wq_1_7, wq_1_8, wq_2_0, wq_2_1, wq_2_2, wq_2_3, wq_2_4, wq_2_5, wq_2_6, wq_2_7, wq_2_8, wq_3_0, wq_3_1, wq_3_2, wq_3_3, wq_3_4, wq_3_5, wq_3_6, wq_3_7, wq_3_8, wq_4_0, wq_4_1, wq_4_2, wq_4_3, wq_4_4, wq_4_5, wq_4_6, wq_4_7, wq_4_8, wq_5_0, wq_5_1, wq_5_2, wq_5_3, wq_5_4, wq_5_5, wq_5_6, wq_5_7, wq_5_8, wq_6_0, wq_6_1, wq_6_2, wq_6_3, wq_6_4, wq_6_5, wq_6_6, wq_6_7, wq_6_8, wq_7_0, wq_7_1, wq_7_2, wq_7_3, wq_7_4, wq_7_5, wq_7_6, wq_7_7, wq_7_8, wq_8_0, wq_8_1, wq_8_2, wq_8_3, wq_8_4, wq_8_5, wq_8_6, wq_8_7, wq_8_8, x_for, x_lc, x_flc, l_for0, l_for, l_goN, l_goC, l_goR, l_goL, l_lc0, l_lc, l_lcT, l_lcF, l_lcA0, l_lcA1, l_lcA2, l_lcA3, l_vT, l_vL, F.d, sl_1, isi_I, isi_O, F.isi, ih' p (by simp [F.kids]), ih' q (by simp [F.kids])]; rfl
    | many p a b => simp (disch := first | assumption | omega | (simp only [List.length_cons, List.length_nil]; omega)) only [x_c, x_g, x_v0, x_v1, x_v2, x_v3, x_v4, x_v5, x_v6, x_v7, x_v8, x_v9, x_v10, x_v11, x_v12, x_v13, x_v14, x_v15, x_tup, x_lst, x_op, x_neg, x_not, x_and, x_or, x_ite, x_cmp, x_chain, x_ix, x_sl, x_rev, x_call, x_meth, x_new, x_fld, x_isi, x_bi, x_listof, x_bm, x_nil, x_cons, x_eno, x_eso, x_ival, x_irange, x_irev, x_fcall, x_flst, x_flistof, x_asg, x_asgB, x_ex, x_ret, x_retF, x_site, x_raise, x_cont, x_pass, x_par, x_snil, x_scons, x_tnm, x_ttup, x_tsub, x_tfld, x_cono, x_con0, y_thenT, y_thenF, y_then, y_elseT, y_elseF, y_else, y_ifT, y_ifF, y_if, y_not, y_neg, y_opt, y_chT, y_chF, y_ch, y_seq, y_seqR, y_seqN, y_seqC, y_len0, y_len1, y_len2, y_len3, y_len4, y_len5, y_len6, y_fldQ, y_fldS, y_methQ, y_methS, y_setQ, y_setS, y_new, y_non, y_rvN, y_dV, y_dN, y_bindi, y_bindE, y_map, f_nx, f_rt, f_rn, f_ex, l_w0, l_ws, v_bind, v_some, v_add, v_sub, v_lt, v_le, v_gt, v_ge, v_eqI, v_eqS, v_neN, v_isN, v_isNN, v_ixL, v_ixT, v_lenS, v_lenL, v_lenT, List.getElem?_cons_zero, List.getElem?_cons_succ, List.set_cons_zero, List.set_cons_succ, List.length_cons, List.length_nil, Nat.reduceAdd, Option.map_some, if_true, f_if, Option.bind_some, Bool.true_or, Bool.or_true, Bool.false_or, Bool.or_false, Bool.true_and, Bool.and_true, Bool.false_and, Bool.and_false, Bool.not_true, Bool.not_false, Bool.false_eq_true, if_false, wq_0_0, wq_0_1, wq_0_2, wq_0_3, wq_0_4, wq_0_5, wq_0_6, wq_0_7, wq_0_8, wq_1_0, wq_1_1, wq_1_2, wq_1_3, wq_1_4, wq_1_5, wq_1_6, wq_1_7, wq_1_8, wq_2_0, wq_2_1, wq_2_2, wq_2_3, wq_2_4, wq_2_5, wq_2_6, wq_2_7, wq_2_8, wq_3_0, wq_3_1, wq_3_2, wq_3_3, wq_3_4, wq_3_5, wq_3_6, wq_3_7, wq_3_8, wq_4_0, wq_4_1, wq_4_2, wq_4_3, wq_4_4, wq_4_5, wq_4_6, wq_4_7, wq_4_8, wq_5_0, wq_5_1, wq_5_2, wq_5_3, wq_5_4, wq_5_5, wq_5_6, wq_5_7, wq_5_8, wq_6_0, wq_6_1, wq_6_2, wq_6_3, wq_6_4, wq_6_5, wq_6_6, wq_6_7, wq_6_8, wq_7_0, wq_7_1, wq_7_2, wq_7_3, wq_7_4, wq_7_5, wq_7_6, wq_7_7, wq_7_8, wq_8_0, wq_8_1, wq_8_2, wq_8_3, wq_8_4, wq_8_5, wq_8_6, wq_8_7, wq_8_8, x_for, x_lc, x_flc, l_for0, l_for, l_goN, l_goC, l_goR, l_goL, l_lc0, l_lc, l_lcT, l_lcF, l_lcA0, l_lcA1, l_lcA2, l_lcA3, l_vT, l_vL, F.d, sl_1, isi_I, isi_O, F.isi, ih' p (by simp [F.kids])]; rfl
    | asmany p q b => simp (disch := first | assumption | omega | (simp only [List.length_cons, List.length_nil]; omega)) only [x_c, x_g, x_v0, x_v1, x_v2, x_v3, x_v4, x_v5, x_v6, x_v7, x_v8, x_v9, x_v10, x_v11, x_v12, x_v13, x_v14, x_v15, x_tup, x_lst, x_op, x_neg, x_not, x_and, x_or, x_ite, x_cmp, x_chain, x_ix, x_sl, x_rev, x_call, x_meth, x_new, x_fld, x_isi, x_bi, x_listof, x_bm, x_nil, x_cons, x_eno, x_eso, x_ival, x_irange, x_irev, x_fcall, x_flst, x_flistof, x_asg, x_asgB, x_ex, x_ret, x_retF, x_site, x_raise, x_cont, x_pass, x_par, x_snil, x_scons, x_tnm, x_ttup, x_tsub, x_tfld, x_cono, x_con0, y_thenT, y_thenF, y_then, y_elseT, y_elseF, y_else, y_ifT, y_ifF, y_if, y_not, y_neg, y_opt, y_chT, y_chF, y_ch, y_seq, y_seqR, y_seqN, y_seqC, y_len0, y_len1, y_len2, y_len3, y_len4, y_len5, y_len6, y_fldQ, y_fldS, y_methQ, y_methS, y_setQ, y_setS, y_new, y_non, y_rvN, y_dV, y_dN, y_bindi, y_bindE, y_map, f_nx, f_rt, f_rn, f_ex, l_w0, l_ws, v_bind, v_some, v_add, v_sub, v_lt, v_le, v_gt, v_ge, v_eqI, v_eqS, v_neN, v_isN, v_isNN, v_ixL, v_ixT, v_lenS, v_lenL, v_lenT, List.getElem?_cons_zero, List.getElem?_cons_succ, List.set_cons_zero, List.set_cons_succ, List.length_cons, List.length_nil, Nat.reduceAdd, Option.map_some, if_true, f_if, Option.bind_some, Bool.true_or, Bool.or_true, Bool.false_or, Bool.or_false, Bool.true_and, Bool.and_true, Bool.false_and, Bool.and_false, Bool.not_true, Bool.not_false, Bool.false_eq_true, if_false, wq_0_0, wq_0_1, wq_0_2, wq_0_3, wq_0_4, wq_0_5, wq_0_6, wq_0_7, wq_0_8, wq_1_0, wq_1_1, wq_1_2, wq_1_3, wq_1_4, wq_1_5, wq_1_6, wq_1_7, wq_1_8, wq_2_0, wq_2_1, wq_2_2, wq_2_3, wq_2_4, wq_2_5, wq_2_6, wq_2_7, wq_2_8, wq_3_0, wq_3_1, wq_3_2, wq_3_3, wq_3_4, wq_3_5, wq_3_6, wq_3_7, wq_3_8, wq_4_0, wq_4_1, wq_4_2, wq_4_3, wq_4_4, wq_4_5, wq_4_6, wq_4_7, wq_4_8, wq_5_0, wq_5_1, wq_5_2, wq_5_3, wq_5_4, wq_5_5, wq_5_6, wq_5_7, wq_5_8, wq_6_0, wq_6_1, wq_6_2, wq_6_3, wq_6_4, wq_6_5, wq_6_6, wq_6_7, wq_6_8, wq_7_0, wq_7_1, wq_7_2, wq_7_3, wq_7_4, wq_7_5, wq_7_6, wq_7_7, wq_7_8, wq_8_0, wq_8_1, wq_8_2, wq_8_3, wq_8_4, wq_8_5, wq_8_6, wq_8_7, wq_8_8, x_for, x_lc, x_flc, l_for0, l_for, l_goN, l_goC, l_goR, l_goL, l_lc0, l_lc, l_lcT, l_lcF, l_lcA0, l_lcA1, l_lcA2, l_lcA3, l_vT, l_vL, F.d, sl_1, isi_I, isi_O, F.isi, ih' p (by simp [F.kids]), ih' q (by simp [F.kids])]; rfl
  have key : (run cfg tbl (n + 1) 1009 [f.d, rowD r] h).get fun rv h' => rv = .new ((holds r f).map .bl) ∧ h' = h := by
    rw [u_1009]
    have hb : fn_1009.body = .cons (.asg (.nm 2) (.ix (.v 0) (.c (.int 0)))) (.cons (.asg (.nm 3) (.lc (.call 1009 (.cons (.v 4) (.cons (.v 1) .nil))) (.nm 4) (.val (.sl (.v 0) (.some (.c (.int 1))) .none)) (.some (.isi (.v 4) [.tuple])) [4]))
      (.cons (.asgB (.nm 5) (.lst .nil)) (.cons (.for_ (.nm 6) (.range (.cons (.bi .len (.cons (.v 1) .nil)) .nil)) lhBody) (.cons (.ret (.v 5)) .nil)))) := rfl
    rw [hb]
    simp (disch := first | assumption | omega | (simp only [List.length_cons, List.length_nil]; omega)) only [x_c, x_g, x_v0, x_v1, x_v2, x_v3, x_v4, x_v5, x_v6, x_v7, x_v8, x_v9, x_v10, x_v11, x_v12, x_v13, x_v14, x_v15, x_tup, x_lst, x_op, x_neg, x_not, x_and, x_or, x_ite, x_cmp, x_chain, x_ix, x_sl, x_rev, x_call, x_meth, x_new, x_fld, x_isi, x_bi, x_listof, x_bm, x_nil, x_cons, x_eno, x_eso, x_ival, x_irange, x_irev, x_fcall, x_flst, x_flistof, x_asg, x_asgB, x_ex, x_ret, x_retF, x_site, x_raise, x_cont, x_pass, x_par, x_snil, x_scons, x_tnm, x_ttup, x_tsub, x_tfld, x_cono, x_con0, y_thenT, y_thenF, y_then, y_elseT, y_elseF, y_else, y_ifT, y_ifF, y_if, y_not, y_neg, y_opt, y_chT, y_chF, y_ch, y_seq, y_seqR, y_seqN, y_seqC, y_len0, y_len1, y_len2, y_len3, y_len4, y_len5, y_len6, y_fldQ, y_fldS, y_methQ, y_methS, y_setQ, y_setS, y_new, y_non, y_rvN, y_dV, y_dN, y_bindi, y_bindE, y_map, f_nx, f_rt, f_rn, f_ex, l_w0, l_ws, v_bind, v_some, v_add, v_sub, v_lt, v_le, v_gt, v_ge, v_eqI, v_eqS, v_neN, v_isN, v_isNN, v_ixL, v_ixT, v_lenS, v_lenL, v_lenT, List.getElem?_cons_zero, List.getElem?_cons_succ, List.set_cons_zero, List.set_cons_succ, List.length_cons, List.length_nil, Nat.reduceAdd, Option.map_some, if_true, f_if, Option.bind_some, Bool.true_or, Bool.or_true, Bool.false_or, Bool.or_false, Bool.true_and, Bool.and_true, Bool.false_and, Bool.and_false, Bool.not_true, Bool.not_false, Bool.false_eq_true, if_false, wq_0_0, wq_0_1, wq_0_2, wq_0_3, wq_0_4, wq_0_5, wq_0_6, wq_0_7, wq_0_8, wq_1_0, wq_1_1, wq_1_2, wq_1_3, wq_1_4, wq_1_5, wq_1_6, wq_1_7, wq_1_8, wq_2_0, wq_2_1, wq_2_2, wq_2_3, wq_2_4, wq_2_5, wq_2_6, wq_2_7, wq_2_8, wq_3_0, wq_3_1, wq_3_2, wq_3_3, wq_3_4, wq_3_5, wq_3_6, wq_3_7, wq_3_8, wq_4_0, wq_4_1, wq_4_2, wq_4_3, wq_4_4, wq_4_5, wq_4_6, wq_4_7, wq_4_8, wq_5_0, wq_5_1, wq_5_2, wq_5_3, wq_5_4, wq_5_5, wq_5_6, wq_5_7, wq_5_8, wq_6_0, wq_6_1, wq_6_2, wq_6_3, wq_6_4, wq_6_5, wq_6_6, wq_6_7, wq_6_8, wq_7_0, wq_7_1, wq_7_2, wq_7_3, wq_7_4, wq_7_5, wq_7_6, wq_7_7, wq_7_8, wq_8_0, wq_8_1, wq_8_2, wq_8_3, wq_8_4, wq_8_5, wq_8_6, wq_8_7, wq_8_8, F.ix0, etold, x_flst, Nat.zero_le]
    refine get_fing (get_bind (e_for (fun i ρ h' => (∃ y4 y6 y7 y8 y9 y10 y11 y12 y13 y14, ρ = [some f.d, some (rowD r), some (.str f.word), some (.lst (f.kids.map (bD r))), y4, some (.ref h.length), y6, y7, y8, y9, y10, y11, y12, y13, y14]) ∧ h' = h ++ [.lst ((List.range i).map fun k => .bl (hold r f k))])
      (fun o h' => (∃ y4 y6 y7 y8 y9 y10 y11 y12 y13 y14, o = .nx [some f.d, some (rowD r), some (.str f.word), some (.lst (f.kids.map (bD r))), y4, some (.ref h.length), y6, y7, y8, y9, y10, y11, y12, y13, y14]) ∧ h' = h ++ [.lst ((List.range r.length).map fun k => .bl (hold r f k))])
      ((List.range r.length).map fun k : Nat => .int k) (by simp (disch := first | assumption | omega | (simp only [List.length_cons, List.length_nil]; omega)) only [x_c, x_g, x_v0, x_v1, x_v2, x_v3, x_v4, x_v5, x_v6, x_v7, x_v8, x_v9, x_v10, x_v11, x_v12, x_v13, x_v14, x_v15, x_tup, x_lst, x_op, x_neg, x_not, x_and, x_or, x_ite, x_cmp, x_chain, x_ix, x_sl, x_rev, x_call, x_meth, x_new, x_fld, x_isi, x_bi, x_listof, x_bm, x_nil, x_cons, x_eno, x_eso, x_ival, x_irange, x_irev, x_fcall, x_flst, x_flistof, x_asg, x_asgB, x_ex, x_ret, x_retF, x_site, x_raise, x_cont, x_pass, x_par, x_snil, x_scons, x_tnm, x_ttup, x_tsub, x_tfld, x_cono, x_con0, y_thenT, y_thenF, y_then, y_elseT, y_elseF, y_else, y_ifT, y_ifF, y_if, y_not, y_neg, y_opt, y_chT, y_chF, y_ch, y_seq, y_seqR, y_seqN, y_seqC, y_len0, y_len1, y_len2, y_len3, y_len4, y_len5, y_len6, y_fldQ, y_fldS, y_methQ, y_methS, y_setQ, y_setS, y_new, y_non, y_rvN, y_dV, y_dN, y_bindi, y_bindE, y_map, f_nx, f_rt, f_rn, f_ex, l_w0, l_ws, v_bind, v_some, v_add, v_sub, v_lt, v_le, v_gt, v_ge, v_eqI, v_eqS, v_neN, v_isN, v_isNN, v_ixL, v_ixT, v_lenS, v_lenL, v_lenT, List.getElem?_cons_zero, List.getElem?_cons_succ, List.set_cons_zero, List.set_cons_succ, List.length_cons, List.length_nil, Nat.reduceAdd, Option.map_some, if_true, f_if, Option.bind_some, Bool.true_or, Bool.or_true, Bool.false_or, Bool.or_false, Bool.true_and, Bool.and_true, Bool.false_and, Bool.and_false, Bool.not_true, Bool.not_false, Bool.false_eq_true, if_false, wq_0_0, wq_0_1, wq_0_2, wq_0_3, wq_0_4, wq_0_5, wq_0_6, wq_0_7, wq_0_8, wq_1_0, wq_1_1, wq_1_2, wq_1_3, wq_1_4, wq_1_5, wq_1_6, wq_1_7, wq_1_8, wq_2_0, wq_2_1, wq_2_2, wq_2_3, wq_2_4, wq_2_5, wq_2_6, wq_2_7, wq_2_8, wq_3_0, wq_3_1, wq_3_2, wq_3_3, wq_3_4, wq_3_5, wq_3_6, wq_3_7, wq_3_8, wq_4_0, wq_4_1, wq_4_2, wq_4_3, wq_4_4, wq_4_5, wq_4_6, wq_4_7, wq_4_8, wq_5_0, wq_5_1, wq_5_2, wq_5_3, wq_5_4, wq_5_5, wq_5_6, wq_5_7, wq_5_8, wq_6_0, wq_6_1, wq_6_2, wq_6_3, wq_6_4, wq_6_5, wq_6_6, wq_6_7, wq_6_8, wq_7_0, wq_7_1, wq_7_2, wq_7_3, wq_7_4, wq_7_5, wq_7_6, wq_7_7, wq_7_8, wq_8_0, wq_8_1, wq_8_2, wq_8_3, wq_8_4, wq_8_5, wq_8_6, wq_8_7, wq_8_8, rowD, List.length_map, range_nat r.length (by omega)]) ⟨⟨_, _, _, _, _, _, _, _, _, _, rfl⟩, rfl⟩ ?_ ?_) ?_)
      (P := fun o h' => o = .rt (.ref h.length) ∧ h' = h ++ [.lst ((List.range r.length).map fun k => .bl (hold r f k))]) ?_
    · rintro i x ρ h' hi ⟨⟨y4, y6, y7, y8, y9, y10, y11, y12, y13, y14, rfl⟩, rfl⟩
      obtain ⟨hil, rfl⟩ : i < r.length ∧ x = .int i := by
        obtain ⟨h1, h2⟩ := List.getElem?_eq_some_iff.mp hi
        simp at h1 h2
        exact ⟨h1, h2.symm⟩
      refine ⟨_, rfl, ?_⟩
      refine get_mono (ten hr f _ h.length _ (get_app_new h _ []) (by simp; omega) i hil y4 y7 y8 y9 y10 y11 y12 y13 y14) ?_
      rintro o h' ⟨rfl, z7, z8, z9, z10, z11, z12, z13, z14, rfl⟩
      refine ⟨⟨_, _, _, _, _, _, _, _, _, _, rfl⟩, ?_⟩
      rw [set_app_new, List.range_succ, List.map_append]; rfl
    · rintro ρ h' ⟨⟨y4, y6, y7, y8, y9, y10, y11, y12, y13, y14, rfl⟩, rfl⟩
      exact ⟨⟨_, _, _, _, _, _, _, _, _, _, rfl⟩, by simp⟩
    · rintro o h' ⟨⟨y4, y6, y7, y8, y9, y10, y11, y12, y13, y14, rfl⟩, rfl⟩
      simp (disch := first | assumption | omega | (simp only [List.length_cons, List.length_nil]; omega)) only [x_c, x_g, x_v0, x_v1, x_v2, x_v3, x_v4, x_v5, x_v6, x_v7, x_v8, x_v9, x_v10, x_v11, x_v12, x_v13, x_v14, x_v15, x_tup, x_lst, x_op, x_neg, x_not, x_and, x_or, x_ite, x_cmp, x_chain, x_ix, x_sl, x_rev, x_call, x_meth, x_new, x_fld, x_isi, x_bi, x_listof, x_bm, x_nil, x_cons, x_eno, x_eso, x_ival, x_irange, x_irev, x_fcall, x_flst, x_flistof, x_asg, x_asgB, x_ex, x_ret, x_retF, x_site, x_raise, x_cont, x_pass, x_par, x_snil, x_scons, x_tnm, x_ttup, x_tsub, x_tfld, x_cono, x_con0, y_thenT, y_thenF, y_then, y_elseT, y_elseF, y_else, y_ifT, y_ifF, y_if, y_not, y_neg, y_opt, y_chT, y_chF, y_ch, y_seq, y_seqR, y_seqN, y_seqC, y_len0, y_len1, y_len2, y_len3, y_len4, y_len5, y_len6, y_fldQ, y_fldS, y_methQ, y_methS, y_setQ, y_setS, y_new, y_non, y_rvN, y_dV, y_dN, y_bindi, y_bindE, y_map, f_nx, f_rt, f_rn, f_ex, l_w0, l_ws, v_bind, v_some, v_add, v_sub, v_lt, v_le, v_gt, v_ge, v_eqI, v_eqS, v_neN, v_isN, v_isNN, v_ixL, v_ixT, v_lenS, v_lenL, v_lenT, List.getElem?_cons_zero, List.getElem?_cons_succ, List.set_cons_zero, List.set_cons_succ, List.length_cons, List.length_nil, Nat.reduceAdd, Option.map_some, if_true, f_if, Option.bind_some, Bool.true_or, Bool.or_true, Bool.false_or, Bool.or_false, Bool.true_and, Bool.and_true, Bool.false_and, Bool.and_false, Bool.not_true, Bool.not_false, Bool.false_eq_true, if_false, wq_0_0, wq_0_1, wq_0_2, wq_0_3, wq_0_4, wq_0_5, wq_0_6, wq_0_7, wq_0_8, wq_1_0, wq_1_1, wq_1_2, wq_1_3, wq_1_4, wq_1_5, wq_1_6, wq_1_7, wq_1_8, wq_2_0, wq_2_1, wq_2_2, wq_2_3, wq_2_4, wq_2_5, wq_2_6, wq_2_7, wq_2_8, wq_3_0, wq_3_1, wq_3_2, wq_3_3, wq_3_4, wq_3_5, wq_3_6, wq_3_7, wq_3_8, wq_4_0, wq_4_1, wq_4_2, wq_4_3, wq_4_4, wq_4_5, wq_4_6, wq_4_7, wq_4_8, wq_5_0, wq_5_1, wq_5_2, wq_5_3, wq_5_4, wq_5_5, wq_5_6, wq_5_7, wq_5_8, wq_6_0, wq_6_1, wq_6_2, wq_6_3, wq_6_4, wq_6_5, wq_6_6, wq_6_7, wq_6_8, wq_7_0, wq_7_1, wq_7_2, wq_7_3, wq_7_4, wq_7_5, wq_7_6, wq_7_7, wq_7_8, wq_8_0, wq_8_1, wq_8_2, wq_8_3, wq_8_4, wq_8_5, wq_8_6, wq_8_7, wq_8_8, get_ok]
      exact ⟨trivial, trivial⟩
    · rintro o h' ⟨rfl, rfl⟩
      rw [g_rt h _ _ (.new ((List.range r.length).map fun k => .bl (hold r f k))) (by
        simp only [freeze]
        rw [if_neg (by omega), get_app_new]
        simp only
        rw [if_pos (cleans_plain _ _ (plains_map _ (fun _ => rfl) _))]), get_ok]
      simp [holds]
  obtain ⟨rv, h', e, rfl, rfl⟩ := get_ex key
  exact e
end K03

namespace K03
open Mn
theorem al_len {n : Nat} {h : VH} (e : E) (a b : D) (xs : List D) (hl : xs.length ≤ 1000000) (hb : biD h .len [b] = some (.int xs.length)) (ea : ∀ i, (hi : i < xs.length) → ixD cfg.gds h a (.int i) = some xs[i]) (eb : ∀ i, (hi : i < xs.length) → ixD cfg.gds h b (.int i) = some xs[i])
    (hc : ∀ x ∈ xs, run cfg tbl n 1001 [x, x] h = .ok (.val (.bl true)) h) :
    evE cfg (run cfg tbl n) (.lc (.v 2) (.nm 2) (.range (.cons (.bi .len (.cons (.v 1) .nil)) .nil)) (.some (.not (.call 1001 (.cons (.ix (.v 0) (.v 2)) (.cons (.ix (.v 1) (.v 2)) .nil))))) [2]) [some a, some b, none] h = .ok (.lst []) h := by
  have := e_lc (C := cfg) (call := run cfg tbl n) (h := h) (ρ := [some a, some b, none]) (elt := .v 2) (t := .nm 2) (it := .range (.cons (.bi .len (.cons (.v 1) .nil)) .nil)) (cond := .some (.not (.call 1001 (.cons (.ix (.v 0) (.v 2)) (.cons (.ix (.v 1) (.v 2)) .nil))))) (own := [2])
    (fun j : Nat => .int j) (fun _ => false) (fun j : Nat => .int j) (List.range xs.length) (by simp (disch := first | assumption | omega | (simp only [List.length_cons, List.length_nil]; omega)) only [x_c, x_g, x_v0, x_v1, x_v2, x_v3, x_v4, x_v5, x_v6, x_v7, x_v8, x_v9, x_v10, x_v11, x_v12, x_v13, x_v14, x_v15, x_tup, x_lst, x_op, x_neg, x_not, x_and, x_or, x_ite, x_cmp, x_chain, x_ix, x_sl, x_rev, x_call, x_meth, x_new, x_fld, x_isi, x_bi, x_listof, x_bm, x_nil, x_cons, x_eno, x_eso, x_ival, x_irange, x_irev, x_fcall, x_flst, x_flistof, x_asg, x_asgB, x_ex, x_ret, x_retF, x_site, x_raise, x_cont, x_pass, x_par, x_snil, x_scons, x_tnm, x_ttup, x_tsub, x_tfld, x_cono, x_con0, y_thenT, y_thenF, y_then, y_elseT, y_elseF, y_else, y_ifT, y_ifF, y_if, y_not, y_neg, y_opt, y_chT, y_chF, y_ch, y_seq, y_seqR, y_seqN, y_seqC, y_len0, y_len1, y_len2, y_len3, y_len4, y_len5, y_len6, y_fldQ, y_fldS, y_methQ, y_methS, y_setQ, y_setS, y_new, y_non, y_rvN, y_dV, y_dN, y_bindi, y_bindE, y_map, f_nx, f_rt, f_rn, f_ex, l_w0, l_ws, v_bind, v_some, v_add, v_sub, v_lt, v_le, v_gt, v_ge, v_eqI, v_eqS, v_neN, v_isN, v_isNN, v_ixL, v_ixT, v_lenS, v_lenL, v_lenT, List.getElem?_cons_zero, List.getElem?_cons_succ, List.set_cons_zero, List.set_cons_succ, List.length_cons, List.length_nil, Nat.reduceAdd, Option.map_some, if_true, f_if, Option.bind_some, Bool.true_or, Bool.or_true, Bool.false_or, Bool.or_false, Bool.true_and, Bool.and_true, Bool.false_and, Bool.and_false, Bool.not_true, Bool.not_false, Bool.false_eq_true, if_false, wq_0_0, wq_0_1, wq_0_2, wq_0_3, wq_0_4, wq_0_5, wq_0_6, wq_0_7, wq_0_8, wq_1_0, wq_1_1, wq_1_2, wq_1_3, wq_1_4, wq_1_5, wq_1_6, wq_1_7, wq_1_8, wq_2_0, wq_2_1, wq_2_2, wq_2_3, wq_2_4, wq_2_5, wq_2_6, wq_2_7, wq_2_8, wq_3_0, wq_3_1, wq_3_2, wq_3_3, wq_3_4, wq_3_5, wq_3_6, wq_3_7, wq_3_8, wq_4_0, wq_4_1, wq_4_2, wq_4_3, wq_4_4, wq_4_5, wq_4_6, wq_4_7, wq_4_8, wq_5_0, wq_5_1, wq_5_2, wq_5_3, wq_5_4, wq_5_5, wq_5_6, wq_5_7, wq_5_8, wq_6_0, wq_6_1, wq_6_2, wq_6_3, wq_6_4, wq_6_5, wq_6_6, wq_6_7, wq_6_8, wq_7_0, wq_7_1, wq_7_2, wq_7_3, wq_7_4, wq_7_5, wq_7_6, wq_7_7, wq_7_8, wq_8_0, wq_8_1, wq_8_2, wq_8_3, wq_8_4, wq_8_5, wq_8_6, wq_8_7, wq_8_8, hb, range_nat xs.length (by omega)]) (rng_le _ (by omega)) (by
      intro i hi
      have hi : i < xs.length := by simpa using hi
      refine ⟨_, rfl, ?_, fun z => by cases z⟩
      simp (disch := first | assumption | omega | (simp only [List.length_cons, List.length_nil]; omega)) only [x_c, x_g, x_v0, x_v1, x_v2, x_v3, x_v4, x_v5, x_v6, x_v7, x_v8, x_v9, x_v10, x_v11, x_v12, x_v13, x_v14, x_v15, x_tup, x_lst, x_op, x_neg, x_not, x_and, x_or, x_ite, x_cmp, x_chain, x_ix, x_sl, x_rev, x_call, x_meth, x_new, x_fld, x_isi, x_bi, x_listof, x_bm, x_nil, x_cons, x_eno, x_eso, x_ival, x_irange, x_irev, x_fcall, x_flst, x_flistof, x_asg, x_asgB, x_ex, x_ret, x_retF, x_site, x_raise, x_cont, x_pass, x_par, x_snil, x_scons, x_tnm, x_ttup, x_tsub, x_tfld, x_cono, x_con0, y_thenT, y_thenF, y_then, y_elseT, y_elseF, y_else, y_ifT, y_ifF, y_if, y_not, y_neg, y_opt, y_chT, y_chF, y_ch, y_seq, y_seqR, y_seqN, y_seqC, y_len0, y_len1, y_len2, y_len3, y_len4, y_len5, y_len6, y_fldQ, y_fldS, y_methQ, y_methS, y_setQ, y_setS, y_new, y_non, y_rvN, y_dV, y_dN, y_bindi, y_bindE, y_map, f_nx, f_rt, f_rn, f_ex, l_w0, l_ws, v_bind, v_some, v_add, v_sub, v_lt, v_le, v_gt, v_ge, v_eqI, v_eqS, v_neN, v_isN, v_isNN, v_ixL, v_ixT, v_lenS, v_lenL, v_lenT, List.getElem?_cons_zero, List.getElem?_cons_succ, List.set_cons_zero, List.set_cons_succ, List.length_cons, List.length_nil, Nat.reduceAdd, Option.map_some, if_true, f_if, Option.bind_some, Bool.true_or, Bool.or_true, Bool.false_or, Bool.or_false, Bool.true_and, Bool.and_true, Bool.false_and, Bool.and_false, Bool.not_true, Bool.not_false, Bool.false_eq_true, if_false, wq_0_0, wq_0_1, wq_0_2, wq_0_3, wq_0_4, wq_0_5, wq_0_6, wq_0_7, wq_0_8, wq_1_0, wq_1_1, wq_1_2, wq_1_3, wq_1_4, wq_1_5, wq_1_6, wq_1_7, wq_1_8, wq_2_0, wq_2_1, wq_2_2, wq_2_3, wq_2_4, wq_2_5, wq_2_6, wq_2_7, wq_2_8, wq_3_0, wq_3_1, wq_3_2, wq_3_3, wq_3_4, wq_3_5, wq_3_6, wq_3_7, wq_3_8, wq_4_0, wq_4_1, wq_4_2, wq_4_3, wq_4_4, wq_4_5, wq_4_6, wq_4_7, wq_4_8, wq_5_0, wq_5_1, wq_5_2, wq_5_3, wq_5_4, wq_5_5, wq_5_6, wq_5_7, wq_5_8, wq_6_0, wq_6_1, wq_6_2, wq_6_3, wq_6_4, wq_6_5, wq_6_6, wq_6_7, wq_6_8, wq_7_0, wq_7_1, wq_7_2, wq_7_3, wq_7_4, wq_7_5, wq_7_6, wq_7_7, wq_7_8, wq_8_0, wq_8_1, wq_8_2, wq_8_3, wq_8_4, wq_8_5, wq_8_6, wq_8_7, wq_8_8, ea i hi, eb i hi, hc _ (List.getElem_mem hi)])
  rw [List.filter_eq_nil_iff.mpr (by simp), List.map_nil] at this
  exact this
theorem alike : ∀ (n : Nat) (d : D) (h : VH), nice d = true → deepD d < n → run cfg tbl n 1001 [d, d] h = .ok (.val (.bl true)) h := by
  intro n
  induction n with
  | zero => intro d h _ hd; omega
  | succ n ih =>
    intro d h hd hn
    have nn : ((true == true) = true) := rfl
    cases d with
    | non => rfl
    | bl b => cases b <;> rfl
    | ref k => simp [nice] at hd
    | gd k => simp [nice] at hd
    | scr k => simp [nice] at hd
    | int i =>
      rw [u_1001]
      have a1 : ∀ t ∈ [Ty.tuple, .list, .bool, .str], isiD h (.int i) [t] = some false := by intro t ht; simp at ht; rcases ht with rfl | rfl | rfl | rfl <;> rfl
      have a2 : isiD h (.int i) [.int] = some true := rfl
      simp (disch := first | assumption | omega | (simp only [List.length_cons, List.length_nil]; omega)) only [x_c, x_g, x_v0, x_v1, x_v2, x_v3, x_v4, x_v5, x_v6, x_v7, x_v8, x_v9, x_v10, x_v11, x_v12, x_v13, x_v14, x_v15, x_tup, x_lst, x_op, x_neg, x_not, x_and, x_or, x_ite, x_cmp, x_chain, x_ix, x_sl, x_rev, x_call, x_meth, x_new, x_fld, x_isi, x_bi, x_listof, x_bm, x_nil, x_cons, x_eno, x_eso, x_ival, x_irange, x_irev, x_fcall, x_flst, x_flistof, x_asg, x_asgB, x_ex, x_ret, x_retF, x_site, x_raise, x_cont, x_pass, x_par, x_snil, x_scons, x_tnm, x_ttup, x_tsub, x_tfld, x_cono, x_con0, y_thenT, y_thenF, y_then, y_elseT, y_elseF, y_else, y_ifT, y_ifF, y_if, y_not, y_neg, y_opt, y_chT, y_chF, y_ch, y_seq, y_seqR, y_seqN, y_seqC, y_len0, y_len1, y_len2, y_len3, y_len4, y_len5, y_len6, y_fldQ, y_fldS, y_methQ, y_methS, y_setQ, y_setS, y_new, y_non, y_rvN, y_dV, y_dN, y_bindi, y_bindE, y_map, f_nx, f_rt, f_rn, f_ex, l_w0, l_ws, v_bind, v_some, v_add, v_sub, v_lt, v_le, v_gt, v_ge, v_eqI, v_eqS, v_neN, v_isN, v_isNN, v_ixL, v_ixT, v_lenS, v_lenL, v_lenT, List.getElem?_cons_zero, List.getElem?_cons_succ, List.set_cons_zero, List.set_cons_succ, List.length_cons, List.length_nil, Nat.reduceAdd, Option.map_some, if_true, f_if, Option.bind_some, Bool.true_or, Bool.or_true, Bool.false_or, Bool.or_false, Bool.true_and, Bool.and_true, Bool.false_and, Bool.and_false, Bool.not_true, Bool.not_false, Bool.false_eq_true, if_false, wq_0_0, wq_0_1, wq_0_2, wq_0_3, wq_0_4, wq_0_5, wq_0_6, wq_0_7, wq_0_8, wq_1_0, wq_1_1, wq_1_2, wq_1_3, wq_1_4, wq_1_5, wq_1_6, wq_1_7, wq_1_8, wq_2_0, wq_2_1, wq_2_2, wq_2_3, wq_2_4, wq_2_5, wq_2_6, wq_2_7, wq_2_8, wq_3_0, wq_3_1, wq_3_2, wq_3_3, wq_3_4, wq_3_5, wq_3_6, wq_3_7, wq_3_8, wq_4_0, wq_4_1, wq_4_2, wq_4_3, wq_4_4, wq_4_5, wq_4_6, wq_4_7, wq_4_8, wq_5_0, wq_5_1, wq_5_2, wq_5_3, wq_5_4, wq_5_5, wq_5_6, wq_5_7, wq_5_8, wq_6_0, wq_6_1, wq_6_2, wq_6_3, wq_6_4, wq_6_5, wq_6_6, wq_6_7, wq_6_8, wq_7_0, wq_7_1, wq_7_2, wq_7_3, wq_7_4, wq_7_5, wq_7_6, wq_7_7, wq_7_8, wq_8_0, wq_8_1, wq_8_2, wq_8_3, wq_8_4, wq_8_5, wq_8_6, wq_8_7, wq_8_8, fn_1001, a1 .tuple (by simp), a1 .list (by simp), a1 .bool (by simp), a1 .str (by simp), a2, beq_self_eq_true]
    | str i =>
      rw [u_1001]
      have a1 : ∀ t ∈ [Ty.tuple, .list, .bool], isiD h (.str i) [t] = some false := by intro t ht; simp at ht; rcases ht with rfl | rfl | rfl <;> rfl
      have a2 : isiD h (.str i) [.str] = some true := rfl
      have a3 : cpD cfg.gds h .is_ (.str i) .non = some false := rfl
      simp (disch := first | assumption | omega | (simp only [List.length_cons, List.length_nil]; omega)) only [x_c, x_g, x_v0, x_v1, x_v2, x_v3, x_v4, x_v5, x_v6, x_v7, x_v8, x_v9, x_v10, x_v11, x_v12, x_v13, x_v14, x_v15, x_tup, x_lst, x_op, x_neg, x_not, x_and, x_or, x_ite, x_cmp, x_chain, x_ix, x_sl, x_rev, x_call, x_meth, x_new, x_fld, x_isi, x_bi, x_listof, x_bm, x_nil, x_cons, x_eno, x_eso, x_ival, x_irange, x_irev, x_fcall, x_flst, x_flistof, x_asg, x_asgB, x_ex, x_ret, x_retF, x_site, x_raise, x_cont, x_pass, x_par, x_snil, x_scons, x_tnm, x_ttup, x_tsub, x_tfld, x_cono, x_con0, y_thenT, y_thenF, y_then, y_elseT, y_elseF, y_else, y_ifT, y_ifF, y_if, y_not, y_neg, y_opt, y_chT, y_chF, y_ch, y_seq, y_seqR, y_seqN, y_seqC, y_len0, y_len1, y_len2, y_len3, y_len4, y_len5, y_len6, y_fldQ, y_fldS, y_methQ, y_methS, y_setQ, y_setS, y_new, y_non, y_rvN, y_dV, y_dN, y_bindi, y_bindE, y_map, f_nx, f_rt, f_rn, f_ex, l_w0, l_ws, v_bind, v_some, v_add, v_sub, v_lt, v_le, v_gt, v_ge, v_eqI, v_eqS, v_neN, v_isN, v_isNN, v_ixL, v_ixT, v_lenS, v_lenL, v_lenT, List.getElem?_cons_zero, List.getElem?_cons_succ, List.set_cons_zero, List.set_cons_succ, List.length_cons, List.length_nil, Nat.reduceAdd, Option.map_some, if_true, f_if, Option.bind_some, Bool.true_or, Bool.or_true, Bool.false_or, Bool.or_false, Bool.true_and, Bool.and_true, Bool.false_and, Bool.and_false, Bool.not_true, Bool.not_false, Bool.false_eq_true, if_false, wq_0_0, wq_0_1, wq_0_2, wq_0_3, wq_0_4, wq_0_5, wq_0_6, wq_0_7, wq_0_8, wq_1_0, wq_1_1, wq_1_2, wq_1_3, wq_1_4, wq_1_5, wq_1_6, wq_1_7, wq_1_8, wq_2_0, wq_2_1, wq_2_2, wq_2_3, wq_2_4, wq_2_5, wq_2_6, wq_2_7, wq_2_8, wq_3_0, wq_3_1, wq_3_2, wq_3_3, wq_3_4, wq_3_5, wq_3_6, wq_3_7, wq_3_8, wq_4_0, wq_4_1, wq_4_2, wq_4_3, wq_4_4, wq_4_5, wq_4_6, wq_4_7, wq_4_8, wq_5_0, wq_5_1, wq_5_2, wq_5_3, wq_5_4, wq_5_5, wq_5_6, wq_5_7, wq_5_8, wq_6_0, wq_6_1, wq_6_2, wq_6_3, wq_6_4, wq_6_5, wq_6_6, wq_6_7, wq_6_8, wq_7_0, wq_7_1, wq_7_2, wq_7_3, wq_7_4, wq_7_5, wq_7_6, wq_7_7, wq_7_8, wq_8_0, wq_8_1, wq_8_2, wq_8_3, wq_8_4, wq_8_5, wq_8_6, wq_8_7, wq_8_8, fn_1001, a1 .tuple (by simp), a1 .list (by simp), a1 .bool (by simp), a2, a3, beq_self_eq_true]
    | tup xs =>
      simp only [nice, Bool.and_eq_true, decide_eq_true_eq] at hd
      simp only [deepD] at hn
      have hix : ∀ i, (hi : i < xs.length) → ixD cfg.gds h (.tup xs) (.int i) = some xs[i] := fun i hi => v_at _ _ _ (List.getElem?_eq_getElem hi)
      have e := al_len (n := n) (.v 0) (.tup xs) (.tup xs) xs hd.1 rfl hix hix (fun x hx => ih x h (nices_mem hd.2 x hx) (by have := deep_mem hx; omega))
      have a1 : isiD h (.tup xs) [.tuple] = some true := rfl
      have a2 : isiD h (.tup xs) [.tuple, .list] = some true := rfl
      have a3 : cpD cfg.gds h .ne (.bl true) (.bl true) = some false := rfl
      have a4 : ((xs.length : Int) == (xs.length : Int)) = true := by simp
      have a5 : cpD cfg.gds h .eq (.lst []) (.lst []) = some true := rfl
      rw [u_1001]
      simp (disch := first | assumption | omega | (simp only [List.length_cons, List.length_nil]; omega)) only [x_c, x_g, x_v0, x_v1, x_v2, x_v3, x_v4, x_v5, x_v6, x_v7, x_v8, x_v9, x_v10, x_v11, x_v12, x_v13, x_v14, x_v15, x_tup, x_lst, x_op, x_neg, x_not, x_and, x_or, x_ite, x_cmp, x_chain, x_ix, x_sl, x_rev, x_call, x_meth, x_new, x_fld, x_isi, x_bi, x_listof, x_bm, x_nil, x_cons, x_eno, x_eso, x_ival, x_irange, x_irev, x_fcall, x_flst, x_flistof, x_asg, x_asgB, x_ex, x_ret, x_retF, x_site, x_raise, x_cont, x_pass, x_par, x_snil, x_scons, x_tnm, x_ttup, x_tsub, x_tfld, x_cono, x_con0, y_thenT, y_thenF, y_then, y_elseT, y_elseF, y_else, y_ifT, y_ifF, y_if, y_not, y_neg, y_opt, y_chT, y_chF, y_ch, y_seq, y_seqR, y_seqN, y_seqC, y_len0, y_len1, y_len2, y_len3, y_len4, y_len5, y_len6, y_fldQ, y_fldS, y_methQ, y_methS, y_setQ, y_setS, y_new, y_non, y_rvN, y_dV, y_dN, y_bindi, y_bindE, y_map, f_nx, f_rt, f_rn, f_ex, l_w0, l_ws, v_bind, v_some, v_add, v_sub, v_lt, v_le, v_gt, v_ge, v_eqI, v_eqS, v_neN, v_isN, v_isNN, v_ixL, v_ixT, v_lenS, v_lenL, v_lenT, List.getElem?_cons_zero, List.getElem?_cons_succ, List.set_cons_zero, List.set_cons_succ, List.length_cons, List.length_nil, Nat.reduceAdd, Option.map_some, if_true, f_if, Option.bind_some, Bool.true_or, Bool.or_true, Bool.false_or, Bool.or_false, Bool.true_and, Bool.and_true, Bool.false_and, Bool.and_false, Bool.not_true, Bool.not_false, Bool.false_eq_true, if_false, wq_0_0, wq_0_1, wq_0_2, wq_0_3, wq_0_4, wq_0_5, wq_0_6, wq_0_7, wq_0_8, wq_1_0, wq_1_1, wq_1_2, wq_1_3, wq_1_4, wq_1_5, wq_1_6, wq_1_7, wq_1_8, wq_2_0, wq_2_1, wq_2_2, wq_2_3, wq_2_4, wq_2_5, wq_2_6, wq_2_7, wq_2_8, wq_3_0, wq_3_1, wq_3_2, wq_3_3, wq_3_4, wq_3_5, wq_3_6, wq_3_7, wq_3_8, wq_4_0, wq_4_1, wq_4_2, wq_4_3, wq_4_4, wq_4_5, wq_4_6, wq_4_7, wq_4_8, wq_5_0, wq_5_1, wq_5_2, wq_5_3, wq_5_4, wq_5_5, wq_5_6, wq_5_7, wq_5_8, wq_6_0, wq_6_1, wq_6_2, wq_6_3, wq_6_4, wq_6_5, wq_6_6, wq_6_7, wq_6_8, wq_7_0, wq_7_1, wq_7_2, wq_7_3, wq_7_4, wq_7_5, wq_7_6, wq_7_7, wq_7_8, wq_8_0, wq_8_1, wq_8_2, wq_8_3, wq_8_4, wq_8_5, wq_8_6, wq_8_7, wq_8_8, fn_1001, a1, a2, a3, v_lenT, a4, e, y_len0, a5]
    | lst xs =>
      simp only [nice, Bool.and_eq_true, decide_eq_true_eq] at hd
      simp only [deepD] at hn
      have hix : ∀ i, (hi : i < xs.length) → ixD cfg.gds h (.lst xs) (.int i) = some xs[i] := fun i hi => v_at _ _ _ (List.getElem?_eq_getElem hi)
      have e := al_len (n := n) (.v 0) (.lst xs) (.lst xs) xs hd.1 rfl hix hix (fun x hx => ih x h (nices_mem hd.2 x hx) (by have := deep_mem hx; omega))
      have a1 : isiD h (.lst xs) [.tuple] = some false := rfl
      have a1' : isiD h (.lst xs) [.list] = some true := rfl
      have a2 : isiD h (.lst xs) [.tuple, .list] = some true := rfl
      have a3 : cpD cfg.gds h .ne (.bl false) (.bl false) = some false := rfl
      have a4 : ((xs.length : Int) == (xs.length : Int)) = true := by simp
      have a5 : cpD cfg.gds h .eq (.lst []) (.lst []) = some true := rfl
      rw [u_1001]
      simp (disch := first | assumption | omega | (simp only [List.length_cons, List.length_nil]; omega)) only [x_c, x_g, x_v0, x_v1, x_v2, x_v3, x_v4, x_v5, x_v6, x_v7, x_v8, x_v9, x_v10, x_v11, x_v12, x_v13, x_v14, x_v15, x_tup, x_lst, x_op, x_neg, x_not, x_and, x_or, x_ite, x_cmp, x_chain, x_ix, x_sl, x_rev, x_call, x_meth, x_new, x_fld, x_isi, x_bi, x_listof, x_bm, x_nil, x_cons, x_eno, x_eso, x_ival, x_irange, x_irev, x_fcall, x_flst, x_flistof, x_asg, x_asgB, x_ex, x_ret, x_retF, x_site, x_raise, x_cont, x_pass, x_par, x_snil, x_scons, x_tnm, x_ttup, x_tsub, x_tfld, x_cono, x_con0, y_thenT, y_thenF, y_then, y_elseT, y_elseF, y_else, y_ifT, y_ifF, y_if, y_not, y_neg, y_opt, y_chT, y_chF, y_ch, y_seq, y_seqR, y_seqN, y_seqC, y_len0, y_len1, y_len2, y_len3, y_len4, y_len5, y_len6, y_fldQ, y_fldS, y_methQ, y_methS, y_setQ, y_setS, y_new, y_non, y_rvN, y_dV, y_dN, y_bindi, y_bindE, y_map, f_nx, f_rt, f_rn, f_ex, l_w0, l_ws, v_bind, v_some, v_add, v_sub, v_lt, v_le, v_gt, v_ge, v_eqI, v_eqS, v_neN, v_isN, v_isNN, v_ixL, v_ixT, v_lenS, v_lenL, v_lenT, List.getElem?_cons_zero, List.getElem?_cons_succ, List.set_cons_zero, List.set_cons_succ, List.length_cons, List.length_nil, Nat.reduceAdd, Option.map_some, if_true, f_if, Option.bind_some, Bool.true_or, Bool.or_true, Bool.false_or, Bool.or_false, Bool.true_and, Bool.and_true, Bool.false_and, Bool.and_false, Bool.not_true, Bool.not_false, Bool.false_eq_true, if_false, wq_0_0, wq_0_1, wq_0_2, wq_0_3, wq_0_4, wq_0_5, wq_0_6, wq_0_7, wq_0_8, wq_1_0, wq_1_1, wq_1_2, wq_1_3, wq_1_4, wq_1_5, wq_1_6, wq_1_7, wq_1_8, wq_2_0, wq_2_1, wq_2_2, wq_2_3, wq_2_4, wq_2_5, wq_2_6, wq_2_7, wq_2_8, wq_3_0, wq_3_1, wq_3_2, wq_3_3, wq_3_4, wq_3_5, wq_3_6, wq_3_7, wq_3_8, wq_4_0, wq_4_1, wq_4_2, wq_4_3, wq_4_4, wq_4_5, wq_4_6, wq_4_7, wq_4_8, wq_5_0, wq_5_1, wq_5_2, wq_5_3, wq_5_4, wq_5_5, wq_5_6, wq_5_7, wq_5_8, wq_6_0, wq_6_1, wq_6_2, wq_6_3, wq_6_4, wq_6_5, wq_6_6, wq_6_7, wq_6_8, wq_7_0, wq_7_1, wq_7_2, wq_7_3, wq_7_4, wq_7_5, wq_7_6, wq_7_7, wq_7_8, wq_8_0, wq_8_1, wq_8_2, wq_8_3, wq_8_4, wq_8_5, wq_8_6, wq_8_7, wq_8_8, fn_1001, a1, a1', a2, a3, v_lenL, a4, e, y_len0, a5]
/-- a list that may change, against the same by value -/
theorem alike_ref (n : Nat) (k : Nat) (xs : List D) (h : VH) (hk : h[k]? = some (.lst xs)) (hd : nice (.lst xs) = true) (hn : deepDs xs < n) : run cfg tbl (n + 1) 1001 [.ref k, .lst xs] h = .ok (.val (.bl true)) h := by
  simp only [nice, Bool.and_eq_true, decide_eq_true_eq] at hd
  have hix : ∀ i, (hi : i < xs.length) → ixD cfg.gds h (.lst xs) (.int i) = some xs[i] := fun i hi => v_at _ _ _ (List.getElem?_eq_getElem hi)
  have hir : ∀ i, (hi : i < xs.length) → ixD cfg.gds h (.ref k) (.int i) = some xs[i] := fun i hi => by rw [v_ixR _ _ _ _ _ hk]; exact hix i hi
  have e := al_len (n := n) (.v 0) (.ref k) (.lst xs) xs hd.1 rfl hir hix (fun x hx => alike n x h (nices_mem hd.2 x hx) (by have := deep_mem hx; omega))
  have t1 : tyD h (.ref k) = some .list := by simp only [tyD, hk]
  have a0 : isiD h (.ref k) [.tuple] = some false := by simp only [isiD, t1]; rfl
  have a0' : isiD h (.ref k) [.tuple, .list] = some true := by simp only [isiD, t1]; rfl
  have a1 : isiD h (.lst xs) [.tuple] = some false := rfl
  have a1' : isiD h (.lst xs) [.list] = some true := rfl
  have a3 : cpD cfg.gds h .ne (.bl false) (.bl false) = some false := rfl
  have a4 : ((xs.length : Int) == (xs.length : Int)) = true := by simp
  have a5 : cpD cfg.gds h .eq (.lst []) (.lst []) = some true := rfl
  have a6 : biD h .len [.ref k] = some (.int xs.length) := by simp only [biD, hk]
  rw [u_1001]
  simp (disch := first | assumption | omega | (simp only [List.length_cons, List.length_nil]; omega)) only [x_c, x_g, x_v0, x_v1, x_v2, x_v3, x_v4, x_v5, x_v6, x_v7, x_v8, x_v9, x_v10, x_v11, x_v12, x_v13, x_v14, x_v15, x_tup, x_lst, x_op, x_neg, x_not, x_and, x_or, x_ite, x_cmp, x_chain, x_ix, x_sl, x_rev, x_call, x_meth, x_new, x_fld, x_isi, x_bi, x_listof, x_bm, x_nil, x_cons, x_eno, x_eso, x_ival, x_irange, x_irev, x_fcall, x_flst, x_flistof, x_asg, x_asgB, x_ex, x_ret, x_retF, x_site, x_raise, x_cont, x_pass, x_par, x_snil, x_scons, x_tnm, x_ttup, x_tsub, x_tfld, x_cono, x_con0, y_thenT, y_thenF, y_then, y_elseT, y_elseF, y_else, y_ifT, y_ifF, y_if, y_not, y_neg, y_opt, y_chT, y_chF, y_ch, y_seq, y_seqR, y_seqN, y_seqC, y_len0, y_len1, y_len2, y_len3, y_len4, y_len5, y_len6, y_fldQ, y_fldS, y_methQ, y_methS, y_setQ, y_setS, y_new, y_non, y_rvN, y_dV, y_dN, y_bindi, y_bindE, y_map, f_nx, f_rt, f_rn, f_ex, l_w0, l_ws, v_bind, v_some, v_add, v_sub, v_lt, v_le, v_gt, v_ge, v_eqI, v_eqS, v_neN, v_isN, v_isNN, v_ixL, v_ixT, v_lenS, v_lenL, v_lenT, List.getElem?_cons_zero, List.getElem?_cons_succ, List.set_cons_zero, List.set_cons_succ, List.length_cons, List.length_nil, Nat.reduceAdd, Option.map_some, if_true, f_if, Option.bind_some, Bool.true_or, Bool.or_true, Bool.false_or, Bool.or_false, Bool.true_and, Bool.and_true, Bool.false_and, Bool.and_false, Bool.not_true, Bool.not_false, Bool.false_eq_true, if_false, wq_0_0, wq_0_1, wq_0_2, wq_0_3, wq_0_4, wq_0_5, wq_0_6, wq_0_7, wq_0_8, wq_1_0, wq_1_1, wq_1_2, wq_1_3, wq_1_4, wq_1_5, wq_1_6, wq_1_7, wq_1_8, wq_2_0, wq_2_1, wq_2_2, wq_2_3, wq_2_4, wq_2_5, wq_2_6, wq_2_7, wq_2_8, wq_3_0, wq_3_1, wq_3_2, wq_3_3, wq_3_4, wq_3_5, wq_3_6, wq_3_7, wq_3_8, wq_4_0, wq_4_1, wq_4_2, wq_4_3, wq_4_4, wq_4_5, wq_4_6, wq_4_7, wq_4_8, wq_5_0, wq_5_1, wq_5_2, wq_5_3, wq_5_4, wq_5_5, wq_5_6, wq_5_7, wq_5_8, wq_6_0, wq_6_1, wq_6_2, wq_6_3, wq_6_4, wq_6_5, wq_6_6, wq_6_7, wq_6_8, wq_7_0, wq_7_1, wq_7_2, wq_7_3, wq_7_4, wq_7_5, wq_7_6, wq_7_7, wq_7_8, wq_8_0, wq_8_1, wq_8_2, wq_8_3, wq_8_4, wq_8_5, wq_8_6, wq_8_7, wq_8_8, fn_1001, a0, a0', a1, a1', a3, v_lenL, a6, a4, e, y_len0, a5]
end K03

namespace K03
open Mn
theorem fin_law (h' : VH) : finish true [] (.ok (.rt (.bl true)) h') = .ok (.val (.bl true)) [] := by
  have : gcOk [] h' = true := by simp [gcOk]
  simp only [finish, this, if_true, outV, freeze, clean, R.ofO]
  rfl
theorem ne_row (g : Nat → List (D × D)) (h : VH) (r : List Hap) : cpD g h .ne (rowD r) (rowD r) = some false := by
  have hp := row_plain r
  have hd := row_deep r
  have hr : res h (rowD r) = rowD r := rfl
  simp only [cpD, eqH, hr, hp]
  rw [if_pos (by simp; omega)]
  simp [eqv_refl' _ hp]
theorem nice_holds (r : List Hap) (f : F) (hr : r.length ≤ 1000) : nice (.lst ((holds r f).map .bl)) = true := by
  simp only [nice, Bool.and_eq_true, decide_eq_true_eq]
  refine ⟨by simp [holds]; omega, nices_map D.bl (fun _ => rfl) _⟩
theorem deep_holds : ∀ l : List Bool, deepDs (l.map D.bl) = 0
  | [] => rfl
  | x :: r => by simp only [List.map_cons, deepDs, deepD, deep_holds r]; rfl
theorem At.put_other {ns : List Int} {k j : Nat} {h : VH} {o : O} (a : At ns k h) (e : j ≠ k) : At ns k (h.set j o) := by
  obtain ⟨o', hk, ho⟩ := a
  exact ⟨o', by rw [List.getElem?_set_ne e, hk], ho⟩
/-- the made-up row of the law -/
theorem mk_row {ns : List Int} {n : Nat} (hn : 1 ≤ n) {h : VH} (a : At ns 0 h) (m q : Nat) (hm : m ≤ 100) (x0 x2 x3 x4 x8 x9 x10 x11 : Option D) :
    (evE cfg (run cfg tbl n) (.lc (.tup (.cons (.v 7) (.cons (.ite (.cmp .eq (.v 7) (.c (.int 0))) (.c (.int 1)) (.ite (.cmp .eq (.v 7) (.v 6)) (.c (.int 0)) (.c (.int 2)))) (.cons (.call 1000 (.cons (.v 1) (.cons (.c (.int 10)) .nil))) .nil)))) (.nm 7) (.range (.cons (.v 5) .nil)) .none [7])
      [x0, some (.ref 0), x2, x3, x4, some (.int m), some (.int q), none, x8, x9, x10, x11] h).get fun d h' => ∃ r : List Hap, d = rowD r ∧ RowGood r ∧ At ns 0 h' := by
  refine get_mono (e_lc_inv (fun i ys h' => At ns 0 h' ∧ ∃ r : List Hap, ys = r.map Hap.d ∧ r.length = i ∧ (∀ x ∈ r, x.ok ∧ x.t < i) ∧ r.Pairwise fun a b => a.t < b.t) ((List.range m).map fun k : Nat => .int k)
    (by simp (disch := first | assumption | omega | (simp only [List.length_cons, List.length_nil]; omega)) only [x_c, x_g, x_v0, x_v1, x_v2, x_v3, x_v4, x_v5, x_v6, x_v7, x_v8, x_v9, x_v10, x_v11, x_v12, x_v13, x_v14, x_v15, x_tup, x_lst, x_op, x_neg, x_not, x_and, x_or, x_ite, x_cmp, x_chain, x_ix, x_sl, x_rev, x_call, x_meth, x_new, x_fld, x_isi, x_bi, x_listof, x_bm, x_nil, x_cons, x_eno, x_eso, x_ival, x_irange, x_irev, x_fcall, x_flst, x_flistof, x_asg, x_asgB, x_ex, x_ret, x_retF, x_site, x_raise, x_cont, x_pass, x_par, x_snil, x_scons, x_tnm, x_ttup, x_tsub, x_tfld, x_cono, x_con0, y_thenT, y_thenF, y_then, y_elseT, y_elseF, y_else, y_ifT, y_ifF, y_if, y_not, y_neg, y_opt, y_chT, y_chF, y_ch, y_seq, y_seqR, y_seqN, y_seqC, y_len0, y_len1, y_len2, y_len3, y_len4, y_len5, y_len6, y_fldQ, y_fldS, y_methQ, y_methS, y_setQ, y_setS, y_new, y_non, y_rvN, y_dV, y_dN, y_bindi, y_bindE, y_map, f_nx, f_rt, f_rn, f_ex, l_w0, l_ws, v_bind, v_some, v_add, v_sub, v_lt, v_le, v_gt, v_ge, v_eqI, v_eqS, v_neN, v_isN, v_isNN, v_ixL, v_ixT, v_lenS, v_lenL, v_lenT, List.getElem?_cons_zero, List.getElem?_cons_succ, List.set_cons_zero, List.set_cons_succ, List.length_cons, List.length_nil, Nat.reduceAdd, Option.map_some, if_true, f_if, Option.bind_some, Bool.true_or, Bool.or_true, Bool.false_or, Bool.or_false, Bool.true_and, Bool.and_true, Bool.false_and, Bool.and_false, Bool.not_true, Bool.not_false, Bool.false_eq_true, if_false, wq_0_0, wq_0_1, wq_0_2, wq_0_3, wq_0_4, wq_0_5, wq_0_6, wq_0_7, wq_0_8, wq_1_0, wq_1_1, wq_1_2, wq_1_3, wq_1_4, wq_1_5, wq_1_6, wq_1_7, wq_1_8, wq_2_0, wq_2_1, wq_2_2, wq_2_3, wq_2_4, wq_2_5, wq_2_6, wq_2_7, wq_2_8, wq_3_0, wq_3_1, wq_3_2, wq_3_3, wq_3_4, wq_3_5, wq_3_6, wq_3_7, wq_3_8, wq_4_0, wq_4_1, wq_4_2, wq_4_3, wq_4_4, wq_4_5, wq_4_6, wq_4_7, wq_4_8, wq_5_0, wq_5_1, wq_5_2, wq_5_3, wq_5_4, wq_5_5, wq_5_6, wq_5_7, wq_5_8, wq_6_0, wq_6_1, wq_6_2, wq_6_3, wq_6_4, wq_6_5, wq_6_6, wq_6_7, wq_6_8, wq_7_0, wq_7_1, wq_7_2, wq_7_3, wq_7_4, wq_7_5, wq_7_6, wq_7_7, wq_7_8, wq_8_0, wq_8_1, wq_8_2, wq_8_3, wq_8_4, wq_8_5, wq_8_6, wq_8_7, wq_8_8, range_nat m (by omega)]) (le_LINE (by simp; omega)) ⟨a, [], rfl, rfl, by simp, by simp⟩ ?_) ?_
  · rintro i x acc h hx ⟨ha, r, rfl, hl, hok, hup⟩
    obtain ⟨hil, rfl⟩ : i < m ∧ x = .int i := by
      obtain ⟨h1, h2⟩ := List.getElem?_eq_some_iff.mp hx
      simp at h1 h2
      exact ⟨h1, h2.symm⟩
    refine ⟨_, rfl, rfl, ?_⟩
    obtain ⟨v, h1, e1, l1, u1, d1⟩ := draw (n := n) 10 (by omega) (by omega) (by omega) ha
    have fin : ∀ w : Int, 0 ≤ w → w ≤ 3 → At ns 0 h1 ∧ ∃ r' : List Hap, r.map Hap.d ++ [D.tup [.int i, .int w, .int v]] = r'.map Hap.d ∧ r'.length = i + 1 ∧ (∀ x ∈ r', x.ok ∧ x.t < ((i + 1 : Nat) : Int)) ∧ r'.Pairwise fun a b => a.t < b.t := by
      intro w hw0 hw1
      refine ⟨d1.at ha, r ++ [(⟨i, w, v⟩ : Hap)], by simp [Hap.d], by simp [hl], ?_, ?_⟩
      · intro x hx
        rcases List.mem_append.mp hx with hx | hx
        · have := hok x hx; exact ⟨this.1, by omega⟩
        · simp only [List.mem_cons, List.mem_nil_iff, or_false] at hx
          subst hx
          exact ⟨⟨by show (0 : Int) ≤ i; omega, by show (i : Int) ≤ 1000000; omega, hw0, hw1, l1, by show v ≤ 9; omega⟩, by show (i : Int) < _; omega⟩
      · rw [List.pairwise_append]
        exact ⟨hup, by simp, fun x hx y hy => by simp only [List.mem_cons, List.mem_nil_iff, or_false] at hy; subst hy; exact (hok x hx).2⟩
    cases c1 : ((i : Int) == 0) with
    | true => simp (disch := first | assumption | omega | (simp only [List.length_cons, List.length_nil]; omega)) only [x_c, x_g, x_v0, x_v1, x_v2, x_v3, x_v4, x_v5, x_v6, x_v7, x_v8, x_v9, x_v10, x_v11, x_v12, x_v13, x_v14, x_v15, x_tup, x_lst, x_op, x_neg, x_not, x_and, x_or, x_ite, x_cmp, x_chain, x_ix, x_sl, x_rev, x_call, x_meth, x_new, x_fld, x_isi, x_bi, x_listof, x_bm, x_nil, x_cons, x_eno, x_eso, x_ival, x_irange, x_irev, x_fcall, x_flst, x_flistof, x_asg, x_asgB, x_ex, x_ret, x_retF, x_site, x_raise, x_cont, x_pass, x_par, x_snil, x_scons, x_tnm, x_ttup, x_tsub, x_tfld, x_cono, x_con0, y_thenT, y_thenF, y_then, y_elseT, y_elseF, y_else, y_ifT, y_ifF, y_if, y_not, y_neg, y_opt, y_chT, y_chF, y_ch, y_seq, y_seqR, y_seqN, y_seqC, y_len0, y_len1, y_len2, y_len3, y_len4, y_len5, y_len6, y_fldQ, y_fldS, y_methQ, y_methS, y_setQ, y_setS, y_new, y_non, y_rvN, y_dV, y_dN, y_bindi, y_bindE, y_map, f_nx, f_rt, f_rn, f_ex, l_w0, l_ws, v_bind, v_some, v_add, v_sub, v_lt, v_le, v_gt, v_ge, v_eqI, v_eqS, v_neN, v_isN, v_isNN, v_ixL, v_ixT, v_lenS, v_lenL, v_lenT, List.getElem?_cons_zero, List.getElem?_cons_succ, List.set_cons_zero, List.set_cons_succ, List.length_cons, List.length_nil, Nat.reduceAdd, Option.map_some, if_true, f_if, Option.bind_some, Bool.true_or, Bool.or_true, Bool.false_or, Bool.or_false, Bool.true_and, Bool.and_true, Bool.false_and, Bool.and_false, Bool.not_true, Bool.not_false, Bool.false_eq_true, if_false, wq_0_0, wq_0_1, wq_0_2, wq_0_3, wq_0_4, wq_0_5, wq_0_6, wq_0_7, wq_0_8, wq_1_0, wq_1_1, wq_1_2, wq_1_3, wq_1_4, wq_1_5, wq_1_6, wq_1_7, wq_1_8, wq_2_0, wq_2_1, wq_2_2, wq_2_3, wq_2_4, wq_2_5, wq_2_6, wq_2_7, wq_2_8, wq_3_0, wq_3_1, wq_3_2, wq_3_3, wq_3_4, wq_3_5, wq_3_6, wq_3_7, wq_3_8, wq_4_0, wq_4_1, wq_4_2, wq_4_3, wq_4_4, wq_4_5, wq_4_6, wq_4_7, wq_4_8, wq_5_0, wq_5_1, wq_5_2, wq_5_3, wq_5_4, wq_5_5, wq_5_6, wq_5_7, wq_5_8, wq_6_0, wq_6_1, wq_6_2, wq_6_3, wq_6_4, wq_6_5, wq_6_6, wq_6_7, wq_6_8, wq_7_0, wq_7_1, wq_7_2, wq_7_3, wq_7_4, wq_7_5, wq_7_6, wq_7_7, wq_7_8, wq_8_0, wq_8_1, wq_8_2, wq_8_3, wq_8_4, wq_8_5, wq_8_6, wq_8_7, wq_8_8, e1, c1, get_ok]; exact fin 1 (by omega) (by omega)
    | false =>
      cases c2 : ((i : Int) == (q : Int)) with
      | true => simp (disch := first | assumption | omega | (simp only [List.length_cons, List.length_nil]; omega)) only [x_c, x_g, x_v0, x_v1, x_v2, x_v3, x_v4, x_v5, x_v6, x_v7, x_v8, x_v9, x_v10, x_v11, x_v12, x_v13, x_v14, x_v15, x_tup, x_lst, x_op, x_neg, x_not, x_and, x_or, x_ite, x_cmp, x_chain, x_ix, x_sl, x_rev, x_call, x_meth, x_new, x_fld, x_isi, x_bi, x_listof, x_bm, x_nil, x_cons, x_eno, x_eso, x_ival, x_irange, x_irev, x_fcall, x_flst, x_flistof, x_asg, x_asgB, x_ex, x_ret, x_retF, x_site, x_raise, x_cont, x_pass, x_par, x_snil, x_scons, x_tnm, x_ttup, x_tsub, x_tfld, x_cono, x_con0, y_thenT, y_thenF, y_then, y_elseT, y_elseF, y_else, y_ifT, y_ifF, y_if, y_not, y_neg, y_opt, y_chT, y_chF, y_ch, y_seq, y_seqR, y_seqN, y_seqC, y_len0, y_len1, y_len2, y_len3, y_len4, y_len5, y_len6, y_fldQ, y_fldS, y_methQ, y_methS, y_setQ, y_setS, y_new, y_non, y_rvN, y_dV, y_dN, y_bindi, y_bindE, y_map, f_nx, f_rt, f_rn, f_ex, l_w0, l_ws, v_bind, v_some, v_add, v_sub, v_lt, v_le, v_gt, v_ge, v_eqI, v_eqS, v_neN, v_isN, v_isNN, v_ixL, v_ixT, v_lenS, v_lenL, v_lenT, List.getElem?_cons_zero, List.getElem?_cons_succ, List.set_cons_zero, List.set_cons_succ, List.length_cons, List.length_nil, Nat.reduceAdd, Option.map_some, if_true, f_if, Option.bind_some, Bool.true_or, Bool.or_true, Bool.false_or, Bool.or_false, Bool.true_and, Bool.and_true, Bool.false_and, Bool.and_false, Bool.not_true, Bool.not_false, Bool.false_eq_true, if_false, wq_0_0, wq_0_1, wq_0_2, wq_0_3, wq_0_4, wq_0_5, wq_0_6, wq_0_7, wq_0_8, wq_1_0, wq_1_1, wq_1_2, wq_1_3, wq_1_4, wq_1_5, wq_1_6, wq_1_7, wq_1_8, wq_2_0, wq_2_1, wq_2_2, wq_2_3, wq_2_4, wq_2_5, wq_2_6, wq_2_7, wq_2_8, wq_3_0, wq_3_1, wq_3_2, wq_3_3, wq_3_4, wq_3_5, wq_3_6, wq_3_7, wq_3_8, wq_4_0, wq_4_1, wq_4_2, wq_4_3, wq_4_4, wq_4_5, wq_4_6, wq_4_7, wq_4_8, wq_5_0, wq_5_1, wq_5_2, wq_5_3, wq_5_4, wq_5_5, wq_5_6, wq_5_7, wq_5_8, wq_6_0, wq_6_1, wq_6_2, wq_6_3, wq_6_4, wq_6_5, wq_6_6, wq_6_7, wq_6_8, wq_7_0, wq_7_1, wq_7_2, wq_7_3, wq_7_4, wq_7_5, wq_7_6, wq_7_7, wq_7_8, wq_8_0, wq_8_1, wq_8_2, wq_8_3, wq_8_4, wq_8_5, wq_8_6, wq_8_7, wq_8_8, e1, c1, c2, get_ok]; exact fin 0 (by omega) (by omega)
      | false => simp (disch := first | assumption | omega | (simp only [List.length_cons, List.length_nil]; omega)) only [x_c, x_g, x_v0, x_v1, x_v2, x_v3, x_v4, x_v5, x_v6, x_v7, x_v8, x_v9, x_v10, x_v11, x_v12, x_v13, x_v14, x_v15, x_tup, x_lst, x_op, x_neg, x_not, x_and, x_or, x_ite, x_cmp, x_chain, x_ix, x_sl, x_rev, x_call, x_meth, x_new, x_fld, x_isi, x_bi, x_listof, x_bm, x_nil, x_cons, x_eno, x_eso, x_ival, x_irange, x_irev, x_fcall, x_flst, x_flistof, x_asg, x_asgB, x_ex, x_ret, x_retF, x_site, x_raise, x_cont, x_pass, x_par, x_snil, x_scons, x_tnm, x_ttup, x_tsub, x_tfld, x_cono, x_con0, y_thenT, y_thenF, y_then, y_elseT, y_elseF, y_else, y_ifT, y_ifF, y_if, y_not, y_neg, y_opt, y_chT, y_chF, y_ch, y_seq, y_seqR, y_seqN, y_seqC, y_len0, y_len1, y_len2, y_len3, y_len4, y_len5, y_len6, y_fldQ, y_fldS, y_methQ, y_methS, y_setQ, y_setS, y_new, y_non, y_rvN, y_dV, y_dN, y_bindi, y_bindE, y_map, f_nx, f_rt, f_rn, f_ex, l_w0, l_ws, v_bind, v_some, v_add, v_sub, v_lt, v_le, v_gt, v_ge, v_eqI, v_eqS, v_neN, v_isN, v_isNN, v_ixL, v_ixT, v_lenS, v_lenL, v_lenT, List.getElem?_cons_zero, List.getElem?_cons_succ, List.set_cons_zero, List.set_cons_succ, List.length_cons, List.length_nil, Nat.reduceAdd, Option.map_some, if_true, f_if, Option.bind_some, Bool.true_or, Bool.or_true, Bool.false_or, Bool.or_false, Bool.true_and, Bool.and_true, Bool.false_and, Bool.and_false, Bool.not_true, Bool.not_false, Bool.false_eq_true, if_false, wq_0_0, wq_0_1, wq_0_2, wq_0_3, wq_0_4, wq_0_5, wq_0_6, wq_0_7, wq_0_8, wq_1_0, wq_1_1, wq_1_2, wq_1_3, wq_1_4, wq_1_5, wq_1_6, wq_1_7, wq_1_8, wq_2_0, wq_2_1, wq_2_2, wq_2_3, wq_2_4, wq_2_5, wq_2_6, wq_2_7, wq_2_8, wq_3_0, wq_3_1, wq_3_2, wq_3_3, wq_3_4, wq_3_5, wq_3_6, wq_3_7, wq_3_8, wq_4_0, wq_4_1, wq_4_2, wq_4_3, wq_4_4, wq_4_5, wq_4_6, wq_4_7, wq_4_8, wq_5_0, wq_5_1, wq_5_2, wq_5_3, wq_5_4, wq_5_5, wq_5_6, wq_5_7, wq_5_8, wq_6_0, wq_6_1, wq_6_2, wq_6_3, wq_6_4, wq_6_5, wq_6_6, wq_6_7, wq_6_8, wq_7_0, wq_7_1, wq_7_2, wq_7_3, wq_7_4, wq_7_5, wq_7_6, wq_7_7, wq_7_8, wq_8_0, wq_8_1, wq_8_2, wq_8_3, wq_8_4, wq_8_5, wq_8_6, wq_8_7, wq_8_8, e1, c1, c2, get_ok]; exact fin 2 (by omega) (by omega)
  · rintro d h' ⟨ys, rfl, ha, r, rfl, hl, hok, hup⟩
    have hl : r.length = m := by simpa using hl
    exact ⟨r, rfl, ⟨by omega, fun x hx => (hok x hx).1, hup⟩, ha⟩
/-- the pieces of the law's body -/
def lwOuter : Ss := match fn_1010.body with
  | .cons _ (.cons (.for_ _ _ b) _) => b
  | _ => .nil
def lwInner : Ss := match lwOuter with
  | .cons _ (.cons _ (.cons _ (.cons _ (.cons _ (.cons (.for_ _ _ b) _))))) => b
  | _ => .nil
theorem inner {ns : List Int} {n : Nat} (hn : 30 ≤ n) {h : VH} (a : At ns 0 h) (f : F) (hf : f.good) (r : List Hap) (hr : RowGood r) (x0 x2 x5 x6 x7 x10 x11 : Option D) :
    (evSs cfg (run cfg tbl n) lwInner [x0, some (.ref 0), x2, some f.d, some (rowD r), x5, x6, x7, some (.lst ((holds r f).map .bl)), some (rowD r), x10, x11] h).get fun o h' => At ns 0 h' ∧ ∃ y11, o = .nx [x0, some (.ref 0), x2, some f.d, some (rowD r), x5, x6, x7, some (.lst ((holds r f).map .bl)), some (rowD r), x10, y11] := by
  have hh := p_holds (by omega : 20 ≤ n) f hf r hr h
  have hl := hr.len
  obtain ⟨n, rfl⟩ : ∃ q, n = q + 1 := ⟨n - 1, by omega⟩
  have hg := get_app_new h (.lst ((holds r f).map .bl)) []
  have e := alike_ref n h.length ((holds r f).map .bl) (h ++ [.lst ((holds r f).map .bl)]) hg (nice_holds r f (by omega)) (by rw [deep_holds]; omega)
  simp only [lwInner, lwOuter, fn_1010]
  simp (disch := first | assumption | omega | (simp only [List.length_cons, List.length_nil]; omega)) only [x_c, x_g, x_v0, x_v1, x_v2, x_v3, x_v4, x_v5, x_v6, x_v7, x_v8, x_v9, x_v10, x_v11, x_v12, x_v13, x_v14, x_v15, x_tup, x_lst, x_op, x_neg, x_not, x_and, x_or, x_ite, x_cmp, x_chain, x_ix, x_sl, x_rev, x_call, x_meth, x_new, x_fld, x_isi, x_bi, x_listof, x_bm, x_nil, x_cons, x_eno, x_eso, x_ival, x_irange, x_irev, x_fcall, x_flst, x_flistof, x_asg, x_asgB, x_ex, x_ret, x_retF, x_site, x_raise, x_cont, x_pass, x_par, x_snil, x_scons, x_tnm, x_ttup, x_tsub, x_tfld, x_cono, x_con0, y_thenT, y_thenF, y_then, y_elseT, y_elseF, y_else, y_ifT, y_ifF, y_if, y_not, y_neg, y_opt, y_chT, y_chF, y_ch, y_seq, y_seqR, y_seqN, y_seqC, y_len0, y_len1, y_len2, y_len3, y_len4, y_len5, y_len6, y_fldQ, y_fldS, y_methQ, y_methS, y_setQ, y_setS, y_new, y_non, y_rvN, y_dV, y_dN, y_bindi, y_bindE, y_map, f_nx, f_rt, f_rn, f_ex, l_w0, l_ws, v_bind, v_some, v_add, v_sub, v_lt, v_le, v_gt, v_ge, v_eqI, v_eqS, v_neN, v_isN, v_isNN, v_ixL, v_ixT, v_lenS, v_lenL, v_lenT, List.getElem?_cons_zero, List.getElem?_cons_succ, List.set_cons_zero, List.set_cons_succ, List.length_cons, List.length_nil, Nat.reduceAdd, Option.map_some, if_true, f_if, Option.bind_some, Bool.true_or, Bool.or_true, Bool.false_or, Bool.or_false, Bool.true_and, Bool.and_true, Bool.false_and, Bool.and_false, Bool.not_true, Bool.not_false, Bool.false_eq_true, if_false, wq_0_0, wq_0_1, wq_0_2, wq_0_3, wq_0_4, wq_0_5, wq_0_6, wq_0_7, wq_0_8, wq_1_0, wq_1_1, wq_1_2, wq_1_3, wq_1_4, wq_1_5, wq_1_6, wq_1_7, wq_1_8, wq_2_0, wq_2_1, wq_2_2, wq_2_3, wq_2_4, wq_2_5, wq_2_6, wq_2_7, wq_2_8, wq_3_0, wq_3_1, wq_3_2, wq_3_3, wq_3_4, wq_3_5, wq_3_6, wq_3_7, wq_3_8, wq_4_0, wq_4_1, wq_4_2, wq_4_3, wq_4_4, wq_4_5, wq_4_6, wq_4_7, wq_4_8, wq_5_0, wq_5_1, wq_5_2, wq_5_3, wq_5_4, wq_5_5, wq_5_6, wq_5_7, wq_5_8, wq_6_0, wq_6_1, wq_6_2, wq_6_3, wq_6_4, wq_6_5, wq_6_6, wq_6_7, wq_6_8, wq_7_0, wq_7_1, wq_7_2, wq_7_3, wq_7_4, wq_7_5, wq_7_6, wq_7_7, wq_7_8, wq_8_0, wq_8_1, wq_8_2, wq_8_3, wq_8_4, wq_8_5, wq_8_6, wq_8_7, wq_8_8, hh, x_fcall, e, ne_row, t_append _ _ _ hg, v_append _ _ _ (.bl true) hg (lt_LINE (by simp [holds]; omega)), get_ok]
  have := a.lt
  exact ⟨(a.app _).put_other (by omega), _, rfl⟩
theorem outer {ns : List Int} {n : Nat} (hn : 30 ≤ n) {h : VH} (a : At ns 0 h) (x0 x2 x3 x4 x5 x6 x8 x9 x10 x11 : Option D) :
    (evSs cfg (run cfg tbl n) lwOuter [x0, some (.ref 0), x2, x3, x4, x5, x6, none, x8, x9, x10, x11] h).get fun o h' => At ns 0 h' ∧ ∃ y3 y4 y5 y6 y8 y9 y10 y11, o = .nx [x0, some (.ref 0), x2, y3, y4, y5, y6, none, y8, y9, y10, y11] := by
  -- the drawn sentence and row
  obtain ⟨f, h1, e1, ⟨f1, f2, f3⟩, d1⟩ := drawn (n := n) 24 6 (by omega) (by omega) (by omega) (by omega) a
  obtain ⟨r2, h2, e2, l2, u2, d2⟩ := draw (n := n) 20 (by omega) (by omega) (by omega) (d1.at a)
  obtain ⟨x, hx, ex⟩ := ix_any [.int 20, .int 60, .int 200] ((r2 + 1) / 10) (by omega) (by simp only [List.length_cons, List.length_nil]; omega)
  obtain ⟨mo, rfl, hmo⟩ : ∃ m : Nat, x = .int m ∧ m ≤ 200 := by
    simp only [List.mem_cons, List.mem_nil_iff, or_false] at hx
    rcases hx with rfl | rfl | rfl
    · exact ⟨20, rfl, by omega⟩
    · exact ⟨60, rfl, by omega⟩
    · exact ⟨200, rfl, by omega⟩
  have D2 := d1.trans d2
  obtain ⟨r, h3, e3, ⟨g3, _⟩, d3⟩ := row (n := n) mo (by omega) hmo (D2.at a)
  have D3 := D2.trans d3
  obtain ⟨r4, h4, e4, l4, u4, d4⟩ := draw (n := n) 8 (by omega) (by omega) (by omega) (D3.at a)
  have D4 := D3.trans d4
  have hdiv : ∀ h : VH, opD h .div (.int (r2 + 1)) (.int 10) = some (.int ((r2 + 1) / 10)) := fun h => v_div h _ _ (by decide)
  have e1' : run cfg tbl n 1007 [.ref 0, .int 24, .int 6] h = _ := e1
  -- what follows, for any sentence and row
  have rest : ∀ (h : VH) (f : F) (hf : f.good) (r : List Hap) (hr : RowGood r) (x5 x6 : Option D), At ns 0 h → (evSs cfg (run cfg tbl n) (.cons (.asg (.nm 8) (.call 1009 (.cons (.v 3) (.cons (.v 4) .nil)))) (.cons (.asg (.nm 9) (.listof (.v 4))) (.cons (.for_ (.nm 10) (.range (.cons (.c (.int 2)) .nil)) lwInner) .nil)))
      [x0, some (.ref 0), x2, some f.d, some (rowD r), x5, x6, none, x8, x9, x10, x11] h).get fun o h' => At ns 0 h' ∧ ∃ y3 y4 y5 y6 y8 y9 y10 y11, o = .nx [x0, some (.ref 0), x2, y3, y4, y5, y6, none, y8, y9, y10, y11] := by
    intro h f hf r hr x5 x6 a
    have hl := hr.len
    have := hf.2.1
    have hlist : asLT h (rowD r) = some (r.map Hap.d) := rfl
    have hrow : D.lst (r.map Hap.d) = rowD r := rfl
    simp (disch := first | assumption | omega | (simp only [List.length_cons, List.length_nil]; omega)) only [x_c, x_g, x_v0, x_v1, x_v2, x_v3, x_v4, x_v5, x_v6, x_v7, x_v8, x_v9, x_v10, x_v11, x_v12, x_v13, x_v14, x_v15, x_tup, x_lst, x_op, x_neg, x_not, x_and, x_or, x_ite, x_cmp, x_chain, x_ix, x_sl, x_rev, x_call, x_meth, x_new, x_fld, x_isi, x_bi, x_listof, x_bm, x_nil, x_cons, x_eno, x_eso, x_ival, x_irange, x_irev, x_fcall, x_flst, x_flistof, x_asg, x_asgB, x_ex, x_ret, x_retF, x_site, x_raise, x_cont, x_pass, x_par, x_snil, x_scons, x_tnm, x_ttup, x_tsub, x_tfld, x_cono, x_con0, y_thenT, y_thenF, y_then, y_elseT, y_elseF, y_else, y_ifT, y_ifF, y_if, y_not, y_neg, y_opt, y_chT, y_chF, y_ch, y_seq, y_seqR, y_seqN, y_seqC, y_len0, y_len1, y_len2, y_len3, y_len4, y_len5, y_len6, y_fldQ, y_fldS, y_methQ, y_methS, y_setQ, y_setS, y_new, y_non, y_rvN, y_dV, y_dN, y_bindi, y_bindE, y_map, f_nx, f_rt, f_rn, f_ex, l_w0, l_ws, v_bind, v_some, v_add, v_sub, v_lt, v_le, v_gt, v_ge, v_eqI, v_eqS, v_neN, v_isN, v_isNN, v_ixL, v_ixT, v_lenS, v_lenL, v_lenT, List.getElem?_cons_zero, List.getElem?_cons_succ, List.set_cons_zero, List.set_cons_succ, List.length_cons, List.length_nil, Nat.reduceAdd, Option.map_some, if_true, f_if, Option.bind_some, Bool.true_or, Bool.or_true, Bool.false_or, Bool.or_false, Bool.true_and, Bool.and_true, Bool.false_and, Bool.and_false, Bool.not_true, Bool.not_false, Bool.false_eq_true, if_false, wq_0_0, wq_0_1, wq_0_2, wq_0_3, wq_0_4, wq_0_5, wq_0_6, wq_0_7, wq_0_8, wq_1_0, wq_1_1, wq_1_2, wq_1_3, wq_1_4, wq_1_5, wq_1_6, wq_1_7, wq_1_8, wq_2_0, wq_2_1, wq_2_2, wq_2_3, wq_2_4, wq_2_5, wq_2_6, wq_2_7, wq_2_8, wq_3_0, wq_3_1, wq_3_2, wq_3_3, wq_3_4, wq_3_5, wq_3_6, wq_3_7, wq_3_8, wq_4_0, wq_4_1, wq_4_2, wq_4_3, wq_4_4, wq_4_5, wq_4_6, wq_4_7, wq_4_8, wq_5_0, wq_5_1, wq_5_2, wq_5_3, wq_5_4, wq_5_5, wq_5_6, wq_5_7, wq_5_8, wq_6_0, wq_6_1, wq_6_2, wq_6_3, wq_6_4, wq_6_5, wq_6_6, wq_6_7, wq_6_8, wq_7_0, wq_7_1, wq_7_2, wq_7_3, wq_7_4, wq_7_5, wq_7_6, wq_7_7, wq_7_8, wq_8_0, wq_8_1, wq_8_2, wq_8_3, wq_8_4, wq_8_5, wq_8_6, wq_8_7, wq_8_8, law_holds r (by omega) f n (by omega), hlist, hrow]
    refine get_bind (e_for (fun i ρ h' => At ns 0 h' ∧ ∃ y10 y11, ρ = [x0, some (.ref 0), x2, some f.d, some (rowD r), x5, x6, none, some (.lst ((holds r f).map .bl)), some (rowD r), y10, y11])
      (fun o h' => At ns 0 h' ∧ ∃ y10 y11, o = .nx [x0, some (.ref 0), x2, some f.d, some (rowD r), x5, x6, none, some (.lst ((holds r f).map .bl)), some (rowD r), y10, y11])
      _ (by simp (disch := first | assumption | omega | (simp only [List.length_cons, List.length_nil]; omega)) only [x_c, x_g, x_v0, x_v1, x_v2, x_v3, x_v4, x_v5, x_v6, x_v7, x_v8, x_v9, x_v10, x_v11, x_v12, x_v13, x_v14, x_v15, x_tup, x_lst, x_op, x_neg, x_not, x_and, x_or, x_ite, x_cmp, x_chain, x_ix, x_sl, x_rev, x_call, x_meth, x_new, x_fld, x_isi, x_bi, x_listof, x_bm, x_nil, x_cons, x_eno, x_eso, x_ival, x_irange, x_irev, x_fcall, x_flst, x_flistof, x_asg, x_asgB, x_ex, x_ret, x_retF, x_site, x_raise, x_cont, x_pass, x_par, x_snil, x_scons, x_tnm, x_ttup, x_tsub, x_tfld, x_cono, x_con0, y_thenT, y_thenF, y_then, y_elseT, y_elseF, y_else, y_ifT, y_ifF, y_if, y_not, y_neg, y_opt, y_chT, y_chF, y_ch, y_seq, y_seqR, y_seqN, y_seqC, y_len0, y_len1, y_len2, y_len3, y_len4, y_len5, y_len6, y_fldQ, y_fldS, y_methQ, y_methS, y_setQ, y_setS, y_new, y_non, y_rvN, y_dV, y_dN, y_bindi, y_bindE, y_map, f_nx, f_rt, f_rn, f_ex, l_w0, l_ws, v_bind, v_some, v_add, v_sub, v_lt, v_le, v_gt, v_ge, v_eqI, v_eqS, v_neN, v_isN, v_isNN, v_ixL, v_ixT, v_lenS, v_lenL, v_lenT, List.getElem?_cons_zero, List.getElem?_cons_succ, List.set_cons_zero, List.set_cons_succ, List.length_cons, List.length_nil, Nat.reduceAdd, Option.map_some, if_true, f_if, Option.bind_some, Bool.true_or, Bool.or_true, Bool.false_or, Bool.or_false, Bool.true_and, Bool.and_true, Bool.false_and, Bool.and_false, Bool.not_true, Bool.not_false, Bool.false_eq_true, if_false, wq_0_0, wq_0_1, wq_0_2, wq_0_3, wq_0_4, wq_0_5, wq_0_6, wq_0_7, wq_0_8, wq_1_0, wq_1_1, wq_1_2, wq_1_3, wq_1_4, wq_1_5, wq_1_6, wq_1_7, wq_1_8, wq_2_0, wq_2_1, wq_2_2, wq_2_3, wq_2_4, wq_2_5, wq_2_6, wq_2_7, wq_2_8, wq_3_0, wq_3_1, wq_3_2, wq_3_3, wq_3_4, wq_3_5, wq_3_6, wq_3_7, wq_3_8, wq_4_0, wq_4_1, wq_4_2, wq_4_3, wq_4_4, wq_4_5, wq_4_6, wq_4_7, wq_4_8, wq_5_0, wq_5_1, wq_5_2, wq_5_3, wq_5_4, wq_5_5, wq_5_6, wq_5_7, wq_5_8, wq_6_0, wq_6_1, wq_6_2, wq_6_3, wq_6_4, wq_6_5, wq_6_6, wq_6_7, wq_6_8, wq_7_0, wq_7_1, wq_7_2, wq_7_3, wq_7_4, wq_7_5, wq_7_6, wq_7_7, wq_7_8, wq_8_0, wq_8_1, wq_8_2, wq_8_3, wq_8_4, wq_8_5, wq_8_6, wq_8_7, wq_8_8, range_eq 2 (by decide) (by decide)]; rfl) ⟨a, _, _, rfl⟩ ?_ ?_) ?_
    · rintro i x ρ h' _ ⟨a, y10, y11, rfl⟩
      refine ⟨_, rfl, ?_⟩
      refine get_mono (inner hn a f hf r hr x0 x2 x5 x6 none _ y11) ?_
      rintro o h' ⟨a, z, rfl⟩
      exact ⟨a, _, _, rfl⟩
    · rintro ρ h' ⟨a, y10, y11, rfl⟩
      exact ⟨a, _, _, rfl⟩
    · rintro o h' ⟨a, y10, y11, rfl⟩
      simp (disch := first | assumption | omega | (simp only [List.length_cons, List.length_nil]; omega)) only [x_c, x_g, x_v0, x_v1, x_v2, x_v3, x_v4, x_v5, x_v6, x_v7, x_v8, x_v9, x_v10, x_v11, x_v12, x_v13, x_v14, x_v15, x_tup, x_lst, x_op, x_neg, x_not, x_and, x_or, x_ite, x_cmp, x_chain, x_ix, x_sl, x_rev, x_call, x_meth, x_new, x_fld, x_isi, x_bi, x_listof, x_bm, x_nil, x_cons, x_eno, x_eso, x_ival, x_irange, x_irev, x_fcall, x_flst, x_flistof, x_asg, x_asgB, x_ex, x_ret, x_retF, x_site, x_raise, x_cont, x_pass, x_par, x_snil, x_scons, x_tnm, x_ttup, x_tsub, x_tfld, x_cono, x_con0, y_thenT, y_thenF, y_then, y_elseT, y_elseF, y_else, y_ifT, y_ifF, y_if, y_not, y_neg, y_opt, y_chT, y_chF, y_ch, y_seq, y_seqR, y_seqN, y_seqC, y_len0, y_len1, y_len2, y_len3, y_len4, y_len5, y_len6, y_fldQ, y_fldS, y_methQ, y_methS, y_setQ, y_setS, y_new, y_non, y_rvN, y_dV, y_dN, y_bindi, y_bindE, y_map, f_nx, f_rt, f_rn, f_ex, l_w0, l_ws, v_bind, v_some, v_add, v_sub, v_lt, v_le, v_gt, v_ge, v_eqI, v_eqS, v_neN, v_isN, v_isNN, v_ixL, v_ixT, v_lenS, v_lenL, v_lenT, List.getElem?_cons_zero, List.getElem?_cons_succ, List.set_cons_zero, List.set_cons_succ, List.length_cons, List.length_nil, Nat.reduceAdd, Option.map_some, if_true, f_if, Option.bind_some, Bool.true_or, Bool.or_true, Bool.false_or, Bool.or_false, Bool.true_and, Bool.and_true, Bool.false_and, Bool.and_false, Bool.not_true, Bool.not_false, Bool.false_eq_true, if_false, wq_0_0, wq_0_1, wq_0_2, wq_0_3, wq_0_4, wq_0_5, wq_0_6, wq_0_7, wq_0_8, wq_1_0, wq_1_1, wq_1_2, wq_1_3, wq_1_4, wq_1_5, wq_1_6, wq_1_7, wq_1_8, wq_2_0, wq_2_1, wq_2_2, wq_2_3, wq_2_4, wq_2_5, wq_2_6, wq_2_7, wq_2_8, wq_3_0, wq_3_1, wq_3_2, wq_3_3, wq_3_4, wq_3_5, wq_3_6, wq_3_7, wq_3_8, wq_4_0, wq_4_1, wq_4_2, wq_4_3, wq_4_4, wq_4_5, wq_4_6, wq_4_7, wq_4_8, wq_5_0, wq_5_1, wq_5_2, wq_5_3, wq_5_4, wq_5_5, wq_5_6, wq_5_7, wq_5_8, wq_6_0, wq_6_1, wq_6_2, wq_6_3, wq_6_4, wq_6_5, wq_6_6, wq_6_7, wq_6_8, wq_7_0, wq_7_1, wq_7_2, wq_7_3, wq_7_4, wq_7_5, wq_7_6, wq_7_7, wq_7_8, wq_8_0, wq_8_1, wq_8_2, wq_8_3, wq_8_4, wq_8_5, wq_8_6, wq_8_7, wq_8_8, get_ok]
      exact ⟨a, _, _, _, _, _, _, _, _, rfl⟩
  have hb : lwOuter = .cons (.asg (.nm 3) (.call 1007 (.cons (.v 1) (.cons (.c (.int 24)) (.cons (.c (.int 6)) .nil))))) (.cons (.asg (.nm 4) (.call 1008 (.cons (.v 1) (.cons (.ix (.lst (.cons (.c (.int 20)) (.cons (.c (.int 60)) (.cons (.c (.int 200)) .nil)))) (.op .div (.op .add (.call 1000 (.cons (.v 1) (.cons (.c (.int 20)) .nil))) (.c (.int 1))) (.c (.int 10)))) .nil))))
    (.cons (.ite (.cmp .eq (.call 1000 (.cons (.v 1) (.cons (.c (.int 8)) .nil))) (.c (.int 7))) (.cons (.asg (.nm 3) (.tup (.cons (.c (.str [115, 105, 110, 99, 101])) (.cons (.tup (.cons (.c (.str [110, 111, 116])) (.cons (.tup (.cons (.c (.str [105, 115])) (.cons (.c (.int 0)) .nil))) .nil))) (.cons (.tup (.cons (.c (.str [105, 115])) (.cons (.c (.int 1)) .nil))) (.cons (.op .add (.c (.int 1)) (.call 1000 (.cons (.v 1) (.cons (.c (.int 3)) .nil)))) (.cons (.c (.non)) .nil)))))))
      (.cons (.asg (.tup [5, 6]) (.tup (.cons (.op .add (.c (.int 10)) (.call 1000 (.cons (.v 1) (.cons (.c (.int 30)) .nil)))) (.cons (.call 1000 (.cons (.v 1) (.cons (.c (.int 40)) .nil))) .nil))))
      (.cons (.asg (.nm 4) (.lc (.tup (.cons (.v 7) (.cons (.ite (.cmp .eq (.v 7) (.c (.int 0))) (.c (.int 1)) (.ite (.cmp .eq (.v 7) (.v 6)) (.c (.int 0)) (.c (.int 2)))) (.cons (.call 1000 (.cons (.v 1) (.cons (.c (.int 10)) .nil))) .nil)))) (.nm 7) (.range (.cons (.v 5) .nil)) .none [7])) .nil))) .nil)
    (.cons (.asg (.nm 8) (.call 1009 (.cons (.v 3) (.cons (.v 4) .nil)))) (.cons (.asg (.nm 9) (.listof (.v 4))) (.cons (.for_ (.nm 10) (.range (.cons (.c (.int 2)) .nil)) lwInner) .nil))))) := rfl
  rw [hb]
  generalize hR : (Ss.cons (.asg (.nm 8) (.call 1009 (.cons (.v 3) (.cons (.v 4) .nil)))) (.cons (.asg (.nm 9) (.listof (.v 4))) (.cons (.for_ (.nm 10) (.range (.cons (.c (.int 2)) .nil)) lwInner) .nil))) = R at rest
  have hrow : D.lst (r.map Hap.d) = rowD r := rfl
  by_cases h7 : r4 = 7
  · subst h7
    obtain ⟨r5, h5, e5, l5, u5, d5⟩ := draw (n := n) 3 (by omega) (by omega) (by omega) (D4.at a)
    have D5 := D4.trans d5
    obtain ⟨r6, h6, e6, l6, u6, d6⟩ := draw (n := n) 30 (by omega) (by omega) (by omega) (D5.at a)
    have D6 := D5.trans d6
    obtain ⟨r7, h7, e7, l7, u7, d7⟩ := draw (n := n) 40 (by omega) (by omega) (by omega) (D6.at a)
    have D7 := D6.trans d7
    obtain ⟨m, hm⟩ : ∃ m : Nat, (10 : Int) + r6 = m := ⟨(10 + r6).toNat, by omega⟩
    obtain ⟨q, rfl⟩ : ∃ q : Nat, r7 = q := ⟨r7.toNat, by omega⟩
    have n7 : ((7 : Int) == 7) = true := rfl
    simp (disch := first | assumption | omega | (simp only [List.length_cons, List.length_nil]; omega)) only [x_c, x_g, x_v0, x_v1, x_v2, x_v3, x_v4, x_v5, x_v6, x_v7, x_v8, x_v9, x_v10, x_v11, x_v12, x_v13, x_v14, x_v15, x_tup, x_lst, x_op, x_neg, x_not, x_and, x_or, x_ite, x_cmp, x_chain, x_ix, x_sl, x_rev, x_call, x_meth, x_new, x_fld, x_isi, x_bi, x_listof, x_bm, x_nil, x_cons, x_eno, x_eso, x_ival, x_irange, x_irev, x_fcall, x_flst, x_flistof, x_asg, x_asgB, x_ex, x_ret, x_retF, x_site, x_raise, x_cont, x_pass, x_par, x_snil, x_scons, x_tnm, x_ttup, x_tsub, x_tfld, x_cono, x_con0, y_thenT, y_thenF, y_then, y_elseT, y_elseF, y_else, y_ifT, y_ifF, y_if, y_not, y_neg, y_opt, y_chT, y_chF, y_ch, y_seq, y_seqR, y_seqN, y_seqC, y_len0, y_len1, y_len2, y_len3, y_len4, y_len5, y_len6, y_fldQ, y_fldS, y_methQ, y_methS, y_setQ, y_setS, y_new, y_non, y_rvN, y_dV, y_dN, y_bindi, y_bindE, y_map, f_nx, f_rt, f_rn, f_ex, l_w0, l_ws, v_bind, v_some, v_add, v_sub, v_lt, v_le, v_gt, v_ge, v_eqI, v_eqS, v_neN, v_isN, v_isNN, v_ixL, v_ixT, v_lenS, v_lenL, v_lenT, List.getElem?_cons_zero, List.getElem?_cons_succ, List.set_cons_zero, List.set_cons_succ, List.length_cons, List.length_nil, Nat.reduceAdd, Option.map_some, if_true, f_if, Option.bind_some, Bool.true_or, Bool.or_true, Bool.false_or, Bool.or_false, Bool.true_and, Bool.and_true, Bool.false_and, Bool.and_false, Bool.not_true, Bool.not_false, Bool.false_eq_true, if_false, wq_0_0, wq_0_1, wq_0_2, wq_0_3, wq_0_4, wq_0_5, wq_0_6, wq_0_7, wq_0_8, wq_1_0, wq_1_1, wq_1_2, wq_1_3, wq_1_4, wq_1_5, wq_1_6, wq_1_7, wq_1_8, wq_2_0, wq_2_1, wq_2_2, wq_2_3, wq_2_4, wq_2_5, wq_2_6, wq_2_7, wq_2_8, wq_3_0, wq_3_1, wq_3_2, wq_3_3, wq_3_4, wq_3_5, wq_3_6, wq_3_7, wq_3_8, wq_4_0, wq_4_1, wq_4_2, wq_4_3, wq_4_4, wq_4_5, wq_4_6, wq_4_7, wq_4_8, wq_5_0, wq_5_1, wq_5_2, wq_5_3, wq_5_4, wq_5_5, wq_5_6, wq_5_7, wq_5_8, wq_6_0, wq_6_1, wq_6_2, wq_6_3, wq_6_4, wq_6_5, wq_6_6, wq_6_7, wq_6_8, wq_7_0, wq_7_1, wq_7_2, wq_7_3, wq_7_4, wq_7_5, wq_7_6, wq_7_7, wq_7_8, wq_8_0, wq_8_1, wq_8_2, wq_8_3, wq_8_4, wq_8_5, wq_8_6, wq_8_7, wq_8_8, e1', e2, hdiv, ex, e3, hrow, e4, n7, e5, e6, e7, setN, hm]
    have hs : D.tup [.str [115, 105, 110, 99, 101], .tup [.str [110, 111, 116], .tup [.str [105, 115], .int 0]], .tup [.str [105, 115], .int 1], .int (1 + r5), .non] = (F.since (.not (.is 0)) (.is 1) (1 + r5) none).d := rfl
    rw [hs]
    obtain ⟨d, h8, e8, r', rfl, hr', a'⟩ := get_ex (mk_row (by omega : 1 ≤ n) (D7.at a) m q (by omega) x0 x2 (some (F.since (.not (.is 0)) (.is 1) (1 + r5) none).d) (some (rowD r)) x8 x9 x10 x11)
    simp (disch := first | assumption | omega | (simp only [List.length_cons, List.length_nil]; omega)) only [x_c, x_g, x_v0, x_v1, x_v2, x_v3, x_v4, x_v5, x_v6, x_v7, x_v8, x_v9, x_v10, x_v11, x_v12, x_v13, x_v14, x_v15, x_tup, x_lst, x_op, x_neg, x_not, x_and, x_or, x_ite, x_cmp, x_chain, x_ix, x_sl, x_rev, x_call, x_meth, x_new, x_fld, x_isi, x_bi, x_listof, x_bm, x_nil, x_cons, x_eno, x_eso, x_ival, x_irange, x_irev, x_fcall, x_flst, x_flistof, x_asg, x_asgB, x_ex, x_ret, x_retF, x_site, x_raise, x_cont, x_pass, x_par, x_snil, x_scons, x_tnm, x_ttup, x_tsub, x_tfld, x_cono, x_con0, y_thenT, y_thenF, y_then, y_elseT, y_elseF, y_else, y_ifT, y_ifF, y_if, y_not, y_neg, y_opt, y_chT, y_chF, y_ch, y_seq, y_seqR, y_seqN, y_seqC, y_len0, y_len1, y_len2, y_len3, y_len4, y_len5, y_len6, y_fldQ, y_fldS, y_methQ, y_methS, y_setQ, y_setS, y_new, y_non, y_rvN, y_dV, y_dN, y_bindi, y_bindE, y_map, f_nx, f_rt, f_rn, f_ex, l_w0, l_ws, v_bind, v_some, v_add, v_sub, v_lt, v_le, v_gt, v_ge, v_eqI, v_eqS, v_neN, v_isN, v_isNN, v_ixL, v_ixT, v_lenS, v_lenL, v_lenT, List.getElem?_cons_zero, List.getElem?_cons_succ, List.set_cons_zero, List.set_cons_succ, List.length_cons, List.length_nil, Nat.reduceAdd, Option.map_some, if_true, f_if, Option.bind_some, Bool.true_or, Bool.or_true, Bool.false_or, Bool.or_false, Bool.true_and, Bool.and_true, Bool.false_and, Bool.and_false, Bool.not_true, Bool.not_false, Bool.false_eq_true, if_false, wq_0_0, wq_0_1, wq_0_2, wq_0_3, wq_0_4, wq_0_5, wq_0_6, wq_0_7, wq_0_8, wq_1_0, wq_1_1, wq_1_2, wq_1_3, wq_1_4, wq_1_5, wq_1_6, wq_1_7, wq_1_8, wq_2_0, wq_2_1, wq_2_2, wq_2_3, wq_2_4, wq_2_5, wq_2_6, wq_2_7, wq_2_8, wq_3_0, wq_3_1, wq_3_2, wq_3_3, wq_3_4, wq_3_5, wq_3_6, wq_3_7, wq_3_8, wq_4_0, wq_4_1, wq_4_2, wq_4_3, wq_4_4, wq_4_5, wq_4_6, wq_4_7, wq_4_8, wq_5_0, wq_5_1, wq_5_2, wq_5_3, wq_5_4, wq_5_5, wq_5_6, wq_5_7, wq_5_8, wq_6_0, wq_6_1, wq_6_2, wq_6_3, wq_6_4, wq_6_5, wq_6_6, wq_6_7, wq_6_8, wq_7_0, wq_7_1, wq_7_2, wq_7_3, wq_7_4, wq_7_5, wq_7_6, wq_7_7, wq_7_8, wq_8_0, wq_8_1, wq_8_2, wq_8_3, wq_8_4, wq_8_5, wq_8_6, wq_8_7, wq_8_8, e8]
    exact rest h8 (F.since (.not (.is 0)) (.is 1) (1 + r5) none) ⟨⟨⟨by omega, by omega⟩, ⟨by omega, by omega⟩, by omega, by omega, fun _ z => by cases z⟩, by simp [F.dep], by simp [F.parts]⟩ r' hr' _ _ a'
  · have n7 : (r4 == 7) = false := by simpa using h7
    simp (disch := first | assumption | omega | (simp only [List.length_cons, List.length_nil]; omega)) only [x_c, x_g, x_v0, x_v1, x_v2, x_v3, x_v4, x_v5, x_v6, x_v7, x_v8, x_v9, x_v10, x_v11, x_v12, x_v13, x_v14, x_v15, x_tup, x_lst, x_op, x_neg, x_not, x_and, x_or, x_ite, x_cmp, x_chain, x_ix, x_sl, x_rev, x_call, x_meth, x_new, x_fld, x_isi, x_bi, x_listof, x_bm, x_nil, x_cons, x_eno, x_eso, x_ival, x_irange, x_irev, x_fcall, x_flst, x_flistof, x_asg, x_asgB, x_ex, x_ret, x_retF, x_site, x_raise, x_cont, x_pass, x_par, x_snil, x_scons, x_tnm, x_ttup, x_tsub, x_tfld, x_cono, x_con0, y_thenT, y_thenF, y_then, y_elseT, y_elseF, y_else, y_ifT, y_ifF, y_if, y_not, y_neg, y_opt, y_chT, y_chF, y_ch, y_seq, y_seqR, y_seqN, y_seqC, y_len0, y_len1, y_len2, y_len3, y_len4, y_len5, y_len6, y_fldQ, y_fldS, y_methQ, y_methS, y_setQ, y_setS, y_new, y_non, y_rvN, y_dV, y_dN, y_bindi, y_bindE, y_map, f_nx, f_rt, f_rn, f_ex, l_w0, l_ws, v_bind, v_some, v_add, v_sub, v_lt, v_le, v_gt, v_ge, v_eqI, v_eqS, v_neN, v_isN, v_isNN, v_ixL, v_ixT, v_lenS, v_lenL, v_lenT, List.getElem?_cons_zero, List.getElem?_cons_succ, List.set_cons_zero, List.set_cons_succ, List.length_cons, List.length_nil, Nat.reduceAdd, Option.map_some, if_true, f_if, Option.bind_some, Bool.true_or, Bool.or_true, Bool.false_or, Bool.or_false, Bool.true_and, Bool.and_true, Bool.false_and, Bool.and_false, Bool.not_true, Bool.not_false, Bool.false_eq_true, if_false, wq_0_0, wq_0_1, wq_0_2, wq_0_3, wq_0_4, wq_0_5, wq_0_6, wq_0_7, wq_0_8, wq_1_0, wq_1_1, wq_1_2, wq_1_3, wq_1_4, wq_1_5, wq_1_6, wq_1_7, wq_1_8, wq_2_0, wq_2_1, wq_2_2, wq_2_3, wq_2_4, wq_2_5, wq_2_6, wq_2_7, wq_2_8, wq_3_0, wq_3_1, wq_3_2, wq_3_3, wq_3_4, wq_3_5, wq_3_6, wq_3_7, wq_3_8, wq_4_0, wq_4_1, wq_4_2, wq_4_3, wq_4_4, wq_4_5, wq_4_6, wq_4_7, wq_4_8, wq_5_0, wq_5_1, wq_5_2, wq_5_3, wq_5_4, wq_5_5, wq_5_6, wq_5_7, wq_5_8, wq_6_0, wq_6_1, wq_6_2, wq_6_3, wq_6_4, wq_6_5, wq_6_6, wq_6_7, wq_6_8, wq_7_0, wq_7_1, wq_7_2, wq_7_3, wq_7_4, wq_7_5, wq_7_6, wq_7_7, wq_7_8, wq_8_0, wq_8_1, wq_8_2, wq_8_3, wq_8_4, wq_8_5, wq_8_6, wq_8_7, wq_8_8, e1', e2, hdiv, ex, e3, hrow, e4, n7]
    exact rest h4 f ⟨f1, f2, f3⟩ r g3 _ _ (D4.at a)
theorem law_true : ∀ ns : List Int, ns.length ≤ 63 → ∃ h', run cfg tbl 60 1010 [.scr ns] [] = .ok (.val (.bl true)) h' := by
  intro ns _
  have a : At ns 0 [.lst [.scr ns, .int 0, .int 0, .int 0]] := ⟨_, rfl, 0, 0, 0, rfl, by omega, by omega, by omega⟩
  have key : (run cfg tbl 60 1010 [.scr ns] []).get fun rv h' => rv = .val (.bl true) := by
    rw [u_1010]
    have hb : fn_1010.body = .cons (.asgB (.nm 1) (.lst (.cons (.v 0) (.cons (.c (.int 0)) (.cons (.c (.int 0)) (.cons (.c (.int 0)) .nil)))))) (.cons (.for_ (.nm 2) (.range (.cons (.c (.int 4)) .nil)) lwOuter) (.cons (.ret (.c (.bl true))) .nil)) := rfl
    rw [hb]
    have l4 : ([D.scr ns, .int 0, .int 0, .int 0] : List D).length ≤ LINE := by show 4 ≤ LINE; decide
    simp (disch := first | assumption | omega | (simp only [List.length_cons, List.length_nil]; omega)) only [x_c, x_g, x_v0, x_v1, x_v2, x_v3, x_v4, x_v5, x_v6, x_v7, x_v8, x_v9, x_v10, x_v11, x_v12, x_v13, x_v14, x_v15, x_tup, x_lst, x_op, x_neg, x_not, x_and, x_or, x_ite, x_cmp, x_chain, x_ix, x_sl, x_rev, x_call, x_meth, x_new, x_fld, x_isi, x_bi, x_listof, x_bm, x_nil, x_cons, x_eno, x_eso, x_ival, x_irange, x_irev, x_fcall, x_flst, x_flistof, x_asg, x_asgB, x_ex, x_ret, x_retF, x_site, x_raise, x_cont, x_pass, x_par, x_snil, x_scons, x_tnm, x_ttup, x_tsub, x_tfld, x_cono, x_con0, y_thenT, y_thenF, y_then, y_elseT, y_elseF, y_else, y_ifT, y_ifF, y_if, y_not, y_neg, y_opt, y_chT, y_chF, y_ch, y_seq, y_seqR, y_seqN, y_seqC, y_len0, y_len1, y_len2, y_len3, y_len4, y_len5, y_len6, y_fldQ, y_fldS, y_methQ, y_methS, y_setQ, y_setS, y_new, y_non, y_rvN, y_dV, y_dN, y_bindi, y_bindE, y_map, f_nx, f_rt, f_rn, f_ex, l_w0, l_ws, v_bind, v_some, v_add, v_sub, v_lt, v_le, v_gt, v_ge, v_eqI, v_eqS, v_neN, v_isN, v_isNN, v_ixL, v_ixT, v_lenS, v_lenL, v_lenT, List.getElem?_cons_zero, List.getElem?_cons_succ, List.set_cons_zero, List.set_cons_succ, List.length_cons, List.length_nil, Nat.reduceAdd, Option.map_some, if_true, f_if, Option.bind_some, Bool.true_or, Bool.or_true, Bool.false_or, Bool.or_false, Bool.true_and, Bool.and_true, Bool.false_and, Bool.and_false, Bool.not_true, Bool.not_false, Bool.false_eq_true, if_false, wq_0_0, wq_0_1, wq_0_2, wq_0_3, wq_0_4, wq_0_5, wq_0_6, wq_0_7, wq_0_8, wq_1_0, wq_1_1, wq_1_2, wq_1_3, wq_1_4, wq_1_5, wq_1_6, wq_1_7, wq_1_8, wq_2_0, wq_2_1, wq_2_2, wq_2_3, wq_2_4, wq_2_5, wq_2_6, wq_2_7, wq_2_8, wq_3_0, wq_3_1, wq_3_2, wq_3_3, wq_3_4, wq_3_5, wq_3_6, wq_3_7, wq_3_8, wq_4_0, wq_4_1, wq_4_2, wq_4_3, wq_4_4, wq_4_5, wq_4_6, wq_4_7, wq_4_8, wq_5_0, wq_5_1, wq_5_2, wq_5_3, wq_5_4, wq_5_5, wq_5_6, wq_5_7, wq_5_8, wq_6_0, wq_6_1, wq_6_2, wq_6_3, wq_6_4, wq_6_5, wq_6_6, wq_6_7, wq_6_8, wq_7_0, wq_7_1, wq_7_2, wq_7_3, wq_7_4, wq_7_5, wq_7_6, wq_7_7, wq_7_8, wq_8_0, wq_8_1, wq_8_2, wq_8_3, wq_8_4, wq_8_5, wq_8_6, wq_8_7, wq_8_8, x_flst, LINE, Nat.reduceLeDiff, List.nil_append]
    refine get_fing (get_bind (e_for (fun i ρ h' => At ns 0 h' ∧ ∃ y2 y3 y4 y5 y6 y8 y9 y10 y11, ρ = [some (.scr ns), some (.ref 0), y2, y3, y4, y5, y6, none, y8, y9, y10, y11])
      (fun o h' => ∃ ρ, o = .nx ρ) _ (by simp (disch := first | assumption | omega | (simp only [List.length_cons, List.length_nil]; omega)) only [x_c, x_g, x_v0, x_v1, x_v2, x_v3, x_v4, x_v5, x_v6, x_v7, x_v8, x_v9, x_v10, x_v11, x_v12, x_v13, x_v14, x_v15, x_tup, x_lst, x_op, x_neg, x_not, x_and, x_or, x_ite, x_cmp, x_chain, x_ix, x_sl, x_rev, x_call, x_meth, x_new, x_fld, x_isi, x_bi, x_listof, x_bm, x_nil, x_cons, x_eno, x_eso, x_ival, x_irange, x_irev, x_fcall, x_flst, x_flistof, x_asg, x_asgB, x_ex, x_ret, x_retF, x_site, x_raise, x_cont, x_pass, x_par, x_snil, x_scons, x_tnm, x_ttup, x_tsub, x_tfld, x_cono, x_con0, y_thenT, y_thenF, y_then, y_elseT, y_elseF, y_else, y_ifT, y_ifF, y_if, y_not, y_neg, y_opt, y_chT, y_chF, y_ch, y_seq, y_seqR, y_seqN, y_seqC, y_len0, y_len1, y_len2, y_len3, y_len4, y_len5, y_len6, y_fldQ, y_fldS, y_methQ, y_methS, y_setQ, y_setS, y_new, y_non, y_rvN, y_dV, y_dN, y_bindi, y_bindE, y_map, f_nx, f_rt, f_rn, f_ex, l_w0, l_ws, v_bind, v_some, v_add, v_sub, v_lt, v_le, v_gt, v_ge, v_eqI, v_eqS, v_neN, v_isN, v_isNN, v_ixL, v_ixT, v_lenS, v_lenL, v_lenT, List.getElem?_cons_zero, List.getElem?_cons_succ, List.set_cons_zero, List.set_cons_succ, List.length_cons, List.length_nil, Nat.reduceAdd, Option.map_some, if_true, f_if, Option.bind_some, Bool.true_or, Bool.or_true, Bool.false_or, Bool.or_false, Bool.true_and, Bool.and_true, Bool.false_and, Bool.and_false, Bool.not_true, Bool.not_false, Bool.false_eq_true, if_false, wq_0_0, wq_0_1, wq_0_2, wq_0_3, wq_0_4, wq_0_5, wq_0_6, wq_0_7, wq_0_8, wq_1_0, wq_1_1, wq_1_2, wq_1_3, wq_1_4, wq_1_5, wq_1_6, wq_1_7, wq_1_8, wq_2_0, wq_2_1, wq_2_2, wq_2_3, wq_2_4, wq_2_5, wq_2_6, wq_2_7, wq_2_8, wq_3_0, wq_3_1, wq_3_2, wq_3_3, wq_3_4, wq_3_5, wq_3_6, wq_3_7, wq_3_8, wq_4_0, wq_4_1, wq_4_2, wq_4_3, wq_4_4, wq_4_5, wq_4_6, wq_4_7, wq_4_8, wq_5_0, wq_5_1, wq_5_2, wq_5_3, wq_5_4, wq_5_5, wq_5_6, wq_5_7, wq_5_8, wq_6_0, wq_6_1, wq_6_2, wq_6_3, wq_6_4, wq_6_5, wq_6_6, wq_6_7, wq_6_8, wq_7_0, wq_7_1, wq_7_2, wq_7_3, wq_7_4, wq_7_5, wq_7_6, wq_7_7, wq_7_8, wq_8_0, wq_8_1, wq_8_2, wq_8_3, wq_8_4, wq_8_5, wq_8_6, wq_8_7, wq_8_8, range_eq 4 (by decide) (by decide)]; rfl) ⟨a, _, _, _, _, _, _, _, _, _, rfl⟩ ?_ ?_) ?_) (P := fun o h' => o = .rt (.bl true)) ?_
    · rintro i x ρ h' _ ⟨a, y2, y3, y4, y5, y6, y8, y9, y10, y11, rfl⟩
      refine ⟨_, rfl, ?_⟩
      refine get_mono (outer (by omega) a (some (.scr ns)) _ y3 y4 y5 y6 y8 y9 y10 y11) ?_
      rintro o h' ⟨a, z3, z4, z5, z6, z8, z9, z10, z11, rfl⟩
      exact ⟨a, _, _, _, _, _, _, _, _, _, rfl⟩
    · rintro ρ h' _
      exact ⟨_, rfl⟩
    · rintro o h' ⟨ρ, rfl⟩
      simp (disch := first | assumption | omega | (simp only [List.length_cons, List.length_nil]; omega)) only [x_c, x_g, x_v0, x_v1, x_v2, x_v3, x_v4, x_v5, x_v6, x_v7, x_v8, x_v9, x_v10, x_v11, x_v12, x_v13, x_v14, x_v15, x_tup, x_lst, x_op, x_neg, x_not, x_and, x_or, x_ite, x_cmp, x_chain, x_ix, x_sl, x_rev, x_call, x_meth, x_new, x_fld, x_isi, x_bi, x_listof, x_bm, x_nil, x_cons, x_eno, x_eso, x_ival, x_irange, x_irev, x_fcall, x_flst, x_flistof, x_asg, x_asgB, x_ex, x_ret, x_retF, x_site, x_raise, x_cont, x_pass, x_par, x_snil, x_scons, x_tnm, x_ttup, x_tsub, x_tfld, x_cono, x_con0, y_thenT, y_thenF, y_then, y_elseT, y_elseF, y_else, y_ifT, y_ifF, y_if, y_not, y_neg, y_opt, y_chT, y_chF, y_ch, y_seq, y_seqR, y_seqN, y_seqC, y_len0, y_len1, y_len2, y_len3, y_len4, y_len5, y_len6, y_fldQ, y_fldS, y_methQ, y_methS, y_setQ, y_setS, y_new, y_non, y_rvN, y_dV, y_dN, y_bindi, y_bindE, y_map, f_nx, f_rt, f_rn, f_ex, l_w0, l_ws, v_bind, v_some, v_add, v_sub, v_lt, v_le, v_gt, v_ge, v_eqI, v_eqS, v_neN, v_isN, v_isNN, v_ixL, v_ixT, v_lenS, v_lenL, v_lenT, List.getElem?_cons_zero, List.getElem?_cons_succ, List.set_cons_zero, List.set_cons_succ, List.length_cons, List.length_nil, Nat.reduceAdd, Option.map_some, if_true, f_if, Option.bind_some, Bool.true_or, Bool.or_true, Bool.false_or, Bool.or_false, Bool.true_and, Bool.and_true, Bool.false_and, Bool.and_false, Bool.not_true, Bool.not_false, Bool.false_eq_true, if_false, wq_0_0, wq_0_1, wq_0_2, wq_0_3, wq_0_4, wq_0_5, wq_0_6, wq_0_7, wq_0_8, wq_1_0, wq_1_1, wq_1_2, wq_1_3, wq_1_4, wq_1_5, wq_1_6, wq_1_7, wq_1_8, wq_2_0, wq_2_1, wq_2_2, wq_2_3, wq_2_4, wq_2_5, wq_2_6, wq_2_7, wq_2_8, wq_3_0, wq_3_1, wq_3_2, wq_3_3, wq_3_4, wq_3_5, wq_3_6, wq_3_7, wq_3_8, wq_4_0, wq_4_1, wq_4_2, wq_4_3, wq_4_4, wq_4_5, wq_4_6, wq_4_7, wq_4_8, wq_5_0, wq_5_1, wq_5_2, wq_5_3, wq_5_4, wq_5_5, wq_5_6, wq_5_7, wq_5_8, wq_6_0, wq_6_1, wq_6_2, wq_6_3, wq_6_4, wq_6_5, wq_6_6, wq_6_7, wq_6_8, wq_7_0, wq_7_1, wq_7_2, wq_7_3, wq_7_4, wq_7_5, wq_7_6, wq_7_7, wq_7_8, wq_8_0, wq_8_1, wq_8_2, wq_8_3, wq_8_4, wq_8_5, wq_8_6, wq_8_7, wq_8_8, get_ok]
    · rintro o h' rfl
      rw [fin_law, get_ok]
  obtain ⟨rv, h', e, rfl⟩ := get_ex key
  exact ⟨h', e⟩
end K03


set_option Elab.async false
set_option linter.all false
set_option maxRecDepth 100000
set_option maxHeartbeats 4000000
namespace K03
open Mn PySem PySem.Spec PyProof.Rows L2
def ps_ : Nat → List Str
  | 13 => ["part", "low", "high"]
  | 14 => ["part", "sort", "ahead"]
  | 15 => ["part"]
  | 16 => ["part"]
  | 17 => ["sentence"]
  | 18 => ["row"]
  | 21 => ["self", "part", "row"]
  | 22 => ["self", "j", "k"]
  | 23 => ["self", "part", "j", "k"]
  | 24 => ["self", "part", "k"]
  | 25 => ["self", "part", "k"]
  | 26 => ["self", "which", "k", "back"]
  | 27 => ["self", "part", "k"]
  | 28 => ["part", "row"]
  | 29 => ["sentence", "row"]
  | 1000 => ["_law_row_here", "_law_many"]
  | 1001 => ["_law_found", "_law_due"]
  | 1002 => ["_law_row_here"]
  | 1003 => ["_law_row_here", "_law_far"]
  | 1004 => ["_law_row_here", "_law_deep_here", "_law_far"]
  | 1005 => ["_law_sentence_here"]
  | 1006 => ["_law_sentence_here"]
  | 1007 => ["_law_row_here", "_law_most", "_law_far"]
  | 1008 => ["_law_row_here", "_law_most"]
  | 1009 => ["_law_sentence_here", "_law_some"]
  | 1010 => ["_law_script"]
  | _ => []
def fnm_ : Nat → Str
  | 13 => "is_number"
  | 14 => "is_plain"
  | 15 => "parts_of"
  | 16 => "is_one"
  | 17 => "need_sentence"
  | 18 => "need_row"
  | 28 => "held"
  | 29 => "holds"
  | 1000 => "_law_taken"
  | 1001 => "_law_alike"
  | 1002 => "_law_leaf"
  | 1003 => "_law_back"
  | 1004 => "_law_sentence"
  | 1005 => "_law_parts"
  | 1006 => "_law_deep"
  | 1007 => "_law_drawn"
  | 1008 => "_law_row"
  | 1009 => "_law_holds"
  | 1010 => "law"
  | _ => ""
def cnm_ : Nat → Str
  | 13 => "Held"
  | _ => ""
def fln_ : List Str := ["no field 0", "place", "number", "row", "told", "ahead", "gap", "word", "worth", "behind", "sentence", "letters", "met", "rows", "one", "other", "pairs", "names", "ways", "late", "greatest", "standing", "last", "waiting", "words", "at"]
def mnn_ : List Str := ["__init__", "ago", "is_within", "is_behind", "is_since", "count", "tells", "grown", "tell", "put", "go", "classes", "row_to", "begun", "step", "best", "loop", "edge", "finds", "settle", "need_late", "come", "gone", "pass_to", "kept", "taken", "read_one"]
def gn_ : Nat → Str
  | 1 => "WORDS"
  | 2 => "WORTHS"
  | 3 => "MOST_PARTS"
  | 4 => "MOST_DEEP"
  | 5 => "MOST_BACK"
  | 6 => "MOST_COUNT"
  | 7 => "MOST_TIME"
  | 8 => "MOST_ROW"
  | 100 => "FORMS"
  | _ => ""
def gv_ : Nat → Option D
  | 1 => some (.int 4)
  | 2 => some (.int 10)
  | 3 => some (.int 24)
  | 4 => some (.int 6)
  | 5 => some (.int 6)
  | 6 => some (.int 4)
  | 7 => some (.int 1000000)
  | 8 => some (.int 200)
  | 100 => some (.gd 0)
  | _ => none
def sta : Sta := { ps := ps_, fnm := fnm_, cnm := cnm_, fln := fln_, mnn := mnn_, gn := gn_, gv := gv_, FL := [3, 4], C := cfg, L := [13, 14, 15, 16, 17, 18, 28, 29, 1000, 1001, 1002, 1003, 1004, 1005, 1006, 1007, 1008, 1009, 1010], LA := [13, 14, 15, 16, 17, 18, 21, 22, 23, 24, 25, 26, 27, 28, 29, 1000, 1001, 1002, 1003, 1004, 1005, 1006, 1007, 1008, 1009, 1010], CL := [13] }
def top (i : Nat) : Stmt := PySem.Challenge.pw_happenwords_k03_whole_where_sentences_ho.main.body.getD i (.Pass ⟨0, 0, 0, 0⟩)
abbrev st_13 : Stmt := top 14
def N_13 : List Str := ["part", "low", "high"]
abbrev st_14 : Stmt := top 15
def N_14 : List Str := ["part", "sort", "ahead"]
abbrev st_15 : Stmt := top 16
def N_15 : List Str := ["part", "form", "k"]
abbrev st_16 : Stmt := top 17
def N_16 : List Str := ["part", "form", "k"]
abbrev st_17 : Stmt := top 18
def N_17 : List Str := ["sentence", "left", "place", "part", "deep", "one"]
abbrev st_18 : Stmt := top 19
def N_18 : List Str := ["row", "number", "time", "word", "worth", "good"]
abbrev st_21 : Stmt := inClass (top 21) 0
def N_21 : List Str := ["self", "part", "row", "one"]
abbrev st_22 : Stmt := inClass (top 21) 1
def N_22 : List Str := ["self", "j", "k"]
abbrev st_23 : Stmt := inClass (top 21) 2
def N_23 : List Str := ["self", "part", "j", "k"]
abbrev st_24 : Stmt := inClass (top 21) 3
def N_24 : List Str := ["self", "part", "k", "j"]
abbrev st_25 : Stmt := inClass (top 21) 4
def N_25 : List Str := ["self", "part", "k", "j"]
abbrev st_26 : Stmt := inClass (top 21) 5
def N_26 : List Str := ["self", "which", "k", "back", "j"]
abbrev st_27 : Stmt := inClass (top 21) 6
def N_27 : List Str := ["self", "part", "k", "word"]
abbrev st_28 : Stmt := top 22
def N_28 : List Str := ["part", "row", "here", "k"]
abbrev st_29 : Stmt := top 23
def N_29 : List Str := ["sentence", "row"]
abbrev st_1000 : Stmt := top 25
def N_1000 : List Str := ["_law_row_here", "_law_many", "_law_found", "_law_cell"]
abbrev st_1001 : Stmt := top 26
def N_1001 : List Str := ["_law_found", "_law_due", "_law_k"]
abbrev st_1002 : Stmt := top 27
def N_1002 : List Str := ["_law_row_here"]
abbrev st_1003 : Stmt := top 28
def N_1003 : List Str := ["_law_row_here", "_law_far", "_law_low", "_law_high"]
abbrev st_1004 : Stmt := top 29
def N_1004 : List Str := ["_law_row_here", "_law_deep_here", "_law_far", "_law_way", "_law_one", "_law_other"]
abbrev st_1005 : Stmt := top 30
def N_1005 : List Str := ["_law_sentence_here", "_law_found", "_law_part"]
abbrev st_1006 : Stmt := top 31
def N_1006 : List Str := ["_law_sentence_here", "_law_part"]
abbrev st_1007 : Stmt := top 32
def N_1007 : List Str := ["_law_row_here", "_law_most", "_law_far", "_law_turn", "_law_found"]
abbrev st_1008 : Stmt := top 33
def N_1008 : List Str := ["_law_row_here", "_law_most", "_law_found", "_law_time", "_law_wide", "_law_k"]
abbrev st_1009 : Stmt := top 34
def N_1009 : List Str := ["_law_sentence_here", "_law_some", "_law_word", "_law_told", "_law_part", "_law_found", "_law_k", "_law_gaps", "_law_one", "_law_near", "_law_j", "_law_counts", "_law_i", "_law_low", "_law_high"]
abbrev st_1010 : Stmt := top 35
def N_1010 : List Str := ["_law_script", "_law_row_here", "_law_turn", "_law_sentence_here", "_law_some", "_law_many", "_law_at", "_law_k", "_law_due", "_law_handed", "_law_again", "_law_found"]
theorem sc_13 : FnScope N_13 (ps_ 13) (defScope st_13) := ⟨rfl, rfl, rfl, by decide +kernel, rfl, by decide +kernel, by decide +kernel⟩
theorem ck_13 (d : Dyn) : chkSs (mkS sta d) N_13 60 (defScope st_13) fn_13.body (defBody st_13) = true := by kernel_rfl
theorem sc_14 : FnScope N_14 (ps_ 14) (defScope st_14) := ⟨rfl, rfl, rfl, by decide +kernel, rfl, by decide +kernel, by decide +kernel⟩
theorem ck_14 (d : Dyn) : chkSs (mkS sta d) N_14 60 (defScope st_14) fn_14.body (defBody st_14) = true := by kernel_rfl
theorem sc_15 : FnScope N_15 (ps_ 15) (defScope st_15) := ⟨rfl, rfl, rfl, by decide +kernel, rfl, by decide +kernel, by decide +kernel⟩
theorem ck_15 (d : Dyn) : chkSs (mkS sta d) N_15 60 (defScope st_15) fn_15.body (defBody st_15) = true := by kernel_rfl
theorem sc_16 : FnScope N_16 (ps_ 16) (defScope st_16) := ⟨rfl, rfl, rfl, by decide +kernel, rfl, by decide +kernel, by decide +kernel⟩
theorem ck_16 (d : Dyn) : chkSs (mkS sta d) N_16 60 (defScope st_16) fn_16.body (defBody st_16) = true := by kernel_rfl
theorem sc_17 : FnScope N_17 (ps_ 17) (defScope st_17) := ⟨rfl, rfl, rfl, by decide +kernel, rfl, by decide +kernel, by decide +kernel⟩
theorem ck_17 (d : Dyn) : chkSs (mkS sta d) N_17 60 (defScope st_17) fn_17.body (defBody st_17) = true := by kernel_rfl
theorem sc_18 : FnScope N_18 (ps_ 18) (defScope st_18) := ⟨rfl, rfl, rfl, by decide +kernel, rfl, by decide +kernel, by decide +kernel⟩
theorem ck_18 (d : Dyn) : chkSs (mkS sta d) N_18 60 (defScope st_18) fn_18.body (defBody st_18) = true := by kernel_rfl
theorem sc_21 : FnScope N_21 (ps_ 21) (defScope st_21) := ⟨rfl, rfl, rfl, by decide +kernel, rfl, by decide +kernel, by decide +kernel⟩
theorem ck_21 (d : Dyn) : chkSs (mkS sta d) N_21 60 (defScope st_21) fn_21.body (defBody st_21) = true := by kernel_rfl
theorem sc_22 : FnScope N_22 (ps_ 22) (defScope st_22) := ⟨rfl, rfl, rfl, by decide +kernel, rfl, by decide +kernel, by decide +kernel⟩
theorem ck_22 (d : Dyn) : chkSs (mkS sta d) N_22 60 (defScope st_22) fn_22.body (defBody st_22) = true := by kernel_rfl
theorem sc_23 : FnScope N_23 (ps_ 23) (defScope st_23) := ⟨rfl, rfl, rfl, by decide +kernel, rfl, by decide +kernel, by decide +kernel⟩
theorem ck_23 (d : Dyn) : chkSs (mkS sta d) N_23 60 (defScope st_23) fn_23.body (defBody st_23) = true := by kernel_rfl
theorem sc_24 : FnScope N_24 (ps_ 24) (defScope st_24) := ⟨rfl, rfl, rfl, by decide +kernel, rfl, by decide +kernel, by decide +kernel⟩
theorem ck_24 (d : Dyn) : chkSs (mkS sta d) N_24 60 (defScope st_24) fn_24.body (defBody st_24) = true := by kernel_rfl
theorem sc_25 : FnScope N_25 (ps_ 25) (defScope st_25) := ⟨rfl, rfl, rfl, by decide +kernel, rfl, by decide +kernel, by decide +kernel⟩
theorem ck_25 (d : Dyn) : chkSs (mkS sta d) N_25 60 (defScope st_25) fn_25.body (defBody st_25) = true := by kernel_rfl
theorem sc_26 : FnScope N_26 (ps_ 26) (defScope st_26) := ⟨rfl, rfl, rfl, by decide +kernel, rfl, by decide +kernel, by decide +kernel⟩
theorem ck_26 (d : Dyn) : chkSs (mkS sta d) N_26 60 (defScope st_26) fn_26.body (defBody st_26) = true := by kernel_rfl
theorem sc_27 : FnScope N_27 (ps_ 27) (defScope st_27) := ⟨rfl, rfl, rfl, by decide +kernel, rfl, by decide +kernel, by decide +kernel⟩
theorem ck_27 (d : Dyn) : chkSs (mkS sta d) N_27 60 (defScope st_27) fn_27.body (defBody st_27) = true := by kernel_rfl
theorem sc_28 : FnScope N_28 (ps_ 28) (defScope st_28) := ⟨rfl, rfl, rfl, by decide +kernel, rfl, by decide +kernel, by decide +kernel⟩
theorem ck_28 (d : Dyn) : chkSs (mkS sta d) N_28 60 (defScope st_28) fn_28.body (defBody st_28) = true := by kernel_rfl
theorem sc_29 : FnScope N_29 (ps_ 29) (defScope st_29) := ⟨rfl, rfl, rfl, by decide +kernel, rfl, by decide +kernel, by decide +kernel⟩
theorem ck_29 (d : Dyn) : chkSs (mkS sta d) N_29 60 (defScope st_29) fn_29.body (defBody st_29) = true := by kernel_rfl
theorem sc_1000 : FnScope N_1000 (ps_ 1000) (defScope st_1000) := ⟨rfl, rfl, rfl, by decide +kernel, rfl, by decide +kernel, by decide +kernel⟩
theorem ck_1000 (d : Dyn) : chkSs (mkS sta d) N_1000 60 (defScope st_1000) fn_1000.body (defBody st_1000) = true := by kernel_rfl
theorem sc_1001 : FnScope N_1001 (ps_ 1001) (defScope st_1001) := ⟨rfl, rfl, rfl, by decide +kernel, rfl, by decide +kernel, by decide +kernel⟩
theorem ck_1001 (d : Dyn) : chkSs (mkS sta d) N_1001 60 (defScope st_1001) fn_1001.body (defBody st_1001) = true := by kernel_rfl
theorem sc_1002 : FnScope N_1002 (ps_ 1002) (defScope st_1002) := ⟨rfl, rfl, rfl, by decide +kernel, rfl, by decide +kernel, by decide +kernel⟩
theorem ck_1002 (d : Dyn) : chkSs (mkS sta d) N_1002 60 (defScope st_1002) fn_1002.body (defBody st_1002) = true := by kernel_rfl
theorem sc_1003 : FnScope N_1003 (ps_ 1003) (defScope st_1003) := ⟨rfl, rfl, rfl, by decide +kernel, rfl, by decide +kernel, by decide +kernel⟩
theorem ck_1003 (d : Dyn) : chkSs (mkS sta d) N_1003 60 (defScope st_1003) fn_1003.body (defBody st_1003) = true := by kernel_rfl
theorem sc_1004 : FnScope N_1004 (ps_ 1004) (defScope st_1004) := ⟨rfl, rfl, rfl, by decide +kernel, rfl, by decide +kernel, by decide +kernel⟩
theorem ck_1004 (d : Dyn) : chkSs (mkS sta d) N_1004 60 (defScope st_1004) fn_1004.body (defBody st_1004) = true := by kernel_rfl
theorem sc_1005 : FnScope N_1005 (ps_ 1005) (defScope st_1005) := ⟨rfl, rfl, rfl, by decide +kernel, rfl, by decide +kernel, by decide +kernel⟩
theorem ck_1005 (d : Dyn) : chkSs (mkS sta d) N_1005 60 (defScope st_1005) fn_1005.body (defBody st_1005) = true := by kernel_rfl
theorem sc_1006 : FnScope N_1006 (ps_ 1006) (defScope st_1006) := ⟨rfl, rfl, rfl, by decide +kernel, rfl, by decide +kernel, by decide +kernel⟩
theorem ck_1006 (d : Dyn) : chkSs (mkS sta d) N_1006 60 (defScope st_1006) fn_1006.body (defBody st_1006) = true := by kernel_rfl
theorem sc_1007 : FnScope N_1007 (ps_ 1007) (defScope st_1007) := ⟨rfl, rfl, rfl, by decide +kernel, rfl, by decide +kernel, by decide +kernel⟩
theorem ck_1007 (d : Dyn) : chkSs (mkS sta d) N_1007 60 (defScope st_1007) fn_1007.body (defBody st_1007) = true := by kernel_rfl
theorem sc_1008 : FnScope N_1008 (ps_ 1008) (defScope st_1008) := ⟨rfl, rfl, rfl, by decide +kernel, rfl, by decide +kernel, by decide +kernel⟩
theorem ck_1008 (d : Dyn) : chkSs (mkS sta d) N_1008 60 (defScope st_1008) fn_1008.body (defBody st_1008) = true := by kernel_rfl
theorem sc_1009 : FnScope N_1009 (ps_ 1009) (defScope st_1009) := ⟨rfl, rfl, rfl, by decide +kernel, rfl, by decide +kernel, by decide +kernel⟩
theorem ck_1009 (d : Dyn) : chkSs (mkS sta d) N_1009 60 (defScope st_1009) fn_1009.body (defBody st_1009) = true := by kernel_rfl
theorem sc_1010 : FnScope N_1010 (ps_ 1010) (defScope st_1010) := ⟨rfl, rfl, rfl, by decide +kernel, rfl, by decide +kernel, by decide +kernel⟩
theorem ck_1010 (d : Dyn) : chkSs (mkS sta d) N_1010 60 (defScope st_1010) fn_1010.body (defBody st_1010) = true := by kernel_rfl
end K03
namespace K03
open Mn PySem PySem.Spec PyProof.Rows L2
theorem mt_cases : ∀ c m f, mt c m = some f → (c = 13 ∧ m = 0 ∧ f = 21) ∨ (c = 13 ∧ m = 1 ∧ f = 22) ∨ (c = 13 ∧ m = 2 ∧ f = 23) ∨ (c = 13 ∧ m = 3 ∧ f = 24) ∨ (c = 13 ∧ m = 4 ∧ f = 25) ∨ (c = 13 ∧ m = 5 ∧ f = 26) ∨ (c = 13 ∧ m = 6 ∧ f = 27) := by
  intro c m f hf
  unfold mt at hf
  split at hf <;> first | (cases hf; simp; done) | (cases hf; done)
section
variable {P : Program} {w : World} {K : PySem.W.Frag} {h : Heap} {mg : Str → Option Value}
theorem all_mk {fa : Addr} (X : K.In h) (G : h.Ns mainGlobals mg) (hfa : mg "law" = some (.ref fa))
    {C_13 : Addr} {f_13 : Addr} {od_13 an_13 : Option Addr} {sl_13 : Array (Option Value)} {oc_13 kV_13 dc_13 pm_13 cd_13 ct_13 : Value} {f_14 : Addr} {od_14 an_14 : Option Addr} {sl_14 : Array (Option Value)} {oc_14 kV_14 dc_14 pm_14 cd_14 ct_14 : Value} {f_15 : Addr} {od_15 an_15 : Option Addr} {sl_15 : Array (Option Value)} {oc_15 kV_15 dc_15 pm_15 cd_15 ct_15 : Value} {f_16 : Addr} {od_16 an_16 : Option Addr} {sl_16 : Array (Option Value)} {oc_16 kV_16 dc_16 pm_16 cd_16 ct_16 : Value} {f_17 : Addr} {od_17 an_17 : Option Addr} {sl_17 : Array (Option Value)} {oc_17 kV_17 dc_17 pm_17 cd_17 ct_17 : Value} {f_18 : Addr} {od_18 an_18 : Option Addr} {sl_18 : Array (Option Value)} {oc_18 kV_18 dc_18 pm_18 cd_18 ct_18 : Value} {f_21 : Addr} {od_21 an_21 : Option Addr} {sl_21 : Array (Option Value)} {oc_21 kV_21 dc_21 pm_21 cd_21 ct_21 : Value} {f_22 : Addr} {od_22 an_22 : Option Addr} {sl_22 : Array (Option Value)} {oc_22 kV_22 dc_22 pm_22 cd_22 ct_22 : Value} {f_23 : Addr} {od_23 an_23 : Option Addr} {sl_23 : Array (Option Value)} {oc_23 kV_23 dc_23 pm_23 cd_23 ct_23 : Value} {f_24 : Addr} {od_24 an_24 : Option Addr} {sl_24 : Array (Option Value)} {oc_24 kV_24 dc_24 pm_24 cd_24 ct_24 : Value} {f_25 : Addr} {od_25 an_25 : Option Addr} {sl_25 : Array (Option Value)} {oc_25 kV_25 dc_25 pm_25 cd_25 ct_25 : Value} {f_26 : Addr} {od_26 an_26 : Option Addr} {sl_26 : Array (Option Value)} {oc_26 kV_26 dc_26 pm_26 cd_26 ct_26 : Value} {f_27 : Addr} {od_27 an_27 : Option Addr} {sl_27 : Array (Option Value)} {oc_27 kV_27 dc_27 pm_27 cd_27 ct_27 : Value} {f_28 : Addr} {od_28 an_28 : Option Addr} {sl_28 : Array (Option Value)} {oc_28 kV_28 dc_28 pm_28 cd_28 ct_28 : Value} {f_29 : Addr} {od_29 an_29 : Option Addr} {sl_29 : Array (Option Value)} {oc_29 kV_29 dc_29 pm_29 cd_29 ct_29 : Value} {f_1000 : Addr} {od_1000 an_1000 : Option Addr} {sl_1000 : Array (Option Value)} {oc_1000 kV_1000 dc_1000 pm_1000 cd_1000 ct_1000 : Value} {f_1001 : Addr} {od_1001 an_1001 : Option Addr} {sl_1001 : Array (Option Value)} {oc_1001 kV_1001 dc_1001 pm_1001 cd_1001 ct_1001 : Value} {f_1002 : Addr} {od_1002 an_1002 : Option Addr} {sl_1002 : Array (Option Value)} {oc_1002 kV_1002 dc_1002 pm_1002 cd_1002 ct_1002 : Value} {f_1003 : Addr} {od_1003 an_1003 : Option Addr} {sl_1003 : Array (Option Value)} {oc_1003 kV_1003 dc_1003 pm_1003 cd_1003 ct_1003 : Value} {f_1004 : Addr} {od_1004 an_1004 : Option Addr} {sl_1004 : Array (Option Value)} {oc_1004 kV_1004 dc_1004 pm_1004 cd_1004 ct_1004 : Value} {f_1005 : Addr} {od_1005 an_1005 : Option Addr} {sl_1005 : Array (Option Value)} {oc_1005 kV_1005 dc_1005 pm_1005 cd_1005 ct_1005 : Value} {f_1006 : Addr} {od_1006 an_1006 : Option Addr} {sl_1006 : Array (Option Value)} {oc_1006 kV_1006 dc_1006 pm_1006 cd_1006 ct_1006 : Value} {f_1007 : Addr} {od_1007 an_1007 : Option Addr} {sl_1007 : Array (Option Value)} {oc_1007 kV_1007 dc_1007 pm_1007 cd_1007 ct_1007 : Value} {f_1008 : Addr} {od_1008 an_1008 : Option Addr} {sl_1008 : Array (Option Value)} {oc_1008 kV_1008 dc_1008 pm_1008 cd_1008 ct_1008 : Value} {f_1009 : Addr} {od_1009 an_1009 : Option Addr} {sl_1009 : Array (Option Value)} {oc_1009 kV_1009 dc_1009 pm_1009 cd_1009 ct_1009 : Value} {f_1010 : Addr} {od_1010 an_1010 : Option Addr} {sl_1010 : Array (Option Value)} {oc_1010 kV_1010 dc_1010 pm_1010 cd_1010 ct_1010 : Value} {t_1 : Tok} {t_2 : Tok} {t_3 : Tok} {t_4 : Tok} {t_5 : Tok} {t_6 : Tok} {t_7 : Tok} {t_8 : Tok} {d_100 : Addr} {es_100 : Array DictEntry} {n_100 : Nat}
    (aC13 : PySem.W.nsIn K mainGlobals "Held" = some (some (.ref C_13)))
    (pg13 : PySem.W.plainGet K C_13 Str.empty = true)
    (hd13 : PySem.W.hasDictIn K C_13 = true)
    (po13 : PySem.W.plainOver K C_13 = true)
    (sa13 : PySem.W.findIn K (.ref C_13) "__setattr__" = some (some (.builtin "object.__setattr__")))
    (mk13 : PySem.W.makesIn K C_13 = true)
    (kc13 : PySem.W.keepIn K (.ref C_13) = true)
    (nf13_3 : PySem.W.findIn K (.ref C_13) "row" = some none)
    (nf13_4 : PySem.W.findIn K (.ref C_13) "told" = some none)
    (a_13 : PySem.W.nsIn K mainGlobals "is_number" = some (some (.ref f_13)))
    (l_13 : K.lookup f_13 = some ⟨oc_13, od_13, .func (PySem.W.fnOf "is_number" "is_number" (defArgs st_13) (defBody st_13) (defScope st_13) .none kV_13 dc_13 pm_13 an_13 cd_13 ct_13), sl_13⟩)
    (c_13 : PySem.W.codeIn K cd_13 "is_number" = true)
    (k_13 : PySem.W.keepIn K (.ref f_13) = true)
    (a_14 : PySem.W.nsIn K mainGlobals "is_plain" = some (some (.ref f_14)))
    (l_14 : K.lookup f_14 = some ⟨oc_14, od_14, .func (PySem.W.fnOf "is_plain" "is_plain" (defArgs st_14) (defBody st_14) (defScope st_14) .none kV_14 dc_14 pm_14 an_14 cd_14 ct_14), sl_14⟩)
    (c_14 : PySem.W.codeIn K cd_14 "is_plain" = true)
    (k_14 : PySem.W.keepIn K (.ref f_14) = true)
    (a_15 : PySem.W.nsIn K mainGlobals "parts_of" = some (some (.ref f_15)))
    (l_15 : K.lookup f_15 = some ⟨oc_15, od_15, .func (PySem.W.fnOf "parts_of" "parts_of" (defArgs st_15) (defBody st_15) (defScope st_15) .none kV_15 dc_15 pm_15 an_15 cd_15 ct_15), sl_15⟩)
    (c_15 : PySem.W.codeIn K cd_15 "parts_of" = true)
    (k_15 : PySem.W.keepIn K (.ref f_15) = true)
    (a_16 : PySem.W.nsIn K mainGlobals "is_one" = some (some (.ref f_16)))
    (l_16 : K.lookup f_16 = some ⟨oc_16, od_16, .func (PySem.W.fnOf "is_one" "is_one" (defArgs st_16) (defBody st_16) (defScope st_16) .none kV_16 dc_16 pm_16 an_16 cd_16 ct_16), sl_16⟩)
    (c_16 : PySem.W.codeIn K cd_16 "is_one" = true)
    (k_16 : PySem.W.keepIn K (.ref f_16) = true)
    (a_17 : PySem.W.nsIn K mainGlobals "need_sentence" = some (some (.ref f_17)))
    (l_17 : K.lookup f_17 = some ⟨oc_17, od_17, .func (PySem.W.fnOf "need_sentence" "need_sentence" (defArgs st_17) (defBody st_17) (defScope st_17) .none kV_17 dc_17 pm_17 an_17 cd_17 ct_17), sl_17⟩)
    (c_17 : PySem.W.codeIn K cd_17 "need_sentence" = true)
    (k_17 : PySem.W.keepIn K (.ref f_17) = true)
    (a_18 : PySem.W.nsIn K mainGlobals "need_row" = some (some (.ref f_18)))
    (l_18 : K.lookup f_18 = some ⟨oc_18, od_18, .func (PySem.W.fnOf "need_row" "need_row" (defArgs st_18) (defBody st_18) (defScope st_18) .none kV_18 dc_18 pm_18 an_18 cd_18 ct_18), sl_18⟩)
    (c_18 : PySem.W.codeIn K cd_18 "need_row" = true)
    (k_18 : PySem.W.keepIn K (.ref f_18) = true)
    (a_21 : PySem.W.findIn K (.ref C_13) "__init__" = some (some (.ref f_21)))
    (i_21 : PySem.W.isFn K (.ref f_21) = true)
    (l_21 : K.lookup f_21 = some ⟨oc_21, od_21, .func (PySem.W.fnOf "__init__" "Held.__init__" (defArgs st_21) (defBody st_21) (defScope st_21) .none kV_21 dc_21 pm_21 an_21 cd_21 ct_21), sl_21⟩)
    (c_21 : PySem.W.codeIn K cd_21 "Held.__init__" = true)
    (k_21 : PySem.W.keepIn K (.ref f_21) = true)
    (a_22 : PySem.W.findIn K (.ref C_13) "ago" = some (some (.ref f_22)))
    (i_22 : PySem.W.isFn K (.ref f_22) = true)
    (l_22 : K.lookup f_22 = some ⟨oc_22, od_22, .func (PySem.W.fnOf "ago" "Held.ago" (defArgs st_22) (defBody st_22) (defScope st_22) .none kV_22 dc_22 pm_22 an_22 cd_22 ct_22), sl_22⟩)
    (c_22 : PySem.W.codeIn K cd_22 "Held.ago" = true)
    (k_22 : PySem.W.keepIn K (.ref f_22) = true)
    (a_23 : PySem.W.findIn K (.ref C_13) "is_within" = some (some (.ref f_23)))
    (i_23 : PySem.W.isFn K (.ref f_23) = true)
    (l_23 : K.lookup f_23 = some ⟨oc_23, od_23, .func (PySem.W.fnOf "is_within" "Held.is_within" (defArgs st_23) (defBody st_23) (defScope st_23) .none kV_23 dc_23 pm_23 an_23 cd_23 ct_23), sl_23⟩)
    (c_23 : PySem.W.codeIn K cd_23 "Held.is_within" = true)
    (k_23 : PySem.W.keepIn K (.ref f_23) = true)
    (a_24 : PySem.W.findIn K (.ref C_13) "is_behind" = some (some (.ref f_24)))
    (i_24 : PySem.W.isFn K (.ref f_24) = true)
    (l_24 : K.lookup f_24 = some ⟨oc_24, od_24, .func (PySem.W.fnOf "is_behind" "Held.is_behind" (defArgs st_24) (defBody st_24) (defScope st_24) .none kV_24 dc_24 pm_24 an_24 cd_24 ct_24), sl_24⟩)
    (c_24 : PySem.W.codeIn K cd_24 "Held.is_behind" = true)
    (k_24 : PySem.W.keepIn K (.ref f_24) = true)
    (a_25 : PySem.W.findIn K (.ref C_13) "is_since" = some (some (.ref f_25)))
    (i_25 : PySem.W.isFn K (.ref f_25) = true)
    (l_25 : K.lookup f_25 = some ⟨oc_25, od_25, .func (PySem.W.fnOf "is_since" "Held.is_since" (defArgs st_25) (defBody st_25) (defScope st_25) .none kV_25 dc_25 pm_25 an_25 cd_25 ct_25), sl_25⟩)
    (c_25 : PySem.W.codeIn K cd_25 "Held.is_since" = true)
    (k_25 : PySem.W.keepIn K (.ref f_25) = true)
    (a_26 : PySem.W.findIn K (.ref C_13) "count" = some (some (.ref f_26)))
    (i_26 : PySem.W.isFn K (.ref f_26) = true)
    (l_26 : K.lookup f_26 = some ⟨oc_26, od_26, .func (PySem.W.fnOf "count" "Held.count" (defArgs st_26) (defBody st_26) (defScope st_26) .none kV_26 dc_26 pm_26 an_26 cd_26 ct_26), sl_26⟩)
    (c_26 : PySem.W.codeIn K cd_26 "Held.count" = true)
    (k_26 : PySem.W.keepIn K (.ref f_26) = true)
    (a_27 : PySem.W.findIn K (.ref C_13) "tells" = some (some (.ref f_27)))
    (i_27 : PySem.W.isFn K (.ref f_27) = true)
    (l_27 : K.lookup f_27 = some ⟨oc_27, od_27, .func (PySem.W.fnOf "tells" "Held.tells" (defArgs st_27) (defBody st_27) (defScope st_27) .none kV_27 dc_27 pm_27 an_27 cd_27 ct_27), sl_27⟩)
    (c_27 : PySem.W.codeIn K cd_27 "Held.tells" = true)
    (k_27 : PySem.W.keepIn K (.ref f_27) = true)
    (a_28 : PySem.W.nsIn K mainGlobals "held" = some (some (.ref f_28)))
    (l_28 : K.lookup f_28 = some ⟨oc_28, od_28, .func (PySem.W.fnOf "held" "held" (defArgs st_28) (defBody st_28) (defScope st_28) .none kV_28 dc_28 pm_28 an_28 cd_28 ct_28), sl_28⟩)
    (c_28 : PySem.W.codeIn K cd_28 "held" = true)
    (k_28 : PySem.W.keepIn K (.ref f_28) = true)
    (a_29 : PySem.W.nsIn K mainGlobals "holds" = some (some (.ref f_29)))
    (l_29 : K.lookup f_29 = some ⟨oc_29, od_29, .func (PySem.W.fnOf "holds" "holds" (defArgs st_29) (defBody st_29) (defScope st_29) .none kV_29 dc_29 pm_29 an_29 cd_29 ct_29), sl_29⟩)
    (c_29 : PySem.W.codeIn K cd_29 "holds" = true)
    (k_29 : PySem.W.keepIn K (.ref f_29) = true)
    (a_1000 : PySem.W.nsIn K mainGlobals "_law_taken" = some (some (.ref f_1000)))
    (l_1000 : K.lookup f_1000 = some ⟨oc_1000, od_1000, .func (PySem.W.fnOf "_law_taken" "_law_taken" (defArgs st_1000) (defBody st_1000) (defScope st_1000) .none kV_1000 dc_1000 pm_1000 an_1000 cd_1000 ct_1000), sl_1000⟩)
    (c_1000 : PySem.W.codeIn K cd_1000 "_law_taken" = true)
    (k_1000 : PySem.W.keepIn K (.ref f_1000) = true)
    (a_1001 : PySem.W.nsIn K mainGlobals "_law_alike" = some (some (.ref f_1001)))
    (l_1001 : K.lookup f_1001 = some ⟨oc_1001, od_1001, .func (PySem.W.fnOf "_law_alike" "_law_alike" (defArgs st_1001) (defBody st_1001) (defScope st_1001) .none kV_1001 dc_1001 pm_1001 an_1001 cd_1001 ct_1001), sl_1001⟩)
    (c_1001 : PySem.W.codeIn K cd_1001 "_law_alike" = true)
    (k_1001 : PySem.W.keepIn K (.ref f_1001) = true)
    (a_1002 : PySem.W.nsIn K mainGlobals "_law_leaf" = some (some (.ref f_1002)))
    (l_1002 : K.lookup f_1002 = some ⟨oc_1002, od_1002, .func (PySem.W.fnOf "_law_leaf" "_law_leaf" (defArgs st_1002) (defBody st_1002) (defScope st_1002) .none kV_1002 dc_1002 pm_1002 an_1002 cd_1002 ct_1002), sl_1002⟩)
    (c_1002 : PySem.W.codeIn K cd_1002 "_law_leaf" = true)
    (k_1002 : PySem.W.keepIn K (.ref f_1002) = true)
    (a_1003 : PySem.W.nsIn K mainGlobals "_law_back" = some (some (.ref f_1003)))
    (l_1003 : K.lookup f_1003 = some ⟨oc_1003, od_1003, .func (PySem.W.fnOf "_law_back" "_law_back" (defArgs st_1003) (defBody st_1003) (defScope st_1003) .none kV_1003 dc_1003 pm_1003 an_1003 cd_1003 ct_1003), sl_1003⟩)
    (c_1003 : PySem.W.codeIn K cd_1003 "_law_back" = true)
    (k_1003 : PySem.W.keepIn K (.ref f_1003) = true)
    (a_1004 : PySem.W.nsIn K mainGlobals "_law_sentence" = some (some (.ref f_1004)))
    (l_1004 : K.lookup f_1004 = some ⟨oc_1004, od_1004, .func (PySem.W.fnOf "_law_sentence" "_law_sentence" (defArgs st_1004) (defBody st_1004) (defScope st_1004) .none kV_1004 dc_1004 pm_1004 an_1004 cd_1004 ct_1004), sl_1004⟩)
    (c_1004 : PySem.W.codeIn K cd_1004 "_law_sentence" = true)
    (k_1004 : PySem.W.keepIn K (.ref f_1004) = true)
    (a_1005 : PySem.W.nsIn K mainGlobals "_law_parts" = some (some (.ref f_1005)))
    (l_1005 : K.lookup f_1005 = some ⟨oc_1005, od_1005, .func (PySem.W.fnOf "_law_parts" "_law_parts" (defArgs st_1005) (defBody st_1005) (defScope st_1005) .none kV_1005 dc_1005 pm_1005 an_1005 cd_1005 ct_1005), sl_1005⟩)
    (c_1005 : PySem.W.codeIn K cd_1005 "_law_parts" = true)
    (k_1005 : PySem.W.keepIn K (.ref f_1005) = true)
    (a_1006 : PySem.W.nsIn K mainGlobals "_law_deep" = some (some (.ref f_1006)))
    (l_1006 : K.lookup f_1006 = some ⟨oc_1006, od_1006, .func (PySem.W.fnOf "_law_deep" "_law_deep" (defArgs st_1006) (defBody st_1006) (defScope st_1006) .none kV_1006 dc_1006 pm_1006 an_1006 cd_1006 ct_1006), sl_1006⟩)
    (c_1006 : PySem.W.codeIn K cd_1006 "_law_deep" = true)
    (k_1006 : PySem.W.keepIn K (.ref f_1006) = true)
    (a_1007 : PySem.W.nsIn K mainGlobals "_law_drawn" = some (some (.ref f_1007)))
    (l_1007 : K.lookup f_1007 = some ⟨oc_1007, od_1007, .func (PySem.W.fnOf "_law_drawn" "_law_drawn" (defArgs st_1007) (defBody st_1007) (defScope st_1007) .none kV_1007 dc_1007 pm_1007 an_1007 cd_1007 ct_1007), sl_1007⟩)
    (c_1007 : PySem.W.codeIn K cd_1007 "_law_drawn" = true)
    (k_1007 : PySem.W.keepIn K (.ref f_1007) = true)
    (a_1008 : PySem.W.nsIn K mainGlobals "_law_row" = some (some (.ref f_1008)))
    (l_1008 : K.lookup f_1008 = some ⟨oc_1008, od_1008, .func (PySem.W.fnOf "_law_row" "_law_row" (defArgs st_1008) (defBody st_1008) (defScope st_1008) .none kV_1008 dc_1008 pm_1008 an_1008 cd_1008 ct_1008), sl_1008⟩)
    (c_1008 : PySem.W.codeIn K cd_1008 "_law_row" = true)
    (k_1008 : PySem.W.keepIn K (.ref f_1008) = true)
    (a_1009 : PySem.W.nsIn K mainGlobals "_law_holds" = some (some (.ref f_1009)))
    (l_1009 : K.lookup f_1009 = some ⟨oc_1009, od_1009, .func (PySem.W.fnOf "_law_holds" "_law_holds" (defArgs st_1009) (defBody st_1009) (defScope st_1009) .none kV_1009 dc_1009 pm_1009 an_1009 cd_1009 ct_1009), sl_1009⟩)
    (c_1009 : PySem.W.codeIn K cd_1009 "_law_holds" = true)
    (k_1009 : PySem.W.keepIn K (.ref f_1009) = true)
    (a_1010 : PySem.W.nsIn K mainGlobals "law" = some (some (.ref f_1010)))
    (l_1010 : K.lookup f_1010 = some ⟨oc_1010, od_1010, .func (PySem.W.fnOf "law" "law" (defArgs st_1010) (defBody st_1010) (defScope st_1010) .none kV_1010 dc_1010 pm_1010 an_1010 cd_1010 ct_1010), sl_1010⟩)
    (c_1010 : PySem.W.codeIn K cd_1010 "law" = true)
    (k_1010 : PySem.W.keepIn K (.ref f_1010) = true)
    (g_1 : PySem.W.nsIn K mainGlobals "WORDS" = some (some (.int 4 t_1)))
    (g_2 : PySem.W.nsIn K mainGlobals "WORTHS" = some (some (.int 10 t_2)))
    (g_3 : PySem.W.nsIn K mainGlobals "MOST_PARTS" = some (some (.int 24 t_3)))
    (g_4 : PySem.W.nsIn K mainGlobals "MOST_DEEP" = some (some (.int 6 t_4)))
    (g_5 : PySem.W.nsIn K mainGlobals "MOST_BACK" = some (some (.int 6 t_5)))
    (g_6 : PySem.W.nsIn K mainGlobals "MOST_COUNT" = some (some (.int 4 t_6)))
    (g_7 : PySem.W.nsIn K mainGlobals "MOST_TIME" = some (some (.int 1000000 t_7)))
    (g_8 : PySem.W.nsIn K mainGlobals "MOST_ROW" = some (some (.int 200 t_8)))
    (g_100 : PySem.W.nsIn K mainGlobals "FORMS" = some (some (.ref d_100)))
    (gl_100 : K.lookup d_100 = some ⟨.type "dict", none, .dict es_100 n_100, #[]⟩)
    (gn_100 : (d_100 == sysModules) = false)
    (ge_100 : GdE w.params es_100.toList (gds 0))
    (z_len : PySem.W.nsIn K mainGlobals "len" = some none)
    (z_int : PySem.W.nsIn K mainGlobals "int" = some none)
    (z_str : PySem.W.nsIn K mainGlobals "str" = some none)
    (z_sum : PySem.W.nsIn K mainGlobals "sum" = some none)
    (z_max : PySem.W.nsIn K mainGlobals "max" = some none)
    (z_min : PySem.W.nsIn K mainGlobals "min" = some none)
    (z_sorted : PySem.W.nsIn K mainGlobals "sorted" = some none)
    (z_tuple : PySem.W.nsIn K mainGlobals "tuple" = some none)
    (z_dict : PySem.W.nsIn K mainGlobals "dict" = some none)
    (z_isinstance : PySem.W.nsIn K mainGlobals "isinstance" = some none)
    (z_list : PySem.W.nsIn K mainGlobals "list" = some none)
    (z_range : PySem.W.nsIn K mainGlobals "range" = some none)
    (z_reversed : PySem.W.nsIn K mainGlobals "reversed" = some none)
    (z_bool : PySem.W.nsIn K mainGlobals "bool" = some none)
    (z_set : PySem.W.nsIn K mainGlobals "set" = some none)
    : ∃ fd : FuncData, (∀ (s : Shared) (v : Value), BindsTo s fd ⟨[v], []⟩ [("_law_script", v)]) ∧ ∀ base : Heap, K.In base → base.Ns mainGlobals mg → FnOk P w K mg base (L2.CX P w) (2 * 60) fa fd ["_law_script"] (spL K) := by
  have e := hfa.symm.trans (PySem.W.mg_of X G a_1010)
  cases e
  have F_13 := fun_mk (st := st_13) l_13 c_13 k_13
  have b_13 := F_13.binds (ps := ps_ 13) fun _ _ _ _ _ _ us hl => match us, hl with | [_, _, _], _ => rfl
  have F_14 := fun_mk (st := st_14) l_14 c_14 k_14
  have b_14 := F_14.binds (ps := ps_ 14) fun _ _ _ _ _ _ us hl => match us, hl with | [_, _, _], _ => rfl
  have F_15 := fun_mk (st := st_15) l_15 c_15 k_15
  have b_15 := F_15.binds (ps := ps_ 15) fun _ _ _ _ _ _ us hl => match us, hl with | [_], _ => rfl
  have F_16 := fun_mk (st := st_16) l_16 c_16 k_16
  have b_16 := F_16.binds (ps := ps_ 16) fun _ _ _ _ _ _ us hl => match us, hl with | [_], _ => rfl
  have F_17 := fun_mk (st := st_17) l_17 c_17 k_17
  have b_17 := F_17.binds (ps := ps_ 17) fun _ _ _ _ _ _ us hl => match us, hl with | [_], _ => rfl
  have F_18 := fun_mk (st := st_18) l_18 c_18 k_18
  have b_18 := F_18.binds (ps := ps_ 18) fun _ _ _ _ _ _ us hl => match us, hl with | [_], _ => rfl
  have F_21 := fun_mk (st := st_21) l_21 c_21 k_21
  have b_21 := F_21.binds (ps := ps_ 21) fun _ _ _ _ _ _ us hl => match us, hl with | [_, _, _], _ => rfl
  have F_22 := fun_mk (st := st_22) l_22 c_22 k_22
  have b_22 := F_22.binds (ps := ps_ 22) fun _ _ _ _ _ _ us hl => match us, hl with | [_, _, _], _ => rfl
  have F_23 := fun_mk (st := st_23) l_23 c_23 k_23
  have b_23 := F_23.binds (ps := ps_ 23) fun _ _ _ _ _ _ us hl => match us, hl with | [_, _, _, _], _ => rfl
  have F_24 := fun_mk (st := st_24) l_24 c_24 k_24
  have b_24 := F_24.binds (ps := ps_ 24) fun _ _ _ _ _ _ us hl => match us, hl with | [_, _, _], _ => rfl
  have F_25 := fun_mk (st := st_25) l_25 c_25 k_25
  have b_25 := F_25.binds (ps := ps_ 25) fun _ _ _ _ _ _ us hl => match us, hl with | [_, _, _], _ => rfl
  have F_26 := fun_mk (st := st_26) l_26 c_26 k_26
  have b_26 := F_26.binds (ps := ps_ 26) fun _ _ _ _ _ _ us hl => match us, hl with | [_, _, _, _], _ => rfl
  have F_27 := fun_mk (st := st_27) l_27 c_27 k_27
  have b_27 := F_27.binds (ps := ps_ 27) fun _ _ _ _ _ _ us hl => match us, hl with | [_, _, _], _ => rfl
  have F_28 := fun_mk (st := st_28) l_28 c_28 k_28
  have b_28 := F_28.binds (ps := ps_ 28) fun _ _ _ _ _ _ us hl => match us, hl with | [_, _], _ => rfl
  have F_29 := fun_mk (st := st_29) l_29 c_29 k_29
  have b_29 := F_29.binds (ps := ps_ 29) fun _ _ _ _ _ _ us hl => match us, hl with | [_, _], _ => rfl
  have F_1000 := fun_mk (st := st_1000) l_1000 c_1000 k_1000
  have b_1000 := F_1000.binds (ps := ps_ 1000) fun _ _ _ _ _ _ us hl => match us, hl with | [_, _], _ => rfl
  have F_1001 := fun_mk (st := st_1001) l_1001 c_1001 k_1001
  have b_1001 := F_1001.binds (ps := ps_ 1001) fun _ _ _ _ _ _ us hl => match us, hl with | [_, _], _ => rfl
  have F_1002 := fun_mk (st := st_1002) l_1002 c_1002 k_1002
  have b_1002 := F_1002.binds (ps := ps_ 1002) fun _ _ _ _ _ _ us hl => match us, hl with | [_], _ => rfl
  have F_1003 := fun_mk (st := st_1003) l_1003 c_1003 k_1003
  have b_1003 := F_1003.binds (ps := ps_ 1003) fun _ _ _ _ _ _ us hl => match us, hl with | [_, _], _ => rfl
  have F_1004 := fun_mk (st := st_1004) l_1004 c_1004 k_1004
  have b_1004 := F_1004.binds (ps := ps_ 1004) fun _ _ _ _ _ _ us hl => match us, hl with | [_, _, _], _ => rfl
  have F_1005 := fun_mk (st := st_1005) l_1005 c_1005 k_1005
  have b_1005 := F_1005.binds (ps := ps_ 1005) fun _ _ _ _ _ _ us hl => match us, hl with | [_], _ => rfl
  have F_1006 := fun_mk (st := st_1006) l_1006 c_1006 k_1006
  have b_1006 := F_1006.binds (ps := ps_ 1006) fun _ _ _ _ _ _ us hl => match us, hl with | [_], _ => rfl
  have F_1007 := fun_mk (st := st_1007) l_1007 c_1007 k_1007
  have b_1007 := F_1007.binds (ps := ps_ 1007) fun _ _ _ _ _ _ us hl => match us, hl with | [_, _, _], _ => rfl
  have F_1008 := fun_mk (st := st_1008) l_1008 c_1008 k_1008
  have b_1008 := F_1008.binds (ps := ps_ 1008) fun _ _ _ _ _ _ us hl => match us, hl with | [_, _], _ => rfl
  have F_1009 := fun_mk (st := st_1009) l_1009 c_1009 k_1009
  have b_1009 := F_1009.binds (ps := ps_ 1009) fun _ _ _ _ _ _ us hl => match us, hl with | [_, _], _ => rfl
  have F_1010 := fun_mk (st := st_1010) l_1010 c_1010 k_1010
  have b_1010 := F_1010.binds (ps := ps_ 1010) fun _ _ _ _ _ _ us hl => match us, hl with | [_], _ => rfl
  refine ⟨PySem.W.fnOf "law" "law" (defArgs st_1010) (defBody st_1010) (defScope st_1010) .none kV_1010 dc_1010 pm_1010 an_1010 cd_1010 ct_1010, fun s v => .of_eq rfl, fun base hB hG => ?_⟩
  let d : Dyn := { K := K, P := P, w := w, mg := mg, base := base, fa := (fun n => match n with | 13 => f_13 | 14 => f_14 | 15 => f_15 | 16 => f_16 | 17 => f_17 | 18 => f_18 | 21 => f_21 | 22 => f_22 | 23 => f_23 | 24 => f_24 | 25 => f_25 | 26 => f_26 | 27 => f_27 | 28 => f_28 | 29 => f_29 | 1000 => f_1000 | 1001 => f_1001 | 1002 => f_1002 | 1003 => f_1003 | 1004 => f_1004 | 1005 => f_1005 | 1006 => f_1006 | 1007 => f_1007 | 1008 => f_1008 | 1009 => f_1009 | 1010 => fa | _ => 0), fd := (fun n => match n with | 13 => PySem.W.fnOf "is_number" "is_number" (defArgs st_13) (defBody st_13) (defScope st_13) .none kV_13 dc_13 pm_13 an_13 cd_13 ct_13 | 14 => PySem.W.fnOf "is_plain" "is_plain" (defArgs st_14) (defBody st_14) (defScope st_14) .none kV_14 dc_14 pm_14 an_14 cd_14 ct_14 | 15 => PySem.W.fnOf "parts_of" "parts_of" (defArgs st_15) (defBody st_15) (defScope st_15) .none kV_15 dc_15 pm_15 an_15 cd_15 ct_15 | 16 => PySem.W.fnOf "is_one" "is_one" (defArgs st_16) (defBody st_16) (defScope st_16) .none kV_16 dc_16 pm_16 an_16 cd_16 ct_16 | 17 => PySem.W.fnOf "need_sentence" "need_sentence" (defArgs st_17) (defBody st_17) (defScope st_17) .none kV_17 dc_17 pm_17 an_17 cd_17 ct_17 | 18 => PySem.W.fnOf "need_row" "need_row" (defArgs st_18) (defBody st_18) (defScope st_18) .none kV_18 dc_18 pm_18 an_18 cd_18 ct_18 | 21 => PySem.W.fnOf "__init__" "Held.__init__" (defArgs st_21) (defBody st_21) (defScope st_21) .none kV_21 dc_21 pm_21 an_21 cd_21 ct_21 | 22 => PySem.W.fnOf "ago" "Held.ago" (defArgs st_22) (defBody st_22) (defScope st_22) .none kV_22 dc_22 pm_22 an_22 cd_22 ct_22 | 23 => PySem.W.fnOf "is_within" "Held.is_within" (defArgs st_23) (defBody st_23) (defScope st_23) .none kV_23 dc_23 pm_23 an_23 cd_23 ct_23 | 24 => PySem.W.fnOf "is_behind" "Held.is_behind" (defArgs st_24) (defBody st_24) (defScope st_24) .none kV_24 dc_24 pm_24 an_24 cd_24 ct_24 | 25 => PySem.W.fnOf "is_since" "Held.is_since" (defArgs st_25) (defBody st_25) (defScope st_25) .none kV_25 dc_25 pm_25 an_25 cd_25 ct_25 | 26 => PySem.W.fnOf "count" "Held.count" (defArgs st_26) (defBody st_26) (defScope st_26) .none kV_26 dc_26 pm_26 an_26 cd_26 ct_26 | 27 => PySem.W.fnOf "tells" "Held.tells" (defArgs st_27) (defBody st_27) (defScope st_27) .none kV_27 dc_27 pm_27 an_27 cd_27 ct_27 | 28 => PySem.W.fnOf "held" "held" (defArgs st_28) (defBody st_28) (defScope st_28) .none kV_28 dc_28 pm_28 an_28 cd_28 ct_28 | 29 => PySem.W.fnOf "holds" "holds" (defArgs st_29) (defBody st_29) (defScope st_29) .none kV_29 dc_29 pm_29 an_29 cd_29 ct_29 | 1000 => PySem.W.fnOf "_law_taken" "_law_taken" (defArgs st_1000) (defBody st_1000) (defScope st_1000) .none kV_1000 dc_1000 pm_1000 an_1000 cd_1000 ct_1000 | 1001 => PySem.W.fnOf "_law_alike" "_law_alike" (defArgs st_1001) (defBody st_1001) (defScope st_1001) .none kV_1001 dc_1001 pm_1001 an_1001 cd_1001 ct_1001 | 1002 => PySem.W.fnOf "_law_leaf" "_law_leaf" (defArgs st_1002) (defBody st_1002) (defScope st_1002) .none kV_1002 dc_1002 pm_1002 an_1002 cd_1002 ct_1002 | 1003 => PySem.W.fnOf "_law_back" "_law_back" (defArgs st_1003) (defBody st_1003) (defScope st_1003) .none kV_1003 dc_1003 pm_1003 an_1003 cd_1003 ct_1003 | 1004 => PySem.W.fnOf "_law_sentence" "_law_sentence" (defArgs st_1004) (defBody st_1004) (defScope st_1004) .none kV_1004 dc_1004 pm_1004 an_1004 cd_1004 ct_1004 | 1005 => PySem.W.fnOf "_law_parts" "_law_parts" (defArgs st_1005) (defBody st_1005) (defScope st_1005) .none kV_1005 dc_1005 pm_1005 an_1005 cd_1005 ct_1005 | 1006 => PySem.W.fnOf "_law_deep" "_law_deep" (defArgs st_1006) (defBody st_1006) (defScope st_1006) .none kV_1006 dc_1006 pm_1006 an_1006 cd_1006 ct_1006 | 1007 => PySem.W.fnOf "_law_drawn" "_law_drawn" (defArgs st_1007) (defBody st_1007) (defScope st_1007) .none kV_1007 dc_1007 pm_1007 an_1007 cd_1007 ct_1007 | 1008 => PySem.W.fnOf "_law_row" "_law_row" (defArgs st_1008) (defBody st_1008) (defScope st_1008) .none kV_1008 dc_1008 pm_1008 an_1008 cd_1008 ct_1008 | 1009 => PySem.W.fnOf "_law_holds" "_law_holds" (defArgs st_1009) (defBody st_1009) (defScope st_1009) .none kV_1009 dc_1009 pm_1009 an_1009 cd_1009 ct_1009 | 1010 => PySem.W.fnOf "law" "law" (defArgs st_1010) (defBody st_1010) (defScope st_1010) .none kV_1010 dc_1010 pm_1010 an_1010 cd_1010 ct_1010 | _ => PySem.W.fnOf "law" "law" (defArgs st_1010) (defBody st_1010) (defScope st_1010) .none kV_1010 dc_1010 pm_1010 an_1010 cd_1010 ct_1010), ca := (fun n => match n with | 13 => C_13 | _ => 0), gda := (fun n => match n with | 0 => d_100 | _ => 0) }
  have GGd : GG (mkS sta d) tbl := by
    refine { fd := ?fd, ar := ?ar, gd := ?gd, glob := ?glob, blt := ?blt, fn := ?fn, mtLA := ?mtLA, cls := ?cls, inst := ?inst, LLA := ?LLA, mnfl := ?mnfl, flinj := ?flinj, xok := rfl }
    case fd =>
      intro f hf
      have hq : f = 13 ∨ f = 14 ∨ f = 15 ∨ f = 16 ∨ f = 17 ∨ f = 18 ∨ f = 21 ∨ f = 22 ∨ f = 23 ∨ f = 24 ∨ f = 25 ∨ f = 26 ∨ f = 27 ∨ f = 28 ∨ f = 29 ∨ f = 1000 ∨ f = 1001 ∨ f = 1002 ∨ f = 1003 ∨ f = 1004 ∨ f = 1005 ∨ f = 1006 ∨ f = 1007 ∨ f = 1008 ∨ f = 1009 ∨ f = 1010 := by have z : ([13, 14, 15, 16, 17, 18, 21, 22, 23, 24, 25, 26, 27, 28, 29, 1000, 1001, 1002, 1003, 1004, 1005, 1006, 1007, 1008, 1009, 1010] : List Nat).contains f = true := hf; simpa using z
      rcases hq with rfl | rfl | rfl | rfl | rfl | rfl | rfl | rfl | rfl | rfl | rfl | rfl | rfl | rfl | rfl | rfl | rfl | rfl | rfl | rfl | rfl | rfl | rfl | rfl | rfl | rfl
      · exact ⟨⟨fn_13, st_13, _, _, N_13, 60, rfl, F_13, sc_13, ck_13 d, rfl, rfl⟩, b_13⟩
      · exact ⟨⟨fn_14, st_14, _, _, N_14, 60, rfl, F_14, sc_14, ck_14 d, rfl, rfl⟩, b_14⟩
      · exact ⟨⟨fn_15, st_15, _, _, N_15, 60, rfl, F_15, sc_15, ck_15 d, rfl, rfl⟩, b_15⟩
      · exact ⟨⟨fn_16, st_16, _, _, N_16, 60, rfl, F_16, sc_16, ck_16 d, rfl, rfl⟩, b_16⟩
      · exact ⟨⟨fn_17, st_17, _, _, N_17, 60, rfl, F_17, sc_17, ck_17 d, rfl, rfl⟩, b_17⟩
      · exact ⟨⟨fn_18, st_18, _, _, N_18, 60, rfl, F_18, sc_18, ck_18 d, rfl, rfl⟩, b_18⟩
      · exact ⟨⟨fn_21, st_21, _, _, N_21, 60, rfl, F_21, sc_21, ck_21 d, rfl, rfl⟩, b_21⟩
      · exact ⟨⟨fn_22, st_22, _, _, N_22, 60, rfl, F_22, sc_22, ck_22 d, rfl, rfl⟩, b_22⟩
      · exact ⟨⟨fn_23, st_23, _, _, N_23, 60, rfl, F_23, sc_23, ck_23 d, rfl, rfl⟩, b_23⟩
      · exact ⟨⟨fn_24, st_24, _, _, N_24, 60, rfl, F_24, sc_24, ck_24 d, rfl, rfl⟩, b_24⟩
      · exact ⟨⟨fn_25, st_25, _, _, N_25, 60, rfl, F_25, sc_25, ck_25 d, rfl, rfl⟩, b_25⟩
      · exact ⟨⟨fn_26, st_26, _, _, N_26, 60, rfl, F_26, sc_26, ck_26 d, rfl, rfl⟩, b_26⟩
      · exact ⟨⟨fn_27, st_27, _, _, N_27, 60, rfl, F_27, sc_27, ck_27 d, rfl, rfl⟩, b_27⟩
      · exact ⟨⟨fn_28, st_28, _, _, N_28, 60, rfl, F_28, sc_28, ck_28 d, rfl, rfl⟩, b_28⟩
      · exact ⟨⟨fn_29, st_29, _, _, N_29, 60, rfl, F_29, sc_29, ck_29 d, rfl, rfl⟩, b_29⟩
      · exact ⟨⟨fn_1000, st_1000, _, _, N_1000, 60, rfl, F_1000, sc_1000, ck_1000 d, rfl, rfl⟩, b_1000⟩
      · exact ⟨⟨fn_1001, st_1001, _, _, N_1001, 60, rfl, F_1001, sc_1001, ck_1001 d, rfl, rfl⟩, b_1001⟩
      · exact ⟨⟨fn_1002, st_1002, _, _, N_1002, 60, rfl, F_1002, sc_1002, ck_1002 d, rfl, rfl⟩, b_1002⟩
      · exact ⟨⟨fn_1003, st_1003, _, _, N_1003, 60, rfl, F_1003, sc_1003, ck_1003 d, rfl, rfl⟩, b_1003⟩
      · exact ⟨⟨fn_1004, st_1004, _, _, N_1004, 60, rfl, F_1004, sc_1004, ck_1004 d, rfl, rfl⟩, b_1004⟩
      · exact ⟨⟨fn_1005, st_1005, _, _, N_1005, 60, rfl, F_1005, sc_1005, ck_1005 d, rfl, rfl⟩, b_1005⟩
      · exact ⟨⟨fn_1006, st_1006, _, _, N_1006, 60, rfl, F_1006, sc_1006, ck_1006 d, rfl, rfl⟩, b_1006⟩
      · exact ⟨⟨fn_1007, st_1007, _, _, N_1007, 60, rfl, F_1007, sc_1007, ck_1007 d, rfl, rfl⟩, b_1007⟩
      · exact ⟨⟨fn_1008, st_1008, _, _, N_1008, 60, rfl, F_1008, sc_1008, ck_1008 d, rfl, rfl⟩, b_1008⟩
      · exact ⟨⟨fn_1009, st_1009, _, _, N_1009, 60, rfl, F_1009, sc_1009, ck_1009 d, rfl, rfl⟩, b_1009⟩
      · exact ⟨⟨fn_1010, st_1010, _, _, N_1010, 60, rfl, F_1010, sc_1010, ck_1010 d, rfl, rfl⟩, b_1010⟩
    case ar =>
      intro f fn hf
      have hf : tbl f = some fn := hf
      unfold tbl at hf
      split at hf <;> first | (cases hf; rfl) | (cases hf)
    case gd =>
      intro X hK hw
      exact gd_of (S := mkS sta d) (by rw [hK]; exact gl_100) (by rw [hw]; exact ge_100) gn_100
    case glob =>
      intro x v hv
      have hv : gv_ x = some v := hv
      unfold gv_ at hv
      split at hv <;> cases hv
      · exact ⟨_, .int 4, PySem.W.mg_of X G g_1, ⟨_, rfl⟩, fun _ _ => .int _⟩
      · exact ⟨_, .int 10, PySem.W.mg_of X G g_2, ⟨_, rfl⟩, fun _ _ => .int _⟩
      · exact ⟨_, .int 24, PySem.W.mg_of X G g_3, ⟨_, rfl⟩, fun _ _ => .int _⟩
      · exact ⟨_, .int 6, PySem.W.mg_of X G g_4, ⟨_, rfl⟩, fun _ _ => .int _⟩
      · exact ⟨_, .int 6, PySem.W.mg_of X G g_5, ⟨_, rfl⟩, fun _ _ => .int _⟩
      · exact ⟨_, .int 4, PySem.W.mg_of X G g_6, ⟨_, rfl⟩, fun _ _ => .int _⟩
      · exact ⟨_, .int 1000000, PySem.W.mg_of X G g_7, ⟨_, rfl⟩, fun _ _ => .int _⟩
      · exact ⟨_, .int 200, PySem.W.mg_of X G g_8, ⟨_, rfl⟩, fun _ _ => .int _⟩
      · exact ⟨_, .ref d_100, PySem.W.mg_of X G g_100, rfl, fun _ _ => .gd 0⟩
    case blt =>
      intro x hx
      simp only [List.mem_cons, List.mem_nil_iff, or_false] at hx
      rcases hx with rfl | rfl | rfl | rfl | rfl | rfl | rfl | rfl | rfl | rfl | rfl | rfl | rfl | rfl | rfl
      · exact PySem.W.mg_none_of X G z_len
      · exact PySem.W.mg_none_of X G z_int
      · exact PySem.W.mg_none_of X G z_str
      · exact PySem.W.mg_none_of X G z_sum
      · exact PySem.W.mg_none_of X G z_max
      · exact PySem.W.mg_none_of X G z_min
      · exact PySem.W.mg_none_of X G z_sorted
      · exact PySem.W.mg_none_of X G z_tuple
      · exact PySem.W.mg_none_of X G z_dict
      · exact PySem.W.mg_none_of X G z_isinstance
      · exact PySem.W.mg_none_of X G z_list
      · exact PySem.W.mg_none_of X G z_range
      · exact PySem.W.mg_none_of X G z_reversed
      · exact PySem.W.mg_none_of X G z_bool
      · exact PySem.W.mg_none_of X G z_set
    case fn =>
      intro f hf
      have hq : f = 13 ∨ f = 14 ∨ f = 15 ∨ f = 16 ∨ f = 17 ∨ f = 18 ∨ f = 28 ∨ f = 29 ∨ f = 1000 ∨ f = 1001 ∨ f = 1002 ∨ f = 1003 ∨ f = 1004 ∨ f = 1005 ∨ f = 1006 ∨ f = 1007 ∨ f = 1008 ∨ f = 1009 ∨ f = 1010 := by have z : ([13, 14, 15, 16, 17, 18, 28, 29, 1000, 1001, 1002, 1003, 1004, 1005, 1006, 1007, 1008, 1009, 1010] : List Nat).contains f = true := hf; simpa using z
      rcases hq with rfl | rfl | rfl | rfl | rfl | rfl | rfl | rfl | rfl | rfl | rfl | rfl | rfl | rfl | rfl | rfl | rfl | rfl | rfl
      · exact ⟨PySem.W.mg_of X G a_13, k_13⟩
      · exact ⟨PySem.W.mg_of X G a_14, k_14⟩
      · exact ⟨PySem.W.mg_of X G a_15, k_15⟩
      · exact ⟨PySem.W.mg_of X G a_16, k_16⟩
      · exact ⟨PySem.W.mg_of X G a_17, k_17⟩
      · exact ⟨PySem.W.mg_of X G a_18, k_18⟩
      · exact ⟨PySem.W.mg_of X G a_28, k_28⟩
      · exact ⟨PySem.W.mg_of X G a_29, k_29⟩
      · exact ⟨PySem.W.mg_of X G a_1000, k_1000⟩
      · exact ⟨PySem.W.mg_of X G a_1001, k_1001⟩
      · exact ⟨PySem.W.mg_of X G a_1002, k_1002⟩
      · exact ⟨PySem.W.mg_of X G a_1003, k_1003⟩
      · exact ⟨PySem.W.mg_of X G a_1004, k_1004⟩
      · exact ⟨PySem.W.mg_of X G a_1005, k_1005⟩
      · exact ⟨PySem.W.mg_of X G a_1006, k_1006⟩
      · exact ⟨PySem.W.mg_of X G a_1007, k_1007⟩
      · exact ⟨PySem.W.mg_of X G a_1008, k_1008⟩
      · exact ⟨PySem.W.mg_of X G a_1009, k_1009⟩
      · exact ⟨PySem.W.mg_of X G a_1010, k_1010⟩
    case mtLA =>
      intro c m f hf
      have hf : mt c m = some f := hf
      unfold mt at hf
      split at hf <;> first | (cases hf; rfl) | (cases hf)
    case cls =>
      intro c hc
      have hcq : c = 13 := by have z : ([13] : List Nat).contains c = true := hc; simpa using z
      rcases hcq with rfl
      · refine ⟨PySem.W.mg_of X G aC13, fun f hf => ?_⟩
        have hf : some 21 = some f := hf
        cases hf
        exact ⟨mk13, a_21, i_21, kc13⟩
    case inst =>
      intro c hc
      have hcq : c = 13 := by have z : ([13] : List Nat).contains c = true := hc; simpa using z
      rcases hcq with rfl
      · refine ⟨⟨pg13, hd13, po13, sa13⟩, fun m f hf => ?_, fun f hf => ?_⟩
        · rcases mt_cases 13 m f hf with ⟨e1, rfl, rfl⟩ | ⟨e1, rfl, rfl⟩ | ⟨e1, rfl, rfl⟩ | ⟨e1, rfl, rfl⟩ | ⟨e1, rfl, rfl⟩ | ⟨e1, rfl, rfl⟩ | ⟨e1, rfl, rfl⟩
          · exact ⟨a_21, i_21, k_21⟩
          · exact ⟨a_22, i_22, k_22⟩
          · exact ⟨a_23, i_23, k_23⟩
          · exact ⟨a_24, i_24, k_24⟩
          · exact ⟨a_25, i_25, k_25⟩
          · exact ⟨a_26, i_26, k_26⟩
          · exact ⟨a_27, i_27, k_27⟩
        · have hq : f = 3 ∨ f = 4 := by have z : ([3, 4] : List Nat).contains f = true := hf; simpa using z
          rcases hq with rfl | rfl
          · exact nf13_3
          · exact nf13_4
    case LLA =>
      intro f hf
      have hq : f = 13 ∨ f = 14 ∨ f = 15 ∨ f = 16 ∨ f = 17 ∨ f = 18 ∨ f = 28 ∨ f = 29 ∨ f = 1000 ∨ f = 1001 ∨ f = 1002 ∨ f = 1003 ∨ f = 1004 ∨ f = 1005 ∨ f = 1006 ∨ f = 1007 ∨ f = 1008 ∨ f = 1009 ∨ f = 1010 := by have z : ([13, 14, 15, 16, 17, 18, 28, 29, 1000, 1001, 1002, 1003, 1004, 1005, 1006, 1007, 1008, 1009, 1010] : List Nat).contains f = true := hf; simpa using z
      rcases hq with rfl | rfl | rfl | rfl | rfl | rfl | rfl | rfl | rfl | rfl | rfl | rfl | rfl | rfl | rfl | rfl | rfl | rfl | rfl <;> rfl
    case mnfl => exact mnfl_of (l := fln_) (q := mnn_) (by decide +kernel) (by decide +kernel)
    case flinj => exact flD_inj (l := fln_) (by decide +kernel) (by decide +kernel)
  exact (fn_all GGd 60 1010 rfl).imp (law_end (S := mkS sta d) rfl law_true)
end
theorem walk {l : PySem.W.OpenLaw} {q : Program} {loose : List Str} {XP : (Str → Option Value) → Heap → Prop} {YP : World → Heap → Prop} {d : DefRec} {K : Params → PySem.W.Frag} (hn : l.most = some 63) (hdf : d.params.defaults = [])
    (hY : ∀ (w : World) (h : Heap), YP w h → (K w.params).In h)
    (F : ∀ (w : World) (mg : Str → Option Value) (fa : Addr) (h : Heap), (K w.params).In h → h.Ns mainGlobals mg → mg d.name = some (.ref fa) →
      ∃ fd : FuncData, (∀ (s : Shared) (u : Value), BindsTo s fd ⟨[u], []⟩ [("_law_script", u)]) ∧ ∀ base : Heap, (K w.params).In base → base.Ns mainGlobals mg → FnOk l.prog w (K w.params) mg base (L2.CX l.prog w) (2 * 60) fa fd ["_law_script"] (spL (K w.params))) :
    PySem.W.WalkO q loose XP YP l.row.toRowW d [] (fun f vs => PySem.call f vs) :=
  L2.walk_of (n := 63) (k := 2 * 60) (x := "_law_script") (CX := fun w => L2.CX l.prog w) (sp := fun w => spL (K w.params)) hn (by decide) hdf ⟨rfl, by decide, by decide⟩ hY F (fun _ _ a ns hl o hS => ⟨a, ns, rfl, hl, o, hS, fun _ => rfl⟩) fun _ _ _ _ _ z => by
    obtain ⟨_, _, _, _, _, _, _, _, _, _, _, _, z⟩ := z
    exact z
end K03
open PySem PySem.W PyProof.Rows in
set_option maxRecDepth 100000 in
set_option maxHeartbeats 0 in
theorem PySem.Challenge.cw_happenwords_k03_whole_where_sentences_ho_holds : PySem.Challenge.rw_happenwords_k03_whole_where_sentences_ho.Holds := by
  w_on; o_law; k_head; (case hw => w_witness2)
  k_fill
  refine K03.walk (l := PySem.Challenge.rw_happenwords_k03_whole_where_sentences_ho) rfl rfl (fun w h Y => PySem.W.kIn_of Y) ?F
  case F =>
    intro w mg fa h KX G hmg
    refine' K03.all_mk KX G hmg ?aC13 ?pg13 ?hd13 ?po13 ?sa13 ?mk13 ?kc13 ?nf13_3 ?nf13_4 ?a_13 ?l_13 ?c_13 ?k_13 ?a_14 ?l_14 ?c_14 ?k_14 ?a_15 ?l_15 ?c_15 ?k_15 ?a_16 ?l_16 ?c_16 ?k_16 ?a_17 ?l_17 ?c_17 ?k_17 ?a_18 ?l_18 ?c_18 ?k_18 ?a_21 ?i_21 ?l_21 ?c_21 ?k_21 ?a_22 ?i_22 ?l_22 ?c_22 ?k_22 ?a_23 ?i_23 ?l_23 ?c_23 ?k_23 ?a_24 ?i_24 ?l_24 ?c_24 ?k_24 ?a_25 ?i_25 ?l_25 ?c_25 ?k_25 ?a_26 ?i_26 ?l_26 ?c_26 ?k_26 ?a_27 ?i_27 ?l_27 ?c_27 ?k_27 ?a_28 ?l_28 ?c_28 ?k_28 ?a_29 ?l_29 ?c_29 ?k_29 ?a_1000 ?l_1000 ?c_1000 ?k_1000 ?a_1001 ?l_1001 ?c_1001 ?k_1001 ?a_1002 ?l_1002 ?c_1002 ?k_1002 ?a_1003 ?l_1003 ?c_1003 ?k_1003 ?a_1004 ?l_1004 ?c_1004 ?k_1004 ?a_1005 ?l_1005 ?c_1005 ?k_1005 ?a_1006 ?l_1006 ?c_1006 ?k_1006 ?a_1007 ?l_1007 ?c_1007 ?k_1007 ?a_1008 ?l_1008 ?c_1008 ?k_1008 ?a_1009 ?l_1009 ?c_1009 ?k_1009 ?a_1010 ?l_1010 ?c_1010 ?k_1010 ?g_1 ?g_2 ?g_3 ?g_4 ?g_5 ?g_6 ?g_7 ?g_8 ?g_100 ?gl_100 ?gn_100 ?ge_100 ?z_len ?z_int ?z_str ?z_sum ?z_max ?z_min ?z_sorted ?z_tuple ?z_dict ?z_isinstance ?z_list ?z_range ?z_reversed ?z_bool ?z_set
    (case aC13 => k_is)
    (case pg13 => k_is)
    (case hd13 => k_is)
    (case po13 => k_is)
    (case sa13 => k_is)
    (case mk13 => k_is)
    (case kc13 => k_is)
    (case nf13_3 => k_is)
    (case nf13_4 => k_is)
    (case a_13 => k_is)
    (case l_13 => k_is)
    (case c_13 => k_is)
    (case k_13 => k_is)
    (case a_14 => k_is)
    (case l_14 => k_is)
    (case c_14 => k_is)
    (case k_14 => k_is)
    (case a_15 => k_is)
    (case l_15 => k_is)
    (case c_15 => k_is)
    (case k_15 => k_is)
    (case a_16 => k_is)
    (case l_16 => k_is)
    (case c_16 => k_is)
    (case k_16 => k_is)
    (case a_17 => k_is)
    (case l_17 => k_is)
    (case c_17 => k_is)
    (case k_17 => k_is)
    (case a_18 => k_is)
    (case l_18 => k_is)
    (case c_18 => k_is)
    (case k_18 => k_is)
    (case a_21 => k_is)
    (case i_21 => k_is)
    (case l_21 => k_is)
    (case c_21 => k_is)
    (case k_21 => k_is)
    (case a_22 => k_is)
    (case i_22 => k_is)
    (case l_22 => k_is)
    (case c_22 => k_is)
    (case k_22 => k_is)
    (case a_23 => k_is)
    (case i_23 => k_is)
    (case l_23 => k_is)
    (case c_23 => k_is)
    (case k_23 => k_is)
    (case a_24 => k_is)
    (case i_24 => k_is)
    (case l_24 => k_is)
    (case c_24 => k_is)
    (case k_24 => k_is)
    (case a_25 => k_is)
    (case i_25 => k_is)
    (case l_25 => k_is)
    (case c_25 => k_is)
    (case k_25 => k_is)
    (case a_26 => k_is)
    (case i_26 => k_is)
    (case l_26 => k_is)
    (case c_26 => k_is)
    (case k_26 => k_is)
    (case a_27 => k_is)
    (case i_27 => k_is)
    (case l_27 => k_is)
    (case c_27 => k_is)
    (case k_27 => k_is)
    (case a_28 => k_is)
    (case l_28 => k_is)
    (case c_28 => k_is)
    (case k_28 => k_is)
    (case a_29 => k_is)
    (case l_29 => k_is)
    (case c_29 => k_is)
    (case k_29 => k_is)
    (case a_1000 => k_is)
    (case l_1000 => k_is)
    (case c_1000 => k_is)
    (case k_1000 => k_is)
    (case a_1001 => k_is)
    (case l_1001 => k_is)
    (case c_1001 => k_is)
    (case k_1001 => k_is)
    (case a_1002 => k_is)
    (case l_1002 => k_is)
    (case c_1002 => k_is)
    (case k_1002 => k_is)
    (case a_1003 => k_is)
    (case l_1003 => k_is)
    (case c_1003 => k_is)
    (case k_1003 => k_is)
    (case a_1004 => k_is)
    (case l_1004 => k_is)
    (case c_1004 => k_is)
    (case k_1004 => k_is)
    (case a_1005 => k_is)
    (case l_1005 => k_is)
    (case c_1005 => k_is)
    (case k_1005 => k_is)
    (case a_1006 => k_is)
    (case l_1006 => k_is)
    (case c_1006 => k_is)
    (case k_1006 => k_is)
    (case a_1007 => k_is)
    (case l_1007 => k_is)
    (case c_1007 => k_is)
    (case k_1007 => k_is)
    (case a_1008 => k_is)
    (case l_1008 => k_is)
    (case c_1008 => k_is)
    (case k_1008 => k_is)
    (case a_1009 => k_is)
    (case l_1009 => k_is)
    (case c_1009 => k_is)
    (case k_1009 => k_is)
    (case a_1010 => k_is)
    (case l_1010 => k_is)
    (case c_1010 => k_is)
    (case k_1010 => k_is)
    (case g_1 => k_is)
    (case g_2 => k_is)
    (case g_3 => k_is)
    (case g_4 => k_is)
    (case g_5 => k_is)
    (case g_6 => k_is)
    (case g_7 => k_is)
    (case g_8 => k_is)
    (case g_100 => k_is)
    (case gl_100 => k_is)
    (case gn_100 => rfl)
    (case ge_100 => exact ⟨⟨_, _, _, _, rfl, rfl, rfl, rfl, by decide⟩, ⟨_, _, _, _, rfl, rfl, rfl, rfl, by decide⟩, ⟨_, _, _, _, rfl, rfl, rfl, rfl, by decide⟩, ⟨_, _, _, _, rfl, rfl, rfl, rfl, by decide⟩, ⟨_, _, _, _, rfl, rfl, rfl, rfl, by decide⟩, ⟨_, _, _, _, rfl, rfl, rfl, rfl, by decide⟩, ⟨_, _, _, _, rfl, rfl, rfl, rfl, by decide⟩, ⟨_, _, _, _, rfl, rfl, rfl, rfl, by decide⟩, ⟨_, _, _, _, rfl, rfl, rfl, rfl, by decide⟩, trivial⟩)
    (case z_len => k_is)
    (case z_int => k_is)
    (case z_str => k_is)
    (case z_sum => k_is)
    (case z_max => k_is)
    (case z_min => k_is)
    (case z_sorted => k_is)
    (case z_tuple => k_is)
    (case z_dict => k_is)
    (case z_isinstance => k_is)
    (case z_list => k_is)
    (case z_range => k_is)
    (case z_reversed => k_is)
    (case z_bool => k_is)
    (case z_set => k_is)

