import PyProof.Rows.All
import Wide.All
import OpenK.AllK
import Wide.FinOn
import HandS.ForMost
import HandS.ForExc
import KE.DataEq
import HandS.IsInst
import HandS.TupLen
import HandS.Conv
import HandS.NoneIn
import HandS.Style
import HandS.EndBits
import PySem.Challenge.RW_earlyscribe_k03_common_of_parts
set_option Elab.async false
set_option linter.all false
set_option maxRecDepth 100000
/-! PyE1: values D, results R, the little language (E, S, Def) and what it means: ev, run, runDef, sem. No machine in sight. -/
namespace L2.Py

/-- a word, by its code points -/
abbrev W := List Nat

inductive D where
  | non | bl (b : Bool) | int (i : Int) | str (s : W) | tup (xs : List D) | lst (xs : List D)
  /-- a dict: whether its keys are tuples; its entries, each a pair (tup [key, value]) -/
  | dct (t : Bool) (es : List D)
  | exc (c : Nat) (ps : List D)
  /-- the law's script -/
  | scr (ns : List Int)

inductive R (α : Type) where
  | ok (a : α) | exn (c : Nat) (ps : List D) | stk
def R.bind {α β : Type} : R α → (α → R β) → R β
  | .ok a, f => f a
  | .exn c ps, _ => .exn c ps
  | .stk, _ => .stk
instance : Monad R := { pure := R.ok, bind := R.bind }
@[simp] theorem ok_bind {α β : Type} (a : α) (f : α → R β) : (R.ok a >>= f) = f a := rfl
@[simp] theorem stk_bind {α β : Type} (f : α → R β) : ((R.stk : R α) >>= f) = R.stk := rfl
@[simp] theorem exn_bind {α β : Type} (c : Nat) (ps : List D) (f : α → R β) : ((R.exn c ps : R α) >>= f) = R.exn c ps := rfl
@[simp] theorem pure_ok {α : Type} (a : α) : (pure a : R α) = R.ok a := rfl

/-! ### data -/
mutual
/-- nothing within can be changed -/
def D.noMut : D → Bool
  | .tup xs => noMutL xs
  | .lst _ => false
  | .dct _ _ => false
  | .exc _ _ => false
  | .scr _ => true
  | .non => true
  | .bl _ => true
  | .int _ => true
  | .str _ => true
def noMutL : List D → Bool
  | [] => true
  | d :: ds => D.noMut d && noMutL ds
end
mutual
/-- no dict, no exception within; at most n deep -/
def D.plainN : D → Nat → Bool
  | .tup xs, n => match n with | 0 => false | n + 1 => plainLN xs n
  | .lst xs, n => match n with | 0 => false | n + 1 => plainLN xs n
  | .dct _ _, _ => false
  | .exc _ _, _ => false
  | .scr _, _ => false
  | .non, _ => true
  | .bl _, _ => true
  | .int _, _ => true
  | .str _, _ => true
def plainLN : List D → Nat → Bool
  | [], _ => true
  | d :: ds, n => D.plainN d n && plainLN ds n
end
abbrev D.plain (d : D) : Bool := d.plainN 20
abbrev plainL (ds : List D) : Bool := plainLN ds 20
def b2n (b : Bool) : Int := if b then 1 else 0
mutual
/-- Python's == on plain data -/
def D.eqv : D → D → Bool
  | .non, y => match y with | .non => true | _ => false
  | .bl a, y => match y with | .bl b => a == b | .int j => b2n a == j | _ => false
  | .int i, y => match y with | .int j => i == j | .bl b => i == b2n b | _ => false
  | .str s, y => match y with | .str t => s == t | _ => false
  | .tup xs, y => match y with | .tup ys => eqvL xs ys | _ => false
  | .lst xs, y => match y with | .lst ys => eqvL xs ys | _ => false
  | .dct _ _, _ => false
  | .exc _ _, _ => false
  | .scr _, _ => false
def eqvL : List D → List D → Bool
  | [], ys => ys.isEmpty
  | x :: xs, ys => match ys with | [] => false | y :: ys => D.eqv x y && eqvL xs ys
end

/-! ### dicts -/
/-- a key: an int, a text, or a tuple of these -/
def isLeaf : D → Bool
  | .int _ => true
  | .str _ => true
  | _ => false
def isKeyT : D → Bool
  | .tup xs => xs.all isLeaf
  | _ => false
/-- a key for such a dict -/
def keyOk (t : Bool) (k : D) : Bool := if t then isKeyT k else isLeaf k
def dlook : List D → D → Option D
  | [], _ => none
  | e :: es, k => match e with
    | .tup [k', v] => if k'.eqv k then some v else dlook es k
    | _ => dlook es k
def drepl : List D → D → D → List D
  | [], _, _ => []
  | e :: es, k, v => match e with
    | .tup [k', _] => if k'.eqv k then .tup [k', v] :: es else e :: drepl es k v
    | _ => e :: drepl es k v
def dput (es : List D) (k v : D) : List D := if (dlook es k).isSome then drepl es k v else es ++ [.tup [k, v]]
def dkeys : List D → List D
  | [] => []
  | e :: es => match e with
    | .tup [k, _] => k :: dkeys es
    | _ => dkeys es

/-! ### operators -/
def lim : Nat := 16777216
inductive Bop | add | sub | mul | fdiv | mod | pow | shr
  deriving DecidableEq
inductive Cop | eq | ne | lt | le | gt | ge | isN | notN | isin | notin
  deriving DecidableEq

def smallF (i j : Int) : Bool := (decide (-(2 ^ 64) < i) && decide (i < 2 ^ 64)) || (decide (-(2 ^ 64) < j) && decide (j < 2 ^ 64))
def binD : Bop → D → D → R D
  | .add, .int i, .int j => .ok (.int (i + j))
  | .add, .str s, .str t => if s.length + t.length ≤ lim then .ok (.str (s ++ t)) else .stk
  | .add, .lst xs, .lst ys => if xs.length + ys.length ≤ lim then .ok (.lst (xs ++ ys)) else .stk
  | .sub, .int i, .int j => .ok (.int (i - j))
  | .mul, .int i, .int j => if smallF i j then .ok (.int (i * j)) else .stk
  | .mul, .lst xs, .int k => if decide (-(2 ^ 63) ≤ k) && decide (k < 2 ^ 63) && decide (xs.length * k.toNat ≤ lim) then .ok (.lst (List.replicate k.toNat xs).flatten) else .stk
  | .fdiv, .int i, .int j => if decide (0 < j) && decide (j < 1073741824) then .ok (.int (i / j)) else .stk
  | .mod, .int i, .int j => if 0 < j then .ok (.int (i % j)) else .stk
  | .pow, .int i, .int j => if decide (0 ≤ j) && decide (j ≤ 1000000) && decide (i.natAbs < 2 ^ 64) then .ok (.int (i ^ j.toNat)) else .stk
  | .shr, .int i, .int j => if 0 ≤ j then .ok (.int (i / 2 ^ j.toNat)) else .stk
  | _, _, _ => .stk
/-- two dicts of leaf keys and plain values: the same entries -/
def dsame (xs ys : List D) : Bool := xs.length == ys.length && xs.all fun e => match e with
  | .tup [k, v] => match dlook ys k with | some u => v.eqv u | none => false
  | _ => false
def eqD (a b : D) : R Bool :=
  if a.plain && b.plain then .ok (a.eqv b) else .stk
def inD (a b : D) : R Bool :=
  match b with
  | .dct t es => if keyOk t a then .ok (dlook es a).isSome else .stk
  | .lst xs => if a.plain && plainL xs then .ok (xs.any fun x => x.eqv a) else .stk
  | .tup xs => if a.plain && plainL xs then .ok (xs.any fun x => x.eqv a) else .stk
  | .str t => match a with
    | .str [c] => .ok (t.contains c)
    | _ => .stk
  | _ => .stk
def isNon : D → Bool
  | .non => true
  | _ => false
def cmpD : Cop → D → D → R D
  | .eq, a, b => do let r ← eqD a b; pure (.bl r)
  | .ne, a, b => do let r ← eqD a b; pure (.bl (!r))
  | .lt, .int i, .int j => .ok (.bl (decide (i < j)))
  | .le, .int i, .int j => .ok (.bl (decide (i ≤ j)))
  | .gt, .int i, .int j => .ok (.bl (decide (j < i)))
  | .ge, .int i, .int j => .ok (.bl (decide (j ≤ i)))
  | .isN, a, .non => .ok (.bl (isNon a))
  | .notN, a, .non => .ok (.bl (!isNon a))
  | .isin, a, b => do let r ← inD a b; pure (.bl r)
  | .notin, a, b => do let r ← inD a b; pure (.bl (!r))
  | _, _, _ => .stk
/-- the place that an index names -/
def ixOf (n : Nat) (i : Int) : Option Nat := if 0 ≤ i then (if i < n then some i.toNat else none) else if -(n : Int) ≤ i then some (i + n).toNat else none
def ofOpt {α : Type} : Option α → R α
  | some a => .ok a
  | none => .stk
def atD {α : Type} (xs : List α) (i : Int) : R α := ofOpt ((ixOf xs.length i).bind fun j => xs[j]?)
def idxD (a i : D) : R D :=
  match a with
  | .lst xs => match i with | .int k => atD xs k | _ => .stk
  | .tup xs => match i with | .int k => atD xs k | _ => .stk
  | .str s => match i with | .int k => if s.length ≤ lim then (do let c ← atD s k; pure (.str [c])) else .stk | _ => .stk
  | .dct t es => if keyOk t i then ofOpt (dlook es i) else .stk
  | .scr ns => match i with | .int k => (do let n ← atD ns k; pure (.int n)) | _ => .stk
  | _ => .stk
/-- a slice's bound -/
def slB (n d : Nat) : Option Int → Nat
  | none => d
  | some v => if v < 0 then (v + (n : Int)).toNat else min v.toNat n
def cutL {α : Type} (xs : List α) (lo hi : Option Int) : List α := (xs.drop (slB xs.length 0 lo)).take (slB xs.length xs.length hi - slB xs.length 0 lo)
def slcD (a : D) (lo hi : Option Int) : R D :=
  match a with
  | .lst xs => .ok (.lst (cutL xs lo hi))
  | .tup xs => if slB xs.length 0 lo = 0 ∧ slB xs.length xs.length hi = xs.length then .stk else .ok (.tup (cutL xs lo hi))
  | .scr ns => .ok (.lst ((cutL ns lo hi).map .int))
  | .str s => if s.length ≤ lim then .ok (.str (cutL s lo hi)) else .stk
  | _ => .stk
def revD (a : D) : R D :=
  match a with
  | .lst xs => .ok (.lst xs.reverse)
  | _ => .stk

/-! ### order -/
def wle : W → W → Bool
  | [], _ => true
  | _ :: _, [] => false
  | a :: as, b :: bs => if a = b then wle as bs else decide (a < b)
mutual
/-- Python's <= on getInts, texts, tuples of one shape -/
def D.le : D → D → Bool
  | .int i, y => match y with | .int j => decide (i ≤ j) | _ => false
  | .str s, y => match y with | .str t => wle s t | _ => false
  | .tup xs, y => match y with | .tup ys => leL xs ys | _ => false
  | .lst xs, y => match y with | .lst ys => leL xs ys | _ => false
  | _, _ => false
def leL : List D → List D → Bool
  | [], _ => true
  | x :: xs, ys => match ys with
    | [] => false
    | y :: ys => if D.eqv x y then leL xs ys else D.le x y
end
/-- the shapes that are sorted here: getInts, texts, tuples and lists of such, all of one shape -/
inductive Sh | int | str | tup (ss : List Sh) | rows (s : Sh)
mutual
def Sh.has : Sh → D → Bool
  | .int, d => match d with | .int _ => true | _ => false
  | .str, d => match d with | .str _ => true | _ => false
  | .tup ss, d => match d with | .tup xs => hasL ss xs | _ => false
  | .rows s, d => match d with | .lst xs => hasA s xs | _ => false
def Sh.hasL : List Sh → List D → Bool
  | [], ds => ds.isEmpty
  | s :: ss, ds => match ds with | [] => false | d :: ds => Sh.has s d && Sh.hasL ss ds
def Sh.hasA : Sh → List D → Bool
  | _, [] => true
  | s, d :: ds => Sh.has s d && Sh.hasA s ds
end
def shOf : D → Sh
  | .int _ => .int
  | .str _ => .str
  | .tup xs => .tup (xs.map fun x => match x with | .int _ => .int | .str _ => .str | .tup ys => .tup (ys.map fun y => match y with | .int _ => .int | _ => .str) | _ => .str)
  | .lst xs => .rows (match xs with | .int _ :: _ => .int | _ => .str)
  | _ => .int
def insD (x : D) : List D → List D
  | [] => [x]
  | y :: ys => if x.le y then x :: y :: ys else y :: insD x ys
def sortL : List D → List D
  | [] => []
  | x :: xs => insD x (sortL xs)
def sortD (xs : List D) : R D :=
  match xs with
  | [] => .ok (.lst [])
  | x :: _ => if xs.all (shOf x).has && decide (xs.length ≤ lim) then .ok (.lst (sortL xs)) else .stk
def dedup : List D → List D
  | [] => []
  | x :: xs => if (dedup xs).any (fun y => y.eqv x) then dedup xs else x :: dedup xs
def minL : List D → R D
  | [] => .stk
  | x :: xs => match x with
    | .int _ => if (x :: xs).all Sh.int.has then .ok (xs.foldl (fun m y => if m.le y then m else y) x) else .stk
    | .str _ => if (x :: xs).all Sh.str.has then .ok (xs.foldl (fun m y => if m.le y then m else y) x) else .stk
    | _ => .stk
def maxL : List D → R D
  | [] => .stk
  | x :: xs => match x with
    | .int _ => if (x :: xs).all Sh.int.has then .ok (xs.foldl (fun m y => if y.le m then m else y) x) else .stk
    | .str _ => if (x :: xs).all Sh.str.has then .ok (xs.foldl (fun m y => if y.le m then m else y) x) else .stk
    | _ => .stk

/-! ### built-in functions and methods -/
inductive Cls | int | str | bool | list | tuple | valueError | own (c : Nat)
  deriving DecidableEq
inductive Blt | len | min1 | max1 | min2 | max2 | sorted | list | dict | lenSet | sortedSet | toInt | toStr | isi (cs : List Cls) | sum | tuple | listRange
  deriving DecidableEq
inductive Mth | get1 | get2 | index | startswith | join | split | strip
  deriving DecidableEq
/-- which classes stand above an own class (itself too), told by the table -/
abbrev Sub := Nat → Nat → Bool
def isiD (sub : Sub) : D → Cls → Bool
  | .int _, .int => true
  | .bl _, .int => true
  | .bl _, .bool => true
  | .str _, .str => true
  | .lst _, .list => true
  | .tup _, .tuple => true
  | .exc _ _, .valueError => true
  | .exc c _, .own k => sub c k
  | _, _ => false
def isiOk : D → Bool
  | .dct _ _ => false
  | .exc _ _ => false
  | .scr _ => false
  | _ => true
def getInts : List D → Option (List Int)
  | [] => some []
  | .int i :: ds => (getInts ds).map (i :: ·)
  | _ :: _ => none
def getStrs : List D → Option (List W)
  | [] => some []
  | .str i :: ds => (getStrs ds).map (i :: ·)
  | _ :: _ => none
def pairsIn : List D → List D → R (List D)
  | acc, [] => .ok acc
  | acc, e :: es => match e with
    | .tup [k, v] => if isLeaf k then pairsIn (dput acc k v) es else .stk
    | _ => .stk
def upto (lo : Int) : Nat → List D
  | 0 => []
  | n + 1 => .int lo :: upto (lo + 1) n
def tenDigits : Nat → Nat → W
  | 0, _ => []
  | f + 1, n => if n < 10 then [48 + n] else tenDigits f (n / 10) ++ [48 + n % 10]
def showInt (i : Int) : W := if i < 0 then 45 :: tenDigits (i.natAbs + 1) i.natAbs else tenDigits (i.natAbs + 1) i.natAbs
def readNat (s : W) : Option Nat := if s.isEmpty then none else s.foldl (fun a c => a.bind fun n => if 48 ≤ c ∧ c ≤ 57 then some (n * 10 + (c - 48)) else none) (some 0)
def bltD (sub : Sub) : Blt → List D → R D
  | .len, [.str s] => if s.length ≤ lim then .ok (.int s.length) else .stk
  | .len, [.lst xs] => .ok (.int xs.length)
  | .len, [.tup xs] => .ok (.int xs.length)
  | .len, [.dct _ es] => .ok (.int es.length)
  | .len, [.scr ns] => .ok (.int ns.length)
  | .min1, [.lst xs] => minL xs
  | .max1, [.lst xs] => maxL xs
  | .min2, [.int i, .int j] => .ok (.int (if j < i then j else i))
  | .max2, [.int i, .int j] => .ok (.int (if j > i then j else i))
  | .sorted, [.lst xs] => sortD xs
  | .sorted, [.dct _ es] => sortD (dkeys es)
  | .list, [.lst xs] => .ok (.lst xs)
  | .list, [.tup xs] => .ok (.lst xs)
  | .list, [.dct _ es] => .ok (.lst (dkeys es))
  | .tuple, [.lst xs] => .ok (.tup xs)
  | .tuple, [.tup xs] => .ok (.tup xs)
  | .dict, [.dct t es] => .ok (.dct t es)
  | .dict, [.lst xs] => do let es ← pairsIn [] xs; pure (.dct false es)
  | .lenSet, [.lst xs] => if xs.all D.noMut && xs.all D.plain && decide (xs.length ≤ 4000) then .ok (.int (dedup xs).length) else .stk
  | .lenSet, [.str s] => if s.length ≤ 4000 then .ok (.int (dedup (s.map fun c => .str [c])).length) else .stk
  | .sortedSet, [.lst xs] => if decide (xs.length ≤ 4000) then sortD (dedup xs) else .stk
  | .toInt, [.int i] => .ok (.int i)
  | .toInt, [.bl b] => .ok (.int (b2n b))
  | .toInt, [.str s] => if s.length ≤ 640 then (match readNat s with | some n => .ok (.int n) | none => .stk) else .stk
  | .toStr, [.int i] => if i.natAbs.log2 < 1920 then .ok (.str (showInt i)) else .stk
  | .isi cs, [d] => if isiOk d then .ok (.bl (cs.any (isiD sub d))) else .stk
  | .sum, [.lst xs] => match getInts xs with | some ns => .ok (.int ns.sum) | none => .stk
  | .listRange, [.int n] => if decide (-(2 ^ 62) ≤ n) && decide (n ≤ 16777216) then .ok (.lst (upto 0 n.toNat)) else .stk
  | _, _ => .stk
def begins : W → W → Bool
  | [], _ => true
  | _ :: _, [] => false
  | a :: as, b :: bs => a == b && begins as bs
def joinW (s : W) : List W → W
  | [] => []
  | [w] => w
  | w :: v :: r => w ++ s ++ joinW s (v :: r)
/-- cut at each c -/
def cutAt (c : Nat) : W → W → List W
  | acc, [] => [acc]
  | acc, x :: xs => if x = c then acc :: cutAt c [] xs else cutAt c (acc ++ [x]) xs
def indexL : List D → D → Option Nat
  | [], _ => none
  | x :: xs, y => if x.eqv y then some 0 else (indexL xs y).map (· + 1)
def methD : Mth → D → List D → R D
  | .get1, .dct t es, [k] => if keyOk t k then .ok ((dlook es k).getD .non) else .stk
  | .get2, .dct t es, [k, x] => if keyOk t k then .ok ((dlook es k).getD x) else .stk
  | .index, .lst xs, [y] => if y.plain && plainL xs then (match indexL xs y with | some j => .ok (.int j) | none => .stk) else .stk
  | .startswith, .str a, [.str b] => .ok (.bl (begins b a))
  | .join, .str s, [.lst xs] => match getStrs xs with | some ws => if (ws.map (fun w => w.length + s.length)).sum ≤ lim then .ok (.str (joinW s ws)) else .stk | none => .stk
  | .split, .str a, [.str [c]] => if a.length + 2 ≤ lim then .ok (.lst ((cutAt c [] a).map .str)) else .stk
  | _, _, _ => .stk

/-! ### expressions -/
/-- what is walked -/
inductive ItK | val | keys | range1 | range2 | range3 | enum | zip | items
  deriving DecidableEq
inductive E where
  | slot (i : Nat) | cint (i : Int) | cstr (s : W) | cbl (b : Bool) | cnon
  | bin (op : Bop) (a b : E) | neg (a : E) | cmp (op : Cop) (a b : E)
  | not (a : E) | and (a b : E) | or (a b : E) | ite (c a b : E)
  | idx (a i : E) | slcA (a : E) | slcL (a l : E) | slcH (a h : E) | slcB (a l h : E) | slcR (a : E)
  | tup (es : List E) | lst (es : List E) | dnew (t : Bool) (es : List E)
  | call (f : Nat) (es : List E) | blt (b : Blt) (es : List E) | meth (m : Mth) (a : E) (es : List E)
  | comp (fl : Bool) (tg : List Nat) (t : Bool) (k : ItK) (its : List E) (elt : E) (cs : List E)
  /-- the value, which must hold nothing that can be changed -/
  | flat (e : E)

abbrev Rho := List (Option D)
def Rho.get (ρ : Rho) (i : Nat) : R D := match ρ[i]? with | some (some d) => .ok d | _ => .stk
def Rho.put (ρ : Rho) (i : Nat) (d : D) : Rho := ρ.set i (some d)
def wipeE (ρ : Rho) : List Nat → Rho
  | [] => ρ
  | v :: vs => (wipeE ρ vs).set v none
def putAll : Rho → List Nat → List D → R Rho
  | ρ, [], [] => .ok ρ
  | ρ, i :: is, d :: ds => putAll (ρ.put i d) is ds
  | _, _, _ => .stk
/-- the target of a walk -/
def bindTg (t : Bool) (tg : List Nat) (d : D) (ρ : Rho) : R Rho :=
  if t then (match d with | .tup ds => putAll ρ tg ds | .lst ds => putAll ρ tg ds | _ => .stk) else (match tg with | [i] => .ok (ρ.put i d) | _ => .stk)
def enumL (n : Int) : List D → List D
  | [] => []
  | d :: ds => .tup [.int n, d] :: enumL (n + 1) ds
def zipD : List D → List D → List D
  | a :: as, b :: bs => .tup [a, b] :: zipD as bs
  | _, _ => []
def downto (lo : Int) : Nat → List D
  | 0 => []
  | n + 1 => .int lo :: downto (lo - 1) n
def small62 (i : Int) : Bool := decide (-(2 ^ 62) ≤ i) && decide (i < 2 ^ 62)
def itD : ItK → List D → R (List D)
  | .val, [.lst xs] => .ok xs
  | .val, [.tup xs] => .ok xs
  | .val, [.str s] => .ok (s.map fun c => .str [c])
  | .keys, [.dct _ es] => .ok (dkeys es)
  | .range1, [.int n] => if small62 n then .ok (upto 0 n.toNat) else .stk
  | .range2, [.int a, .int b] => if small62 a && small62 b then .ok (upto a (b - a).toNat) else .stk
  | .range3, [.int a, .int b, .int c] => if small62 a && small62 b && decide (c = -1) then .ok (downto a (a - b).toNat) else .stk
  | .enum, [.lst xs] => .ok (enumL 0 xs)
  | .zip, [.lst xs, .lst ys] => .ok (zipD xs ys)
  | .items, [.dct _ es] => .ok es
  | _, _ => .stk
def isTrueD : D → R Bool
  | .bl b => .ok b
  | _ => .stk
/-- a comprehension's items, one by one: keep is the tests, elt the element -/
def bindFl (fl t : Bool) (tg : List Nat) (d : D) (ρ : Rho) : R Rho := if fl && !d.noMut then .stk else bindTg t tg d ρ
def compL (elt : Rho → R D) (keep : Rho → R Bool) (bd : D → R Rho) : List D → R (List D)
  | [] => .ok []
  | d :: ds => do
    let ρ' ← bd d
    let b ← keep ρ'
    if b then do
      let y ← elt ρ'
      let ys ← compL elt keep bd ds
      pure (y :: ys)
    else compL elt keep bd ds
def pairUp (t : Bool) : List D → List D → R (List D)
  | acc, [] => .ok acc
  | acc, k :: r => match r with
    | v :: r => if keyOk t k then pairUp t (dput acc k v) r else .stk
    | [] => .stk
/-- a def's meaning: its value, and its changed arguments -/
abbrev Gam := Nat → List D → R (D × List D)
/-- inside a comprehension nothing may be raised -/
def noExn {α : Type} : R α → R α
  | .exn _ _ => .stk
  | r => r
def oneI : D → R (Option Int)
  | .int i => .ok (some i)
  | _ => .stk
section
variable (sub : Sub) (G : Gam)
mutual
def ev : E → Rho → R D
  | .slot i, ρ => ρ.get i
  | .cint i, _ => .ok (.int i)
  | .cstr s, _ => .ok (.str s)
  | .cbl b, _ => .ok (.bl b)
  | .cnon, _ => .ok .non
  | .bin op a b, ρ => do let x ← ev a ρ; let y ← ev b ρ; binD op x y
  | .neg a, ρ => do let x ← ev a ρ; (match x with | .int i => .ok (.int (-i)) | _ => .stk)
  | .cmp op a b, ρ => do let x ← ev a ρ; let y ← ev b ρ; cmpD op x y
  | .not a, ρ => do let x ← ev a ρ; let b ← isTrueD x; pure (.bl (!b))
  | .and a b, ρ => do let x ← ev a ρ; let c ← isTrueD x; if c then (do let y ← ev b ρ; let d ← isTrueD y; pure (.bl d)) else pure (.bl false)
  | .or a b, ρ => do let x ← ev a ρ; let c ← isTrueD x; if c then pure (.bl true) else (do let y ← ev b ρ; let d ← isTrueD y; pure (.bl d))
  | .ite c a b, ρ => do let x ← ev c ρ; let c ← isTrueD x; if c then ev a ρ else ev b ρ
  | .idx a i, ρ => do let x ← ev a ρ; let y ← ev i ρ; idxD x y
  | .slcA a, ρ => do let x ← ev a ρ; let l ← R.ok none; let h ← R.ok none; slcD x l h
  | .slcL a l, ρ => do let x ← ev a ρ; let l ← (ev l ρ >>= oneI); let h ← R.ok none; slcD x l h
  | .slcH a h, ρ => do let x ← ev a ρ; let l ← R.ok none; let h ← (ev h ρ >>= oneI); slcD x l h
  | .slcB a l h, ρ => do let x ← ev a ρ; let l ← (ev l ρ >>= oneI); let h ← (ev h ρ >>= oneI); slcD x l h
  | .slcR a, ρ => do let x ← ev a ρ; revD x
  | .tup es, ρ => do let xs ← evs es ρ; pure (.tup xs)
  | .lst es, ρ => do let xs ← evs es ρ; pure (.lst xs)
  | .dnew t es, ρ => do let xs ← evs es ρ; let r ← pairUp t [] xs; pure (.dct t r)
  | .call f es, ρ => do let xs ← evs es ρ; let r ← G f xs; pure r.1
  | .blt b es, ρ => do let xs ← evs es ρ; bltD sub b xs
  | .meth m a es, ρ => do let x ← ev a ρ; let xs ← evs es ρ; methD m x xs
  | .comp fl tg t k its elt cs, ρ => do
    let xs ← evs its ρ
    let ds ← itD k xs
    let ys ← noExn (compL (fun r => ev elt r) (fun r => evc cs r) (fun d => bindFl fl t tg d (wipeE ρ tg)) ds)
    if ys.length ≤ lim then pure (.lst ys) else .stk
  | .flat e, ρ => do let x ← ev e ρ; if x.noMut then pure x else .stk
def evs : List E → Rho → R (List D)
  | [], _ => .ok []
  | e :: es, ρ => do let x ← ev e ρ; let xs ← evs es ρ; pure (x :: xs)
/-- tests, all of them -/
def evc : List E → Rho → R Bool
  | [], _ => .ok true
  | e :: es, ρ => do let x ← ev e ρ; let b ← isTrueD x; if b then evc es ρ else .ok false
end
end

/-! ### statements -/
inductive Mt | append | insert | clear | pop0 | pop1 | extend
  deriving DecidableEq
/-- what is owned: nothing, a list or dict (with what its parts own), a tuple's parts -/
inductive OT where
  | fr | ow (t : OT) | tp (ts : List OT)
inductive S where
  | pass
  /-- no statement of Python: what the slot owns is frozen from here on -/
  | frz (i : Nat)
  | asg (i : Nat) (t : OT) (e : E)
  | asgT (is : List Nat) (e : E)
  /-- name += an int -/
  | inc (i : Nat) (e : E)
  /-- name.append(e) -/
  | app (i : Nat) (e : E)
  | put (i : Nat) (path : List E) (k v : E)
  | mut (i : Nat) (path : List E) (m : Mt) (args : List E)
  | pop (j i : Nat) (path : List E) (args : List E)
  | setd (i : Nat) (path : List E) (k v : E)
  | drop (e : E)
  | iff (c : E) (a b : List S)
  | whl (c : E) (b : List S)
  | frh (t : Bool) (tg : List Nat) (fl : Bool) (k : ItK) (its : List E) (b : List S)
  | ret (e : E) | retN
  | raise (c : Nat) (es : List E)
  | tryX (b : List S) (cs : List (Nat × Nat))
  /-- a call that changes its arguments in slots; its value goes to a slot -/
  | callM (j : Option Nat) (f : Nat) (es : List E) (ios : List Nat)

inductive Out where
  | next (ρ : Rho) | ret (d : D) (ρ : Rho) | exn (c : Nat) (ps : List D) (ρ : Rho) | stk
def Out.ofR {α : Type} (ρ : Rho) (r : R α) (k : α → Out) : Out :=
  match r with
  | .ok a => k a
  | .exn c ps => .exn c ps ρ
  | .stk => .stk
@[simp] theorem ofR_ok {α : Type} (ρ : Rho) (a : α) (k : α → Out) : Out.ofR ρ (.ok a) k = k a := rfl
@[simp] theorem ofR_stk {α : Type} (ρ : Rho) (k : α → Out) : Out.ofR ρ (.stk : R α) k = .stk := rfl
@[simp] theorem ofR_exn {α : Type} (ρ : Rho) (c : Nat) (ps : List D) (k : α → Out) : Out.ofR ρ (.exn c ps : R α) k = .exn c ps ρ := rfl

def whileN (c : Rho → R Bool) (b : Rho → Out) : Nat → Rho → Option Out
  | 0, _ => none
  | n + 1, ρ => match c ρ with
    | .ok true => (match b ρ with
      | .next ρ' => whileN c b n ρ'
      | o => some o)
    | .ok false => some (.next ρ)
    | .exn c ps => some (.exn c ps ρ)
    | .stk => some .stk
theorem whileN_mono {c : Rho → R Bool} {b : Rho → Out} : ∀ {n : Nat} {ρ : Rho} {o : Out}, whileN c b n ρ = some o → whileN c b (n + 1) ρ = some o
  | 0, _, _, h => by cases h
  | n + 1, ρ, o, h => by
    rw [whileN] at h ⊢
    split at h
    · split at h
      · rename_i h1 _ ρ' h2
        exact whileN_mono h
      · exact h
    · exact h
    · exact h
    · exact h
theorem whileN_le {c : Rho → R Bool} {b : Rho → Out} {n m : Nat} {ρ : Rho} {o : Out} (h : whileN c b n ρ = some o) (hm : n ≤ m) : whileN c b m ρ = some o := by
  obtain ⟨k, rfl⟩ := Nat.exists_eq_add_of_le hm
  induction k with
  | zero => exact h
  | succ k ih => exact whileN_mono (ih (Nat.le_add_right _ _))
open Classical in
/-- a while loop, as far as it ends -/
noncomputable def whileR (c : Rho → R Bool) (b : Rho → Out) (ρ : Rho) : Out :=
  if h : ∃ o, ∃ n, whileN c b n ρ = some o then choose h else .stk
theorem whileR_of {c : Rho → R Bool} {b : Rho → Out} {ρ : Rho} {o : Out} {n : Nat} (h : whileN c b n ρ = some o) : whileR c b ρ = o := by
  have hx : ∃ o, ∃ n, whileN c b n ρ = some o := ⟨o, n, h⟩
  unfold whileR
  rw [dif_pos hx]
  obtain ⟨m, hm⟩ := Classical.choose_spec hx
  have h1 := whileN_le hm (Nat.le_max_left m n)
  have h2 := whileN_le h (Nat.le_max_right m n)
  rw [h1] at h2
  exact Option.some.inj h2
theorem whileR_run {c : Rho → R Bool} {b : Rho → Out} {ρ : Rho} (h : whileR c b ρ ≠ .stk) : ∃ n, whileN c b n ρ = some (whileR c b ρ) := by
  by_cases hx : ∃ o, ∃ n, whileN c b n ρ = some o
  · obtain ⟨o, n, e⟩ := hx
    exact ⟨n, by rw [whileR_of e]; exact e⟩
  · exfalso
    apply h
    unfold whileR
    rw [dif_neg hx]
theorem whileR_eq (c : Rho → R Bool) (b : Rho → Out) (ρ : Rho) : whileR c b ρ = match c ρ with
    | .ok true => (match b ρ with | .next ρ' => whileR c b ρ' | o => o)
    | .ok false => .next ρ
    | .exn c ps => .exn c ps ρ
    | .stk => .stk := by
  by_cases hx : ∃ o, ∃ n, whileN c b n ρ = some o
  · obtain ⟨o, n, e⟩ := hx
    rw [whileR_of e]
    cases n with
    | zero => cases e
    | succ n =>
      rw [whileN] at e
      split at e
      · rename_i h1
        split at e
        · exact (whileR_of e).symm
        · exact (Option.some.inj e).symm
      · exact (Option.some.inj e).symm
      · exact (Option.some.inj e).symm
      · exact (Option.some.inj e).symm
  · have e : whileR c b ρ = .stk := by unfold whileR; rw [dif_neg hx]
    rw [e]
    cases hc : c ρ with
    | ok d =>
      cases d with
      | true =>
        simp only
        cases hb : b ρ with
        | next ρ' =>
          simp only
          by_cases hy : whileR c b ρ' = .stk
          · exact hy.symm
          · obtain ⟨n, q⟩ := whileR_run hy
            exact absurd ⟨_, n + 1, by rw [whileN, hc]; simp only [hb]; exact q⟩ hx
        | ret d r => exact absurd ⟨_, 1, by rw [whileN, hc]; simp only [hb]; rfl⟩ hx
        | exn d r q => exact absurd ⟨_, 1, by rw [whileN, hc]; simp only [hb]; rfl⟩ hx
        | stk => rfl
      | false => exact absurd ⟨_, 1, by rw [whileN, hc]⟩ hx
    | exn d r => exact absurd ⟨_, 1, by rw [whileN, hc]⟩ hx
    | stk => rfl
/-- by an invariant and a measure -/
theorem while_inv {c : Rho → R Bool} {b : Rho → Out} (P : Rho → Prop) (μ : Rho → Nat) (T : Out → Prop)
    (hs : ∀ ρ, P ρ → (c ρ = .ok false ∧ T (.next ρ)) ∨ (c ρ = .ok true ∧ ((∃ ρ', b ρ = .next ρ' ∧ P ρ' ∧ μ ρ' < μ ρ) ∨ ((∀ ρ', b ρ ≠ .next ρ') ∧ T (b ρ))))) :
    ∀ {ρ : Rho}, P ρ → T (whileR c b ρ) := by
  have go : ∀ (n : Nat) (ρ : Rho), μ ρ < n → P ρ → T (whileR c b ρ) := by
    intro n
    induction n with
    | zero => intro ρ h; exact absurd h (Nat.not_lt_zero _)
    | succ n ih =>
      intro ρ h p
      rw [whileR_eq]
      rcases hs ρ p with ⟨h1, h2⟩ | ⟨h1, ⟨ρ', h2, h3, h4⟩ | ⟨h2, h3⟩⟩
      · rw [h1]; exact h2
      · rw [h1]
        simp only [h2]
        exact ih ρ' (by omega) h3
      · rw [h1]
        cases e : b ρ with
        | next ρ' => exact absurd e (h2 ρ')
        | ret d r => rw [e] at h3; exact h3
        | exn d r q => rw [e] at h3; exact h3
        | stk => rw [e] at h3; exact h3
  intro ρ p
  exact go (μ ρ + 1) ρ (Nat.lt_succ_self _) p

/-- a for loop over what was walked -/
def forR (f : D → Rho → R Rho) (b : Rho → Out) : List D → Rho → Out
  | [], ρ => .next ρ
  | d :: ds, ρ => Out.ofR ρ (f d ρ) fun ρ1 => match b ρ1 with
    | .next ρ2 => forR f b ds ρ2
    | o => o
/-- change the part at a path -/
def updAt (f : D → R D) : List D → D → R D
  | [], d => f d
  | i :: is, d => match d with
    | .lst xs => (match i with
      | .int k => (match ixOf xs.length k with
        | some j => (match xs[j]? with
          | some x => do let y ← updAt f is x; pure (.lst (xs.set j y))
          | none => .stk)
        | none => .stk)
      | _ => .stk)
    | .tup xs => (match i with
      | .int k => (match ixOf xs.length k with
        | some j => (match xs[j]? with
          | some x => do let y ← updAt f is x; pure (.tup (xs.set j y))
          | none => .stk)
        | none => .stk)
      | _ => .stk)
    | .dct t es => if keyOk t i then (match dlook es i with
        | some x => do let y ← updAt f is x; pure (.dct t (drepl es i y))
        | none => .stk) else .stk
    | _ => .stk
/-- the part at a path -/
def atPath : List D → D → R D
  | [], d => .ok d
  | i :: is, d => do let x ← idxD d i; atPath is x
def putD (k v : D) : D → R D
  | .lst xs => match k with
    | .int i => (match ixOf xs.length i with | some j => .ok (.lst (xs.set j v)) | none => .stk)
    | _ => .stk
  | .dct t es => if keyOk t k && decide (es.length < lim) then .ok (.dct t (dput es k v)) else .stk
  | _ => .stk
/-- a place to insert at -/
def insAt (n : Nat) (i : Int) : Nat := if i < 0 then (max (i + (n : Int)) 0).toNat else (min i (n : Int)).toNat
def mutD : Mt → List D → D → R D
  | .append, [v], .lst xs => if xs.length < lim then .ok (.lst (xs ++ [v])) else .stk
  | .insert, [.int i, v], .lst xs => if decide (xs.length < lim) && small62 i then .ok (.lst (xs.take (insAt xs.length i) ++ v :: xs.drop (insAt xs.length i))) else .stk
  | .clear, [], .lst _ => .ok (.lst [])
  | .clear, [], .dct t _ => .ok (.dct t [])
  | .pop0, [], .lst xs => if xs.isEmpty then .stk else .ok (.lst xs.dropLast)
  | .pop1, [.int i], .lst xs => if small62 i then (match ixOf xs.length i with | some j => .ok (.lst (xs.eraseIdx j)) | none => .stk) else .stk
  | .extend, [.lst ys], .lst xs => if xs.length + ys.length ≤ lim then .ok (.lst (xs ++ ys)) else .stk
  | _, _, _ => .stk
def popped : List D → D → R D
  | [], .lst xs => atD xs (-1)
  | [.int i], .lst xs => atD xs i
  | _, _ => .stk
def popM : List D → Mt
  | [] => .pop0
  | _ => .pop1
def setdD (k v : D) : D → R D
  | .dct t es => if keyOk t k && decide (es.length < lim) then (match dlook es k with
      | some (.lst xs) => if xs.length < lim then .ok (.dct t (drepl es k (.lst (xs ++ [v])))) else .stk
      | some _ => .stk
      | none => .ok (.dct t (es ++ [.tup [k, .lst [v]]]))) else .stk
  | _ => .stk
def putIos : Rho → List Nat → List D → R Rho
  | ρ, [], [] => .ok ρ
  | ρ, i :: is, d :: ds => putIos (ρ.put i d) is ds
  | _, _, _ => .stk
def catch1 (sub : Sub) (ρ : Rho) (c : Nat) (ps : List D) : List (Nat × Nat) → Out
  | [] => .exn c ps ρ
  | (k, j) :: r => if sub c k then .next (ρ.put j (.exc c ps)) else catch1 sub ρ c ps r
section
variable (sub : Sub) (G : Gam)
mutual
noncomputable def run : S → Rho → Out
  | .pass, ρ => .next ρ
  | .frz _, ρ => .next ρ
  | .asg i _ e, ρ => .ofR ρ (ev sub G e ρ) fun d => .next (ρ.put i d)
  | .asgT is e, ρ => .ofR ρ (ev sub G e ρ) fun d => match d with | .tup ds => .ofR ρ (putAll ρ is ds) .next | .lst ds => .ofR ρ (putAll ρ is ds) .next | _ => .stk
  | .inc i e, ρ => .ofR ρ (ρ.get i) fun x => match x with | .int _ => .ofR ρ (ev sub G e ρ) fun y => (match y with | .int _ => .ofR ρ (binD .add x y) fun z => .next (ρ.put i z) | _ => .stk) | _ => .stk
  | .app i e, ρ => .ofR ρ (ρ.get i) fun x => match x with | .lst xs => .ofR ρ (ev sub G e ρ) fun y => (if xs.length < lim then .next (ρ.put i (.lst (xs ++ [y]))) else .stk) | _ => .stk
  | .put i path k v, ρ => .ofR ρ (ev sub G v ρ) fun y => .ofR ρ (ρ.get i) fun x => .ofR ρ (evs sub G path ρ) fun ps => .ofR ρ (ev sub G k ρ) fun kd => .ofR ρ (updAt (putD kd y) ps x) fun x' => .next (ρ.put i x')
  | .mut i path m args, ρ => .ofR ρ (ρ.get i) fun x => .ofR ρ (evs sub G path ρ) fun ps => .ofR ρ (evs sub G args ρ) fun as => .ofR ρ (updAt (mutD m as) ps x) fun x' => .next (ρ.put i x')
  | .pop j i path args, ρ => .ofR ρ (ρ.get i) fun x => .ofR ρ (evs sub G path ρ) fun ps => .ofR ρ (evs sub G args ρ) fun as => .ofR ρ (atPath ps x) fun l => .ofR ρ (popped as l) fun y => .ofR ρ (updAt (mutD (popM as) as) ps x) fun x' => .next ((ρ.put i x').put j y)
  | .setd i path k v, ρ => .ofR ρ (ρ.get i) fun x => .ofR ρ (evs sub G path ρ) fun ps => .ofR ρ (ev sub G k ρ) fun kd => .ofR ρ (ev sub G v ρ) fun vd => .ofR ρ (updAt (setdD kd vd) ps x) fun x' => .next (ρ.put i x')
  | .drop e, ρ => .ofR ρ (ev sub G e ρ) fun _ => .next ρ
  | .iff c a b, ρ => .ofR ρ (ev sub G c ρ) fun x => .ofR ρ (isTrueD x) fun t => if t then runs a ρ else runs b ρ
  | .whl c b, ρ => whileR (fun r => ev sub G c r >>= isTrueD) (fun r => runs b r) ρ
  | .frh t tg fl k its b, ρ => .ofR ρ (evs sub G its ρ) fun xs => .ofR ρ (itD k xs) fun ds => forR (fun d r => bindFl fl t tg d r) (fun r => runs b r) ds ρ
  | .ret e, ρ => .ofR ρ (ev sub G e ρ) fun d => .ret d ρ
  | .retN, ρ => .ret .non ρ
  | .raise c es, ρ => .ofR ρ (evs sub G es ρ) fun ps => .exn c ps ρ
  | .tryX b cs, ρ => match runs b ρ with
    | .exn c ps ρ' => catch1 sub ρ' c ps cs
    | o => o
  | .callM j f es ios, ρ => .ofR ρ (evs sub G es ρ) fun xs => .ofR ρ (G f xs) fun r => .ofR ρ (putIos ρ ios r.2) fun ρ' => match j with | some i => .next (ρ'.put i r.1) | none => .next ρ'
noncomputable def runs : List S → Rho → Out
  | [], ρ => .next ρ
  | s :: ss, ρ => match run s ρ with
    | .next ρ' => runs ss ρ'
    | o => o
end
end

/-! ### defs -/
structure Def where
  nps : Nat
  nsl : Nat
  io : List Nat := []
  body : List S
def outs (io : List Nat) (ρ : Rho) : List D := io.map fun i => match ρ[i]? with | some (some d) => d | _ => .non
def entry (nsl : Nat) (xs : List D) : Rho := xs.map some ++ List.replicate (nsl - xs.length) none
noncomputable def runDef (sub : Sub) (G : Gam) (d : Def) (xs : List D) : R (D × List D) :=
  if xs.length = d.nps then
    match runs sub G d.body (entry d.nsl xs) with
    | .next ρ => .ok (.non, outs d.io ρ)
    | .ret v ρ => .ok (v, outs d.io ρ)
    | .exn c ps _ => .exn c ps
    | .stk => .stk
  else .stk
/-- the first k defs of a table; each calls those ahead of it -/
noncomputable def sem (sub : Sub) (ds : List Def) : Nat → Nat → List D → R (D × List D)
  | 0, _, _ => .stk
  | k + 1, n, xs => if n = k then (match ds[k]? with | some d => runDef sub (sem sub ds k) d xs | none => .stk) else sem sub ds k n xs
theorem sem_at {sub : Sub} {ds : List Def} {d : Def} {n : Nat} (h : ds[n]? = some d) : ∀ {k : Nat}, n < k → ∀ xs, sem sub ds k n xs = runDef sub (sem sub ds n) d xs
  | 0, hk, _ => absurd hk (Nat.not_lt_zero _)
  | k + 1, hk, xs => by
    rw [sem]
    by_cases e : n = k
    · subst e
      rw [if_pos rfl, h]
    · rw [if_neg e]
      exact sem_at h (by omega) xs
end L2.Py

set_option Elab.async false
set_option linter.all false
set_option maxRecDepth 100000
set_option maxHeartbeats 1000000
/-! PyE2: how data stands in the heap: Rep (owned and frozen parts), ER (a frame's slots). -/
namespace L2.Py
open PySem PySem.Spec PyProof.Rows L2 TL

def toS (w : W) : Str := ⟨w.toArray⟩
theorem tl_toS (w : W) : tl (toS w) = w := rfl
theorem toS_tl (x : Str) : toS (tl x) = x := ext_tl rfl
theorem toS_len (w : W) : (toS w).length = w.length := by rw [len_tl]; rfl
theorem toS_inj {a b : W} (h : toS a = toS b) : a = b := by have := congrArg tl h; exact this
theorem toS_app (a b : W) : toS a ++ toS b = toS (a ++ b) := ext_tl (by rw [tl_append]; rfl)

def OT.comps : OT → Nat → OT
  | .tp ts, i => ts.getD i .fr
  | _, _ => .fr
def OT.elem : OT → OT
  | .ow t => t
  | _ => .fr
abbrev frs0 : Nat → OT := fun _ => .fr

/-- a list of the written part -/
def KLst (K : PySem.W.Frag) (a : Addr) (xs : List V) : Prop :=
  ∃ (o : Obj) (its : Array Value) (n : Nat), K.lookup a = some o ∧ o.cls = .type "list" ∧ o.dict = none ∧ o.data = .seq its n ∧ its.size ≤ sizeLine ∧ Vals xs its.toList
/-- a node that is a list: owned, or frozen -/
def NodL (H : Hp) (F : Addr → Prop) (t : OT) (a : Addr) (vs : List V) (fp fp' : List Addr) : Prop :=
  match t with
  | .ow _ => H a = some (.lst vs) ∧ fp = a :: fp'
  | _ => (H a = some (.lst vs) ∧ F a) ∧ fp = fp'
def NodD (H : Hp) (F : Addr → Prop) (t : OT) (a : Addr) (o : HO) (fp fp' : List Addr) : Prop :=
  match t with
  | .ow _ => H a = some o ∧ fp = a :: fp'
  | _ => (Rd H a o ∧ F a) ∧ fp = fp'
def keyD : Key → D
  | .inl i => .int i
  | .inr x => .str (tl x)
def keyT (ks : List Key) : D := .tup (ks.map keyD)

mutual
/-- v, in H, is the data d; its owned nodes are fp; each frozen node that can be changed is within F -/
def Rep (K : PySem.W.Frag) (H : Hp) (F : Addr → Prop) : D → OT → V → List Addr → Prop
  | .non, _, v, fp => v = .non ∧ fp = []
  | .bl b, _, v, fp => v = .bl b ∧ fp = []
  | .int i, _, v, fp => v = .int i ∧ fp = []
  | .str s, _, v, fp => v = .str (toS s) ∧ fp = []
  | .tup ds, t, v, fp => ∃ a vs, v = .ref a ∧ H a = some (.tup vs) ∧ RepL K H F ds t.comps vs fp
  | .lst ds, t, v, fp => ∃ a vs fp', v = .ref a ∧ NodL H F t a vs fp fp' ∧ RepL K H F ds (fun _ => t.elem) vs fp'
  | .dct b es, t, v, fp => ∃ a fp', v = .ref a ∧ ((b = false ∧ ∃ kvs, NodD H F t a (.dK kvs) fp fp' ∧ RepM K H F es Key keyD t.elem kvs fp') ∨
      (b = true ∧ ∃ kvs, NodD H F t a (.dT kvs) fp fp' ∧ RepM K H F es (List Key) keyT t.elem kvs fp'))
  | .exc _ _, _, _, _ => False
  | .scr ns, _, v, fp => (∃ a, v = .ref a ∧ ((∃ o, H a = some (.frz o (.lst (ns.map V.int)))) ∨ KLst K a (ns.map V.int))) ∧ fp = []
def RepL (K : PySem.W.Frag) (H : Hp) (F : Addr → Prop) : List D → (Nat → OT) → List V → List Addr → Prop
  | [], _, vs, fp => vs = [] ∧ fp = []
  | d :: ds, f, vs, fp => ∃ v r f1 f2, vs = v :: r ∧ fp = f1 ++ f2 ∧ Rep K H F d (f 0) v f1 ∧ RepL K H F ds (fun n => f (n + 1)) r f2
def RepM (K : PySem.W.Frag) (H : Hp) (F : Addr → Prop) : List D → (κ : Type) → (κ → D) → OT → List (κ × V) → List Addr → Prop
  | [], _, _, _, kvs, fp => kvs = [] ∧ fp = []
  | e :: es, κ, kf, t, kvs, fp => ∃ k v r f1 f2, kvs = (k, v) :: r ∧ fp = f1 ++ f2 ∧ RepN K H F e (kf k) t v f1 ∧ RepM K H F es κ kf t r f2
def RepN (K : PySem.W.Frag) (H : Hp) (F : Addr → Prop) : D → D → OT → V → List Addr → Prop
  | .tup ds, kd, t, v, fp => RepN2 K H F ds kd t v fp
  | _, _, _, _, _ => False
def RepN2 (K : PySem.W.Frag) (H : Hp) (F : Addr → Prop) : List D → D → OT → V → List Addr → Prop
  | [], _, _, _, _ => False
  | k :: ds, kd, t, v, fp => k = kd ∧ RepN3 K H F ds t v fp
def RepN3 (K : PySem.W.Frag) (H : Hp) (F : Addr → Prop) : List D → OT → V → List Addr → Prop
  | [], _, _, _ => False
  | d :: ds, t, v, fp => ds = [] ∧ Rep K H F d t v fp
end

section
variable {K : PySem.W.Frag}
/-- what a change of the heap (and of what is frozen) must leave -/
structure Leaves (H H' : Hp) (F F' : Addr → Prop) (fp : List Addr) : Prop where
  own : ∀ a ∈ fp, ∀ o, H a = some o → H' a = some o
  frz : ∀ a u, Rd H a u → F a → Rd H' a u ∧ F' a
  lst : ∀ a vs, H a = some (.lst vs) → F a → H' a = some (.lst vs) ∧ F' a
  tup : ∀ a vs, H a = some (.tup vs) → H' a = some (.tup vs)
  scr : ∀ a o vs, H a = some (.frz o (.lst vs)) → H' a = some (.frz o (.lst vs))
theorem Leaves.sub {H H' : Hp} {F F' : Addr → Prop} {fp fq : List Addr} (l : Leaves H H' F F' fp) (h : ∀ a ∈ fq, a ∈ fp) : Leaves H H' F F' fq := ⟨fun a ha => l.own a (h a ha), l.frz, l.lst, l.tup, l.scr⟩

mutual
theorem Rep.leaves {H H' : Hp} {F F' : Addr → Prop} : ∀ (d : D) (t : OT) (v : V) (fp : List Addr), Leaves H H' F F' fp → Rep K H F d t v fp → Rep K H' F' d t v fp
  | .non, _, _, _, _, h => by simpa only [Rep] using h
  | .bl _, _, _, _, _, h => by simpa only [Rep] using h
  | .int _, _, _, _, _, h => by simpa only [Rep] using h
  | .str _, _, _, _, _, h => by simpa only [Rep] using h
  | .tup ds, t, v, fp, l, h => by
    simp only [Rep] at h ⊢
    obtain ⟨a, vs, e, h1, h2⟩ := h
    exact ⟨a, vs, e, l.tup a vs h1, RepL.leaves ds _ vs fp l h2⟩
  | .lst ds, t, v, fp, l, h => by
    simp only [Rep] at h ⊢
    obtain ⟨a, vs, fp', e, h1, h2⟩ := h
    cases t with
    | ow t =>
      obtain ⟨h1, rfl⟩ := h1
      exact ⟨a, vs, fp', e, ⟨l.own a List.mem_cons_self _ h1, rfl⟩, RepL.leaves ds _ vs fp' (l.sub fun b hb => List.mem_cons_of_mem _ hb) h2⟩
    | fr =>
      obtain ⟨h1, rfl⟩ := h1
      exact ⟨a, vs, fp, e, ⟨l.lst a _ h1.1 h1.2, rfl⟩, RepL.leaves ds _ vs fp l h2⟩
    | tp ts =>
      obtain ⟨h1, rfl⟩ := h1
      exact ⟨a, vs, fp, e, ⟨l.lst a _ h1.1 h1.2, rfl⟩, RepL.leaves ds _ vs fp l h2⟩
  | .dct b es, t, v, fp, l, h => by
    simp only [Rep] at h ⊢
    obtain ⟨a, fp', e, h⟩ := h
    refine ⟨a, fp', e, ?_⟩
    rcases h with ⟨eb, kvs, h1, h2⟩ | ⟨eb, kvs, h1, h2⟩
    · refine .inl ⟨eb, kvs, ?_⟩
      cases t with
      | ow t =>
        obtain ⟨h1, rfl⟩ := h1
        exact ⟨⟨l.own a List.mem_cons_self _ h1, rfl⟩, RepM.leaves es _ _ kvs fp' (l.sub fun b hb => List.mem_cons_of_mem _ hb) h2⟩
      | fr =>
        obtain ⟨h1, rfl⟩ := h1
        exact ⟨⟨l.frz a _ h1.1 h1.2, rfl⟩, RepM.leaves es _ _ kvs fp l h2⟩
      | tp ts =>
        obtain ⟨h1, rfl⟩ := h1
        exact ⟨⟨l.frz a _ h1.1 h1.2, rfl⟩, RepM.leaves es _ _ kvs fp l h2⟩
    · refine .inr ⟨eb, kvs, ?_⟩
      cases t with
      | ow t =>
        obtain ⟨h1, rfl⟩ := h1
        exact ⟨⟨l.own a List.mem_cons_self _ h1, rfl⟩, RepM.leaves es _ _ kvs fp' (l.sub fun b hb => List.mem_cons_of_mem _ hb) h2⟩
      | fr =>
        obtain ⟨h1, rfl⟩ := h1
        exact ⟨⟨l.frz a _ h1.1 h1.2, rfl⟩, RepM.leaves es _ _ kvs fp l h2⟩
      | tp ts =>
        obtain ⟨h1, rfl⟩ := h1
        exact ⟨⟨l.frz a _ h1.1 h1.2, rfl⟩, RepM.leaves es _ _ kvs fp l h2⟩
  | .exc _ _, _, _, _, _, h => by simp only [Rep] at h
  | .scr _, _, _, _, l, h => by
    simp only [Rep] at h ⊢
    obtain ⟨⟨a, e, h1⟩, h2⟩ := h
    exact ⟨⟨a, e, h1.imp (fun ⟨o, q⟩ => ⟨o, l.scr a o _ q⟩) id⟩, h2⟩
theorem RepL.leaves {H H' : Hp} {F F' : Addr → Prop} : ∀ (ds : List D) (f : Nat → OT) (vs : List V) (fp : List Addr), Leaves H H' F F' fp → RepL K H F ds f vs fp → RepL K H' F' ds f vs fp
  | [], _, _, _, _, h => by simpa only [RepL] using h
  | d :: ds, f, vs, fp, l, h => by
    simp only [RepL] at h ⊢
    obtain ⟨v, r, f1, f2, e1, e2, h1, h2⟩ := h
    subst e2
    exact ⟨v, r, f1, f2, e1, rfl, Rep.leaves d _ v f1 (l.sub fun b hb => List.mem_append_left _ hb) h1, RepL.leaves ds _ r f2 (l.sub fun b hb => List.mem_append_right _ hb) h2⟩
theorem RepM.leaves {H H' : Hp} {F F' : Addr → Prop} : ∀ (es : List D) {κ : Type} (kf : κ → D) (t : OT) (kvs : List (κ × V)) (fp : List Addr), Leaves H H' F F' fp → RepM K H F es κ kf t kvs fp → RepM K H' F' es κ kf t kvs fp
  | [], _, _, _, _, _, _, h => by simpa only [RepM] using h
  | e :: es, _, kf, t, kvs, fp, l, h => by
    simp only [RepM] at h ⊢
    obtain ⟨k, v, r, f1, f2, e1, e2, h1, h2⟩ := h
    subst e2
    exact ⟨k, v, r, f1, f2, e1, rfl, RepN.leaves e _ _ v f1 (l.sub fun b hb => List.mem_append_left _ hb) h1, RepM.leaves es _ _ r f2 (l.sub fun b hb => List.mem_append_right _ hb) h2⟩
theorem RepN.leaves {H H' : Hp} {F F' : Addr → Prop} : ∀ (e : D) (kd : D) (t : OT) (v : V) (fp : List Addr), Leaves H H' F F' fp → RepN K H F e kd t v fp → RepN K H' F' e kd t v fp
  | .tup ds, kd, t, v, fp, l, h => by
    simp only [RepN] at h ⊢
    exact RepN2.leaves ds kd t v fp l h
  | .non, _, _, _, _, _, h => by simp only [RepN] at h
  | .bl _, _, _, _, _, _, h => by simp only [RepN] at h
  | .int _, _, _, _, _, _, h => by simp only [RepN] at h
  | .str _, _, _, _, _, _, h => by simp only [RepN] at h
  | .lst _, _, _, _, _, _, h => by simp only [RepN] at h
  | .dct _ _, _, _, _, _, _, h => by simp only [RepN] at h
  | .exc _ _, _, _, _, _, _, h => by simp only [RepN] at h
  | .scr _, _, _, _, _, _, h => by simp only [RepN] at h
theorem RepN2.leaves {H H' : Hp} {F F' : Addr → Prop} : ∀ (ds : List D) (kd : D) (t : OT) (v : V) (fp : List Addr), Leaves H H' F F' fp → RepN2 K H F ds kd t v fp → RepN2 K H' F' ds kd t v fp
  | [], _, _, _, _, _, h => by simp only [RepN2] at h
  | k :: ds, kd, t, v, fp, l, h => by
    simp only [RepN2] at h ⊢
    exact ⟨h.1, RepN3.leaves ds t v fp l h.2⟩
theorem RepN3.leaves {H H' : Hp} {F F' : Addr → Prop} : ∀ (ds : List D) (t : OT) (v : V) (fp : List Addr), Leaves H H' F F' fp → RepN3 K H F ds t v fp → RepN3 K H' F' ds t v fp
  | [], _, _, _, _, h => by simp only [RepN3] at h
  | d :: ds, t, v, fp, l, h => by
    simp only [RepN3] at h ⊢
    exact ⟨h.1, Rep.leaves d t v fp l h.2⟩
end

/-! ### small facts -/
theorem rd_ne {H : Hp} {a : Addr} {u : HO} (h : Rd H a u) : H a ≠ none := by
  rcases h with h | ⟨o, h⟩ <;> (rw [h]; exact fun z => nomatch z)
theorem rdSame {H H' : Hp} {a : Addr} {u : HO} (s : Same H H') (h : Rd H a u) : Rd H' a u := by
  rcases h with h | ⟨o, h⟩
  · exact .inl (s _ _ h)
  · exact .inr ⟨o, s _ _ h⟩
theorem Leaves.same {H H' : Hp} {F F' : Addr → Prop} {fp : List Addr} (s : Same H H') (hF : ∀ a, H a ≠ none → F a → F' a) : Leaves H H' F F' fp :=
  ⟨fun a _ o e => s a o e, fun a u r f => ⟨rdSame s r, hF a (rd_ne r) f⟩, fun a vs e f => ⟨s _ _ e, hF a (by rw [e]; exact fun z => nomatch z) f⟩, fun a vs r => s _ _ r, fun a o vs r => s _ _ r⟩
theorem sameUpd {H H1 : Hp} {p : Addr} {o : HO} (s : Same H H1) (hp : H1 p = none) : Same H (upd H1 p o) := fun b u e => by
  have := s b u e
  rw [upd_ne (ne_of_none this hp)]
  exact this
theorem sameNone {H H1 : Hp} {p : Addr} (s : Same H H1) (hp : H1 p = none) : H p = none := s.free hp

mutual
theorem Rep.trk {H : Hp} {F : Addr → Prop} : ∀ (d : D) (t : OT) (v : V) (fp : List Addr), Rep K H F d t v fp → ∀ a ∈ fp, H a ≠ none
  | .non, _, _, _, h => by simp only [Rep] at h; rw [h.2]; intro a ha; cases ha
  | .bl _, _, _, _, h => by simp only [Rep] at h; rw [h.2]; intro a ha; cases ha
  | .int _, _, _, _, h => by simp only [Rep] at h; rw [h.2]; intro a ha; cases ha
  | .str _, _, _, _, h => by simp only [Rep] at h; rw [h.2]; intro a ha; cases ha
  | .tup ds, t, v, fp, h => by
    simp only [Rep] at h
    obtain ⟨a, vs, e, h1, h2⟩ := h
    exact RepL.trk ds _ vs fp h2
  | .lst ds, t, v, fp, h => by
    simp only [Rep] at h
    obtain ⟨a, vs, fp', e, h1, h2⟩ := h
    have q := RepL.trk ds _ vs fp' h2
    cases t with
    | ow t =>
      obtain ⟨h1, rfl⟩ := h1
      intro b hb
      rcases List.mem_cons.mp hb with rfl | hb
      · rw [h1]; exact fun z => nomatch z
      · exact q b hb
    | fr => obtain ⟨_, rfl⟩ := h1; exact q
    | tp ts => obtain ⟨_, rfl⟩ := h1; exact q
  | .dct b es, t, v, fp, h => by
    simp only [Rep] at h
    obtain ⟨a, fp', e, h⟩ := h
    rcases h with ⟨eb, kvs, h1, h2⟩ | ⟨eb, kvs, h1, h2⟩
    · have q := RepM.trk es _ _ kvs fp' h2
      cases t with
      | ow t =>
        obtain ⟨h1, rfl⟩ := h1
        intro b hb
        rcases List.mem_cons.mp hb with rfl | hb
        · rw [h1]; exact fun z => nomatch z
        · exact q b hb
      | fr => obtain ⟨_, rfl⟩ := h1; exact q
      | tp ts => obtain ⟨_, rfl⟩ := h1; exact q
    · have q := RepM.trk es _ _ kvs fp' h2
      cases t with
      | ow t =>
        obtain ⟨h1, rfl⟩ := h1
        intro b hb
        rcases List.mem_cons.mp hb with rfl | hb
        · rw [h1]; exact fun z => nomatch z
        · exact q b hb
      | fr => obtain ⟨_, rfl⟩ := h1; exact q
      | tp ts => obtain ⟨_, rfl⟩ := h1; exact q
  | .exc _ _, _, _, _, h => by simp only [Rep] at h
  | .scr _, _, _, _, h => by simp only [Rep] at h; rw [h.2]; intro a ha; cases ha
theorem RepL.trk {H : Hp} {F : Addr → Prop} : ∀ (ds : List D) (f : Nat → OT) (vs : List V) (fp : List Addr), RepL K H F ds f vs fp → ∀ a ∈ fp, H a ≠ none
  | [], _, _, _, h => by simp only [RepL] at h; rw [h.2]; intro a ha; cases ha
  | d :: ds, f, vs, fp, h => by
    simp only [RepL] at h
    obtain ⟨v, r, f1, f2, e1, e2, h1, h2⟩ := h
    subst e2
    intro a ha
    rcases List.mem_append.mp ha with z | z
    · exact Rep.trk d _ v f1 h1 a z
    · exact RepL.trk ds _ r f2 h2 a z
theorem RepM.trk {H : Hp} {F : Addr → Prop} : ∀ (es : List D) {κ : Type} (kf : κ → D) (t : OT) (kvs : List (κ × V)) (fp : List Addr), RepM K H F es κ kf t kvs fp → ∀ a ∈ fp, H a ≠ none
  | [], _, _, _, _, _, h => by simp only [RepM] at h; rw [h.2]; intro a ha; cases ha
  | e :: es, _, kf, t, kvs, fp, h => by
    simp only [RepM] at h
    obtain ⟨k, v, r, f1, f2, e1, e2, h1, h2⟩ := h
    subst e2
    intro a ha
    rcases List.mem_append.mp ha with z | z
    · exact RepN.trk e _ _ v f1 h1 a z
    · exact RepM.trk es _ _ r f2 h2 a z
theorem RepN.trk {H : Hp} {F : Addr → Prop} : ∀ (e : D) (kd : D) (t : OT) (v : V) (fp : List Addr), RepN K H F e kd t v fp → ∀ a ∈ fp, H a ≠ none
  | .tup ds, kd, t, v, fp, h => by
    simp only [RepN] at h
    exact RepN2.trk ds kd t v fp h
  | .non, _, _, _, _, h => by simp only [RepN] at h
  | .bl _, _, _, _, _, h => by simp only [RepN] at h
  | .int _, _, _, _, _, h => by simp only [RepN] at h
  | .str _, _, _, _, _, h => by simp only [RepN] at h
  | .lst _, _, _, _, _, h => by simp only [RepN] at h
  | .dct _ _, _, _, _, _, h => by simp only [RepN] at h
  | .exc _ _, _, _, _, _, h => by simp only [RepN] at h
  | .scr _, _, _, _, _, h => by simp only [RepN] at h
theorem RepN2.trk {H : Hp} {F : Addr → Prop} : ∀ (ds : List D) (kd : D) (t : OT) (v : V) (fp : List Addr), RepN2 K H F ds kd t v fp → ∀ a ∈ fp, H a ≠ none
  | [], _, _, _, _, h => by simp only [RepN2] at h
  | k :: ds, kd, t, v, fp, h => by
    simp only [RepN2] at h
    exact RepN3.trk ds t v fp h.2
theorem RepN3.trk {H : Hp} {F : Addr → Prop} : ∀ (ds : List D) (t : OT) (v : V) (fp : List Addr), RepN3 K H F ds t v fp → ∀ a ∈ fp, H a ≠ none
  | [], _, _, _, h => by simp only [RepN3] at h
  | d :: ds, t, v, fp, h => by
    simp only [RepN3] at h
    exact Rep.trk d t v fp h.2
end
mutual
/-- what is owned may be taken for frozen -/
theorem Rep.forget {H : Hp} {F F' : Addr → Prop} : ∀ (d : D) (t : OT) (v : V) (fp : List Addr), (∀ a, H a ≠ none → F a → F' a) → (∀ a ∈ fp, F' a) → Rep K H F d t v fp → Rep K H F' d .fr v []
  | .non, _, _, _, _, _, h => by simp only [Rep] at h ⊢; exact ⟨h.1, trivial⟩
  | .bl _, _, _, _, _, _, h => by simp only [Rep] at h ⊢; exact ⟨h.1, trivial⟩
  | .int _, _, _, _, _, _, h => by simp only [Rep] at h ⊢; exact ⟨h.1, trivial⟩
  | .str _, _, _, _, _, _, h => by simp only [Rep] at h ⊢; exact ⟨h.1, trivial⟩
  | .tup ds, t, v, fp, hF, hp, h => by
    simp only [Rep] at h ⊢
    obtain ⟨a, vs, e, h1, h2⟩ := h
    exact ⟨a, vs, e, h1, RepL.forget ds _ vs fp hF hp h2⟩
  | .lst ds, t, v, fp, hF, hp, h => by
    simp only [Rep] at h ⊢
    obtain ⟨a, vs, fp', e, h1, h2⟩ := h
    cases t with
    | ow t =>
      obtain ⟨h1, rfl⟩ := h1
      exact ⟨a, vs, [], e, ⟨⟨h1, hp a List.mem_cons_self⟩, rfl⟩, RepL.forget ds _ vs fp' hF (fun b hb => hp b (List.mem_cons_of_mem _ hb)) h2⟩
    | fr =>
      obtain ⟨h1, rfl⟩ := h1
      exact ⟨a, vs, [], e, ⟨⟨h1.1, hF a (by rw [h1.1]; exact fun z => nomatch z) h1.2⟩, rfl⟩, RepL.forget ds _ vs fp hF hp h2⟩
    | tp ts =>
      obtain ⟨h1, rfl⟩ := h1
      exact ⟨a, vs, [], e, ⟨⟨h1.1, hF a (by rw [h1.1]; exact fun z => nomatch z) h1.2⟩, rfl⟩, RepL.forget ds _ vs fp hF hp h2⟩
  | .dct b es, t, v, fp, hF, hp, h => by
    simp only [Rep] at h ⊢
    obtain ⟨a, fp', e, h⟩ := h
    refine ⟨a, [], e, ?_⟩
    rcases h with ⟨eb, kvs, h1, h2⟩ | ⟨eb, kvs, h1, h2⟩
    · refine .inl ⟨eb, kvs, ?_⟩
      cases t with
      | ow t =>
        obtain ⟨h1, rfl⟩ := h1
        exact ⟨⟨⟨.inl h1, hp a List.mem_cons_self⟩, rfl⟩, RepM.forget es _ _ kvs fp' hF (fun b hb => hp b (List.mem_cons_of_mem _ hb)) h2⟩
      | fr =>
        obtain ⟨h1, rfl⟩ := h1
        exact ⟨⟨⟨h1.1, hF a (rd_ne h1.1) h1.2⟩, rfl⟩, RepM.forget es _ _ kvs fp hF hp h2⟩
      | tp ts =>
        obtain ⟨h1, rfl⟩ := h1
        exact ⟨⟨⟨h1.1, hF a (rd_ne h1.1) h1.2⟩, rfl⟩, RepM.forget es _ _ kvs fp hF hp h2⟩
    · refine .inr ⟨eb, kvs, ?_⟩
      cases t with
      | ow t =>
        obtain ⟨h1, rfl⟩ := h1
        exact ⟨⟨⟨.inl h1, hp a List.mem_cons_self⟩, rfl⟩, RepM.forget es _ _ kvs fp' hF (fun b hb => hp b (List.mem_cons_of_mem _ hb)) h2⟩
      | fr =>
        obtain ⟨h1, rfl⟩ := h1
        exact ⟨⟨⟨h1.1, hF a (rd_ne h1.1) h1.2⟩, rfl⟩, RepM.forget es _ _ kvs fp hF hp h2⟩
      | tp ts =>
        obtain ⟨h1, rfl⟩ := h1
        exact ⟨⟨⟨h1.1, hF a (rd_ne h1.1) h1.2⟩, rfl⟩, RepM.forget es _ _ kvs fp hF hp h2⟩
  | .exc _ _, _, _, _, _, _, h => by simp only [Rep] at h
  | .scr _, _, _, _, _, _, h => by simp only [Rep] at h ⊢; exact ⟨h.1, trivial⟩
theorem RepL.forget {H : Hp} {F F' : Addr → Prop} : ∀ (ds : List D) (f : Nat → OT) (vs : List V) (fp : List Addr), (∀ a, H a ≠ none → F a → F' a) → (∀ a ∈ fp, F' a) → RepL K H F ds f vs fp → RepL K H F' ds frs0 vs []
  | [], _, _, _, _, _, h => by simp only [RepL] at h ⊢; exact ⟨h.1, trivial⟩
  | d :: ds, f, vs, fp, hF, hp, h => by
    simp only [RepL] at h ⊢
    obtain ⟨v, r, f1, f2, e1, e2, h1, h2⟩ := h
    subst e2
    exact ⟨v, r, [], [], e1, rfl, Rep.forget d _ v f1 hF (fun b hb => hp b (List.mem_append_left _ hb)) h1, RepL.forget ds _ r f2 hF (fun b hb => hp b (List.mem_append_right _ hb)) h2⟩
theorem RepM.forget {H : Hp} {F F' : Addr → Prop} : ∀ (es : List D) {κ : Type} (kf : κ → D) (t : OT) (kvs : List (κ × V)) (fp : List Addr), (∀ a, H a ≠ none → F a → F' a) → (∀ a ∈ fp, F' a) → RepM K H F es κ kf t kvs fp → RepM K H F' es κ kf .fr kvs []
  | [], _, _, _, _, _, _, _, h => by simp only [RepM] at h ⊢; exact ⟨h.1, trivial⟩
  | e :: es, _, kf, t, kvs, fp, hF, hp, h => by
    simp only [RepM] at h ⊢
    obtain ⟨k, v, r, f1, f2, e1, e2, h1, h2⟩ := h
    subst e2
    exact ⟨k, v, r, [], [], e1, rfl, RepN.forget e _ _ v f1 hF (fun b hb => hp b (List.mem_append_left _ hb)) h1, RepM.forget es _ _ r f2 hF (fun b hb => hp b (List.mem_append_right _ hb)) h2⟩
theorem RepN.forget {H : Hp} {F F' : Addr → Prop} : ∀ (e : D) (kd : D) (t : OT) (v : V) (fp : List Addr), (∀ a, H a ≠ none → F a → F' a) → (∀ a ∈ fp, F' a) → RepN K H F e kd t v fp → RepN K H F' e kd .fr v []
  | .tup ds, kd, t, v, fp, hF, hp, h => by
    simp only [RepN] at h ⊢
    exact RepN2.forget ds kd t v fp hF hp h
  | .non, _, _, _, _, _, _, h => by simp only [RepN] at h
  | .bl _, _, _, _, _, _, _, h => by simp only [RepN] at h
  | .int _, _, _, _, _, _, _, h => by simp only [RepN] at h
  | .str _, _, _, _, _, _, _, h => by simp only [RepN] at h
  | .lst _, _, _, _, _, _, _, h => by simp only [RepN] at h
  | .dct _ _, _, _, _, _, _, _, h => by simp only [RepN] at h
  | .exc _ _, _, _, _, _, _, _, h => by simp only [RepN] at h
  | .scr _, _, _, _, _, _, _, h => by simp only [RepN] at h
theorem RepN2.forget {H : Hp} {F F' : Addr → Prop} : ∀ (ds : List D) (kd : D) (t : OT) (v : V) (fp : List Addr), (∀ a, H a ≠ none → F a → F' a) → (∀ a ∈ fp, F' a) → RepN2 K H F ds kd t v fp → RepN2 K H F' ds kd .fr v []
  | [], _, _, _, _, _, _, h => by simp only [RepN2] at h
  | k :: ds, kd, t, v, fp, hF, hp, h => by
    simp only [RepN2] at h ⊢
    exact ⟨h.1, RepN3.forget ds t v fp hF hp h.2⟩
theorem RepN3.forget {H : Hp} {F F' : Addr → Prop} : ∀ (ds : List D) (t : OT) (v : V) (fp : List Addr), (∀ a, H a ≠ none → F a → F' a) → (∀ a ∈ fp, F' a) → RepN3 K H F ds t v fp → RepN3 K H F' ds .fr v []
  | [], _, _, _, _, _, h => by simp only [RepN3] at h
  | d :: ds, t, v, fp, hF, hp, h => by
    simp only [RepN3] at h ⊢
    exact ⟨h.1, Rep.forget d t v fp hF hp h.2⟩
end
mutual
/-- what holds nothing that can be changed owns nothing -/
theorem Rep.flat {H : Hp} {F : Addr → Prop} : ∀ (d : D) (t : OT) (v : V) (fp : List Addr), d.noMut = true → Rep K H F d t v fp → fp = [] ∧ ∀ F' t', Rep K H F' d t' v []
  | .non, _, _, _, _, h => by simp only [Rep] at h ⊢; exact ⟨h.2, fun _ _ => ⟨h.1, trivial⟩⟩
  | .bl _, _, _, _, _, h => by simp only [Rep] at h ⊢; exact ⟨h.2, fun _ _ => ⟨h.1, trivial⟩⟩
  | .int _, _, _, _, _, h => by simp only [Rep] at h ⊢; exact ⟨h.2, fun _ _ => ⟨h.1, trivial⟩⟩
  | .str _, _, _, _, _, h => by simp only [Rep] at h ⊢; exact ⟨h.2, fun _ _ => ⟨h.1, trivial⟩⟩
  | .tup ds, t, v, fp, hm, h => by
    simp only [Rep] at h ⊢
    obtain ⟨a, vs, e, h1, h2⟩ := h
    obtain ⟨q1, q2⟩ := RepL.flat ds _ vs fp (by simpa only [D.noMut] using hm) h2
    exact ⟨q1, fun F' t' => ⟨a, vs, e, h1, q2 F' _⟩⟩
  | .lst ds, t, v, fp, hm, h => by simp only [D.noMut] at hm; cases hm
  | .dct b es, t, v, fp, hm, h => by simp only [D.noMut] at hm; cases hm
  | .exc _ _, _, _, _, _, h => by simp only [Rep] at h
  | .scr _, _, _, _, _, h => by simp only [Rep] at h ⊢; exact ⟨h.2, fun _ _ => ⟨h.1, trivial⟩⟩
theorem RepL.flat {H : Hp} {F : Addr → Prop} : ∀ (ds : List D) (f : Nat → OT) (vs : List V) (fp : List Addr), noMutL ds = true → RepL K H F ds f vs fp → fp = [] ∧ ∀ F' f', RepL K H F' ds f' vs []
  | [], _, _, _, _, h => by simp only [RepL] at h ⊢; exact ⟨h.2, fun _ _ => ⟨h.1, trivial⟩⟩
  | d :: ds, f, vs, fp, hm, h => by
    simp only [RepL] at h ⊢
    obtain ⟨v, r, f1, f2, e1, e2, h1, h2⟩ := h
    simp only [noMutL, Bool.and_eq_true] at hm
    obtain ⟨q1, q2⟩ := Rep.flat d _ v f1 hm.1 h1
    obtain ⟨q3, q4⟩ := RepL.flat ds _ r f2 hm.2 h2
    exact ⟨by rw [e2, q1, q3]; rfl, fun F' f' => ⟨v, r, [], [], e1, rfl, q2 F' _, q4 F' _⟩⟩
end
theorem RepL.length {H : Hp} {F : Addr → Prop} : ∀ {ds : List D} {f : Nat → OT} {vs : List V} {fp : List Addr}, RepL K H F ds f vs fp → vs.length = ds.length
  | [], _, _, _, h => by simp only [RepL] at h; rw [h.1]; rfl
  | d :: ds, f, vs, fp, h => by
    simp only [RepL] at h
    obtain ⟨v, r, f1, f2, e1, e2, h1, h2⟩ := h
    rw [e1, List.length_cons, List.length_cons, RepL.length h2]
/-- frozen lists: one by one -/
theorem RepL.nil {H : Hp} {F : Addr → Prop} {f : Nat → OT} : RepL K H F [] f [] [] := by simp only [RepL]; exact ⟨trivial, trivial⟩
theorem RepL.cons {H : Hp} {F : Addr → Prop} {d : D} {ds : List D} {f : Nat → OT} {v : V} {vs : List V} {f1 f2 : List Addr} (h1 : Rep K H F d (f 0) v f1) (h2 : RepL K H F ds (fun n => f (n + 1)) vs f2) : RepL K H F (d :: ds) f (v :: vs) (f1 ++ f2) := by
  simp only [RepL]
  exact ⟨v, vs, f1, f2, rfl, rfl, h1, h2⟩
theorem RepL.uncons {H : Hp} {F : Addr → Prop} {d : D} {ds : List D} {f : Nat → OT} {vs : List V} {fp : List Addr} (h : RepL K H F (d :: ds) f vs fp) : ∃ v r f1 f2, vs = v :: r ∧ fp = f1 ++ f2 ∧ Rep K H F d (f 0) v f1 ∧ RepL K H F ds (fun n => f (n + 1)) r f2 := by
  simpa only [RepL] using h
theorem RepL.nil_inv {H : Hp} {F : Addr → Prop} {f : Nat → OT} {vs : List V} {fp : List Addr} (h : RepL K H F [] f vs fp) : vs = [] ∧ fp = [] := by simpa only [RepL] using h
theorem Rep.fr_nil {H : Hp} {F : Addr → Prop} : ∀ {d : D} {v : V} {fp : List Addr}, Rep K H F d .fr v fp → fp = [] ∧ Rep K H F d .fr v []
  | d, v, fp, h => by
    have key : ∀ (d : D) (v : V) (fp : List Addr), Rep K H F d .fr v fp → fp = [] := by
      intro d v fp h
      exact (go d v fp h)
    have e := key d v fp h
    exact ⟨e, e ▸ h⟩
where
  go : ∀ (d : D) (v : V) (fp : List Addr), Rep K H F d .fr v fp → fp = []
    | .non, _, _, h => by simp only [Rep] at h; exact h.2
    | .bl _, _, _, h => by simp only [Rep] at h; exact h.2
    | .int _, _, _, h => by simp only [Rep] at h; exact h.2
    | .str _, _, _, h => by simp only [Rep] at h; exact h.2
    | .tup ds, v, fp, h => by
      simp only [Rep] at h
      obtain ⟨a, vs, e, h1, h2⟩ := h
      exact goL ds vs fp h2
    | .lst ds, v, fp, h => by
      simp only [Rep] at h
      obtain ⟨a, vs, fp', e, ⟨_, rfl⟩, h2⟩ := h
      exact goL ds vs fp h2
    | .dct b es, v, fp, h => by
      simp only [Rep] at h
      obtain ⟨a, fp', e, h⟩ := h
      rcases h with ⟨eb, kvs, ⟨_, rfl⟩, h2⟩ | ⟨eb, kvs, ⟨_, rfl⟩, h2⟩
      · exact goM es _ kvs fp h2
      · exact goM es _ kvs fp h2
    | .exc _ _, _, _, h => by simp only [Rep] at h
    | .scr _, _, _, h => by simp only [Rep] at h; exact h.2
  goL : ∀ (ds : List D) (vs : List V) (fp : List Addr), RepL K H F ds frs0 vs fp → fp = []
    | [], _, _, h => by simp only [RepL] at h; exact h.2
    | d :: ds, vs, fp, h => by
      simp only [RepL] at h
      obtain ⟨v, r, f1, f2, e1, e2, h1, h2⟩ := h
      rw [e2, go d v f1 h1, goL ds r f2 h2]; rfl
  goM : ∀ (es : List D) {κ : Type} (kf : κ → D) (kvs : List (κ × V)) (fp : List Addr), RepM K H F es κ kf .fr kvs fp → fp = []
    | [], _, _, _, _, h => by simp only [RepM] at h; exact h.2
    | e :: es, _, kf, kvs, fp, h => by
      simp only [RepM] at h
      obtain ⟨k, v, r, f1, f2, e1, e2, h1, h2⟩ := h
      rw [e2, goN e _ v f1 h1, goM es _ r f2 h2]; rfl
  goN : ∀ (e : D) (kd : D) (v : V) (fp : List Addr), RepN K H F e kd .fr v fp → fp = []
    | .tup ds, kd, v, fp, h => by
      simp only [RepN] at h
      exact goN2 ds kd v fp h
    | .non, _, _, _, h => by simp only [RepN] at h
    | .bl _, _, _, _, h => by simp only [RepN] at h
    | .int _, _, _, _, h => by simp only [RepN] at h
    | .str _, _, _, _, h => by simp only [RepN] at h
    | .lst _, _, _, _, h => by simp only [RepN] at h
    | .dct _ _, _, _, _, h => by simp only [RepN] at h
    | .exc _ _, _, _, _, h => by simp only [RepN] at h
    | .scr _, _, _, _, h => by simp only [RepN] at h
  goN2 : ∀ (ds : List D) (kd : D) (v : V) (fp : List Addr), RepN2 K H F ds kd .fr v fp → fp = []
    | [], _, _, _, h => by simp only [RepN2] at h
    | k :: ds, kd, v, fp, h => by
      simp only [RepN2] at h
      exact goN3 ds v fp h.2
  goN3 : ∀ (ds : List D) (v : V) (fp : List Addr), RepN3 K H F ds .fr v fp → fp = []
    | [], _, _, h => by simp only [RepN3] at h
    | d :: ds, v, fp, h => by
      simp only [RepN3] at h
      exact go d v fp h.2
theorem RepL.fr_nil {H : Hp} {F : Addr → Prop} {ds : List D} {vs : List V} {fp : List Addr} (h : RepL K H F ds frs0 vs fp) : fp = [] ∧ RepL K H F ds frs0 vs [] := by
  have e : fp = [] := Rep.fr_nil.goL ds vs fp h
  exact ⟨e, e ▸ h⟩
theorem RepL.get {H : Hp} {F : Addr → Prop} : ∀ {ds : List D} {vs : List V} {j : Nat} {d : D}, RepL K H F ds frs0 vs [] → ds[j]? = some d → ∃ v, vs[j]? = some v ∧ Rep K H F d .fr v []
  | [], _, _, _, _, e => by simp at e
  | d :: ds, vs, j, x, h, e => by
    obtain ⟨v, r, f1, f2, e1, e2, h1, h2⟩ := RepL.uncons h
    have h1' := (Rep.fr_nil h1).2
    have h2' := (RepL.fr_nil h2).2
    cases j with
    | zero =>
      simp at e
      subst e
      exact ⟨v, by rw [e1]; rfl, h1'⟩
    | succ j =>
      obtain ⟨u, q1, q2⟩ := RepL.get (j := j) h2' (by simpa using e)
      exact ⟨u, by rw [e1]; simpa using q1, q2⟩
theorem RepL.app {H : Hp} {F : Addr → Prop} : ∀ {ds es : List D} {t : OT} {vs us : List V} {f1 f2 : List Addr}, RepL K H F ds (fun _ => t) vs f1 → RepL K H F es (fun _ => t) us f2 → RepL K H F (ds ++ es) (fun _ => t) (vs ++ us) (f1 ++ f2)
  | [], es, t, vs, us, f1, f2, h1, h2 => by
    obtain ⟨rfl, rfl⟩ := RepL.nil_inv h1
    exact h2
  | d :: ds, es, t, vs, us, f1, f2, h1, h2 => by
    obtain ⟨v, r, g1, g2, rfl, rfl, q1, q2⟩ := RepL.uncons h1
    have := RepL.cons (f := fun _ => t) q1 (RepL.app q2 h2)
    rw [List.append_assoc]
    exact this
end
end L2.Py

set_option Elab.async false
set_option linter.all false
set_option maxRecDepth 100000
set_option maxHeartbeats 1000000
/-! PyE3: a frame's slots (ER), results (XR), readings (tE, tL) and the rules for expressions. -/
namespace L2.Py
open PySem PySem.Spec PyProof.Rows L2 TL

/-- what is fixed while a def runs: the written part, the heap at the entry, what was lent, what the arguments' parts are within, what each slot owns, where the classes stand -/
structure Fm where
  K : PySem.W.Frag
  H0 : Hp
  Lt : List Addr
  B : Addr → Prop
  ot : Nat → OT
  ca : Nat → Addr
abbrev Fps := Nat → List Addr
def Fz (fm : Fm) (fps : Fps) (a : Addr) : Prop := (fm.B a ∨ fm.H0 a = none ∨ a ∈ fm.Lt) ∧ ∀ i, a ∉ fps i
structure ER (fm : Fm) (ρ : Rho) (σ : St) (H : Hp) (fps : Fps) : Prop where
  len : σ.length = ρ.length
  rep : ∀ i d, ρ[i]? = some (some d) → ∃ v, σ[i]? = some (some v) ∧ Rep fm.K H (Fz fm fps) d (fm.ot i) v (fps i)
  nil : ∀ i, i < ρ.length → fm.ot i = .fr → fps i = []
  nd : ∀ i, (fps i).Nodup
  dj : ∀ i j a, i ≠ j → a ∈ fps i → a ∉ fps j
  new : ∀ i a, a ∈ fps i → fm.H0 a = none ∨ a ∈ fm.Lt
  trk : ∀ i a, a ∈ fps i → H a ≠ none
  frame : ∀ a o, fm.H0 a = some o → a ∉ fm.Lt → H a = some o
  lent : ∀ a, a ∈ fm.Lt → H a ≠ none
theorem ER.ext {fm : Fm} {ρ : Rho} {σ : St} {H H' : Hp} {fps : Fps} (er : ER fm ρ σ H fps) (s : Same H H') : ER fm ρ σ H' fps where
  len := er.len
  rep := fun i d e => by
    obtain ⟨v, e1, r⟩ := er.rep i d e
    exact ⟨v, e1, Rep.leaves _ _ _ _ (Leaves.same s fun _ _ q => q) r⟩
  nil := er.nil
  nd := er.nd
  dj := er.dj
  new := er.new
  trk := fun i a h z => er.trk i a h (s.free z)
  frame := fun a o e n => s _ _ (er.frame a o e n)
  lent := fun a h z => er.lent a h (s.free z)
theorem ER.h0 {fm : Fm} {ρ : Rho} {σ : St} {H : Hp} {fps : Fps} (er : ER fm ρ σ H fps) {a : Addr} (h : H a = none) : fm.H0 a = none := by
  cases e : fm.H0 a with
  | none => rfl
  | some o =>
    by_cases hl : a ∈ fm.Lt
    · exact absurd h (er.lent a hl)
    · have := er.frame a o e hl
      rw [h] at this; cases this
/-- new owned parts that no slot holds -/
def addT (fps : Fps) (n : Nat) (fp : List Addr) : Fps := fun i => if i = n then fps i ++ fp else fps i
theorem mem_addT {fps : Fps} {n i : Nat} {fp : List Addr} {a : Addr} (h : a ∈ addT fps n fp i) : a ∈ fps i ∨ (i = n ∧ a ∈ fp) := by
  unfold addT at h
  split at h
  · rename_i e
    rcases List.mem_append.mp h with z | z
    · exact .inl z
    · exact .inr ⟨e, z⟩
  · exact .inl h
theorem ER.temp {fm : Fm} {ρ : Rho} {σ : St} {H H1 : Hp} {fps : Fps} {fp : List Addr} (er : ER fm ρ σ H fps) (s : Same H H1) (nd : fp.Nodup) (new : ∀ a ∈ fp, H a = none) (trk : ∀ a ∈ fp, H1 a ≠ none) : ER fm ρ σ H1 (addT fps ρ.length fp) where
  len := er.len
  rep := fun i d e => by
    obtain ⟨v, e1, r⟩ := er.rep i d e
    have hi : i < ρ.length := (List.getElem?_eq_some_iff.mp e).1
    refine ⟨v, e1, ?_⟩
    have ei : addT fps ρ.length fp i = fps i := by unfold addT; rw [if_neg (by omega)]
    rw [ei]
    refine Rep.leaves _ _ _ _ (Leaves.same s fun a ha q => ⟨q.1, fun j hj => ?_⟩) r
    rcases mem_addT hj with z | ⟨_, z⟩
    · exact q.2 j z
    · exact ha (new a z)
  nil := fun i hi e => by
    have ei : addT fps ρ.length fp i = fps i := by unfold addT; rw [if_neg (by omega)]
    rw [ei]
    exact er.nil i hi e
  nd := fun i => by
    unfold addT
    split
    · rename_i e
      rw [List.nodup_append]
      exact ⟨er.nd i, nd, fun a ha b hb e => er.trk i a ha (new a (e ▸ hb))⟩
    · exact er.nd i
  dj := fun i j a hij hi hj => by
    rcases mem_addT hi with z | ⟨e1, z⟩
    · rcases mem_addT hj with w | ⟨e2, w⟩
      · exact er.dj i j a hij z w
      · exact er.trk i a z (new a w)
    · rcases mem_addT hj with w | ⟨e2, w⟩
      · exact er.trk j a w (new a z)
      · exact hij (e1.trans e2.symm)
  new := fun i a h => by
    rcases mem_addT h with z | ⟨_, z⟩
    · exact er.new i a z
    · exact .inl (er.h0 (new a z))
  trk := fun i a h z => by
    rcases mem_addT h with w | ⟨_, w⟩
    · exact er.trk i a w (s.free z)
    · exact trk a w z
  frame := fun a o e n => s _ _ (er.frame a o e n)
  lent := fun a h z => er.lent a h (s.free z)

/-- what a result's frozen parts are within: with al, nothing is said -/
def Fq (fm : Fm) (fps : Fps) (H : Hp) (al : Bool) (fp : List Addr) : Addr → Prop := fun a => al = true ∨ ((Fz fm fps a ∨ H a = none) ∧ a ∉ fp)
structure XR (fm : Fm) (fps : Fps) (H H' : Hp) (al : Bool) (d : D) (t : OT) (v : V) (fp : List Addr) : Prop where
  rep : Rep fm.K H' (Fq fm fps H al fp) d t v fp
  nd : fp.Nodup
  new : ∀ a ∈ fp, H a = none
structure XRL (fm : Fm) (fps : Fps) (H H' : Hp) (al : Bool) (ds : List D) (f : Nat → OT) (vs : List V) (fp : List Addr) : Prop where
  rep : RepL fm.K H' (Fq fm fps H al fp) ds f vs fp
  nd : fp.Nodup
  new : ∀ a ∈ fp, H a = none
/-- an exception that flies -/
def ExnC (ca : Nat → Addr) (H : Hp) (c : Nat) (ps : List D) (cls : Value) (dx : Option Addr) : Prop := cls = .ref (ca c) ∧ ps = [] ∧ dx = none
abbrev ExnR (fm : Fm) (H : Hp) (c : Nat) (ps : List D) (cls : Value) (dx : Option Addr) : Prop := ExnC fm.ca H c ps cls dx
section
variable {fm : Fm} {Wi : WX} {ρ : Rho} {σ : St} {H H1 H2 : Hp} {fps : Fps} {al al1 al2 : Bool}
theorem XR.lift {d : D} {v : V} {fp : List Addr} {t : OT} (x : XR fm fps H H1 al d t v fp) (s : Same H1 H2) : XR fm fps H H2 al d t v fp :=
  ⟨Rep.leaves _ _ _ _ (Leaves.same s fun _ _ q => q) x.rep, x.nd, x.new⟩
theorem XRL.lift {d : List D} {v : List V} {fp : List Addr} {t : Nat → OT} (x : XRL fm fps H H1 al d t v fp) (s : Same H1 H2) : XRL fm fps H H2 al d t v fp :=
  ⟨RepL.leaves _ _ _ _ (Leaves.same s fun _ _ q => q) x.rep, x.nd, x.new⟩
theorem XR.down {d : D} {v : V} {fp : List Addr} {t : OT} (s : Same H H1) (x : XR fm fps H1 H2 al d t v fp) : XR fm fps H H2 al d t v fp :=
  ⟨Rep.leaves _ _ _ _ (Leaves.same (Same.refl _) fun a _ q => q.imp id fun z => ⟨z.1.imp id fun w => s.free w, z.2⟩) x.rep, x.nd, fun a h => s.free (x.new a h)⟩
theorem XR.al_imp {d : D} {v : V} {fp : List Addr} {t : OT} (x : XR fm fps H H1 al d t v fp) (h : al = true → al1 = true) : XR fm fps H H1 al1 d t v fp :=
  ⟨Rep.leaves _ _ _ _ (Leaves.same (Same.refl _) fun a _ q => q.imp h id) x.rep, x.nd, x.new⟩
theorem XRL.al_imp {d : List D} {v : List V} {fp : List Addr} {t : Nat → OT} (x : XRL fm fps H H1 al d t v fp) (h : al = true → al1 = true) : XRL fm fps H H1 al1 d t v fp :=
  ⟨RepL.leaves _ _ _ _ (Leaves.same (Same.refl _) fun a _ q => q.imp h id) x.rep, x.nd, x.new⟩
/-- just read -/
abbrev RdR (fm : Fm) (H : Hp) (d : D) (v : V) : Prop := Rep fm.K H (fun _ => True) d .fr v []
abbrev RdL (fm : Fm) (H : Hp) (ds : List D) (vs : List V) : Prop := RepL fm.K H (fun _ => True) ds frs0 vs []
theorem XR.read {d : D} {v : V} {fp : List Addr} {t : OT} (x : XR fm fps H H1 al d t v fp) : RdR fm H1 d v := Rep.forget _ _ _ _ (fun _ _ _ => trivial) (fun _ _ => trivial) x.rep
theorem XRL.read {d : List D} {v : List V} {fp : List Addr} {t : Nat → OT} (x : XRL fm fps H H1 al d t v fp) : RdL fm H1 d v := RepL.forget _ _ _ _ (fun _ _ _ => trivial) (fun _ _ => trivial) x.rep
/-- owned parts taken for frozen -/
theorem XR.forget {d : D} {v : V} {fp : List Addr} {t : OT} (x : XR fm fps H H1 al d t v fp) : XR fm fps H H1 al d .fr v [] :=
  ⟨Rep.forget _ _ _ _ (fun a _ q => q.imp id fun z => ⟨z.1, by simp⟩) (fun a h => .inr ⟨.inr (x.new a h), by simp⟩) x.rep, List.nodup_nil, fun _ h => nomatch h⟩
theorem XR.fr {d : D} {v : V} {fp : List Addr} (x : XR fm fps H H1 al d .fr v fp) : fp = [] := (Rep.fr_nil x.rep).1
theorem XR.of_flat {d : D} {v : V} {t : OT} (h : RdR fm H1 d v) (m : d.noMut = true) : XR fm fps H H1 al d t v [] :=
  ⟨(Rep.flat _ _ _ _ m h).2 _ _, List.nodup_nil, fun _ h => nomatch h⟩
theorem XR.int {i : Int} {t : OT} : XR fm fps H H1 al (.int i) t (.int i) [] := .of_flat (by simp only [RdR, Rep]; exact ⟨trivial, trivial⟩) rfl
theorem XR.bl {i : Bool} {t : OT} : XR fm fps H H1 al (.bl i) t (.bl i) [] := .of_flat (by simp only [RdR, Rep]; exact ⟨trivial, trivial⟩) rfl
theorem XR.str {w : W} {t : OT} : XR fm fps H H1 al (.str w) t (.str (toS w)) [] := .of_flat (by simp only [RdR, Rep]; exact ⟨trivial, trivial⟩) rfl
theorem XR.non {t : OT} : XR fm fps H H1 al .non t .non [] := .of_flat (by simp only [RdR, Rep]; exact ⟨trivial, trivial⟩) rfl
theorem RdR.int {i : Int} {v : V} (h : RdR fm H (.int i) v) : v = .int i := by simp only [RdR, Rep] at h; exact h.1
theorem RdR.bl {i : Bool} {v : V} (h : RdR fm H (.bl i) v) : v = .bl i := by simp only [RdR, Rep] at h; exact h.1
theorem RdR.str {i : W} {v : V} (h : RdR fm H (.str i) v) : v = .str (toS i) := by simp only [RdR, Rep] at h; exact h.1
theorem RdR.non {v : V} (h : RdR fm H .non v) : v = .non := by simp only [RdR, Rep] at h; exact h.1
theorem Rep.lst_inv {K : PySem.W.Frag} {F : Addr → Prop} {ds : List D} {v : V} (h : Rep K H F (.lst ds) .fr v []) : ∃ a vs, v = .ref a ∧ (H a = some (.lst vs) ∧ F a) ∧ RepL K H F ds frs0 vs [] := by
  simp only [Rep] at h
  obtain ⟨a, vs, fp', e, ⟨h1, rfl⟩, h2⟩ := h
  exact ⟨a, vs, e, h1, h2⟩
theorem Rep.tup_inv {K : PySem.W.Frag} {F : Addr → Prop} {ds : List D} {v : V} (h : Rep K H F (.tup ds) .fr v []) : ∃ a vs, v = .ref a ∧ H a = some (.tup vs) ∧ RepL K H F ds frs0 vs [] := by
  simp only [Rep] at h
  obtain ⟨a, vs, e, h1, h2⟩ := h
  exact ⟨a, vs, e, h1, h2⟩
/-- a new list of what was evaluated -/
theorem XRL.newL {ds : List D} {t : OT} {vs : List V} {fp : List Addr} {p : Addr} (s : Same H H1) (hp : H1 p = none) (x : XRL fm fps H H1 al ds (fun _ => t.elem) vs fp) : ∃ fp', XR fm fps H (upd H1 p (.lst vs)) al (.lst ds) t (.ref p) fp' := by
  have s1 : Same H1 (upd H1 p (.lst vs)) := sameUpd (Same.refl _) hp
  have hpn : H p = none := s.free hp
  have npf : p ∉ fp := fun h => RepL.trk _ _ _ _ x.rep p h hp
  have x1 := x.lift s1
  have r1 : ∀ {F' : Addr → Prop}, (∀ a, upd H1 p (.lst vs) a ≠ none → Fq fm fps H al fp a → a ≠ p → F' a) → RepL fm.K (upd H1 p (.lst vs)) F' ds (fun _ => t.elem) vs fp := fun {F'} hF => by
    refine RepL.leaves _ _ _ _ ⟨fun a _ o e => s1 a o e, fun a u r q => ⟨rdSame s1 r, hF a (rd_ne (rdSame s1 r)) q (fun z => rd_ne r (z ▸ hp))⟩, fun a us r q => ⟨s1 _ _ r, hF a (by rw [s1 _ _ r]; exact fun z => nomatch z) q (fun z => by rw [z, hp] at r; cases r)⟩, fun a vs r => s1 _ _ r, fun a o vs r => s1 _ _ r⟩ x.rep
  cases t with
  | ow t =>
    refine ⟨p :: fp, ?_, List.nodup_cons.mpr ⟨npf, x.nd⟩, fun a h => ?_⟩
    · simp only [Rep]
      refine ⟨p, vs, fp, rfl, ⟨upd_same, rfl⟩, r1 fun a _ q ne => q.imp id fun z => ⟨z.1, fun h => ?_⟩⟩
      rcases List.mem_cons.mp h with h | h
      · exact ne h
      · exact z.2 h
    · rcases List.mem_cons.mp h with rfl | h
      · exact hpn
      · exact x.new a h
  | fr =>
    have e : fp = [] := (RepL.fr_nil x.rep).1
    subst e
    refine ⟨[], ?_, List.nodup_nil, fun a h => nomatch h⟩
    simp only [Rep]
    exact ⟨p, vs, [], rfl, ⟨⟨upd_same, .inr ⟨.inr hpn, by simp⟩⟩, rfl⟩, r1 fun a _ q ne => q⟩
  | tp ts =>
    have e : fp = [] := (RepL.fr_nil x.rep).1
    subst e
    refine ⟨[], ?_, List.nodup_nil, fun a h => nomatch h⟩
    simp only [Rep]
    exact ⟨p, vs, [], rfl, ⟨⟨upd_same, .inr ⟨.inr hpn, by simp⟩⟩, rfl⟩, r1 fun a _ q ne => q⟩
theorem XRL.newT {ds : List D} {t : OT} {vs : List V} {fp : List Addr} {p : Addr} (hp : H1 p = none) (x : XRL fm fps H H1 al ds t.comps vs fp) : XR fm fps H (upd H1 p (.tup vs)) al (.tup ds) t (.ref p) fp := by
  have s1 : Same H1 (upd H1 p (.tup vs)) := sameUpd (Same.refl _) hp
  refine ⟨?_, x.nd, x.new⟩
  simp only [Rep]
  exact ⟨p, vs, rfl, upd_same, (x.lift s1).rep⟩
theorem XRL.nil {f : Nat → OT} : XRL fm fps H H1 al [] f [] [] := ⟨RepL.nil, List.nodup_nil, fun _ h => nomatch h⟩
theorem XRL.cons {n : Nat} {d : D} {ds : List D} {f : Nat → OT} {v : V} {vs : List V} {f1 f2 : List Addr} (s : Same H H1) (x : XR fm fps H H1 al1 d (f 0) v f1) (s2 : Same H1 H2) (y : XRL fm (addT fps n f1) H1 H2 al2 ds (fun i => f (i + 1)) vs f2) :
    XRL fm fps H H2 (al1 || al2) (d :: ds) f (v :: vs) (f1 ++ f2) := by
  have t1 : ∀ a ∈ f1, H1 a ≠ none := Rep.trk _ _ _ _ x.rep
  have dj : ∀ a ∈ f1, a ∉ f2 := fun a h1 h2 => t1 a h1 (y.new a h2)
  refine ⟨RepL.cons ?_ ?_, List.nodup_append.mpr ⟨x.nd, y.nd, fun a ha b hb e => dj a ha (e ▸ hb)⟩, fun a h => ?_⟩
  · refine Rep.leaves _ _ _ _ (Leaves.same s2 fun a ha q => ?_) x.rep
    rcases q with q | ⟨q1, q2⟩
    · exact .inl (by simp [q])
    · refine .inr ⟨q1, fun h => ?_⟩
      rcases List.mem_append.mp h with h | h
      · exact q2 h
      · exact ha (y.new a h)
  · refine RepL.leaves _ _ _ _ (Leaves.same (Same.refl _) fun a ha q => ?_) y.rep
    rcases q with q | ⟨q1, q2⟩
    · exact .inl (by simp [q])
    · rcases q1 with q1 | q1
      · refine .inr ⟨.inl ⟨q1.1, fun i h => q1.2 i ?_⟩, fun h => ?_⟩
        · unfold addT
          split
          · exact List.mem_append_left _ h
          · exact h
        · rcases List.mem_append.mp h with h | h
          · refine q1.2 n ?_
            unfold addT
            rw [if_pos rfl]
            exact List.mem_append_right _ h
          · exact q2 h
      · refine .inr ⟨.inr (s.free q1), fun h => ?_⟩
        rcases List.mem_append.mp h with h | h
        · exact t1 a h q1
        · exact q2 h
  · rcases List.mem_append.mp h with h | h
    · exact x.new a h
    · exact s.free (y.new a h)

/-! ### readings -/
def OKE (fm : Fm) (Wi : WX) (al : Bool) (t : OT) (r : R D) (σ : St) (H : Hp) (fps : Fps) (Q : VK) : Prop :=
  match r with
  | .ok d => ∀ v H' fp, Same H H' → XR fm fps H H' al d t v fp → Q v H'
  | .exn c ps => ∀ cls dx H', Same H H' → ExnR fm H' c ps cls dx → Wi cls dx σ H'
  | .stk => False
def OKL (fm : Fm) (Wi : WX) (al : Bool) (f : Nat → OT) (r : R (List D)) (σ : St) (H : Hp) (fps : Fps) (Q : List V → Hp → Prop) : Prop :=
  match r with
  | .ok d => ∀ v H' fp, Same H H' → XRL fm fps H H' al d f v fp → Q v H'
  | .exn c ps => ∀ cls dx H', Same H H' → ExnR fm H' c ps cls dx → Wi cls dx σ H'
  | .stk => False
def tE (fm : Fm) (Wi : WX) (al : Bool) (t : OT) (f : Rho → R D) : TE := fun σ H Q => ∃ ρ fps, ER fm ρ σ H fps ∧ OKE fm Wi al t (f ρ) σ H fps Q
def tL (fm : Fm) (Wi : WX) (al : Bool) (t : Nat → OT) (f : Rho → R (List D)) : TA := fun σ H Q => ∃ ρ fps, ER fm ρ σ H fps ∧ OKL fm Wi al t (f ρ) σ H fps Q
theorem PE.imp {X : Cx} {e : Expr} {t t' : TE} (p : PE X e t) (h : ∀ σ H Q, t' σ H Q → t σ H Q) : PE X e t' := ⟨fun pins s σ H Q I q => p.run pins s σ H Q I (h σ H Q q)⟩
theorem PA.imp {X : Cx} {e : List Expr} {t t' : TA} (p : PA X e t) (h : ∀ σ H Q, t' σ H Q → t σ H Q) : PA X e t' := ⟨fun pos pins s σ H Q I q => p.run pos pins s σ H Q I (h σ H Q q)⟩
theorem PT.imp {X : Cx} {e : Expr} {t t' : TT} (p : PT X e t) (h : ∀ σ H Q, t' σ H Q → t σ H Q) : PT X e t' := ⟨fun pins s σ H Q I q => p.run pins s σ H Q I (h σ H Q q)⟩
/-- behind a part: its value, read -/
theorem OKE.mono {r : R D} {Q Q' : VK} {t : OT} (h : OKE fm Wi al t r σ H fps Q) (hq : ∀ v H', Q v H' → Q' v H') : OKE fm Wi al t r σ H fps Q' := by
  cases r with
  | ok d => exact fun v H' fp s x => hq v H' (h v H' fp s x)
  | exn c ps => exact h
  | stk => exact h
theorem OKE.ext {r : R D} {Q : VK} {t : OT} (s : Same H H1) (h : OKE fm Wi al t r σ H fps Q) : OKE fm Wi al t r σ H1 fps Q := by
  cases r with
  | ok d => exact fun v H' fp s2 x => h v H' fp (s.trans s2) (x.down s)
  | exn c ps => exact fun cls dx H' s2 => h cls dx H' (s.trans s2)
  | stk => exact h
/-- first one part, then the rest -/
theorem OKE.seq {r : R D} {k : D → R D} {Q Q' : VK} {t t1 : OT} (h : OKE fm Wi al t (r >>= k) σ H fps Q)
    (hk : ∀ d v H1 fp, r = .ok d → Same H H1 → XR fm fps H H1 al1 d t1 v fp → Q' v H1) : OKE fm Wi al1 t1 r σ H fps Q' := by
  cases r with
  | ok d => exact fun v H' fp s x => hk d v H' fp rfl s x
  | exn c ps => exact h
  | stk => exact h
theorem OKL.seq {r : R (List D)} {k : List D → R D} {Q : VK} {Q' : List V → Hp → Prop} {t : OT} {t1 : Nat → OT} (h : OKE fm Wi al t (r >>= k) σ H fps Q)
    (hk : ∀ d v H1 fp, r = .ok d → Same H H1 → XRL fm fps H H1 al1 d t1 v fp → Q' v H1) : OKL fm Wi al1 t1 r σ H fps Q' := by
  cases r with
  | ok d => exact fun v H' fp s x => hk d v H' fp rfl s x
  | exn c ps => exact h
  | stk => exact h
/-- two parts of an operator, both taken for frozen -/
theorem tE2 {f g : Rho → R D} {k : D → D → R D} {Q : VK} {t : OT} {R' : V → V → Hp → Prop} (er : ER fm ρ σ H fps) (h : OKE fm Wi al t (f ρ >>= fun x => g ρ >>= fun y => k x y) σ H fps Q)
    (hk : ∀ x y v u H2, Same H H2 → XR fm fps H H2 al1 x .fr v [] → XR fm fps H H2 al2 y .fr u [] → OKE fm Wi al t (k x y) σ H fps Q → R' v u H2) :
    tE fm Wi al1 .fr f σ H fun v H1 => tE fm Wi al2 .fr g σ H1 fun u H2 => R' v u H2 := by
  refine ⟨ρ, fps, er, OKE.seq h fun d v H1 fp e s x => ?_⟩
  obtain rfl := x.fr
  rw [e] at h
  have h1 : OKE fm Wi al t (g ρ >>= fun y => k d y) σ H1 fps Q := OKE.ext s h
  refine ⟨ρ, fps, er.ext s, OKE.seq h1 fun d2 u H2 fp2 e2 s2 x2 => ?_⟩
  obtain rfl := x2.fr
  refine hk d d2 v u H2 (s.trans s2) (x.lift s2) (x2.down s) ?_
  have h' : OKE fm Wi al t (g ρ >>= fun y => k d y) σ H fps Q := h
  rw [e2] at h'
  exact h'
end
end L2.Py

set_option Elab.async false
set_option linter.all false
set_option maxRecDepth 100000
set_option maxHeartbeats 1000000
/-! PyE4: the rules for expressions, one a construct. -/
namespace L2.Py
open PySem PySem.Spec PyProof.Rows TL

def noStar : Expr → Bool
  | .Starred _ _ => false
  | _ => true
def noSl : Expr → Bool
  | .Slice _ _ _ _ => false
  | _ => true
def noComp : Expr → Bool
  | .ListComp _ _ _ _ => false
  | .SetComp _ _ _ _ => false
  | .DictComp _ _ _ _ _ => false
  | _ => true
def noSet : Expr → Bool
  | .Set _ _ _ => false
  | _ => true
def plainTruth : Expr → Bool
  | .UnaryOp _ _ _ => false
  | .BoolOp _ _ _ => false
  | .IfExp _ _ _ _ => false
  | .Compare _ _ _ _ => false
  | _ => true
def noSuper : Expr → Bool
  | .Call _ args _ _ => !args.isEmpty
  | _ => true
theorem star_of {e : Expr} {es : List Expr} {env : PySem.Env} (h : noStar e = true) : starEach (e :: es) env = (false, eval e env) :: starEach es env := by
  cases e <;> first | rfl | cases h
theorem back_of {pos : Pos} {env : PySem.Env} : ∀ {es : List Expr}, es.all noStar = true → (backTo pos (starEach es env)).any (·.1) = false
  | [], _ => rfl
  | e :: es, h => by
    simp only [List.all_cons, Bool.and_eq_true] at h
    rw [star_of h.1]
    show (false || (backTo pos (starEach es env)).any (·.1)) = false
    rw [back_of h.2]; rfl
theorem ix_of {e : Expr} (h : noSl e = true) : PlainIx e := fun o i => by cases e <;> first | rfl | cases h
theorem comp_of {e : Expr} {tg : Option Expr} {n : Nat} {env : PySem.Env} (h : noComp e = true) : swapsWith e tg n env = pure false := by
  cases e <;> first | rfl | cases h
theorem set_of {e : Expr} {env : PySem.Env} (h : noSet e = true) : ∀ x, foldedSetIterable e env x = pure x := fun x => by
  cases e <;> first | rfl | cases h
theorem truth_of {e : Expr} {env : PySem.Env} (h : plainTruth e = true) : ∀ whole, PySem.isTrue e env whole = (do let v ← whole; standAt e.pos; holding [v] (truthy v)) := fun whole => by
  cases e <;> first | rfl | cases h
theorem super_of {e : Expr} {m : Str} {env : PySem.Env} (h : noSuper e = true) : attributeBase e m env (eval e env) = eval e env := by
  cases e <;> first
    | rfl
    | (rename_i f args kw pos
       cases args with
       | nil => cases h
       | cons a r => cases f <;> rfl)

section
variable {X : Cx} {fm : Fm} {Wi : WX} {al al1 al2 : Bool} {t : OT} {f g : Rho → R D}
/-! ### names, constants -/
theorem de_slot {i : Nat} {x : Str} {pos : Pos} (hN : X.N[i]? = some x) (hv : Vis X.env.scope x) (hd : (x == ("__debug__" : Str)) = false) (hcd : (x == ("__classdict__" : Str)) = false) (hot : fm.ot i = .fr) :
    PE X (.Name x pos) (tE fm Wi al .fr fun ρ => ρ.get i) := by
  refine PE.imp (pe_var hN hv hd hcd) fun σ H Q ⟨ρ, fps, er, h⟩ => ?_
  dsimp only at h
  unfold Rho.get at h
  split at h
  · rename_i d e
    obtain ⟨v, e1, r⟩ := er.rep i d e
    rw [hot] at r
    obtain ⟨e2, r⟩ := Rep.fr_nil r
    refine ⟨v, e1, h v H [] (Same.refl _) ⟨Rep.leaves _ _ _ _ (Leaves.same (Same.refl _) fun a _ q => .inr ⟨.inl q, by simp⟩) r, List.nodup_nil, fun _ h => nomatch h⟩⟩
  · exact h.elim
theorem de_slotA {i : Nat} {x : Str} {pos : Pos} (hN : X.N[i]? = some x) (hv : Vis X.env.scope x) (hd : (x == ("__debug__" : Str)) = false) (hcd : (x == ("__classdict__" : Str)) = false) :
    PE X (.Name x pos) (tE fm Wi true .fr fun ρ => ρ.get i) := by
  refine PE.imp (pe_var hN hv hd hcd) fun σ H Q ⟨ρ, fps, er, h⟩ => ?_
  dsimp only at h
  unfold Rho.get at h
  split at h
  · rename_i d e
    obtain ⟨v, e1, r⟩ := er.rep i d e
    exact ⟨v, e1, h v H [] (Same.refl _) ⟨Rep.forget _ _ _ _ (fun _ _ _ => .inl rfl) (fun _ _ => .inl rfl) r, List.nodup_nil, fun _ h => nomatch h⟩⟩
  · exact h.elim
theorem de_int {i : Int} {j : Nat} {pos : Pos} : PE X (.Constant (.int i) j pos) (tE fm Wi al t fun _ => .ok (.int i)) :=
  PE.imp pe_int fun σ H Q ⟨ρ, fps, er, h⟩ => h _ H [] (Same.refl _) XR.int
theorem de_str {s : Str} {j : Nat} {pos : Pos} : PE X (.Constant (.str s) j pos) (tE fm Wi al t fun _ => .ok (.str (tl s))) :=
  PE.imp pe_str fun σ H Q ⟨ρ, fps, er, h⟩ => h _ H [] (Same.refl _) (by have := @XR.str fm H H fps al (tl s) t; rw [toS_tl] at this; exact this)
theorem de_bl {b : Bool} {j : Nat} {pos : Pos} : PE X (.Constant (.bool b) j pos) (tE fm Wi al t fun _ => .ok (.bl b)) :=
  PE.imp pe_bl fun σ H Q ⟨ρ, fps, er, h⟩ => h _ H [] (Same.refl _) XR.bl
theorem de_non {j : Nat} {pos : Pos} : PE X (.Constant .none j pos) (tE fm Wi al t fun _ => .ok .non) :=
  PE.imp pe_non fun σ H Q ⟨ρ, fps, er, h⟩ => h _ H [] (Same.refl _) XR.non

/-! ### lists of expressions, displays -/
theorem dl_nil {ft : Nat → OT} : PA X [] (tL fm Wi al ft fun _ => .ok []) :=
  PA.imp pa_nil fun σ H Q ⟨ρ, fps, er, h⟩ => h [] H [] (Same.refl _) XRL.nil
theorem dl_cons {e : Expr} {es : List Expr} {ft : Nat → OT} {gs : Rho → R (List D)} (he : PE X e (tE fm Wi al1 (ft 0) f)) (hs : PA X es (tL fm Wi al2 (fun i => ft (i + 1)) gs)) (hst : noStar e = true) :
    PA X (e :: es) (tL fm Wi (al1 || al2) ft fun ρ => do let x ← f ρ; let xs ← gs ρ; pure (x :: xs)) := by
  refine PA.imp (pa_cons he hs (star_of hst)) fun σ H Q ⟨ρ, fps, er, h⟩ => ?_
  refine ⟨ρ, fps, er, ?_⟩
  dsimp only at h
  cases e1 : f ρ with
  | stk => rw [e1] at h; exact h
  | exn c ps => rw [e1] at h; exact h
  | ok d =>
    rw [e1] at h
    intro v H1 f1 s1 x1
    have t1 := Rep.trk _ _ _ _ x1.rep
    refine ⟨ρ, addT fps ρ.length f1, er.temp s1 x1.nd x1.new t1, ?_⟩
    cases e2 : gs ρ with
    | stk =>
      have h' : OKL fm Wi (al1 || al2) ft (gs ρ >>= fun xs => pure (d :: xs)) σ H fps Q := h
      rw [e2] at h'; exact h'
    | exn c ps =>
      have h' : OKL fm Wi (al1 || al2) ft (gs ρ >>= fun xs => pure (d :: xs)) σ H fps Q := h
      rw [e2] at h'
      exact fun cls dx H' s2 => h' cls dx H' (s1.trans s2)
    | ok ds =>
      have h' : OKL fm Wi (al1 || al2) ft (gs ρ >>= fun xs => pure (d :: xs)) σ H fps Q := h
      rw [e2] at h'
      intro vs H2 f2 s2 x2
      exact h' (v :: vs) H2 (f1 ++ f2) (s1.trans s2) (XRL.cons s1 x1 s2 x2)
theorem OKL.bind {r : R (List D)} {k : List D → R D} {σ : St} {H : Hp} {fps : Fps} {Q : VK} {Q' : List V → Hp → Prop} {ft : Nat → OT} (h : OKE fm Wi al t (r >>= k) σ H fps Q)
    (hk : ∀ d v H1 fp, r = .ok d → OKE fm Wi al t (k d) σ H fps Q → Same H H1 → XRL fm fps H H1 al1 d ft v fp → Q' v H1) : OKL fm Wi al1 ft r σ H fps Q' := by
  cases r with
  | ok d => exact fun v H' fp s x => hk d v H' fp rfl h s x
  | exn c ps => exact h
  | stk => exact h
theorem OKE.bind {r : R D} {k : D → R D} {σ : St} {H : Hp} {fps : Fps} {Q : VK} {Q' : VK} {t1 : OT} (h : OKE fm Wi al t (r >>= k) σ H fps Q)
    (hk : ∀ d v H1 fp, r = .ok d → OKE fm Wi al t (k d) σ H fps Q → Same H H1 → XR fm fps H H1 al1 d t1 v fp → Q' v H1) : OKE fm Wi al1 t1 r σ H fps Q' := by
  cases r with
  | ok d => exact fun v H' fp s x => hk d v H' fp rfl h s x
  | exn c ps => exact h
  | stk => exact h
theorem few_line {n : Nat} (h : n ≤ 1000) : n ≤ sizeLine := by rw [sizeLine_eq]; omega
theorem de_tup {es : List Expr} {k : Nat} {pos : Pos} {gs : Rho → R (List D)} (h : PA X es (tL fm Wi al t.comps gs)) (hn : ∀ ρ ds, gs ρ = .ok ds → ds.length ≤ 1000) :
    PE X (.Tuple es k pos) (tE fm Wi al t fun ρ => do let xs ← gs ρ; pure (.tup xs)) := by
  refine PE.imp (pe_tup h) fun σ H Q ⟨ρ, fps, er, q⟩ => ⟨ρ, fps, er, OKL.bind q fun ds vs H1 fp e q s x => ?_⟩
  exact ⟨few_line (by rw [RepL.length x.rep]; exact hn ρ ds e), fun p hp => q (.ref p) _ fp (sameUpd s hp) (XRL.newT hp x)⟩
theorem de_lst {es : List Expr} {pos : Pos} {gs : Rho → R (List D)} (h : PA X es (tL fm Wi al (fun _ => t.elem) gs)) (hn : ∀ ρ ds, gs ρ = .ok ds → ds.length ≤ 1000) :
    PE X (.List es pos) (tE fm Wi al t fun ρ => do let xs ← gs ρ; pure (.lst xs)) := by
  refine PE.imp (pe_lst h) fun σ H Q ⟨ρ, fps, er, q⟩ => ⟨ρ, fps, er, OKL.bind q fun ds vs H1 fp e q s x => ?_⟩
  refine ⟨few_line (by rw [RepL.length x.rep]; exact hn ρ ds e), fun p hp => ?_⟩
  obtain ⟨fp', x'⟩ := XRL.newL s hp x
  exact q (.ref p) _ fp' (sameUpd s hp) x'

/-! ### operators -/
theorem lim_line {n : Nat} : n ≤ lim ↔ n ≤ sizeLine := by rw [sizeLine_eq]; exact Iff.rfl
def bopA : Bop → Operator
  | .add => .Add | .sub => .Sub | .mul => .Mult | .fdiv => .FloorDiv | .mod => .Mod | .pow => .Pow | .shr => .RShift
/-- the result of one operator -/
def binOk (fm : Fm) (fps : Fps) (H H2 : Hp) (al : Bool) (t : OT) (op : Bop) (x y : D) (v u : V) : Prop := True
theorem XR.lst {H H2 : Hp} {fps : Fps} {ds : List D} {v : V} (x : XR fm fps H H2 al (.lst ds) .fr v []) : ∃ a vs, v = .ref a ∧ H2 a = some (.lst vs) ∧ XRL fm fps H H2 al ds frs0 vs [] := by
  obtain ⟨a, vs, e, q, r⟩ := Rep.lst_inv x.rep
  exact ⟨a, vs, e, q.1, r, List.nodup_nil, fun _ h => nomatch h⟩
theorem XR.tup {H H2 : Hp} {fps : Fps} {ds : List D} {v : V} (x : XR fm fps H H2 al (.tup ds) .fr v []) : ∃ a vs, v = .ref a ∧ H2 a = some (.tup vs) ∧ XRL fm fps H H2 al ds frs0 vs [] := by
  obtain ⟨a, vs, e, q, r⟩ := Rep.tup_inv x.rep
  exact ⟨a, vs, e, q, r, List.nodup_nil, fun _ h => nomatch h⟩
theorem OKE.int {i : Int} {σ : St} {H H2 : Hp} {fps : Fps} {Q : VK} (h : OKE fm Wi al t (.ok (.int i)) σ H fps Q) (s : Same H H2) : Q (.int i) H2 := h _ _ [] s XR.int
theorem OKE.bl {i : Bool} {σ : St} {H H2 : Hp} {fps : Fps} {Q : VK} (h : OKE fm Wi al t (.ok (.bl i)) σ H fps Q) (s : Same H H2) : Q (.bl i) H2 := h _ _ [] s XR.bl
theorem OKE.str {i : W} {σ : St} {H H2 : Hp} {fps : Fps} {Q : VK} (h : OKE fm Wi al t (.ok (.str i)) σ H fps Q) (s : Same H H2) : Q (.str (toS i)) H2 := h _ _ [] s XR.str
end
end L2.Py

set_option Elab.async false
set_option linter.all false
set_option maxRecDepth 100000
set_option maxHeartbeats 1000000
/-! PyE5: operators, comparisons, tests. -/
namespace L2.Py
open PySem PySem.Spec PyProof.Rows TL

theorem RepL.rep {K : PySem.W.Frag} {H : Hp} {F : Addr → Prop} {ds : List D} {vs : List V} (h : RepL K H F ds frs0 vs []) : ∀ k : Nat, RepL K H F (List.replicate k ds).flatten frs0 (List.replicate k vs).flatten []
  | 0 => RepL.nil
  | k + 1 => by
    rw [List.replicate_succ, List.replicate_succ, List.flatten_cons, List.flatten_cons]
    exact RepL.app (f1 := []) (f2 := []) h (RepL.rep h k)
theorem flat_len {α : Type} (xs : List α) : ∀ k : Nat, (List.replicate k xs).flatten.length = k * xs.length
  | 0 => by simp
  | k + 1 => by rw [List.replicate_succ, List.flatten_cons, List.length_append, flat_len xs k, Nat.succ_mul]; omega
section
variable {X : Cx} {fm : Fm} {Wi : WX} {al al1 al2 : Bool} {t : OT} {f g : Rho → R D}
theorem XRL.app {H H2 : Hp} {fps : Fps} {xs ys : List D} {vs us : List V} (x : XRL fm fps H H2 al1 xs frs0 vs []) (y : XRL fm fps H H2 al2 ys frs0 us []) : XRL fm fps H H2 (al1 || al2) (xs ++ ys) frs0 (vs ++ us) [] :=
  ⟨RepL.app (f1 := []) (f2 := []) (x.al_imp (al1 := al1 || al2) (by intro h; simp [h])).rep (y.al_imp (al1 := al1 || al2) (by intro h; simp [h])).rep, List.nodup_nil, fun _ h => nomatch h⟩
theorem OKE.newL {σ : St} {H H2 : Hp} {fps : Fps} {Q : VK} {ds : List D} {vs : List V} (ht : t.elem = .fr) (h : OKE fm Wi al t (.ok (.lst ds)) σ H fps Q) (s : Same H H2) (x : XRL fm fps H H2 al ds frs0 vs []) :
    ∀ p, H2 p = none → Q (.ref p) (upd H2 p (.lst vs)) := fun p hp => by
  obtain ⟨fp, x'⟩ := XRL.newL (t := t) s hp (by rw [ht]; exact x)
  exact h _ _ fp (sameUpd s hp) x'
theorem de_bin {op : Bop} {a b : Expr} {pos : Pos} (ht : t.elem = .fr) (ha : PE X a (tE fm Wi al1 .fr f)) (hb : PE X b (tE fm Wi al2 .fr g)) :
    PE X (.BinOp a (bopA op) b pos) (tE fm Wi (al1 || al2) t fun ρ => do let x ← f ρ; let y ← g ρ; binD op x y) := by
  refine ⟨fun pins s σ H Q I ⟨ρ, fps, er, h⟩ => ?_⟩
  cases op with
  | add =>
    refine (pe_op (op_add.or (op_add_str.or op_cat)) ha hb).run pins s σ H Q I (tE2 er h fun x y v u H2 s2 xx xy hk => ?_)
    unfold binD at hk
    split at hk
    · obtain rfl := xx.read.int
      obtain rfl := xy.read.int
      exact .inl ⟨_, _, rfl, rfl, hk.int s2⟩
    · split at hk
      · rename_i hz
        obtain rfl := xx.read.str
        obtain rfl := xy.read.str
        refine .inr (.inl ⟨_, _, rfl, rfl, by rw [toS_len, toS_len, ← lim_line]; exact hz, ?_⟩)
        rw [toS_app]
        exact hk.str s2
      · exact hk.elim
    · split at hk
      · rename_i hz
        obtain ⟨a1, vs, rfl, e1, x1⟩ := xx.lst
        obtain ⟨a2, us, rfl, e2, x2⟩ := xy.lst
        refine .inr (.inr ⟨_, _, _, _, rfl, rfl, e1, e2, by rw [RepL.length x1.rep, RepL.length x2.rep, ← lim_line]; exact hz, ?_⟩)
        exact hk.newL ht s2 (XRL.app x1 x2)
      · exact hk.elim
    all_goals first | exact hk.elim | contradiction
  | sub =>
    refine (pe_op op_sub ha hb).run pins s σ H Q I (tE2 er h fun x y v u H2 s2 xx xy hk => ?_)
    unfold binD at hk
    split at hk
    all_goals first
      | contradiction
      | exact hk.elim
      | (obtain rfl := xx.read.int
         obtain rfl := xy.read.int
         exact ⟨_, _, rfl, rfl, hk.int s2⟩)
  | mul =>
    refine (pe_op (op_mul.or op_rep) ha hb).run pins s σ H Q I (tE2 er h fun x y v u H2 s2 xx xy hk => ?_)
    unfold binD at hk
    split at hk
    all_goals first
      | contradiction
      | exact hk.elim
      | (split at hk
         · rename_i hz
           first
             | (obtain rfl := xx.read.int
                obtain rfl := xy.read.int
                refine .inl ⟨_, _, rfl, rfl, ?_, hk.int s2⟩
                simp only [smallF, Bool.or_eq_true, Bool.and_eq_true, decide_eq_true_eq] at hz
                exact hz)
             | (obtain ⟨a1, vs, rfl, e1, x1⟩ := xx.lst
                obtain rfl := xy.read.int
                simp only [Bool.and_eq_true, decide_eq_true_eq] at hz
                refine .inr ⟨_, _, _, rfl, rfl, e1, hz.1.1, hz.1.2, by rw [RepL.length x1.rep, ← lim_line]; exact hz.2, ?_⟩
                exact hk.newL ht s2 ⟨RepL.rep (x1.al_imp (al1 := al1 || al2) (by intro h; simp [h])).rep _, List.nodup_nil, fun _ h => nomatch h⟩)
         · exact hk.elim)
  | fdiv =>
    refine (pe_op op_fdiv ha hb).run pins s σ H Q I (tE2 er h fun x y v u H2 s2 xx xy hk => ?_)
    unfold binD at hk
    split at hk
    all_goals first
      | contradiction
      | exact hk.elim
      | (split at hk
         · rename_i hz
           obtain rfl := xx.read.int
           obtain rfl := xy.read.int
           simp only [Bool.and_eq_true, decide_eq_true_eq] at hz
           exact ⟨_, _, rfl, rfl, hz, hk.int s2⟩
         · exact hk.elim)
  | mod =>
    refine (pe_op op_mod ha hb).run pins s σ H Q I (tE2 er h fun x y v u H2 s2 xx xy hk => ?_)
    unfold binD at hk
    split at hk
    all_goals first
      | contradiction
      | exact hk.elim
      | (split at hk
         · rename_i hz
           obtain rfl := xx.read.int
           obtain rfl := xy.read.int
           exact ⟨_, _, rfl, rfl, hz, hk.int s2⟩
         · exact hk.elim)
  | pow =>
    refine (pe_op op_pow ha hb).run pins s σ H Q I (tE2 er h fun x y v u H2 s2 xx xy hk => ?_)
    unfold binD at hk
    split at hk
    all_goals first
      | contradiction
      | exact hk.elim
      | (split at hk
         · rename_i hz
           obtain rfl := xx.read.int
           obtain rfl := xy.read.int
           simp only [Bool.and_eq_true, decide_eq_true_eq] at hz
           exact ⟨_, _, rfl, rfl, ⟨hz.1.1, hz.1.2, hz.2⟩, hk.int s2⟩
         · exact hk.elim)
  | shr =>
    refine (pe_op op_shr ha hb).run pins s σ H Q I (tE2 er h fun x y v u H2 s2 xx xy hk => ?_)
    unfold binD at hk
    split at hk
    all_goals first
      | contradiction
      | exact hk.elim
      | (split at hk
         · rename_i hz
           obtain rfl := xx.read.int
           obtain rfl := xy.read.int
           exact ⟨_, _, rfl, rfl, hz, hk.int s2⟩
         · exact hk.elim)
theorem de_neg {a : Expr} {pos : Pos} (ha : PE X a (tE fm Wi al1 .fr f)) :
    PE X (.UnaryOp .USub a pos) (tE fm Wi al t fun ρ => do let x ← f ρ; (match x with | .int i => .ok (.int (-i)) | _ => .stk)) := by
  refine PE.imp (pe_un un_neg ha) fun σ H Q ⟨ρ, fps, er, h⟩ => ⟨ρ, fps, er, OKE.bind h fun d v H1 fp e hk s x => ?_⟩
  split at hk
  · obtain rfl := x.read.int
    exact ⟨_, rfl, hk.int s⟩
  · exact hk.elim

/-! ### == of data -/
mutual
def toPy : D → PyData
  | .non => .none
  | .bl b => .bool b
  | .int i => .int i
  | .str s => .str (toS s)
  | .tup xs => .tuple (toPyL xs)
  | .lst xs => .list (toPyL xs)
  | .dct _ _ => .none
  | .exc _ _ => .none
  | .scr _ => .none
def toPyL : List D → List PyData
  | [] => []
  | d :: ds => toPy d :: toPyL ds
end
mutual
theorem dp_of {H : Hp} : ∀ (d : D) (v : V) (n : Nat), d.plainN n = true → RdR fm H d v → Dp fm.K H v (toPy d) ∧ (toPy d).plain = true ∧ (toPy d).depth ≤ n
  | .non, v, n, hp, h => by obtain rfl := h.non; simp only [toPy]; exact ⟨.non, rfl, Nat.zero_le _⟩
  | .bl b, v, n, hp, h => by obtain rfl := h.bl; simp only [toPy]; exact ⟨.bl b, rfl, Nat.zero_le _⟩
  | .int i, v, n, hp, h => by obtain rfl := h.int; simp only [toPy]; exact ⟨.int i, rfl, Nat.zero_le _⟩
  | .str s, v, n, hp, h => by obtain rfl := h.str; simp only [toPy]; exact ⟨.str _, rfl, Nat.zero_le _⟩
  | .tup xs, v, n, hp, h => by
    obtain ⟨a, vs, rfl, e, r⟩ := Rep.tup_inv h
    cases n with
    | zero => simp only [D.plainN] at hp; cases hp
    | succ n =>
      obtain ⟨q1, q2, q3⟩ := dpL_of xs vs n (by simpa only [D.plainN] using hp) r
      simp only [toPy, PyData.plain, PyData.depth]
      exact ⟨.tup (SqT.of e) q1, q2, by omega⟩
  | .lst xs, v, n, hp, h => by
    obtain ⟨a, vs, rfl, e, r⟩ := Rep.lst_inv h
    cases n with
    | zero => simp only [D.plainN] at hp; cases hp
    | succ n =>
      obtain ⟨q1, q2, q3⟩ := dpL_of xs vs n (by simpa only [D.plainN] using hp) r
      simp only [toPy, PyData.plain, PyData.depth]
      exact ⟨.lst (SqL.of e.1) q1, q2, by omega⟩
  | .dct _ _, v, n, hp, h => by simp only [D.plainN] at hp; cases hp
  | .exc _ _, v, n, hp, h => by simp only [D.plainN] at hp; cases hp
  | .scr _, v, n, hp, h => by simp only [D.plainN] at hp; cases hp
theorem dpL_of {H : Hp} : ∀ (ds : List D) (vs : List V) (n : Nat), plainLN ds n = true → RdL fm H ds vs → DpAll fm.K H vs (toPyL ds) ∧ PyData.plainAll (toPyL ds) = true ∧ PyData.depthAll (toPyL ds) ≤ n
  | [], vs, n, hp, h => by
    obtain ⟨rfl, _⟩ := RepL.nil_inv h
    simp only [toPyL]
    exact ⟨.nil, rfl, Nat.zero_le _⟩
  | d :: ds, vs, n, hp, h => by
    obtain ⟨v, r, f1, f2, rfl, e2, h1, h2⟩ := RepL.uncons h
    simp only [plainLN, Bool.and_eq_true] at hp
    obtain ⟨q1, q2, q3⟩ := dp_of d v n hp.1 (Rep.fr_nil h1).2
    obtain ⟨p1, p2, p3⟩ := dpL_of ds r n hp.2 (RepL.fr_nil h2).2
    simp only [toPyL, PyData.plainAll, PyData.depthAll, Bool.and_eq_true]
    exact ⟨.cons q1 p1, ⟨q2, p2⟩, by omega⟩
end
mutual
theorem eqv_py : ∀ (a b : D) (n m : Nat), a.plainN n = true → b.plainN m = true → PyData.eqv (toPy a) (toPy b) = a.eqv b
  | .non, b, n, m, ha, hb => by cases b <;> first | rfl | (simp only [D.plainN] at hb; cases hb)
  | .bl x, b, n, m, ha, hb => by cases b <;> first | rfl | (simp only [D.plainN] at hb; cases hb)
  | .int x, b, n, m, ha, hb => by cases b <;> first | rfl | (simp only [D.plainN] at hb; cases hb)
  | .str x, b, n, m, ha, hb => by
    cases b with
    | str y =>
      show (toS x == toS y) = (x == y)
      by_cases e : x = y
      · subst e; simp
      · have e' : toS x ≠ toS y := fun q => e (toS_inj q)
        rw [beq_eq_false_iff_ne.mpr e, beq_eq_false_iff_ne.mpr e']
    | _ => first | rfl | (simp only [D.plainN] at hb; cases hb)
  | .tup xs, b, n, m, ha, hb => by
    cases n with
    | zero => simp only [D.plainN] at ha; cases ha
    | succ n =>
      cases b with
      | tup ys =>
        cases m with
        | zero => simp only [D.plainN] at hb; cases hb
        | succ m =>
          simp only [toPy, PyData.eqv, D.eqv]
          exact eqvL_py xs ys n m (by simpa only [D.plainN] using ha) (by simpa only [D.plainN] using hb)
      | _ => first | rfl | (simp only [D.plainN] at hb; cases hb)
  | .lst xs, b, n, m, ha, hb => by
    cases n with
    | zero => simp only [D.plainN] at ha; cases ha
    | succ n =>
      cases b with
      | lst ys =>
        cases m with
        | zero => simp only [D.plainN] at hb; cases hb
        | succ m =>
          simp only [toPy, PyData.eqv, D.eqv]
          exact eqvL_py xs ys n m (by simpa only [D.plainN] using ha) (by simpa only [D.plainN] using hb)
      | _ => first | rfl | (simp only [D.plainN] at hb; cases hb)
  | .dct _ _, b, n, m, ha, hb => by simp only [D.plainN] at ha; cases ha
  | .exc _ _, b, n, m, ha, hb => by simp only [D.plainN] at ha; cases ha
  | .scr _, b, n, m, ha, hb => by simp only [D.plainN] at ha; cases ha
theorem eqvL_py : ∀ (a b : List D) (n m : Nat), plainLN a n = true → plainLN b m = true → PyData.eqvAll (toPyL a) (toPyL b) = eqvL a b
  | [], b, n, m, ha, hb => by cases b <;> rfl
  | x :: xs, b, n, m, ha, hb => by
    cases b with
    | nil => rfl
    | cons y ys =>
      simp only [plainLN, Bool.and_eq_true] at ha hb
      simp only [toPyL, PyData.eqvAll, eqvL]
      rw [eqv_py x y n m ha.1 hb.1, eqvL_py xs ys n m ha.2 hb.2]
end
end
end L2.Py

set_option Elab.async false
set_option linter.all false
set_option maxRecDepth 100000
set_option maxHeartbeats 1000000
/-! PyE6: comparisons, tests. -/
namespace L2.Py
open PySem PySem.Spec PyProof.Rows TL
section
variable {X : Cx} {fm : Fm} {Wi : WX} {al al1 al2 : Bool} {t : OT} {f g : Rho → R D}

def rEqP (K : PySem.W.Frag) (neg : Bool) : R2 := fun x y H Q => ∃ d e, Dp K H x d ∧ Dp K H y e ∧ d.plain = true ∧ e.plain = true ∧ d.depth ≤ 20 ∧ Q (.bl (if neg then !PyData.eqv d e else PyData.eqv d e)) H
theorem op_eqP (hu : X.A.units + 64 < cLine) : OpR X (compareOp .Eq) (rEqP X.K false) := by
  intro pins s σ H x y v u Q I rx ry h
  obtain ⟨d, e, hd, he, sd, se, dd, q⟩ := h
  obtain ⟨as, r1⟩ := Dp.reads I d x v hd rx
  obtain ⟨bs, r2⟩ := Dp.reads I e y u he ry
  exact SeqAt.eq_plain r1 r2 sd se (by have := Nat.min_le_left d.depth e.depth; omega) ⟨.bl _, H, I, rfl, q⟩
theorem op_neP (hu : X.A.units + 64 < cLine) : OpR X (compareOp .NotEq) (rEqP X.K true) := by
  intro pins s σ H x y v u Q I rx ry h
  obtain ⟨d, e, hd, he, sd, se, dd, q⟩ := h
  obtain ⟨as, r1⟩ := Dp.reads I d x v hd rx
  obtain ⟨bs, r2⟩ := Dp.reads I e y u he ry
  exact SeqAt.ne_plain r1 r2 sd se (by have := Nat.min_le_left d.depth e.depth; omega) ⟨.bl _, H, I, rfl, q⟩
def rInP (K : PySem.W.Frag) (neg : Bool) : R2 := fun x y H Q => ∃ d es, Dp K H x d ∧ (Dp K H y (.list es) ∨ Dp K H y (.tuple es)) ∧ d.plain = true ∧ PyData.plainAll es = true ∧ d.depth ≤ 20 ∧
  Q (.bl (if neg then !es.any (fun y => PyData.eqv y d) else es.any fun y => PyData.eqv y d)) H
theorem op_inP (hu : X.A.units + 64 < cLine) : OpR X (compareOp .In) (rInP X.K false) := by
  intro pins s σ H x y v u Q I rx ry h
  obtain ⟨d, es, hd, he, sd, se, dd, q⟩ := h
  obtain ⟨as, r1⟩ := Dp.reads I d x v hd rx
  have hm : X.A.units + 1 + min (PyData.depthAll es) d.depth < cLine := by have := Nat.min_le_right (PyData.depthAll es) d.depth; omega
  rcases he with he | he
  · obtain ⟨bs, r2⟩ := Dp.reads I _ y u he ry
    exact SeqAt.in_list_data r2 r1 se sd hm ⟨.bl _, H, I, rfl, q⟩
  · obtain ⟨bs, r2⟩ := Dp.reads I _ y u he ry
    exact SeqAt.in_tuple_data r2 r1 se sd hm ⟨.bl _, H, I, rfl, q⟩
theorem op_ninP (hu : X.A.units + 64 < cLine) : OpR X (compareOp .NotIn) (rInP X.K true) := by
  intro pins s σ H x y v u Q I rx ry h
  obtain ⟨d, es, hd, he, sd, se, dd, q⟩ := h
  obtain ⟨as, r1⟩ := Dp.reads I d x v hd rx
  have hm : X.A.units + 1 + min (PyData.depthAll es) d.depth < cLine := by have := Nat.min_le_right (PyData.depthAll es) d.depth; omega
  rcases he with he | he
  · obtain ⟨bs, r2⟩ := Dp.reads I _ y u he ry
    exact SeqAt.notIn_list_data r2 r1 se sd hm ⟨.bl _, H, I, rfl, q⟩
  · obtain ⟨bs, r2⟩ := Dp.reads I _ y u he ry
    exact SeqAt.notIn_tuple_data r2 r1 se sd hm ⟨.bl _, H, I, rfl, q⟩
def rDIn (neg : Bool) : R2 := fun x y H Q => ∃ a o, y = .ref a ∧ DGet H a x o ∧ Q (.bl (if neg then !o.isSome else o.isSome)) H
theorem op_dIn (hu : X.A.units + 1 < cLine) : OpR X (compareOp .In) (rDIn false) := by
  intro pins s σ H x y v u Q I rx ry h
  obtain ⟨a, o, rfl, g, q⟩ := h
  obtain rfl : u = Value.ref a := ry
  exact d_in hu I g rx fun s3 I3 => ⟨.bl o.isSome, H, I3, rfl, q⟩
theorem op_dNin (hu : X.A.units + 1 < cLine) : OpR X (compareOp .NotIn) (rDIn true) := by
  intro pins s σ H x y v u Q I rx ry h
  obtain ⟨a, o, rfl, g, q⟩ := h
  obtain rfl : u = Value.ref a := ry
  exact d_notIn hu I g rx fun s3 I3 => ⟨.bl (!o.isSome), H, I3, rfl, q⟩

/-! ### dicts read -/
theorem keyD_eqv (a b : Key) : (keyD a).eqv (keyD b) = decide (a = b) := by
  cases a with
  | inl i =>
    cases b with
    | inl j =>
      show (i == j) = _
      by_cases e : i = j
      · subst e; simp
      · rw [beq_eq_false_iff_ne.mpr e, decide_eq_false (fun q => e (Sum.inl.inj q))]
    | inr y => rw [decide_eq_false (fun q => nomatch q)]; rfl
  | inr x =>
    cases b with
    | inl j => rw [decide_eq_false (fun q => nomatch q)]; rfl
    | inr y =>
      show (tl x == tl y) = _
      by_cases e : x = y
      · subst e; simp
      · have e' : tl x ≠ tl y := fun q => e (ext_tl q)
        rw [beq_eq_false_iff_ne.mpr e', decide_eq_false (fun q => e (Sum.inr.inj q))]
theorem keysD_eqv : ∀ (a b : List Key), eqvL (a.map keyD) (b.map keyD) = decide (a = b)
  | [], [] => rfl
  | [], b :: bs => by rw [decide_eq_false (fun q => nomatch q)]; rfl
  | a :: as, [] => by rw [decide_eq_false (fun q => nomatch q)]; rfl
  | a :: as, b :: bs => by
    show ((keyD a).eqv (keyD b) && eqvL (as.map keyD) (bs.map keyD)) = _
    rw [keyD_eqv, keysD_eqv as bs]
    by_cases e1 : a = b
    · subst e1
      by_cases e2 : as = bs
      · subst e2; simp
      · simp [e2]
    · simp [e1]
theorem keyT_eqv (a b : List Key) : (keyT a).eqv (keyT b) = decide (a = b) := by
  show eqvL (a.map keyD) (b.map keyD) = _
  exact keysD_eqv a b
theorem RepN.inv {K : PySem.W.Frag} {H : Hp} {F : Addr → Prop} {e kd : D} {t : OT} {v : V} {fp : List Addr} (h : RepN K H F e kd t v fp) : ∃ d, e = .tup [kd, d] ∧ Rep K H F d t v fp := by
  cases e with
  | tup ds =>
    simp only [RepN] at h
    cases ds with
    | nil => simp only [RepN2] at h
    | cons k ds =>
      simp only [RepN2] at h
      obtain ⟨rfl, h⟩ := h
      cases ds with
      | nil => simp only [RepN3] at h
      | cons d ds =>
        simp only [RepN3] at h
        obtain ⟨rfl, h⟩ := h
        exact ⟨d, rfl, h⟩
  | _ => simp only [RepN] at h
theorem RepN.mk {K : PySem.W.Frag} {H : Hp} {F : Addr → Prop} {d kd : D} {t : OT} {v : V} {fp : List Addr} (h : Rep K H F d t v fp) : RepN K H F (.tup [kd, d]) kd t v fp := by
  simp only [RepN, RepN2, RepN3]
  exact ⟨trivial, trivial, h⟩
theorem RepM.uncons {K : PySem.W.Frag} {H : Hp} {F : Addr → Prop} {e : D} {es : List D} {κ : Type} {kf : κ → D} {t : OT} {kvs : List (κ × V)} {fp : List Addr} (h : RepM K H F (e :: es) κ kf t kvs fp) :
    ∃ k v r f1 f2 d, kvs = (k, v) :: r ∧ fp = f1 ++ f2 ∧ e = .tup [kf k, d] ∧ Rep K H F d t v f1 ∧ RepM K H F es κ kf t r f2 := by
  simp only [RepM] at h
  obtain ⟨k, v, r, f1, f2, e1, e2, h1, h2⟩ := h
  obtain ⟨d, e3, h1⟩ := h1.inv
  exact ⟨k, v, r, f1, f2, d, e1, e2, e3, h1, h2⟩
theorem RepM.nil_inv {K : PySem.W.Frag} {H : Hp} {F : Addr → Prop} {κ : Type} {kf : κ → D} {t : OT} {kvs : List (κ × V)} {fp : List Addr} (h : RepM K H F [] κ kf t kvs fp) : kvs = [] ∧ fp = [] := by
  simpa only [RepM] using h
theorem RepM.cons {K : PySem.W.Frag} {H : Hp} {F : Addr → Prop} {d : D} {es : List D} {κ : Type} {kf : κ → D} {t : OT} {k : κ} {v : V} {r : List (κ × V)} {f1 f2 : List Addr} (h1 : Rep K H F d t v f1) (h2 : RepM K H F es κ kf t r f2) :
    RepM K H F (.tup [kf k, d] :: es) κ kf t ((k, v) :: r) (f1 ++ f2) := by
  simp only [RepM]
  exact ⟨k, v, r, f1, f2, rfl, rfl, RepN.mk h1, h2⟩
theorem RepM.length {K : PySem.W.Frag} {H : Hp} {F : Addr → Prop} {κ : Type} {kf : κ → D} {t : OT} : ∀ {es : List D} {kvs : List (κ × V)} {fp : List Addr}, RepM K H F es κ kf t kvs fp → kvs.length = es.length
  | [], _, _, h => by rw [h.nil_inv.1]; rfl
  | e :: es, _, _, h => by
    obtain ⟨k, v, r, f1, f2, d, rfl, _, _, _, h2⟩ := h.uncons
    rw [List.length_cons, List.length_cons, RepM.length h2]
/-- what a look-up finds -/
theorem RepM.look {K : PySem.W.Frag} {H : Hp} {F : Addr → Prop} {κ : Type} [DecidableEq κ] {kf : κ → D} (hk : ∀ a b, (kf a).eqv (kf b) = decide (a = b)) : ∀ {es : List D} {kvs : List (κ × V)} (k : κ), RepM K H F es κ kf .fr kvs [] →
    (dlook es (kf k) = none ∧ valV kvs k = none) ∨ ∃ d v, dlook es (kf k) = some d ∧ valV kvs k = some v ∧ Rep K H F d .fr v []
  | [], kvs, k, h => by
    obtain ⟨rfl, _⟩ := h.nil_inv
    exact .inl ⟨rfl, rfl⟩
  | e :: es, kvs, k, h => by
    obtain ⟨k', v, r, f1, f2, d, rfl, e2, rfl, h1, h2⟩ := h.uncons
    obtain ⟨rfl, h1⟩ := Rep.fr_nil h1
    obtain rfl : f2 = [] := by simpa using e2
    by_cases e : k' = k
    · subst e
      refine .inr ⟨d, v, ?_, valV_pos rfl, h1⟩
      show (if (kf k').eqv (kf k') = true then _ else _) = _
      rw [hk, decide_eq_true rfl, if_pos rfl]
    · have q := RepM.look hk (es := es) (kvs := r) k h2
      have e1 : dlook (.tup [kf k', d] :: es) (kf k) = dlook es (kf k) := by
        show (if (kf k').eqv (kf k) = true then _ else _) = _
        rw [hk, decide_eq_false e, if_neg (by simp)]
      have e2 : valV ((k', v) :: r) k = valV r k := valV_neg e
      rw [e1, e2]
      exact q
/-- a key, as a value -/
inductive KeyV (H : Hp) : D → V → Prop
  | k (k : Key) : KeyV H (keyD k) (kV k)
  | t (ks : List Key) (a : Addr) : H a = some (.tup (ks.map kV)) → KeyV H (keyT ks) (.ref a)
theorem leaf_key {d : D} {v : V} {H : Hp} (h : isLeaf d = true) (r : RdR fm H d v) : ∃ k : Key, d = keyD k ∧ v = kV k := by
  cases d with
  | int i => exact ⟨.inl i, rfl, r.int⟩
  | str s => exact ⟨.inr (toS s), rfl, r.str⟩
  | _ => cases h
theorem leaves_keys {H : Hp} : ∀ {ds : List D} {vs : List V}, ds.all isLeaf = true → RdL fm H ds vs → ∃ ks : List Key, ds = ks.map keyD ∧ vs = ks.map kV
  | [], vs, _, r => by
    obtain ⟨rfl, _⟩ := r.nil_inv
    exact ⟨[], rfl, rfl⟩
  | d :: ds, vs, h, r => by
    obtain ⟨v, q, f1, f2, rfl, e2, h1, h2⟩ := r.uncons
    simp only [List.all_cons, Bool.and_eq_true] at h
    obtain ⟨k, rfl, rfl⟩ := leaf_key h.1 (Rep.fr_nil h1).2
    obtain ⟨ks, rfl, rfl⟩ := leaves_keys h.2 (RepL.fr_nil h2).2
    exact ⟨k :: ks, rfl, rfl⟩
theorem tup_key {d : D} {v : V} {H : Hp} (h : isKeyT d = true) (r : RdR fm H d v) : ∃ (ks : List Key) (a : Addr), d = keyT ks ∧ v = .ref a ∧ H a = some (.tup (ks.map kV)) := by
  cases d with
  | tup ds =>
    obtain ⟨a, vs, rfl, e, r'⟩ := Rep.tup_inv r
    obtain ⟨ks, rfl, rfl⟩ := leaves_keys (show ds.all isLeaf = true from h) r'
    exact ⟨ks, a, rfl, rfl, e⟩
  | _ => cases h
/-- a dict at an address, its key looked up -/
theorem dget_of {b : Bool} {es : List D} {k : D} {x y : V} {H : Hp} {F : Addr → Prop} (hk : keyOk b k = true) (rd : Rep fm.K H F (.dct b es) .fr x []) (rk : RdR fm H k y) :
    ∃ a o, x = .ref a ∧ DGet H a y o ∧ IsD H a ∧ ((dlook es k = none ∧ o = none) ∨ ∃ d v, dlook es k = some d ∧ o = some v ∧ Rep fm.K H F d .fr v []) := by
  simp only [Rep] at rd
  obtain ⟨a, fp', rfl, rd⟩ := rd
  rcases rd with ⟨rfl, kvs, ⟨⟨q1, _⟩, rfl⟩, q2⟩ | ⟨rfl, kvs, ⟨⟨q1, _⟩, rfl⟩, q2⟩
  · obtain ⟨k', rfl, rfl⟩ := leaf_key (show isLeaf k = true from hk) rk
    refine ⟨a, valV kvs k', rfl, .inl ⟨kvs, k', q1, rfl, rfl⟩, .inl ⟨kvs, q1⟩, ?_⟩
    rcases RepM.look keyD_eqv k' q2 with ⟨z1, z2⟩ | ⟨d, v, z1, z2, z3⟩
    · exact .inl ⟨z1, z2⟩
    · exact .inr ⟨d, v, z1, z2, z3⟩
  · obtain ⟨ks, p, rfl, rfl, e⟩ := tup_key (show isKeyT k = true from hk) rk
    refine ⟨a, valV kvs ks, rfl, .inr ⟨kvs, ks, p, q1, rfl, e, rfl⟩, .inr ⟨kvs, q1⟩, ?_⟩
    rcases RepM.look keyT_eqv ks q2 with ⟨z1, z2⟩ | ⟨d, v, z1, z2, z3⟩
    · exact .inl ⟨z1, z2⟩
    · exact .inr ⟨d, v, z1, z2, z3⟩

/-! ### comparisons -/
def copA : Cop → CmpOp
  | .eq => .Eq | .ne => .NotEq | .lt => .Lt | .le => .LtE | .gt => .Gt | .ge => .GtE | .isN => .Is | .notN => .IsNot | .isin => .In | .notin => .NotIn
theorem eqD_run {x y : D} {v u : V} {H : Hp} {r : Bool} (h : eqD x y = .ok r) (rx : RdR fm H x v) (ry : RdR fm H y u) : ∃ d e, Dp fm.K H v d ∧ Dp fm.K H u e ∧ d.plain = true ∧ e.plain = true ∧ d.depth ≤ 20 ∧ PyData.eqv d e = r := by
  unfold eqD at h
  split at h
  · rename_i hp
    simp only [Bool.and_eq_true] at hp
    injection h with h
    obtain ⟨p1, p2, p3⟩ := dp_of x v 20 hp.1 rx
    obtain ⟨q1, q2, q3⟩ := dp_of y u 20 hp.2 ry
    exact ⟨_, _, p1, q1, p2, q2, p3, by rw [eqv_py x y 20 20 hp.1 hp.2]; exact h⟩
  · cases h
theorem any_py (d : D) (hd : d.plain = true) : ∀ (xs : List D) (n : Nat), plainLN xs n = true → (toPyL xs).any (fun y => PyData.eqv y (toPy d)) = xs.any fun y => y.eqv d
  | [], _, _ => rfl
  | x :: xs, n, h => by
    simp only [plainLN, Bool.and_eq_true] at h
    simp only [toPyL, List.any_cons]
    rw [eqv_py x d n 20 h.1 hd, any_py d hd xs n h.2]
def rInAny (K : PySem.W.Frag) (neg : Bool) : R2 := fun x y H Q => rInP K neg x y H Q ∨ rDIn neg x y H Q ∨ ∃ (c : Nat) (z : Str), x = .str ⟨#[c]⟩ ∧ y = .str z ∧ Q (.bl (if neg then !decide (c ∈ z.cps.toList) else decide (c ∈ z.cps.toList))) H
theorem op_inAny (hu : X.A.units + 64 < cLine) : OpR X (compareOp .In) (rInAny X.K false) := (op_inP hu).or ((op_dIn (by omega)).or op_in_sign)
theorem op_ninAny (hu : X.A.units + 64 < cLine) : OpR X (compareOp .NotIn) (rInAny X.K true) := (op_ninP hu).or ((op_dNin (by omega)).or op_notIn_sign)
theorem inD_run {x y : D} {v u : V} {H : Hp} {r neg : Bool} {Q : VK} (h : inD x y = .ok r) (rx : RdR fm H x v) (ry : RdR fm H y u) (q : Q (.bl (if neg then !r else r)) H) : rInAny fm.K neg v u H Q := by
  unfold inD at h
  split at h
  · split at h
    · rename_i b es hk
      injection h with h
      obtain ⟨a, o, rfl, g, _, z⟩ := dget_of hk ry rx
      refine .inr (.inl ⟨a, o, rfl, g, ?_⟩)
      have e : o.isSome = r := by
        rcases z with ⟨z1, z2⟩ | ⟨d, v, z1, z2, _⟩
        · rw [z1] at h; rw [z2]; exact h
        · rw [z1] at h; rw [z2]; exact h
      rw [e]; exact q
    · cases h
  · split at h
    · rename_i xs hp
      simp only [Bool.and_eq_true] at hp
      injection h with h
      obtain ⟨p1, p2, p3⟩ := dp_of x v 20 hp.1 rx
      have hp2 : (D.lst xs).plainN 21 = true := hp.2
      obtain ⟨q1, q2, q3⟩ := dp_of (.lst xs) u 21 hp2 ry
      simp only [toPy] at q1 q2
      refine .inl ⟨_, _, p1, .inl q1, p2, q2, p3, ?_⟩
      rw [any_py x hp.1 xs 20 hp.2, h]; exact q
    · cases h
  · split at h
    · rename_i xs hp
      simp only [Bool.and_eq_true] at hp
      injection h with h
      obtain ⟨p1, p2, p3⟩ := dp_of x v 20 hp.1 rx
      have hp2 : (D.tup xs).plainN 21 = true := hp.2
      obtain ⟨q1, q2, q3⟩ := dp_of (.tup xs) u 21 hp2 ry
      simp only [toPy] at q1 q2
      refine .inl ⟨_, _, p1, .inr q1, p2, q2, p3, ?_⟩
      rw [any_py x hp.1 xs 20 hp.2, h]; exact q
    · cases h
  · split at h
    · rename_i ts _ c
      injection h with h
      obtain rfl := rx.str
      obtain rfl := ry.str
      refine .inr (.inr ⟨c, toS ts, rfl, rfl, ?_⟩)
      have e : decide (c ∈ (toS ts).cps.toList) = r := by rw [← h]; exact (List.contains_eq_mem ..).symm
      rw [e]; exact q
    · cases h
  · cases h
theorem isN_run {x : D} {v : V} {H : Hp} (hx : ∀ c ps, x ≠ .exc c ps) (rx : RdR fm H x v) : decide (v = .non) = isNon x := by
  cases x with
  | non => obtain rfl := rx.non; rfl
  | bl b => obtain rfl := rx.bl; rfl
  | int b => obtain rfl := rx.int; rfl
  | str b => obtain rfl := rx.str; rfl
  | tup xs => obtain ⟨a, vs, rfl, _⟩ := Rep.tup_inv rx; rfl
  | lst xs => obtain ⟨a, vs, rfl, _⟩ := Rep.lst_inv rx; rfl
  | dct b xs => simp only [RdR, Rep] at rx; obtain ⟨a, fp', rfl, _⟩ := rx; rfl
  | exc c ps => exact absurd rfl (hx c ps)
  | scr ns => simp only [RdR, Rep] at rx; obtain ⟨⟨a, rfl, _⟩, _⟩ := rx; rfl
def rCop (K : PySem.W.Frag) : Cop → R2
  | .eq => rEqP K false
  | .ne => rEqP K true
  | .lt => rI0 fun i j => .bl (decide (i < j))
  | .le => rI0 fun i j => .bl (decide (i ≤ j))
  | .gt => rI0 fun i j => .bl (decide (j < i))
  | .ge => rI0 fun i j => .bl (decide (j ≤ i))
  | .isN => fun x y H Q => y = .non ∧ Q (.bl (decide (x = .non))) H
  | .notN => fun x y H Q => y = .non ∧ Q (.bl (!decide (x = .non))) H
  | .isin => rInAny K false
  | .notin => rInAny K true
theorem op_cop (hu : X.A.units + 64 < cLine) : ∀ op, OpR X (compareOp (copA op)) (rCop X.K op)
  | .eq => op_eqP hu
  | .ne => op_neP hu
  | .lt => op_lt
  | .le => op_le
  | .gt => op_gt
  | .ge => op_ge
  | .isN => op_isN
  | .notN => op_notN
  | .isin => op_inAny hu
  | .notin => op_ninAny hu
theorem rd_cop {op : Cop} {ρ : Rho} {σ : St} {H : Hp} {fps : Fps} {Q : VK} (er : ER fm ρ σ H fps) (h : OKE fm Wi al t (f ρ >>= fun x => g ρ >>= fun y => cmpD op x y) σ H fps Q) :
    tOp (rCop fm.K op) (tE fm Wi al1 .fr f) (tE fm Wi al2 .fr g) σ H Q := by
  cases op with
  | eq =>
    refine tE2 er h fun x y v u H2 s2 xx xy hk => ?_
    cases e : eqD x y with
    | ok r =>
      rw [show cmpD .eq x y = .ok (.bl r) by show (eqD x y >>= _) = _; rw [e]; rfl] at hk
      obtain ⟨d1, d2, p1, p2, p3, p4, p5, p6⟩ := eqD_run e xx.read xy.read
      exact ⟨d1, d2, p1, p2, p3, p4, p5, by rw [p6]; exact hk.bl s2⟩
    | exn c ps => exfalso; unfold eqD at e; split at e <;> cases e
    | stk => rw [show cmpD .eq x y = .stk by show (eqD x y >>= _) = _; rw [e]; rfl] at hk; exact hk.elim
  | ne =>
    refine tE2 er h fun x y v u H2 s2 xx xy hk => ?_
    cases e : eqD x y with
    | ok r =>
      rw [show cmpD .ne x y = .ok (.bl (!r)) by show (eqD x y >>= _) = _; rw [e]; rfl] at hk
      obtain ⟨d1, d2, p1, p2, p3, p4, p5, p6⟩ := eqD_run e xx.read xy.read
      exact ⟨d1, d2, p1, p2, p3, p4, p5, by rw [p6]; exact hk.bl s2⟩
    | exn c ps => exfalso; unfold eqD at e; split at e <;> cases e
    | stk => rw [show cmpD .ne x y = .stk by show (eqD x y >>= _) = _; rw [e]; rfl] at hk; exact hk.elim
  | lt =>
    refine tE2 er h fun x y v u H2 s2 xx xy hk => ?_
    unfold cmpD at hk
    split at hk <;> first
      | contradiction
      | exact hk.elim
      | (obtain rfl := xx.read.int
         obtain rfl := xy.read.int
         exact ⟨_, _, rfl, rfl, hk.bl s2⟩)
  | le =>
    refine tE2 er h fun x y v u H2 s2 xx xy hk => ?_
    unfold cmpD at hk
    split at hk <;> first
      | contradiction
      | exact hk.elim
      | (obtain rfl := xx.read.int
         obtain rfl := xy.read.int
         exact ⟨_, _, rfl, rfl, hk.bl s2⟩)
  | gt =>
    refine tE2 er h fun x y v u H2 s2 xx xy hk => ?_
    unfold cmpD at hk
    split at hk <;> first
      | contradiction
      | exact hk.elim
      | (obtain rfl := xx.read.int
         obtain rfl := xy.read.int
         exact ⟨_, _, rfl, rfl, hk.bl s2⟩)
  | ge =>
    refine tE2 er h fun x y v u H2 s2 xx xy hk => ?_
    unfold cmpD at hk
    split at hk <;> first
      | contradiction
      | exact hk.elim
      | (obtain rfl := xx.read.int
         obtain rfl := xy.read.int
         exact ⟨_, _, rfl, rfl, hk.bl s2⟩)
  | isN =>
    refine tE2 er h fun x y v u H2 s2 xx xy hk => ?_
    unfold cmpD at hk
    split at hk <;> first
      | contradiction
      | exact hk.elim
      | (obtain rfl := xy.read.non
         refine ⟨rfl, ?_⟩
         rw [isN_run (fun c ps e => by subst e; have := xx.read; simp only [RdR, Rep] at this) xx.read]
         exact hk.bl s2)
  | notN =>
    refine tE2 er h fun x y v u H2 s2 xx xy hk => ?_
    unfold cmpD at hk
    split at hk <;> first
      | contradiction
      | exact hk.elim
      | (obtain rfl := xy.read.non
         refine ⟨rfl, ?_⟩
         rw [isN_run (fun c ps e => by subst e; have := xx.read; simp only [RdR, Rep] at this) xx.read]
         exact hk.bl s2)
  | isin =>
    refine tE2 er h fun x y v u H2 s2 xx xy hk => ?_
    cases e : inD x y with
    | ok r =>
      rw [show cmpD .isin x y = .ok (.bl r) by show (inD x y >>= _) = _; rw [e]; rfl] at hk
      exact inD_run e xx.read xy.read (hk.bl s2)
    | exn c ps => exfalso; unfold inD at e; repeat' (split at e <;> try cases e)
    | stk => rw [show cmpD .isin x y = .stk by show (inD x y >>= _) = _; rw [e]; rfl] at hk; exact hk.elim
  | notin =>
    refine tE2 er h fun x y v u H2 s2 xx xy hk => ?_
    cases e : inD x y with
    | ok r =>
      rw [show cmpD .notin x y = .ok (.bl (!r)) by show (inD x y >>= _) = _; rw [e]; rfl] at hk
      exact inD_run e xx.read xy.read (hk.bl s2)
    | exn c ps => exfalso; unfold inD at e; repeat' (split at e <;> try cases e)
    | stk => rw [show cmpD .notin x y = .stk by show (inD x y >>= _) = _; rw [e]; rfl] at hk; exact hk.elim
theorem de_cmp {op : Cop} {a b : Expr} {pos : Pos} (hK : fm.K = X.K) (hu : X.A.units + 64 < cLine) (hm : behindInMarks (copA op) b = false) (ha : PE X a (tE fm Wi al1 .fr f)) (hb : PE X b (tE fm Wi al2 .fr g)) :
    PE X (.Compare a [copA op] [b] pos) (tE fm Wi al t fun ρ => do let x ← f ρ; let y ← g ρ; cmpD op x y) := by
  refine PE.imp (pe_cmpR (op_cop hu op) ha hb hm) fun σ H Q ⟨ρ, fps, er, h⟩ => ?_
  have := rd_cop (al1 := al1) (al2 := al2) er h
  rw [hK] at this
  exact this

/-! ### tests -/
def OKB (fm : Fm) (Wi : WX) (r : R Bool) (σ : St) (H : Hp) (Q : Bool → Hp → Prop) : Prop :=
  match r with
  | .ok b => ∀ H', Same H H' → Q b H'
  | .exn c ps => ∀ cls dx H', Same H H' → ExnR fm H' c ps cls dx → Wi cls dx σ H'
  | .stk => False
def tTT (fm : Fm) (Wi : WX) (f : Rho → R Bool) : TT := fun σ H Q => ∃ ρ fps, ER fm ρ σ H fps ∧ OKB fm Wi (f ρ) σ H Q
theorem OKB.ext {r : R Bool} {σ : St} {H H1 : Hp} {Q : Bool → Hp → Prop} (s : Same H H1) (h : OKB fm Wi r σ H Q) : OKB fm Wi r σ H1 Q := by
  cases r with
  | ok d => exact fun H' s2 => h H' (s.trans s2)
  | exn c ps => exact fun cls dx H' s2 => h cls dx H' (s.trans s2)
  | stk => exact h
theorem OKB.val {r : R D} {σ : St} {H : Hp} {fps : Fps} {Q : Bool → Hp → Prop} (h : OKB fm Wi (r >>= isTrueD) σ H Q) : OKE fm Wi al t r σ H fps (fun v H' => ∃ k, v = .bl k ∧ Q k H') := by
  cases r with
  | ok d =>
    intro v H' fp s x
    cases d with
    | bl b => exact ⟨b, x.read.bl, h H' s⟩
    | _ => exact h.elim
  | exn c ps => exact h
  | stk => exact h
theorem dt_val {a : Expr} (hp : plainTruth a = true) (ha : PE X a (tE fm Wi al .fr f)) : PT X a (tTT fm Wi fun ρ => f ρ >>= isTrueD) :=
  PT.imp (pt_val ha (truth_of hp)) fun σ H Q ⟨ρ, fps, er, h⟩ => ⟨ρ, fps, er, OKB.val h⟩
theorem dt_cmp {op : Cop} {a b : Expr} {pos : Pos} (hK : fm.K = X.K) (hu : X.A.units + 64 < cLine) (hm : behindInMarks (copA op) b = false) (ha : PE X a (tE fm Wi al1 .fr f)) (hb : PE X b (tE fm Wi al2 .fr g)) :
    PT X (.Compare a [copA op] [b] pos) (tTT fm Wi fun ρ => (do let x ← f ρ; let y ← g ρ; cmpD op x y) >>= isTrueD) := by
  refine PT.imp (pt_cmpR (op_cop hu op) ha hb hm) fun σ H Q ⟨ρ, fps, er, h⟩ => ?_
  have := rd_cop (al1 := al1) (al2 := al2) (al := false) (t := .fr) (fps := fps) er (OKB.val h)
  rw [hK] at this
  exact this
theorem bool_split {r : R D} (h : r >>= isTrueD ≠ .stk) : True := trivial
/-- and, or: the reading by the two tests -/
theorem ev_and {x y : R D} : ((do let a ← x; let c ← isTrueD a; if c then (do let b ← y; let d ← isTrueD b; pure (.bl d)) else pure (.bl false) : R D) >>= isTrueD) = ((x >>= isTrueD) >>= fun c => if c then y >>= isTrueD else .ok false) := by
  cases x with
  | ok a =>
    cases a with
    | bl c =>
      cases c with
      | true => cases y with
        | ok b => cases b <;> rfl
        | exn c ps => rfl
        | stk => rfl
      | false => rfl
    | _ => rfl
  | exn c ps => rfl
  | stk => rfl
theorem ev_or {x y : R D} : ((do let a ← x; let c ← isTrueD a; if c then pure (.bl true) else (do let b ← y; let d ← isTrueD b; pure (.bl d)) : R D) >>= isTrueD) = ((x >>= isTrueD) >>= fun c => if c then .ok true else y >>= isTrueD) := by
  cases x with
  | ok a =>
    cases a with
    | bl c =>
      cases c with
      | false => cases y with
        | ok b => cases b <;> rfl
        | exn c ps => rfl
        | stk => rfl
      | true => rfl
    | _ => rfl
  | exn c ps => rfl
  | stk => rfl
theorem ev_not {x : R D} : ((do let a ← x; let b ← isTrueD a; pure (.bl (!b)) : R D) >>= isTrueD) = ((x >>= isTrueD) >>= fun c => .ok (!c)) := by
  cases x with
  | ok a => cases a <;> rfl
  | exn c ps => rfl
  | stk => rfl
variable {p q : Rho → R Bool}
theorem dw_and1 {a : Expr} {pos : Pos} (ha : PT X a (tTT fm Wi p)) : PW X (.BoolOp .And [a] pos) (tTT fm Wi p) := pw_and1 ha
theorem dw_or1 {a : Expr} {pos : Pos} (ha : PT X a (tTT fm Wi p)) : PW X (.BoolOp .Or [a] pos) (tTT fm Wi p) := pw_or1 ha
theorem PW.imp {e : Expr} {t t' : TT} (h : PW X e t) (i : ∀ σ H Q, t' σ H Q → t σ H Q) : PW X e t' := ⟨fun wh pins s σ H Q I q => h.run wh pins s σ H Q I (i σ H Q q)⟩
theorem dw_and {a b : Expr} {rest : List Expr} {pos : Pos} (ha : PT X a (tTT fm Wi p)) (hb : PW X (.BoolOp .And (b :: rest) pos) (tTT fm Wi q)) :
    PW X (.BoolOp .And (a :: b :: rest) pos) (tTT fm Wi fun ρ => p ρ >>= fun c => if c then q ρ else .ok false) := by
  refine PW.imp (pw_and ha hb) fun σ H Q ⟨ρ, fps, er, h⟩ => ⟨ρ, fps, er, ?_⟩
  dsimp only at h
  cases e : p ρ with
  | ok c =>
    rw [e] at h
    intro H1 s1
    cases c with
    | true => exact iteT ⟨ρ, fps, er.ext s1, OKB.ext s1 h⟩
    | false => exact iteF (h H1 s1)
  | exn c ps => rw [e] at h; exact h
  | stk => rw [e] at h; exact h
theorem dw_or {a b : Expr} {rest : List Expr} {pos : Pos} (ha : PT X a (tTT fm Wi p)) (hb : PW X (.BoolOp .Or (b :: rest) pos) (tTT fm Wi q)) :
    PW X (.BoolOp .Or (a :: b :: rest) pos) (tTT fm Wi fun ρ => p ρ >>= fun c => if c then .ok true else q ρ) := by
  refine PW.imp (pw_or ha hb) fun σ H Q ⟨ρ, fps, er, h⟩ => ⟨ρ, fps, er, ?_⟩
  dsimp only at h
  cases e : p ρ with
  | ok c =>
    rw [e] at h
    intro H1 s1
    cases c with
    | false => exact iteF ⟨ρ, fps, er.ext s1, OKB.ext s1 h⟩
    | true => exact iteT (h H1 s1)
  | exn c ps => rw [e] at h; exact h
  | stk => rw [e] at h; exact h
theorem dt_not {a : Expr} {pos : Pos} (ha : PT X a (tTT fm Wi p)) : PT X (.UnaryOp .Not a pos) (tTT fm Wi fun ρ => p ρ >>= fun c => .ok (!c)) := by
  refine PT.imp (pt_not ha) fun σ H Q ⟨ρ, fps, er, h⟩ => ⟨ρ, fps, er, ?_⟩
  dsimp only at h
  cases e : p ρ with
  | ok c => rw [e] at h; exact h
  | exn c ps => rw [e] at h; exact h
  | stk => rw [e] at h; exact h
/-! ### as values -/
theorem de_not {a : Expr} {pos : Pos} (ha : PE X a (tE fm Wi al1 .fr f)) : PE X (.UnaryOp .Not a pos) (tE fm Wi al t fun ρ => do let x ← f ρ; let b ← isTrueD x; pure (.bl (!b))) := by
  refine PE.imp (pe_not ha) fun σ H Q ⟨ρ, fps, er, h⟩ => ⟨ρ, fps, er, OKE.bind h fun d v H1 fp e hk s x => ?_⟩
  cases d with
  | bl b => exact ⟨b, x.read.bl, hk.bl s⟩
  | _ => exact hk.elim
/-- a value that is a truth -/
def bv (r : R D) : R D := do let b ← r; let d ← isTrueD b; pure (.bl d)
theorem de_one {op : BoolOp} {a : Expr} {pos : Pos} (ha : PE X a (tE fm Wi al1 .fr f)) : PE X (.BoolOp op [a] pos) (tE fm Wi al t fun ρ => bv (f ρ)) := by
  refine PE.imp (pe_one ha) fun σ H Q ⟨ρ, fps, er, h⟩ => ⟨ρ, fps, er, OKE.bind h fun d v H1 fp e hk s x => ?_⟩
  cases d with
  | bl b => obtain rfl := x.read.bl; exact hk.bl s
  | _ => exact hk.elim
theorem de_and {a b : Expr} {rest : List Expr} {pos : Pos} (ha : PE X a (tE fm Wi al1 .fr f)) (hb : PE X (.BoolOp .And (b :: rest) pos) (tE fm Wi al2 .fr fun ρ => bv (g ρ))) :
    PE X (.BoolOp .And (a :: b :: rest) pos) (tE fm Wi al t fun ρ => do let a ← f ρ; let c ← isTrueD a; if c then bv (g ρ) else pure (.bl false)) := by
  refine PE.imp (pe_and ha hb) fun σ H Q ⟨ρ, fps, er, h⟩ => ⟨ρ, fps, er, OKE.bind h fun d v H1 fp e hk s x => ?_⟩
  cases d with
  | bl c =>
    refine ⟨c, x.read.bl, ?_⟩
    cases c with
    | true =>
      have hk' : OKE fm Wi al t (bv (g ρ)) σ H fps Q := hk
      refine iteT ⟨ρ, fps, er.ext s, ?_⟩
      have h2 := OKE.ext s hk'
      show OKE fm Wi al2 .fr (bv (g ρ)) σ H1 fps Q
      cases e2 : bv (g ρ) with
      | ok d =>
        rw [e2] at h2
        intro v H2 fp s2 x2
        unfold bv at e2
        cases e3 : g ρ with
        | ok d3 =>
          rw [e3] at e2
          cases d3 with
          | bl b3 =>
            injection e2 with e2
            subst e2
            obtain rfl := x2.read.bl
            exact h2.bl s2
          | _ => cases e2
        | exn c ps => rw [e3] at e2; cases e2
        | stk => rw [e3] at e2; cases e2
      | exn c ps => rw [e2] at h2; exact h2
      | stk => rw [e2] at h2; exact h2
    | false => exact iteF (hk.bl s)
  | _ => exact hk.elim
theorem de_or {a b : Expr} {rest : List Expr} {pos : Pos} (ha : PE X a (tE fm Wi al1 .fr f)) (hb : PE X (.BoolOp .Or (b :: rest) pos) (tE fm Wi al2 .fr fun ρ => bv (g ρ))) :
    PE X (.BoolOp .Or (a :: b :: rest) pos) (tE fm Wi al t fun ρ => do let a ← f ρ; let c ← isTrueD a; if c then pure (.bl true) else bv (g ρ)) := by
  refine PE.imp (pe_or ha hb) fun σ H Q ⟨ρ, fps, er, h⟩ => ⟨ρ, fps, er, OKE.bind h fun d v H1 fp e hk s x => ?_⟩
  cases d with
  | bl c =>
    refine ⟨c, x.read.bl, ?_⟩
    cases c with
    | false =>
      have hk' : OKE fm Wi al t (bv (g ρ)) σ H fps Q := hk
      refine iteF ⟨ρ, fps, er.ext s, ?_⟩
      have h2 := OKE.ext s hk'
      show OKE fm Wi al2 .fr (bv (g ρ)) σ H1 fps Q
      cases e2 : bv (g ρ) with
      | ok d =>
        rw [e2] at h2
        intro v H2 fp s2 x2
        unfold bv at e2
        cases e3 : g ρ with
        | ok d3 =>
          rw [e3] at e2
          cases d3 with
          | bl b3 =>
            injection e2 with e2
            subst e2
            obtain rfl := x2.read.bl
            exact h2.bl s2
          | _ => cases e2
        | exn c ps => rw [e3] at e2; cases e2
        | stk => rw [e3] at e2; cases e2
      | exn c ps => rw [e2] at h2; exact h2
      | stk => rw [e2] at h2; exact h2
    | true => exact iteT (hk.bl s)
  | _ => exact hk.elim
theorem de_ite {c a b : Expr} {pos : Pos} {k : Rho → R D} (hc : PT X c (tTT fm Wi fun ρ => k ρ >>= isTrueD)) (ha : PE X a (tE fm Wi al t f)) (hb : PE X b (tE fm Wi al t g)) :
    PE X (.IfExp c a b pos) (tE fm Wi al t fun ρ => do let x ← k ρ; let c ← isTrueD x; if c then f ρ else g ρ) := by
  refine PE.imp (pe_ifExp hc ha hb) fun σ H Q ⟨ρ, fps, er, h⟩ => ⟨ρ, fps, er, ?_⟩
  dsimp only at h ⊢
  cases e : k ρ with
  | ok d =>
    rw [e] at h
    cases d with
    | bl b =>
      intro H1 s1
      cases b with
      | true => exact iteT ⟨ρ, fps, er.ext s1, OKE.ext s1 h⟩
      | false => exact iteF ⟨ρ, fps, er.ext s1, OKE.ext s1 h⟩
    | _ => exact h.elim
  | exn c ps => rw [e] at h; exact h
  | stk => rw [e] at h; exact h
theorem de_flat {a : Expr} (ha : PE X a (tE fm Wi al1 .fr f)) : PE X a (tE fm Wi al t fun ρ => do let x ← f ρ; if x.noMut then pure x else .stk) := by
  refine PE.imp ha fun σ H Q ⟨ρ, fps, er, h⟩ => ⟨ρ, fps, er, OKE.bind h fun d v H1 fp e hk s x => ?_⟩
  by_cases m : d.noMut = true
  · rw [if_pos m] at hk
    exact hk v H1 [] s (XR.of_flat x.read m)
  · rw [if_neg m] at hk
    exact hk.elim
end
end L2.Py

set_option Elab.async false
set_option linter.all false
set_option maxRecDepth 100000
set_option maxHeartbeats 1000000
/-! PyE7: subscripts, slices, built-in functions, methods. -/
namespace L2.Py
open PySem PySem.Spec PyProof.Rows TL
section
variable {X : Cx} {fm : Fm} {Wi : WX} {al al1 al2 : Bool} {t : OT} {f g : Rho → R D}
/-! ### subscripts -/
theorem ix_dict (hu : X.A.units + 1 < cLine) : IxR X (fun x y H Q => ∃ a v, x = .ref a ∧ DGet H a y (some v) ∧ Q v H) := by
  intro value slice pins s σ H x y v u Q I rx ry h hs
  obtain ⟨a, v', rfl, g, q⟩ := h
  obtain rfl : v = Value.ref a := rx
  have hT := dict_typeIs I g
  unfold subscriptTail
  refine wpAny_bind ?_
  rw [getitemInPython_of_ne hT.not_modules]
  refine wpAny_bind (wpAny_specialOf hT PySem.F.slot_dict_getitem.lookup ?_)
  have fin : wpAny (model X.prog X.w) X.A (subscripted slice false (.ref a) u) (fun r s₃ => wpAny (model X.prog X.w) X.A (letTemporaryGo value (.ref a) r >>= fun _ => pure r) (EP X pins σ Q) X.xe s₃) X.xe s := by
    rw [hs]
    exact wpAny_operating (d_getItem hu I g ry fun w' s3 I3 rw' => wpAny_bind (wpAny_letTemporaryGo (wpAny_pure ⟨v', H, I3, rw', q⟩)))
  first
    | exact wpAny_pure (wpAny_bind fin)
    | exact wpAny_bind (wpAny_pure (wpAny_bind fin))
    | exact wpAny_bind fin
theorem ixAt {α β : Type} {xs : List α} {ys : List β} {i : Int} {x : α} (h : atD xs i = .ok x) (hl : ys.length = xs.length) : ∃ j : Nat, xs[j]? = some x ∧ ∀ y, ys[j]? = some y → atI ys i = some y := by
  unfold atD ofOpt at h
  cases e : (ixOf xs.length i) with
  | none => rw [e] at h; cases h
  | some j =>
    rw [e] at h
    cases e2 : xs[j]? with
    | none => simp only [Option.bind_some, e2] at h; cases h
    | some z =>
      simp only [Option.bind_some, e2] at h
      injection h with h
      subst h
      refine ⟨j, e2, fun y hy => ?_⟩
      have e' : ixN ys.length i = some j := by rw [hl]; exact e
      unfold atI
      rw [e', Option.bind_some]
      exact hy
def rIxAny (K : PySem.W.Frag) : R2 := fun x y H Q => rIx K x y H Q ∨ ∃ a v, x = .ref a ∧ DGet H a y (some v) ∧ Q v H
theorem scr_sq {H : Hp} {ns : List Int} {v : V} (h : RdR fm H (.scr ns) v) : ∃ a, v = .ref a ∧ SqL fm.K H a (ns.map V.int) := by
  simp only [RdR, Rep] at h
  obtain ⟨⟨a, rfl, h⟩, _⟩ := h
  refine ⟨a, rfl, ?_⟩
  rcases h with ⟨o, h⟩ | h
  · exact .inl (.inr ⟨o, h⟩)
  · exact .inr h
theorem de_idx {a b : Expr} {pos : Pos} (hK : fm.K = X.K) (hu : X.A.units + 64 < cLine) (hb' : noSl b = true) (ha : PE X a (tE fm Wi al1 .fr f)) (hb : PE X b (tE fm Wi al2 .fr g)) :
    PE X (.Subscript a b pos) (tE fm Wi al1 .fr fun ρ => do let x ← f ρ; let y ← g ρ; idxD x y) := by
  refine PE.imp (pe_ix (ix_seq.or (ix_dict (by omega))) ha hb (ix_of hb')) fun σ H Q ⟨ρ, fps, er, h⟩ => ?_
  rw [← hK]
  refine tE2 er h fun x y v u H2 s2 xx xy hk => ?_
  unfold idxD at hk
  split at hk
  · split at hk
    · obtain ⟨p, vs, rfl, e1, x1⟩ := xx.lst
      obtain rfl := xy.read.int
      rename_i xs _ k
      cases e : atD xs k with
      | ok d =>
        rw [e] at hk
        obtain ⟨j, hj, hv⟩ := ixAt e (RepL.length x1.rep)
        obtain ⟨v', hv', r⟩ := RepL.get x1.rep hj
        exact .inl (.inl ⟨p, vs, k, v', rfl, rfl, SqL.of e1, hv v' hv', hk v' H2 [] s2 ⟨r, List.nodup_nil, fun _ h => nomatch h⟩⟩)
      | exn c ps => exfalso; unfold atD ofOpt at e; split at e <;> cases e
      | stk => rw [e] at hk; exact hk.elim
    · exact hk.elim
  · split at hk
    · obtain ⟨p, vs, rfl, e1, x1⟩ := xx.tup
      obtain rfl := xy.read.int
      rename_i xs _ k
      cases e : atD xs k with
      | ok d =>
        rw [e] at hk
        obtain ⟨j, hj, hv⟩ := ixAt e (RepL.length x1.rep)
        obtain ⟨v', hv', r⟩ := RepL.get x1.rep hj
        exact .inl (.inr (.inl ⟨p, vs, k, v', rfl, rfl, SqT.of e1, hv v' hv', hk v' H2 [] s2 ⟨r, List.nodup_nil, fun _ h => nomatch h⟩⟩))
      | exn c ps => exfalso; unfold atD ofOpt at e; split at e <;> cases e
      | stk => rw [e] at hk; exact hk.elim
    · exact hk.elim
  · split at hk
    · split at hk
      · rename_i s _ k hl
        obtain rfl := xx.read.str
        obtain rfl := xy.read.int
        cases e : atD s k with
        | ok d =>
          rw [e] at hk
          obtain ⟨j, hj, hv⟩ := ixAt (ys := (toS s).cps.toList) e rfl
          refine .inl (.inr (.inr ⟨toS s, k, d, rfl, rfl, by rw [toS_len, ← lim_line]; exact hl, hv d hj, ?_⟩))
          exact OKE.str (show OKE fm Wi al1 .fr (.ok (.str [d])) σ H fps Q from hk) s2
        | exn c ps => exfalso; unfold atD ofOpt at e; split at e <;> cases e
        | stk => rw [e] at hk; exact hk.elim
      · exact hk.elim
    · exact hk.elim
  · split at hk
    · rename_i b es hko
      obtain ⟨p, o, rfl, g, _, z⟩ := dget_of hko xx.rep xy.read
      rcases z with ⟨z1, z2⟩ | ⟨d, v', z1, z2, z3⟩
      · rw [z1] at hk; exact hk.elim
      · rw [z1] at hk
        subst z2
        exact .inr ⟨p, v', rfl, g, hk v' H2 [] s2 ⟨z3, List.nodup_nil, fun _ h => nomatch h⟩⟩
    · exact hk.elim
  · split at hk
    · rename_i ns _ k
      obtain ⟨p, rfl, e1⟩ := scr_sq xx.read
      obtain rfl := xy.read.int
      cases e : atD ns k with
      | ok d =>
        rw [e] at hk
        obtain ⟨j, hj, hv⟩ := ixAt (ys := ns.map V.int) e (by simp)
        exact .inl (.inl ⟨p, _, k, .int d, rfl, rfl, e1, hv _ (by simp [hj]), OKE.int (show OKE fm Wi al1 .fr (.ok (.int d)) σ H fps Q from hk) s2⟩)
      | exn c ps => exfalso; unfold atD ofOpt at e; split at e <;> cases e
      | stk => rw [e] at hk; exact hk.elim
    · exact hk.elim
  · exact hk.elim

/-! ### slices -/
def OKO (fm : Fm) (Wi : WX) (r : R (Option Int)) (σ : St) (H : Hp) (Q : Option Int → Hp → Prop) : Prop :=
  match r with
  | .ok b => ∀ H', Same H H' → Q b H'
  | .exn c ps => ∀ cls dx H', Same H H' → ExnR fm H' c ps cls dx → Wi cls dx σ H'
  | .stk => False
def tOo (fm : Fm) (Wi : WX) (f : Rho → R (Option Int)) : TO := fun σ H Q => ∃ ρ fps, ER fm ρ σ H fps ∧ OKO fm Wi (f ρ) σ H Q
theorem PO.imp {e : Option Expr} {t t' : TO} (p : PO X e t) (h : ∀ σ H Q, t' σ H Q → t σ H Q) : PO X e t' := ⟨fun pins s σ H Q I q => p.run pins s σ H Q I (h σ H Q q)⟩
theorem do_none : PO X none (tOo fm Wi fun _ => .ok none) := PO.imp po_none fun σ H Q ⟨ρ, fps, er, h⟩ => h H (Same.refl _)
theorem do_some {e : Expr} (he : PE X e (tE fm Wi al .fr f)) : PO X (some e) (tOo fm Wi fun ρ => f ρ >>= oneI) :=
  PO.imp (po_some he) fun σ H Q ⟨ρ, fps, er, h⟩ => ⟨ρ, fps, er, by
    dsimp only at h
    cases e : f ρ with
    | ok d =>
      rw [e] at h
      intro v H' fp s x
      cases d with
      | int i => exact ⟨i, x.read.int, h H' s⟩
      | _ => exact h.elim
    | exn c ps => rw [e] at h; exact h
    | stk => rw [e] at h; exact h⟩
theorem RepL.sub {K : PySem.W.Frag} {H : Hp} {F : Addr → Prop} : ∀ {ds : List D} {vs : List V}, RepL K H F ds frs0 vs [] → ∀ n, RepL K H F (ds.drop n) frs0 (vs.drop n) [] ∧ RepL K H F (ds.take n) frs0 (vs.take n) []
  | [], vs, h, n => by
    obtain ⟨rfl, _⟩ := h.nil_inv
    simp only [List.drop_nil, List.take_nil]
    exact ⟨RepL.nil, RepL.nil⟩
  | d :: ds, vs, h, n => by
    obtain ⟨v, r, f1, f2, rfl, e2, h1, h2⟩ := h.uncons
    have h1' := (Rep.fr_nil h1).2
    have h2' := (RepL.fr_nil h2).2
    cases n with
    | zero => exact ⟨RepL.cons (f1 := []) (f2 := []) h1' h2', RepL.nil⟩
    | succ n =>
      obtain ⟨q1, q2⟩ := RepL.sub h2' n
      exact ⟨q1, RepL.cons (f1 := []) (f2 := []) h1' q2⟩
theorem XRL.cut {H H2 : Hp} {fps : Fps} {ds : List D} {vs : List V} (x : XRL fm fps H H2 al ds frs0 vs []) (lo hi : Option Int) : XRL fm fps H H2 al (cutL ds lo hi) frs0 (cutV vs lo hi) [] := by
  have hl := RepL.length x.rep
  refine ⟨?_, List.nodup_nil, fun _ h => nomatch h⟩
  unfold cutL cutV
  rw [hl]
  exact (RepL.sub (RepL.sub x.rep _).1 _).2
theorem XRL.ints {H H2 : Hp} {fps : Fps} : ∀ ns : List Int, XRL fm fps H H2 al (ns.map .int) frs0 (ns.map V.int) []
  | [] => XRL.nil
  | n :: ns => ⟨RepL.cons (f1 := []) (f2 := []) (by simp only [Rep]; exact ⟨trivial, trivial⟩) (XRL.ints ns).rep, List.nodup_nil, fun _ h => nomatch h⟩
theorem map_cut {α β : Type} (f : α → β) (xs : List α) (lo hi : Option Int) : (cutL xs lo hi).map f = cutL (xs.map f) lo hi := by
  unfold cutL
  rw [List.map_take, List.map_drop, List.length_map]
def rSlAny (K : PySem.W.Frag) : V → Option Int → Option Int → Hp → VK → Prop := fun x lo hi H Q => rSlL K x lo hi H Q ∨ rSlS x lo hi H Q ∨ rSlT K x lo hi H Q
theorem sl_any : SlR X (rSlAny X.K) := sl_list.or (sl_str.or sl_tup)
theorem de_slc {a : Expr} {lo hi : Option Expr} {p2 pos : Pos} {fl fh : Rho → R (Option Int)} (hK : fm.K = X.K) (ht : t.elem = .fr ∧ (∀ i, t.comps i = .fr)) (ha : PE X a (tE fm Wi al1 .fr f)) (hl : PO X lo (tOo fm Wi fl)) (hh : PO X hi (tOo fm Wi fh)) :
    PE X (.Subscript a (.Slice lo hi none p2) pos) (tE fm Wi al1 t fun ρ => do let x ← f ρ; let l ← fl ρ; let h ← fh ρ; slcD x l h) := by
  refine PE.imp (pe_slice sl_any ha hl hh) fun σ H Q ⟨ρ, fps, er, h⟩ => ⟨ρ, fps, er, OKE.bind h fun d v H1 fp e hk s x => ?_⟩
  obtain rfl := x.fr
  refine ⟨ρ, fps, er.ext s, ?_⟩
  cases e1 : fl ρ with
  | exn c ps => rw [e1] at hk; exact fun cls dx H' s2 => hk cls dx H' (s.trans s2)
  | stk => rw [e1] at hk; exact hk
  | ok l =>
    rw [e1] at hk
    intro H2 s2
    refine ⟨ρ, fps, er.ext (s.trans s2), ?_⟩
    cases e2 : fh ρ with
    | exn c ps =>
      have hk' : OKE fm Wi al1 t (fh ρ >>= fun h => slcD d l h) σ H fps Q := hk
      rw [e2] at hk'
      exact fun cls dx H' s3 => hk' cls dx H' ((s.trans s2).trans s3)
    | stk =>
      have hk' : OKE fm Wi al1 t (fh ρ >>= fun h => slcD d l h) σ H fps Q := hk
      rw [e2] at hk'
      exact hk'
    | ok u =>
      have hk' : OKE fm Wi al1 t (fh ρ >>= fun h => slcD d l h) σ H fps Q := hk
      rw [e2] at hk'
      intro H3 s3
      have x3 := x.lift (s2.trans s3)
      have s13 := (s.trans s2).trans s3
      have hk2 : OKE fm Wi al1 t (slcD d l u) σ H fps Q := hk'
      unfold slcD at hk2
      rw [← hK]
      split at hk2
      · obtain ⟨p, vs, rfl, q1, x1⟩ := x3.lst
        exact .inl ⟨p, vs, rfl, SqL.of q1, hk2.newL ht.1 s13 (x1.cut l u)⟩
      · split at hk2
        · exact hk2.elim
        · rename_i xs hw
          obtain ⟨p, vs, rfl, q1, x1⟩ := x3.tup
          have hlen := RepL.length x1.rep
          refine .inr (.inr ⟨p, vs, rfl, SqT.of q1, by rw [hlen]; exact hw, fun p hp => ?_⟩)
          have y := x1.cut l u
          have y' : XRL fm fps H H3 al1 (cutL xs l u) t.comps (cutV vs l u) [] := by
            have e : t.comps = frs0 := funext ht.2
            rw [e]; exact y
          exact hk2 _ _ [] (sameUpd s13 hp) (XRL.newT hp y')
      · rename_i ns
        obtain ⟨p, rfl, q1⟩ := scr_sq x3.read
        refine .inl ⟨p, _, rfl, q1, ?_⟩
        have y := (XRL.ints (fm := fm) (fps := fps) (H := H) (H2 := H3) (al := al1) ns).cut l u
        rw [← map_cut] at y
        exact hk2.newL ht.1 s13 y
      · split at hk2
        · rename_i z hz
          obtain rfl := x3.read.str
          refine .inr (.inl ⟨toS z, rfl, by rw [toS_len, ← lim_line]; exact hz, ?_⟩)
          have e : cutS (toS z) l u = toS (cutL z l u) := by unfold cutS cutL toS; rfl
          rw [e]
          exact hk2.str s13
        · exact hk2.elim
      · exact hk2.elim
end
end L2.Py

set_option Elab.async false
set_option linter.all false
set_option maxRecDepth 100000
set_option maxHeartbeats 1000000
/-! PyE8: built-in functions. -/
namespace L2.Py
open PySem PySem.Spec PyProof.Rows TL

/-! ### the least and the greatest -/
theorem wle_lt : ∀ a b : W, wle a b = !decide (b < a)
  | [], b => by
    have h : ¬ (b < []) := List.not_lt_nil b
    rw [decide_eq_false h]; cases b <;> rfl
  | a :: as, [] => by
    rw [decide_eq_true (List.nil_lt_cons a as)]; rfl
  | a :: as, b :: bs => by
    show (if a = b then wle as bs else decide (a < b)) = _
    by_cases e : a = b
    · subst e
      rw [if_pos rfl, wle_lt as bs]
      have q : (a :: bs < a :: as) ↔ bs < as := by simp
      by_cases h : bs < as
      · rw [decide_eq_true h, decide_eq_true (q.mpr h)]
      · rw [decide_eq_false h, decide_eq_false (fun z => h (q.mp z))]
    · rw [if_neg e]
      have q : (b :: bs < a :: as) ↔ b < a := by
        rw [List.cons_lt_cons_iff]
        constructor
        · rintro (h | ⟨h, _⟩)
          · exact h
          · exact absurd h.symm e
        · exact .inl
      by_cases h : b < a
      · rw [decide_eq_true (q.mpr h), decide_eq_false (by omega)]; rfl
      · rw [decide_eq_false (fun z => h (q.mp z)), decide_eq_true (by omega)]; rfl
/-- the best by a test, one after the other -/
theorem argBest_fold {α : Type} (d : α) (x : α) (xs : List α) (f : α → α → Bool) (bt : Nat → Nat → Bool) (hb : ∀ i j, i ≤ xs.length → j ≤ xs.length → bt i j = !f ((x :: xs).getD j d) ((x :: xs).getD i d)) :
    ∀ k, k ≤ xs.length → argBest bt k ≤ k ∧ (x :: xs).getD (argBest bt k) d = (xs.take k).foldl (fun m y => if f m y then m else y) x
  | 0, _ => ⟨Nat.le_refl _, rfl⟩
  | k + 1, hk => by
    obtain ⟨h1, h2⟩ := argBest_fold d x xs f bt hb k (by omega)
    have hx : xs[k]? = some xs[k] := List.getElem?_eq_getElem (by omega)
    have e1 : xs.take (k + 1) = xs.take k ++ [xs[k]] := by rw [List.take_add_one, hx]; rfl
    have e2 : (x :: xs).getD (k + 1) d = xs[k] := by simp [List.getD, hx]
    rw [e1, List.foldl_append, ← h2]
    show _ ∧ _ = if f _ xs[k] = true then _ else xs[k]
    have hbt := hb (k + 1) (argBest bt k) hk (by omega)
    rw [e2] at hbt
    have hA : argBest bt (k + 1) = if bt (k + 1) (argBest bt k) then k + 1 else argBest bt k := rfl
    rw [hA, hbt]
    generalize hm : (x :: xs).getD (argBest bt k) d = m
    cases hf : f m xs[k] with
    | true =>
      rw [if_neg (by simp), if_pos rfl]
      exact ⟨by omega, hm⟩
    | false =>
      rw [if_pos (by simp), if_neg (by simp)]
      exact ⟨Nat.le_refl _, e2⟩
def minW (x : W) (xs : List W) : W := xs.foldl (fun m y => if wle m y then m else y) x
def maxW (x : W) (xs : List W) : W := xs.foldl (fun m y => if wle y m then m else y) x
section
variable {prog : Program} {w : World} {A : Around} {E : Value → Shared → Prop} {s : Shared} {l : Addr}
theorem itsAt {x : W} {xs : List W} {its : List Value} (hv : Vals ((x :: xs).map fun z => V.str (toS z)) its) {i : Nat} {v : Value} (h : its.toArray[i]? = some v) : i ≤ xs.length ∧ ∃ t, v = .str (toS ((x :: xs).getD i [])) t := by
  have h' : its[i]? = some v := by simpa using h
  have hl := hv.length
  have hi : i < its.length := (List.getElem?_eq_some_iff.mp h').1
  rw [List.length_map, List.length_cons] at hl
  have e : ((x :: xs).map fun z => V.str (toS z))[i]? = some (V.str (toS ((x :: xs).getD i []))) := by
    rw [List.getElem?_map]
    have : (x :: xs)[i]? = some ((x :: xs)[i]'(by rw [List.length_cons]; omega)) := List.getElem?_eq_getElem _
    rw [this]
    simp [List.getD, this]
  obtain ⟨u, e2, r⟩ := hv.get e
  rw [h'] at e2
  cases e2
  exact ⟨by omega, r⟩
theorem iterL {its : List Value} {Q : Value → Shared → Prop} (hl : s.heap.IsList l its.toArray)
    (h : ∀ s₂ : Shared, s₂ = { s with heap := s.heap.push { cls := .type "list_iterator", data := .fields #[.ref l, .int 0 0] } } →
      (s₂.heap.IsListIter s.heap.objs.size l 0 ∧ s₂.heap.IsList l its.toArray) → (∀ b ∈ [s.heap.objs.size, l], b < s₂.heap.objs.size) → l ≠ s.heap.objs.size → Q (.ref s.heap.objs.size) s₂) :
    wpAny (model prog w) A (pyIter (.ref l)) Q E s := by
  have hlt : l < s.heap.objs.size := by obtain ⟨_, e, _⟩ := hl; exact Heap.lt_size e
  refine wpAny_pyIter_list hl (h _ rfl ⟨⟨_, Heap.get?_push_size _ rfl, rfl, rfl⟩, hl.push _⟩ (fun b hb => ?_) (Nat.ne_of_lt hlt))
  show b < (s.heap.push _).objs.size
  rw [Heap.size_push]
  rcases List.mem_cons.mp hb with rfl | hb
  · exact Nat.lt_succ_self _
  · rcases List.mem_cons.mp hb with rfl | hb
    · exact Nat.lt_succ_of_lt hlt
    · cases hb
theorem min_strs {x : W} {xs : List W} {its : List Value} {Q : Value → Shared → Prop} (hh : A.handled = none) (hl : s.heap.IsList l its.toArray) (hv : Vals ((x :: xs).map fun z => V.str (toS z)) its)
    (h : ∀ h' tk t, (∀ b o, s.heap.get? b = some o → h'.get? b = some o) → Q (.str (toS (minW x xs)) t) { s with heap := h', toks := tk }) : wpAny (model prog w) A (call (.builtin "min") [.ref l]) Q E s := by
  have hlen := hv.length
  rw [List.length_map, List.length_cons] at hlen
  have hsz : its.toArray.size = xs.length + 1 := by rw [List.size_toArray]; omega
  refine call_min_walk (iterL hl fun s₂ e st hfp hlI => ?_)
  subst e
  refine ⟨_, _, _, _, _, _, fun i j => decide ((x :: xs).getD i [] < (x :: xs).getD j []), rfl, Walks.list (A := A.in1) hh _ l hlI its.toArray, st, hfp, by omega, fun i j vi vj s Q E hi hj q => ?_, fun v h' tk hP hk => ?_⟩
  · obtain ⟨_, t, rfl⟩ := itsAt hv hi
    obtain ⟨_, u, rfl⟩ := itsAt hv hj
    exact P.lt_str q
  · rw [hsz] at hP
    obtain ⟨_, t, rfl⟩ := itsAt hv hP
    have q := (argBest_fold [] x xs wle (fun i j => decide ((x :: xs).getD i [] < (x :: xs).getD j [])) (fun i j _ _ => by rw [wle_lt, Bool.not_not]) xs.length (Nat.le_refl _)).2
    rw [List.take_length] at q
    have e : xs.length + 1 - 1 = xs.length := by omega
    rw [e, q]
    exact h h' tk t (old_kept hk)
theorem max_strs {x : W} {xs : List W} {its : List Value} {Q : Value → Shared → Prop} (hh : A.handled = none) (hl : s.heap.IsList l its.toArray) (hv : Vals ((x :: xs).map fun z => V.str (toS z)) its)
    (h : ∀ h' tk t, (∀ b o, s.heap.get? b = some o → h'.get? b = some o) → Q (.str (toS (maxW x xs)) t) { s with heap := h', toks := tk }) : wpAny (model prog w) A (call (.builtin "max") [.ref l]) Q E s := by
  have hlen := hv.length
  rw [List.length_map, List.length_cons] at hlen
  have hsz : its.toArray.size = xs.length + 1 := by rw [List.size_toArray]; omega
  refine call_max_walk (iterL hl fun s₂ e st hfp hlI => ?_)
  subst e
  refine ⟨_, _, _, _, _, _, fun i j => decide ((x :: xs).getD j [] < (x :: xs).getD i []), rfl, Walks.list (A := A.in1) hh _ l hlI its.toArray, st, hfp, by omega, fun i j vi vj s Q E hi hj q => ?_, fun v h' tk hP hk => ?_⟩
  · obtain ⟨_, t, rfl⟩ := itsAt hv hi
    obtain ⟨_, u, rfl⟩ := itsAt hv hj
    exact P.gt_str q
  · rw [hsz] at hP
    obtain ⟨_, t, rfl⟩ := itsAt hv hP
    have q := (argBest_fold [] x xs (fun m y => wle y m) (fun i j => decide ((x :: xs).getD j [] < (x :: xs).getD i [])) (fun i j _ _ => by rw [wle_lt, Bool.not_not]) xs.length (Nat.le_refl _)).2
    rw [List.take_length] at q
    have e : xs.length + 1 - 1 = xs.length := by omega
    rw [e, q]
    exact h h' tk t (old_kept hk)
end
section
variable {X : Cx} {fm : Fm} {Wi : WX} {al al1 al2 : Bool} {t : OT} {f g : Rho → R D}
def rMinS (K : PySem.W.Frag) : List V → Hp → VK → Prop := fun vs H Q => ∃ (a : Addr) (x : W) (xs : List W), vs = [V.ref a] ∧ SqL K H a ((x :: xs).map fun z => V.str (toS z)) ∧ Q (.str (toS (minW x xs))) H
def rMaxS (K : PySem.W.Frag) : List V → Hp → VK → Prop := fun vs H Q => ∃ (a : Addr) (x : W) (xs : List W), vs = [V.ref a] ∧ SqL K H a ((x :: xs).map fun z => V.str (toS z)) ∧ Q (.str (toS (maxW x xs))) H
theorem cr_minS (hc : X.calm = true) : CallR X (.builtin "min") (rMinS X.K) := by
  intro pins s σ H vs us Q I r h
  obtain ⟨a, x, xs, rfl, hs, q⟩ := h
  obtain ⟨its, rv, hl, _⟩ := I.list hs
  rw [Vals.ref1 r]
  exact min_strs (I.ok.hd hc) hl.isList rv fun h' tk t' hk => ⟨.str _, H, I.kept hk, ⟨_, rfl⟩, q⟩
theorem cr_maxS (hc : X.calm = true) : CallR X (.builtin "max") (rMaxS X.K) := by
  intro pins s σ H vs us Q I r h
  obtain ⟨a, x, xs, rfl, hs, q⟩ := h
  obtain ⟨its, rv, hl, _⟩ := I.list hs
  rw [Vals.ref1 r]
  exact max_strs (I.ok.hd hc) hl.isList rv fun h' tk t' hk => ⟨.str _, H, I.kept hk, ⟨_, rfl⟩, q⟩
theorem strsHas {H : Hp} : ∀ {ds : List D} {vs : List V}, ds.all Sh.str.has = true → RdL fm H ds vs → ∃ ws : List W, ds = ws.map .str ∧ vs = ws.map fun z => V.str (toS z)
  | [], vs, _, h => by
    obtain ⟨rfl, _⟩ := h.nil_inv
    exact ⟨[], rfl, rfl⟩
  | d :: ds, vs, ha, h => by
    obtain ⟨v, r, f1, f2, rfl, e2, h1, h2⟩ := h.uncons
    simp only [List.all_cons, Bool.and_eq_true] at ha
    obtain ⟨ws, rfl, rfl⟩ := strsHas ha.2 (RepL.fr_nil h2).2
    cases d with
    | str w =>
      have : RdR fm H (.str w) v := (Rep.fr_nil h1).2
      obtain rfl := this.str
      exact ⟨w :: ws, rfl, rfl⟩
    | _ => exact absurd ha.1 (by simp [Sh.has])
theorem intsHas {H : Hp} : ∀ {ds : List D} {vs : List V}, ds.all Sh.int.has = true → RdL fm H ds vs → ∃ ns : List Int, ds = ns.map .int ∧ vs = ns.map V.int
  | [], vs, _, h => by
    obtain ⟨rfl, _⟩ := h.nil_inv
    exact ⟨[], rfl, rfl⟩
  | d :: ds, vs, ha, h => by
    obtain ⟨v, r, f1, f2, rfl, e2, h1, h2⟩ := h.uncons
    simp only [List.all_cons, Bool.and_eq_true] at ha
    obtain ⟨ws, rfl, rfl⟩ := intsHas ha.2 (RepL.fr_nil h2).2
    cases d with
    | int w =>
      have : RdR fm H (.int w) v := (Rep.fr_nil h1).2
      obtain rfl := this.int
      exact ⟨w :: ws, rfl, rfl⟩
    | _ => exact absurd ha.1 (by simp [Sh.has])
theorem fold_str (le : D → D → Bool) (le' : W → W → Bool) (h : ∀ a b, le (.str a) (.str b) = le' a b) : ∀ (xs : List W) (x : W), (xs.map D.str).foldl (fun m y => if le m y then m else y) (.str x) = .str (xs.foldl (fun m y => if le' m y then m else y) x)
  | [], _ => rfl
  | y :: ys, x => by
    simp only [List.map_cons, List.foldl_cons, h]
    cases le' x y with
    | true => exact fold_str le le' h ys x
    | false => exact fold_str le le' h ys y
theorem fold_int (le : D → D → Bool) (le' : Int → Int → Bool) (h : ∀ a b, le (.int a) (.int b) = le' a b) : ∀ (xs : List Int) (x : Int), (xs.map D.int).foldl (fun m y => if le m y then m else y) (.int x) = .int (xs.foldl (fun m y => if le' m y then m else y) x)
  | [], _ => rfl
  | y :: ys, x => by
    simp only [List.map_cons, List.foldl_cons, h]
    cases le' x y with
    | true => exact fold_int le le' h ys x
    | false => exact fold_int le le' h ys y
theorem fold_min (xs : List Int) : ∀ (x m : Int), m ∈ x :: xs → (∀ y ∈ x :: xs, m ≤ y) → xs.foldl (fun m y => if decide (m ≤ y) then m else y) x = m := by
  induction xs with
  | nil => intro x m h1 _; exact (List.mem_singleton.mp h1).symm
  | cons y ys ih =>
    intro x m h1 h2
    rw [List.foldl_cons]
    by_cases c : x ≤ y
    · rw [if_pos (decide_eq_true c)]
      refine ih x m ?_ fun z hz => h2 z ?_
      · rcases List.mem_cons.mp h1 with e | h1
        · rw [e]; exact List.mem_cons_self
        · rcases List.mem_cons.mp h1 with e | h1
          · have := h2 x List.mem_cons_self
            have : m = x := by omega
            rw [this]; exact List.mem_cons_self
          · exact List.mem_cons_of_mem _ h1
      · rcases List.mem_cons.mp hz with e | hz
        · rw [e]; exact List.mem_cons_self
        · exact List.mem_cons_of_mem _ (List.mem_cons_of_mem _ hz)
    · rw [if_neg (by simpa using c)]
      refine ih y m ?_ fun z hz => h2 z (List.mem_cons_of_mem _ hz)
      rcases List.mem_cons.mp h1 with e | h1
      · have := h2 y (List.mem_cons_of_mem _ List.mem_cons_self)
        omega
      · exact h1
theorem fold_max (xs : List Int) : ∀ (x m : Int), m ∈ x :: xs → (∀ y ∈ x :: xs, y ≤ m) → xs.foldl (fun m y => if decide (y ≤ m) then m else y) x = m := by
  induction xs with
  | nil => intro x m h1 _; exact (List.mem_singleton.mp h1).symm
  | cons y ys ih =>
    intro x m h1 h2
    rw [List.foldl_cons]
    by_cases c : y ≤ x
    · rw [if_pos (decide_eq_true c)]
      refine ih x m ?_ fun z hz => h2 z ?_
      · rcases List.mem_cons.mp h1 with e | h1
        · rw [e]; exact List.mem_cons_self
        · rcases List.mem_cons.mp h1 with e | h1
          · have := h2 x List.mem_cons_self
            have : m = x := by omega
            rw [this]; exact List.mem_cons_self
          · exact List.mem_cons_of_mem _ h1
      · rcases List.mem_cons.mp hz with e | hz
        · rw [e]; exact List.mem_cons_self
        · exact List.mem_cons_of_mem _ (List.mem_cons_of_mem _ hz)
    · rw [if_neg (by simpa using c)]
      refine ih y m ?_ fun z hz => h2 z (List.mem_cons_of_mem _ hz)
      rcases List.mem_cons.mp h1 with e | h1
      · have := h2 y (List.mem_cons_of_mem _ List.mem_cons_self)
        omega
      · exact h1
end
end L2.Py

set_option Elab.async false
set_option linter.all false
set_option maxRecDepth 100000
set_option maxHeartbeats 1000000
/-! PyE9: calls of built-in functions and methods. -/
namespace L2.Py
open PySem PySem.Spec PyProof.Rows TL
section
variable {X : Cx} {fm : Fm} {Wi : WX} {al al1 al2 : Bool} {t : OT} {f g : Rho → R D}
/-- what a call by values must do with what was evaluated -/
def Does (fm : Fm) (Wi : WX) (al1 al : Bool) (t : OT) (k : List D → R D) (r : List V → Hp → VK → Prop) : Prop :=
  ∀ {ds : List D} {vs : List V} {σ : St} {H H2 : Hp} {fps : Fps} {Q : VK}, Same H H2 → XRL fm fps H H2 al1 ds frs0 vs [] → OKE fm Wi al t (k ds) σ H fps Q → r vs H2 Q
theorem de_callB {id : String} {x : Str} {p pos : Pos} {e : Expr} {es : List Expr} {gs : Rho → R (List D)} {k : List D → R D} {r : List V → Hp → VK → Prop} (hc : CallR X (.builtin id) r) (hg : Gl X x) (hm : X.mg x = none) (hv : bootBuiltins x = some (.builtin id))
    (hn : x ≠ "__name__") (hd : (x == ("__debug__" : Str)) = false) (hs : (e :: es).all noStar = true) (ha : PA X (e :: es) (tL fm Wi al1 frs0 gs)) (hr : Does fm Wi al1 al t k r) :
    PE X (.Call (.Name x p) (e :: es) [] pos) (tE fm Wi al t fun ρ => do let xs ← gs ρ; k xs) := by
  simp only [List.all_cons, Bool.and_eq_true] at hs
  refine PE.imp (pe_callB hc hg hm hv ha hn hd (star_of hs.1) (back_of hs.2)) fun σ H Q ⟨ρ, fps, er, h⟩ => ⟨ρ, fps, er, OKL.bind h fun ds vs H1 fp e hk s x => ?_⟩
  obtain rfl := (RepL.fr_nil x.rep).1
  exact hr s x hk
theorem de_callTy {id : String} {x : Str} {p pos : Pos} {e : Expr} {es : List Expr} {gs : Rho → R (List D)} {k : List D → R D} {r : List V → Hp → VK → Prop} (hc : CallR X (.type id) r) (hg : Gl X x) (hm : X.mg x = none) (hv : bootBuiltins x = some (.type id))
    (hn : x ≠ "__name__") (hd : (x == ("__debug__" : Str)) = false) (hs : (e :: es).all noStar = true) (ha : PA X (e :: es) (tL fm Wi al1 frs0 gs)) (hr : Does fm Wi al1 al t k r) :
    PE X (.Call (.Name x p) (e :: es) [] pos) (tE fm Wi al t fun ρ => do let xs ← gs ρ; k xs) := by
  simp only [List.all_cons, Bool.and_eq_true] at hs
  refine PE.imp (pe_callTy hc hg hm hv ha hn hd (star_of hs.1) (back_of hs.2)) fun σ H Q ⟨ρ, fps, er, h⟩ => ⟨ρ, fps, er, OKL.bind h fun ds vs H1 fp e hk s x => ?_⟩
  obtain rfl := (RepL.fr_nil x.rep).1
  exact hr s x hk
theorem XRL.one {H H2 : Hp} {fps : Fps} {d : D} {vs : List V} (x : XRL fm fps H H2 al [d] frs0 vs []) : ∃ v, vs = [v] ∧ XR fm fps H H2 al d .fr v [] := by
  obtain ⟨v, r, f1, f2, rfl, e, h1, h2⟩ := x.rep.uncons
  obtain ⟨rfl, _⟩ := h2.nil_inv
  exact ⟨v, rfl, (Rep.fr_nil h1).2, List.nodup_nil, fun _ h => nomatch h⟩
theorem XRL.two {H H2 : Hp} {fps : Fps} {d e : D} {vs : List V} (x : XRL fm fps H H2 al [d, e] frs0 vs []) : ∃ v u, vs = [v, u] ∧ XR fm fps H H2 al d .fr v [] ∧ XR fm fps H H2 al e .fr u [] := by
  obtain ⟨v, r, f1, f2, rfl, e, h1, h2⟩ := x.rep.uncons
  obtain ⟨u, r, f3, f4, rfl, e, h3, h4⟩ := h2.uncons
  obtain ⟨rfl, _⟩ := h4.nil_inv
  exact ⟨v, u, rfl, ⟨(Rep.fr_nil h1).2, List.nodup_nil, fun _ h => nomatch h⟩, ⟨(Rep.fr_nil h3).2, List.nodup_nil, fun _ h => nomatch h⟩⟩
/-- a frozen dict, by its entries -/
theorem XR.dct {H H2 : Hp} {fps : Fps} {b : Bool} {es : List D} {v : V} (x : XR fm fps H H2 al (.dct b es) .fr v []) :
    ∃ a, v = .ref a ∧ ((b = false ∧ ∃ kvs, Rd H2 a (.dK kvs) ∧ RepM fm.K H2 (Fq fm fps H al []) es Key keyD .fr kvs []) ∨ (b = true ∧ ∃ kvs, Rd H2 a (.dT kvs) ∧ RepM fm.K H2 (Fq fm fps H al []) es (List Key) keyT .fr kvs [])) := by
  have h := x.rep
  simp only [Rep] at h
  obtain ⟨a, fp', rfl, h⟩ := h
  refine ⟨a, rfl, ?_⟩
  rcases h with ⟨rfl, kvs, ⟨⟨q1, _⟩, rfl⟩, q2⟩ | ⟨rfl, kvs, ⟨⟨q1, _⟩, rfl⟩, q2⟩
  · exact .inl ⟨rfl, kvs, q1, q2⟩
  · exact .inr ⟨rfl, kvs, q1, q2⟩

/-! ### len -/
def rLenD : List V → Hp → VK → Prop := fun xs H Q => ∃ a, xs = [.ref a] ∧ ((∃ kvs, Rd H a (.dK kvs) ∧ Q (.int kvs.length) H) ∨ ∃ kvs, Rd H a (.dT kvs) ∧ Q (.int kvs.length) H)
theorem call_lenDict : CallR X (.builtin "len") rLenD := by
  intro pins s σ H xs us Q I r h
  obtain ⟨a, rfl, h⟩ := h
  obtain ⟨u, rfl, rx⟩ := vals1 r
  obtain rfl : u = .ref a := rx
  rcases h with ⟨kvs, h, q⟩ | ⟨kvs, h, q⟩
  · exact d_len I h fun t s' I' => ⟨.int kvs.length, H, I', ⟨t, rfl⟩, q⟩
  · obtain ⟨z, hd, ys, rel, dd⟩ := dt_rd I.hok h
    have hl : kvs.length = ys.length := Paired.length rel
    rw [sizeLine_eq] at z
    refine call_len_dictH hd dd (by omega) ⟨.int kvs.length, H, I.tok _, ⟨s.toks + 1, ?_⟩, q⟩
    rw [hl]
theorem call_lenAny : CallR X (.builtin "len") (fun xs H Q => (∃ x n, xs = [x] ∧ LenV X.K x H n ∧ Q (.int n) H) ∨ rLenD xs H Q) := call_len.or call_lenDict
theorem do_len {sub : Sub} (hK : fm.K = X.K) : Does fm Wi al1 al t (bltD sub .len) (fun xs H Q => (∃ x n, xs = [x] ∧ LenV X.K x H n ∧ Q (.int n) H) ∨ rLenD xs H Q) := by
  intro ds vs σ H H2 fps Q s x h
  rw [← hK]
  unfold bltD at h
  split at h <;> first | contradiction | exact h.elim | skip
  · split at h
    · rename_i z hz
      obtain ⟨v, rfl, y⟩ := x.one
      obtain rfl := y.read.str
      exact .inl ⟨_, _, rfl, ⟨by rw [toS_len, ← lim_line]; exact hz, rfl⟩, by rw [toS_len]; exact h.int s⟩
    · exact h.elim
  · obtain ⟨v, rfl, y⟩ := x.one
    obtain ⟨a, us, rfl, e, y'⟩ := y.lst
    refine .inl ⟨_, us.length, rfl, .inl ⟨us, SqL.of e, rfl⟩, ?_⟩
    rw [RepL.length y'.rep]; exact h.int s
  · obtain ⟨v, rfl, y⟩ := x.one
    obtain ⟨a, us, rfl, e, y'⟩ := y.tup
    refine .inl ⟨_, us.length, rfl, .inr ⟨us, SqT.of e, rfl⟩, ?_⟩
    rw [RepL.length y'.rep]; exact h.int s
  · obtain ⟨v, rfl, y⟩ := x.one
    obtain ⟨a, rfl, yd⟩ := y.dct
    refine .inr ⟨a, rfl, ?_⟩
    rcases yd with ⟨rfl, kvs, q1, q2⟩ | ⟨rfl, kvs, q1, q2⟩
    · exact .inl ⟨kvs, q1, by rw [q2.length]; exact h.int s⟩
    · exact .inr ⟨kvs, q1, by rw [q2.length]; exact h.int s⟩
  · obtain ⟨v, rfl, y⟩ := x.one
    rename_i ns _
    obtain ⟨a, rfl, e⟩ := scr_sq y.read
    refine .inl ⟨_, (ns.map V.int).length, rfl, .inl ⟨_, e, rfl⟩, ?_⟩
    rw [List.length_map]; exact h.int s
/-! ### min, max -/
theorem do_min2 {sub : Sub} : Does fm Wi al1 al t (bltD sub .min2) (fun xs H Q => ∃ i j, xs = [.int i, .int j] ∧ Q (.int (if j < i then j else i)) H) := by
  intro ds vs σ H H2 fps Q s x h
  unfold bltD at h
  split at h <;> first | contradiction | exact h.elim | skip
  obtain ⟨v, u, rfl, y, z⟩ := x.two
  obtain rfl := y.read.int
  obtain rfl := z.read.int
  exact ⟨_, _, rfl, h.int s⟩
theorem do_max2 {sub : Sub} : Does fm Wi al1 al t (bltD sub .max2) (fun xs H Q => ∃ i j, xs = [.int i, .int j] ∧ Q (.int (if j > i then j else i)) H) := by
  intro ds vs σ H H2 fps Q s x h
  unfold bltD at h
  split at h <;> first | contradiction | exact h.elim | skip
  obtain ⟨v, u, rfl, y, z⟩ := x.two
  obtain rfl := y.read.int
  obtain rfl := z.read.int
  exact ⟨_, _, rfl, h.int s⟩
theorem do_min1 {sub : Sub} (hK : fm.K = X.K) : Does fm Wi al1 al t (bltD sub .min1) (fun vs H Q => rMin X.K vs H Q ∨ rMinS X.K vs H Q) := by
  intro ds vs σ H H2 fps Q s x h
  rw [← hK]
  unfold bltD at h
  split at h <;> first | contradiction | exact h.elim | skip
  obtain ⟨v, rfl, y⟩ := x.one
  obtain ⟨a, us, rfl, e, y'⟩ := y.lst
  unfold minL at h
  split at h
  · exact h.elim
  · split at h
    · split at h
      · rename_i _ i hh
        obtain ⟨ns, e1, e2⟩ := intsHas hh y'.read
        subst e2
        cases ns with
        | nil => cases e1
        | cons m ns =>
          injection e1 with e1 e3
          subst e3
          injection e1 with e1
          subst e1
          refine .inl ⟨a, _, rfl, SqL.of e, by simp, fun m hm hle => ?_⟩
          rw [fold_int D.le (fun a b => decide (a ≤ b)) (fun _ _ => rfl), fold_min ns i m hm hle] at h
          exact h.int s
      · exact h.elim
    · split at h
      · rename_i _ i hh
        obtain ⟨ns, e1, e2⟩ := strsHas hh y'.read
        subst e2
        cases ns with
        | nil => cases e1
        | cons m ns =>
          injection e1 with e1 e3
          subst e3
          injection e1 with e1
          subst e1
          refine .inr ⟨a, i, ns, rfl, SqL.of e, ?_⟩
          rw [fold_str D.le wle (fun _ _ => rfl)] at h
          exact h.str s
      · exact h.elim
    · exact h.elim
theorem do_max1 {sub : Sub} (hK : fm.K = X.K) : Does fm Wi al1 al t (bltD sub .max1) (fun vs H Q => rMax X.K vs H Q ∨ rMaxS X.K vs H Q) := by
  intro ds vs σ H H2 fps Q s x h
  rw [← hK]
  unfold bltD at h
  split at h <;> first | contradiction | exact h.elim | skip
  obtain ⟨v, rfl, y⟩ := x.one
  obtain ⟨a, us, rfl, e, y'⟩ := y.lst
  unfold maxL at h
  split at h
  · exact h.elim
  · split at h
    · split at h
      · rename_i _ i hh
        obtain ⟨ns, e1, e2⟩ := intsHas hh y'.read
        subst e2
        cases ns with
        | nil => cases e1
        | cons m ns =>
          injection e1 with e1 e3
          subst e3
          injection e1 with e1
          subst e1
          refine .inl ⟨a, _, rfl, SqL.of e, by simp, fun m hm hle => ?_⟩
          rw [fold_int (fun m y => y.le m) (fun a b => decide (b ≤ a)) (fun _ _ => rfl), fold_max ns i m hm hle] at h
          exact h.int s
      · exact h.elim
    · split at h
      · rename_i _ i hh
        obtain ⟨ns, e1, e2⟩ := strsHas hh y'.read
        subst e2
        cases ns with
        | nil => cases e1
        | cons m ns =>
          injection e1 with e1 e3
          subst e3
          injection e1 with e1
          subst e1
          refine .inr ⟨a, i, ns, rfl, SqL.of e, ?_⟩
          rw [fold_str (fun m y => y.le m) (fun a b => wle b a) (fun _ _ => rfl)] at h
          exact h.str s
      · exact h.elim
    · exact h.elim
/-! ### list, int, sum -/
theorem RepM.keysK {K : PySem.W.Frag} {H : Hp} {F F' : Addr → Prop} : ∀ {es : List D} {kvs : List (Key × V)}, RepM K H F es Key keyD .fr kvs [] → RepL K H F' (dkeys es) frs0 (kvs.map fun kv => kV kv.1) []
  | [], kvs, h => by
    obtain ⟨rfl, _⟩ := h.nil_inv
    exact RepL.nil
  | e :: es, kvs, h => by
    obtain ⟨k, v, r, f1, f2, d, rfl, e2, rfl, h1, h2⟩ := h.uncons
    obtain ⟨rfl, h1⟩ := Rep.fr_nil h1
    obtain rfl : f2 = [] := by simpa using e2
    refine RepL.cons (f1 := []) (f2 := []) ?_ (RepM.keysK h2)
    cases k with
    | inl i => simp only [keyD, kV, Rep]; exact ⟨trivial, trivial⟩
    | inr x => simp only [keyD, kV, Rep]; exact ⟨by rw [toS_tl], trivial⟩
theorem RepL.keys1 {K : PySem.W.Frag} {H : Hp} {F : Addr → Prop} : ∀ (ks : List Key), RepL K H F (ks.map keyD) frs0 (ks.map kV) []
  | [] => RepL.nil
  | k :: ks => by
    refine RepL.cons (f1 := []) (f2 := []) ?_ (RepL.keys1 ks)
    cases k with
    | inl i => simp only [keyD, kV, Rep]; exact ⟨trivial, trivial⟩
    | inr x => simp only [keyD, kV, Rep]; exact ⟨by rw [toS_tl], trivial⟩
theorem RepM.keysT {K : PySem.W.Frag} {H : Hp} {F F' : Addr → Prop} : ∀ {es : List D} {kvs : List (List Key × V)} {bs : List Addr}, RepM K H F es (List Key) keyT .fr kvs [] → IsKeys H kvs bs → RepL K H F' (dkeys es) frs0 (bs.map V.ref) []
  | [], kvs, bs, h, hb => by
    obtain ⟨rfl, _⟩ := h.nil_inv
    cases hb
    exact RepL.nil
  | e :: es, kvs, bs, h, hb => by
    obtain ⟨k, v, r, f1, f2, d, rfl, e2, rfl, h1, h2⟩ := h.uncons
    obtain ⟨rfl, h1⟩ := Rep.fr_nil h1
    obtain rfl : f2 = [] := by simpa using e2
    cases hb with
    | cons q1 q2 =>
      refine RepL.cons (f1 := []) (f2 := []) ?_ (RepM.keysT h2 q2)
      simp only [keyT, Rep]
      exact ⟨_, _, rfl, q1, RepL.keys1 k⟩
def rListK : List V → Hp → VK → Prop := fun xs H Q => ∃ p kvs, xs = [.ref p] ∧ Rd H p (.dK kvs) ∧ ∀ q, H q = none → Q (.ref q) (upd H q (.lst (kvs.map fun kv => kV kv.1)))
theorem call_listK (hc : X.calm = true) : CallR X (.type "list") rListK := by
  intro pins s σ H xs us Q I r h
  obtain ⟨p, kvs, rfl, hk, q⟩ := h
  obtain ⟨u, rfl, rx⟩ := vals1 r
  obtain rfl : u = Value.ref p := rx
  obtain ⟨z, lo, vs, rk, hd⟩ := dk_rd I.hok hk
  obtain ⟨ep, hat⟩ := hd.dictAt
  have hl : kvs.length = vs.length := Paired.length rk
  have hf := I.hok.fresh (Nat.le_refl _)
  refine PySem.W.kdl_call (PySem.W.kdl_dict (knd := mixKind X.prog X.w) (kvs := vs) (ep := ep) lo) (I.ok.hd hc) hat (hl ▸ z) fun h' tk acc c keep new items => ?_
  have rv : Vals (kvs.map fun kv => kV kv.1) acc.toList := by
    have el : acc.toList.length = acc.size := Array.length_toList
    refine vals_of_at ?_ fun j x w h1 h2 => ?_
    · rw [List.length_map, el, items.1, hl]
    · rw [Array.getElem?_toList] at h2
      obtain ⟨k, y, hky, hi⟩ := items.2 j w h2
      rw [List.getElem?_map, Option.map_eq_some_iff] at h1
      obtain ⟨kv, hkv, rfl⟩ := h1
      obtain ⟨u, hu, _⟩ := kv_get rk (k := kv.1) (v := kv.2) hkv
      rw [hky] at hu
      injection hu with hu
      rw [← (Prod.mk.inj hu).1]
      exact keyIs_rel hi
  have nw : ObjOk X.prog X.w (upd H s.heap.objs.size (.lst (kvs.map fun kv => kV kv.1))) h' s.heap.objs.size (.lst (kvs.map fun kv => kV kv.1)) :=
    ⟨by rw [List.length_map]; exact z, acc.toList, c, rv, by rw [Array.toArray_toList]; exact new⟩
  exact ⟨.ref _, _, I.laid keep (Nat.le_refl _) nw, rfl, q _ hf⟩
def rListAny (K : PySem.W.Frag) : List V → Hp → VK → Prop := fun vs H Q => (∃ p ys, vs = [.ref p] ∧ (SqL K H p ys ∨ SqT K H p ys) ∧ ∀ l, H l = none → Q (.ref l) (upd H l (.lst ys))) ∨ rListK vs H Q ∨
  ∃ d kvs, vs = [V.ref d] ∧ Rd H d (.dT kvs) ∧ ∀ p bs, H p = none → IsKeys H kvs bs → Q (.ref p) (upd H p (.lst (bs.map V.ref)))
theorem call_listAny (hc : X.calm = true) : CallR X (.type "list") (rListAny X.K) := call_list_of.or ((call_listK hc).or (call_list_dT hc))
theorem do_list {sub : Sub} (hK : fm.K = X.K) (ht : t.elem = .fr) (ha : al1 = true → al = true) : Does fm Wi al1 al t (bltD sub .list) (rListAny X.K) := by
  intro ds vs σ H H2 fps Q s x h
  rw [← hK]
  unfold bltD at h
  split at h <;> first | contradiction | exact h.elim | skip
  · obtain ⟨v, rfl, y⟩ := x.one
    obtain ⟨a, us, rfl, e, y'⟩ := y.lst
    exact .inl ⟨a, us, rfl, .inl (SqL.of e), h.newL ht s (y'.al_imp ha)⟩
  · obtain ⟨v, rfl, y⟩ := x.one
    obtain ⟨a, us, rfl, e, y'⟩ := y.tup
    exact .inl ⟨a, us, rfl, .inr (SqT.of e), h.newL ht s (y'.al_imp ha)⟩
  · obtain ⟨v, rfl, y⟩ := x.one
    obtain ⟨a, rfl, yd⟩ := y.dct
    rcases yd with ⟨rfl, kvs, q1, q2⟩ | ⟨rfl, kvs, q1, q2⟩
    · exact .inr (.inl ⟨a, kvs, rfl, q1, h.newL ht s ⟨q2.keysK, List.nodup_nil, fun _ h => nomatch h⟩⟩)
    · exact .inr (.inr ⟨a, kvs, rfl, q1, fun p bs hp hb => h.newL ht s ⟨q2.keysT hb, List.nodup_nil, fun _ h => nomatch h⟩ p hp⟩)
theorem do_int {sub : Sub} (hs : ∀ s : W, ∀ n : Nat, s.length ≤ 640 → readNat s = some n → intText? (toS s) = some (n : Int)) : Does fm Wi al1 al t (bltD sub .toInt)
    (fun xs H Q => ((∃ i, xs = [.int i] ∧ Q (.int i) H) ∨ ∃ k, xs = [.bl k] ∧ Q (.int (if k then 1 else 0)) H) ∨ ∃ a n, xs = [.str a] ∧ PySem.intText? a = some n ∧ a.length ≤ 640 ∧ Q (.int n) H) := by
  intro ds vs σ H H2 fps Q s x h
  unfold bltD at h
  split at h <;> first | contradiction | exact h.elim | skip
  · obtain ⟨v, rfl, y⟩ := x.one
    obtain rfl := y.read.int
    exact .inl (.inl ⟨_, rfl, h.int s⟩)
  · obtain ⟨v, rfl, y⟩ := x.one
    obtain rfl := y.read.bl
    exact .inl (.inr ⟨_, rfl, h.int s⟩)
  · split at h
    · rename_i z _ hz
      split at h
      · rename_i n hn
        obtain ⟨v, rfl, y⟩ := x.one
        obtain rfl := y.read.str
        exact .inr ⟨_, _, rfl, hs z n hz hn, by rw [toS_len]; exact hz, h.int s⟩
      · exact h.elim
    · exact h.elim
theorem getInts_eq : ∀ {ds : List D} {ns : List Int}, getInts ds = some ns → ds = ns.map .int
  | [], ns, h => by cases h; rfl
  | d :: ds, ns, h => by
    cases d with
    | int i =>
      unfold getInts at h
      obtain ⟨ms, h1, rfl⟩ := Option.map_eq_some_iff.mp h
      rw [getInts_eq h1]; rfl
    | _ => cases h
theorem XRL.intsV {H H2 : Hp} {fps : Fps} : ∀ {ns : List Int} {vs : List V}, RdL fm H2 (ns.map .int) vs → vs = ns.map V.int
  | [], vs, h => h.nil_inv.1
  | n :: ns, vs, h => by
    obtain ⟨v, r, f1, f2, rfl, e2, h1, h2⟩ := h.uncons
    have h1' : RdR fm H2 (.int n) v := (Rep.fr_nil h1).2
    rw [h1'.int, XRL.intsV (H := H) (fps := fps) (RepL.fr_nil h2).2]; rfl
theorem do_sum {sub : Sub} (hK : fm.K = X.K) : Does fm Wi al1 al t (bltD sub .sum) (rSum X.K) := by
  intro ds vs σ H H2 fps Q s x h
  rw [← hK]
  unfold bltD at h
  split at h <;> first | contradiction | exact h.elim | skip
  split at h
  · rename_i ns hn
    obtain ⟨v, rfl, y⟩ := x.one
    obtain ⟨a, us, rfl, e, y'⟩ := y.lst
    have e1 := getInts_eq hn
    subst e1
    obtain rfl := XRL.intsV (H := H) (fps := fps) y'.read
    exact ⟨a, ns, rfl, SqL.of e, h.int s⟩
  · exact h.elim

/-! ### isinstance -/
def clsT : Cls → Option String
  | .int => some "int" | .str => some "str" | .bool => some "bool" | .list => some "list" | .tuple => some "tuple" | _ => none
def dTy : D → String
  | .non => "NoneType" | .bl _ => "bool" | .int _ => "int" | .str _ => "str" | .tup _ => "tuple" | .lst _ => "list" | _ => "?"
theorem ty_of {H : Hp} {d : D} {v : V} (h : RdR fm H d v) (ho : isiOk d = true) : TyX fm.K H v (.type (dTy d)) := by
  cases d with
  | non => obtain rfl := h.non; exact .base .non
  | bl b => obtain rfl := h.bl; exact .base (.bl b)
  | int b => obtain rfl := h.int; exact .base (.int b)
  | str b => obtain rfl := h.str; exact .base (.str _)
  | tup xs => obtain ⟨a, vs, rfl, e, _⟩ := Rep.tup_inv h; exact .base (.tup e)
  | lst xs => obtain ⟨a, vs, rfl, e, _⟩ := Rep.lst_inv h; exact .base (.lst e.1)
  | _ => cases ho
theorem kit_all : ∀ a ∈ ["NoneType", "bool", "int", "str", "tuple", "list"], ∀ c ∈ [Cls.int, .str, .bool, .list, .tuple], kitB a ((clsT c).getD "") = some (match a, c with
    | "bool", .int => true | "bool", .bool => true | "int", .int => true | "str", .str => true | "tuple", .tuple => true | "list", .list => true | _, _ => false) := by decide +kernel
theorem isi_kit {K : PySem.W.Frag} {sub : Sub} {d : D} {c : Cls} {n : String} (ho : isiOk d = true) (hc : clsT c = some n) : PySem.W.kitOne K (.type (dTy d)) (.type n) = some (isiD sub d c) := by
  have key : ∀ a ∈ ["NoneType", "bool", "int", "str", "tuple", "list"], ∀ c ∈ [Cls.int, .str, .bool, .list, .tuple], kitB a ((clsT c).getD "") = some _ := kit_all
  have hm : c ∈ [Cls.int, .str, .bool, .list, .tuple] := by cases c <;> first | (simp; done) | cases hc
  have en : n = (clsT c).getD "" := by rw [hc]; rfl
  rw [en]
  refine kit_ty ?_
  cases d with
  | non => rw [kit_all _ (by simp [dTy]) c hm]; cases c <;> rfl
  | bl b => rw [kit_all _ (by simp [dTy]) c hm]; cases c <;> rfl
  | int b => rw [kit_all _ (by simp [dTy]) c hm]; cases c <;> rfl
  | str b => rw [kit_all _ (by simp [dTy]) c hm]; cases c <;> rfl
  | tup b => rw [kit_all _ (by simp [dTy]) c hm]; cases c <;> rfl
  | lst b => rw [kit_all _ (by simp [dTy]) c hm]; cases c <;> rfl
  | _ => cases ho
end
end L2.Py

set_option Elab.async false
set_option linter.all false
set_option maxRecDepth 100000
set_option maxHeartbeats 1000000
/-! PyE10: isinstance, methods, calls of defs. -/
namespace L2.Py
open PySem PySem.Spec PyProof.Rows TL
section
variable {X : Cx} {fm : Fm} {Wi : WX} {al al1 al2 : Bool} {t : OT} {f g : Rho → R D} {sub : Sub}
/-! ### isinstance -/
/-- a built-in class, as it is named -/
def clsN : Cls → Option (Str × String)
  | .int => some ("int", "int") | .str => some ("str", "str") | .bool => some ("bool", "bool") | .list => some ("list", "list") | .tuple => some ("tuple", "tuple") | _ => none
theorem clsN_boot : ∀ c x n, clsN c = some (x, n) → clsT c = some n ∧ bootBuiltins x = some (.type n) ∧ x ≠ "__name__" ∧ (x == ("__debug__" : Str)) = false := by
  intro c x n h
  cases c <;> first
    | (injection h with h
       injection h with h1 h2
       subst h1 h2
       exact ⟨rfl, by decide +kernel, by decide +kernel, by decide +kernel⟩)
    | cases h
theorem boot_isi : bootBuiltins "isinstance" = some (.builtin "isinstance") := by decide +kernel
theorem de_isi1 {e : Expr} {c : Cls} {x : Str} {n : String} {p pc pos : Pos} (hK : fm.K = X.K) (hc : clsN c = some (x, n)) (hg : Gl X "isinstance") (hm : X.mg "isinstance" = none) (hgc : Gl X x) (hmc : X.mg x = none) (hs : noStar e = true) (he : PE X e (tE fm Wi al1 .fr f)) :
    PE X (.Call (.Name "isinstance" p) [e, .Name x pc] [] pos) (tE fm Wi al t fun ρ => do let y ← f ρ; bltD sub (.isi [c]) [y]) := by
  obtain ⟨h1, h2, h3, h4⟩ := clsN_boot c x n hc
  have hp : PE X (.Name x pc) (tC (.ty n)) := pe_bltn hgc hmc h2 rfl h3 h4
  refine PE.imp (pe_callB call_isi hg hm boot_isi (pa_cons he (pa_cons hp pa_nil) (star_of hs)) (by decide +kernel) (by decide +kernel) (star_of hs) rfl) fun σ H Q ⟨ρ, fps, er, h⟩ => ⟨ρ, fps, er, OKE.bind h fun d v H1 fp e hk s x => ?_⟩
  unfold bltD at hk
  dsimp only at hk
  split at hk
  · rename_i ho
    refine ⟨v, .ty n, .type (dTy d), .type n, isiD sub d c, rfl, .ty n, hK ▸ ty_of x.read ho, isi_kit ho h1, ?_⟩
    have e : ([c].any (isiD sub d)) = isiD sub d c := by simp
    rw [e] at hk
    exact hk.bl s
  · exact hk.elim
theorem kit_any {K : PySem.W.Frag} {d : D} (ho : isiOk d = true) : ∀ (cs : List Cls) (ns : List String), cs.map clsT = ns.map some → PySem.W.kitAny K (.type (dTy d)) (ns.map Value.type) = some (cs.any (isiD sub d))
  | [], ns, h => by
    cases ns with
    | nil => exact kitAny_nil
    | cons n ns => cases h
  | c :: cs, ns, h => by
    cases ns with
    | nil => cases h
    | cons n ns =>
      injection h with h1 h2
      refine kitAny_cons (isi_kit (sub := sub) ho h1) (fun hb => ?_) fun hb => ?_
      · rw [List.any_cons, hb, Bool.false_or]; exact kit_any ho cs ns h2
      · rw [List.any_cons, hb, Bool.true_or]
theorem de_isi2 {e : Expr} {c1 c2 : Cls} {x1 x2 : Str} {n1 n2 : String} {p p1 p2 p3 pos : Pos} {k : Nat} (hK : fm.K = X.K) (hc1 : clsN c1 = some (x1, n1)) (hc2 : clsN c2 = some (x2, n2)) (hg : Gl X "isinstance") (hm : X.mg "isinstance" = none) (hg1 : Gl X x1) (hm1 : X.mg x1 = none)
    (hg2 : Gl X x2) (hm2 : X.mg x2 = none) (hs : noStar e = true) (he : PE X e (tE fm Wi al1 .fr f)) :
    PE X (.Call (.Name "isinstance" p) [e, .Tuple [.Name x1 p1, .Name x2 p2] k p3] [] pos) (tE fm Wi al t fun ρ => do let y ← f ρ; bltD sub (.isi [c1, c2]) [y]) := by
  obtain ⟨a1, a2, a3, a4⟩ := clsN_boot c1 x1 n1 hc1
  obtain ⟨b1, b2, b3, b4⟩ := clsN_boot c2 x2 n2 hc2
  have q1 : PE X (.Name x1 p1) (tC (.ty n1)) := pe_bltn hg1 hm1 a2 rfl a3 a4
  have q2 : PE X (.Name x2 p2) (tC (.ty n2)) := pe_bltn hg2 hm2 b2 rfl b3 b4
  refine PE.imp (pe_callB call_isiT hg hm boot_isi (pa_cons he (pa_cons (pe_tup (pa_cons q1 (pa_cons q2 pa_nil))) pa_nil) (star_of hs)) (by decide +kernel) (by decide +kernel) (star_of hs) rfl) fun σ H Q ⟨ρ, fps, er, h⟩ => ⟨ρ, fps, er, OKE.bind h fun d v H1 fp e hk s x => ?_⟩
  refine ⟨few_line (by show 2 ≤ 1000; decide), fun q hq => ?_⟩
  unfold bltD at hk
  dsimp only at hk
  split at hk
  · rename_i ho
    have s2 : Same H1 (upd H1 q (.tup [.ty n1, .ty n2])) := sameUpd (Same.refl _) hq
    refine ⟨v, q, _, .type (dTy d), [.type n1, .type n2], _, rfl, upd_same, .cons (.ty n1) (.cons (.ty n2) .nil), hK ▸ ty_of (x.lift s2).read ho, kit_any (sub := sub) ho [c1, c2] [n1, n2] ?_, hk.bl (s.trans s2)⟩
    show [clsT c1, clsT c2] = [some n1, some n2]
    rw [a1, b1]
  · exact hk.elim

/-! ### methods -/
theorem de_meth1S {id : String} {name : Str} {o e : Expr} {apos pos : Pos} {r : V → List V → Hp → VK → Prop} {k : D → D → R D} (slot : Slot "str" name id) (ty : typeOf (.builtin id) = pure (.type "method_descriptor")) (rule : MtR X id r)
    (ho : PE X o (tE fm Wi al1 .fr f)) (he : PE X e (tE fm Wi al2 .fr g)) (hs : noStar e = true) (hb : noSuper o = true) (hl : (apos.endLine == pos.line) = true)
    (hstr : ∀ d, (∃ w, d = .str w) ∨ ∀ y, k d y = .stk) (hraise : ∀ ρ c ps, g ρ ≠ .exn c ps)
    (hr : ∀ {x y : D} {v u : V} {σ : St} {H H2 : Hp} {fps : Fps} {Q : VK}, Same H H2 → XR fm fps H H2 al1 x .fr v [] → XR fm fps H H2 al2 y .fr u [] → OKE fm Wi al t (k x y) σ H fps Q → r v [u] H2 Q) :
    PE X (.Call (.Attribute o name apos) [e] [] pos) (tE fm Wi al t fun ρ => do let x ← f ρ; let y ← g ρ; k x y) := by
  refine PE.imp (pe_m1 slot ty rule ho he (star_of hs) (super_of hb) hl) fun σ H Q ⟨ρ, fps, er, h⟩ => ⟨ρ, fps, er, OKE.bind h fun d v H1 fp e1 hk s x => ?_⟩
  obtain rfl := x.fr
  rcases hstr d with ⟨w, rfl⟩ | hn
  · obtain rfl := x.read.str
    refine ⟨⟨_, rfl⟩, ρ, fps, er.ext s, ?_⟩
    have hk' := OKE.ext s hk
    cases e2 : g ρ with
    | ok y =>
      rw [e2] at hk
      intro u H2 fp2 s2 x2
      obtain rfl := x2.fr
      exact hr (s.trans s2) (x.lift s2) (x2.down s) hk
    | exn c ps => exact absurd e2 (hraise ρ c ps)
    | stk => rw [e2] at hk; exact hk.elim
  · cases e2 : g ρ with
    | ok y =>
      rw [e2] at hk
      have : OKE fm Wi al t (k d y) σ H fps Q := hk
      rw [hn y] at this; exact this.elim
    | exn c ps => exact absurd e2 (hraise ρ c ps)
    | stk => rw [e2] at hk; exact hk.elim
theorem begins_starts (a b : W) : Txt.startswith (toS a) (toS b) = begins b a := by
  unfold Txt.startswith
  rw [PySem.StrLaws.subAt_eq]
  show (decide (0 + (toS b).length ≤ (toS a).length) && ((a.drop 0).take (toS b).length == b)) = _
  rw [toS_len, toS_len, List.drop_zero, Nat.zero_add]
  revert a
  induction b with
  | nil => intro a; simp [begins]
  | cons y ys ih =>
    intro a
    cases a with
    | nil => simp [begins]
    | cons x xs =>
      show _ = (y == x && begins ys xs)
      rw [← ih xs]
      simp only [List.length_cons, List.take_succ_cons]
      by_cases e : x = y
      · subst e; simp
      · have e1 : (x == y) = false := beq_eq_false_iff_ne.mpr e
        have e2 : (y == x) = false := beq_eq_false_iff_ne.mpr fun q => e q.symm
        have e3 : (x :: List.take ys.length xs == y :: ys) = false := by
          show (x == y && _) = false
          rw [e1]; rfl
        rw [e2, e3]; simp
/-- d.get(k) -/
theorem de_get1 {o e : Expr} {apos pos : Pos} (hu : X.A.units + 1 < cLine) (ho : PE X o (tE fm Wi al1 .fr f)) (he : PE X e (tE fm Wi al2 .fr g)) (hs : noStar e = true) (hb : noSuper o = true) (hl : (apos.endLine == pos.line) = true) (hraise : ∀ ρ c ps, g ρ ≠ .exn c ps) :
    PE X (.Call (.Attribute o "get" apos) [e] [] pos) (tE fm Wi al1 .fr fun ρ => do let x ← f ρ; let y ← g ρ; methD .get1 x [y]) := by
  have m : M1 X o "get" apos e pos := ⟨super_of hb, by rw [star_of hs]; rfl, hl, by rw [star_of hs]; rfl⟩
  refine PE.imp (pe_dget1 hu ho he m) fun σ H Q ⟨ρ, fps, er, h⟩ => ⟨ρ, fps, er, OKE.bind h fun d v H1 fp e1 hk s x => ?_⟩
  obtain rfl := x.fr
  cases d with
  | dct b es =>
    obtain ⟨a, rfl, yd⟩ := x.dct
    have isd : IsD H1 a := by
      rcases yd with ⟨rfl, kvs, q1, q2⟩ | ⟨rfl, kvs, q1, q2⟩
      · exact .inl ⟨kvs, q1⟩
      · exact .inr ⟨kvs, q1⟩
    refine ⟨a, rfl, isd, ρ, fps, er.ext s, ?_⟩
    cases e2 : g ρ with
    | ok y =>
      rw [e2] at hk
      intro u H2 fp2 s2 x2
      obtain rfl := x2.fr
      have hk2 : OKE fm Wi al1 .fr (methD .get1 (.dct b es) [y]) σ H fps Q := hk
      unfold methD at hk2
      dsimp only at hk2
      split at hk2
      · rename_i hko
        obtain ⟨a', o, ea, g', _, z⟩ := dget_of hko (x.lift s2).rep x2.read
        cases ea
        refine ⟨o, g', ?_⟩
        rcases z with ⟨z1, rfl⟩ | ⟨d', v', z1, rfl, z3⟩
        · rw [z1] at hk2
          exact hk2 _ _ [] (s.trans s2) XR.non
        · rw [z1] at hk2
          exact hk2 _ _ [] (s.trans s2) ⟨z3, List.nodup_nil, fun _ h => nomatch h⟩
      · exact hk2.elim
    | exn c ps => exact absurd e2 (hraise ρ c ps)
    | stk => rw [e2] at hk; exact hk.elim
  | _ =>
    exfalso
    cases e2 : g ρ with
    | ok y => rw [e2] at hk; exact hk
    | exn c ps => exact absurd e2 (hraise ρ c ps)
    | stk => rw [e2] at hk; exact hk

/-! ### calls of defs -/
/-- a def's promise, by its meaning g -/
def spD (K : PySem.W.Frag) (ca : Nat → Addr) (g : List D → R (D × List D)) (n : Nat) (res : OT) : Sp := fun vs H Q E => ∃ (ds : List D) (B : Addr → Prop), RepL K H B ds frs0 vs [] ∧ ds.length = n ∧
  match g ds with
  | .ok r => ∀ v H' fp, Same H H' → fp.Nodup → (∀ a ∈ fp, H a = none) → Rep K H' (fun a => (B a ∨ H a = none) ∧ a ∉ fp) r.1 res v fp → Q v H'
  | .exn c ps => ∀ cls dx H', Same H H' → ExnC ca H' c ps cls dx → E cls dx H'
  | .stk => False
theorem de_call {fa : Addr} {fd : FuncData} {ps : List Str} {k n : Nat} {res : OT} {G : List D → R (D × List D)} {x : Str} {p pos : Pos} {e : Expr} {es : List Expr} {gs : Rho → R (List D)} (hK : fm.K = X.K)
    (F : FnOk X.prog X.w X.K X.mg X.base (L2.CX X.prog X.w) k fa fd ps (spD X.K fm.ca G n res)) (hr : Room k X.A) (hg : Gl X x) (hm : X.mg x = some (.ref fa)) (hk : PySem.W.keepIn X.K (.ref fa) = true) (hb : Binds X.K fd ps [])
    (hx : ∀ σ, PassesAt (L2.CX X.prog X.w) X σ (WE Wi σ)) (hd : (x == ("__debug__" : Str)) = false) (hs : (e :: es).all noStar = true) (ha : PA X (e :: es) (tL fm Wi al1 frs0 gs)) (hn : ∀ ρ ds, gs ρ = .ok ds → ds.length = n) (ht : t = .fr ∨ t = res) (hal : al1 = true → al = true) :
    PE X (.Call (.Name x p) (e :: es) [] pos) (tE fm Wi al t fun ρ => do let xs ← gs ρ; let r ← G xs; pure r.1) := by
  simp only [List.all_cons, Bool.and_eq_true] at hs
  refine PE.imp (pe_callS F hr hg hm hk hb hx ha hd (star_of hs.1) (back_of hs.2)) fun σ H Q ⟨ρ, fps, er, h⟩ => ⟨ρ, fps, er, OKL.bind h fun ds vs H1 fp e1 hk s x => ?_⟩
  obtain rfl := (RepL.fr_nil x.rep).1
  refine ⟨ds, Fq fm fps H al1 [], hK ▸ x.rep, hn ρ ds e1, ?_⟩
  cases e2 : G ds with
  | ok r =>
    rw [e2] at hk
    intro v H' fp s2 nd new rep
    have y : XR fm fps H H' al r.1 res v fp := by
      refine ⟨Rep.leaves _ _ _ _ (Leaves.same (Same.refl _) fun a _ q => ?_) (hK ▸ rep), nd, fun a h => s.free (new a h)⟩
      rcases q with ⟨q1 | q1, q2⟩
      · rcases q1 with q1 | q1
        · exact .inl (hal q1)
        · exact .inr ⟨q1.1, q2⟩
      · exact .inr ⟨.inr (s.free q1), q2⟩
    rcases ht with rfl | rfl
    · exact hk v H' [] (s.trans s2) y.forget
    · exact hk v H' fp (s.trans s2) y
  | exn c ps =>
    rw [e2] at hk
    exact fun cls dx H' s2 => hk cls dx H' (s.trans s2)
  | stk => rw [e2] at hk; exact hk
end
end L2.Py

set_option Elab.async false
set_option linter.all false
set_option maxRecDepth 100000
set_option maxHeartbeats 1000000
/-! PyE11: what is walked, targets, comprehensions. -/
namespace L2.Py
open PySem PySem.Spec PyProof.Rows TL
/-! ### what is walked -/
def Wk (K : PySem.W.Frag) (J : It) (H1 : Hp) (F1 : Addr → Prop) (ds : List D) : Prop :=
  ∀ i H' F', Leaves H1 H' F1 F' [] → (∀ d, ds[i]? = some d → J.go i H' ∧ ∀ x H'', J.yld i H' x H'' → Same H' H'' ∧ Rep K H'' F' d .fr x []) ∧ (ds.length ≤ i → J.stop i H')
def OKI (fm : Fm) (Wi : WX) (al : Bool) (r : R (List D)) (σ : St) (H : Hp) (fps : Fps) (Q : It → Hp → Prop) : Prop :=
  match r with
  | .ok ds => ∀ J H1, Same H H1 → Wk fm.K J H1 (Fq fm fps H al []) ds → Q J H1
  | .exn c ps => ∀ cls dx H', Same H H' → ExnR fm H' c ps cls dx → Wi cls dx σ H'
  | .stk => False
def tI (fm : Fm) (Wi : WX) (al : Bool) (f : Rho → R (List D)) : TI := fun σ H Q => ∃ ρ fps, ER fm ρ σ H fps ∧ OKI fm Wi al (f ρ) σ H fps Q
theorem PI.imp {X : Cx} {tg e : Expr} {t t' : TI} (p : PI X tg e t) (h : ∀ σ H Q, t' σ H Q → t σ H Q) : PI X tg e t' := ⟨fun pins s σ H Q I q => p.run pins s σ H Q I (h σ H Q q)⟩
theorem PI.or {X : Cx} {tg e : Expr} {t t' : TI} (p : PI X tg e t) (p' : PI X tg e t') : PI X tg e (fun σ H Q => t σ H Q ∨ t' σ H Q) :=
  ⟨fun pins s σ H Q I q => q.elim (p.run pins s σ H Q I) (p'.run pins s σ H Q I)⟩
section
variable {X : Cx} {fm : Fm} {Wi : WX} {al al1 al2 : Bool} {t : OT} {f g : Rho → R D} {K : PySem.W.Frag} {H1 : Hp} {F1 : Addr → Prop}
theorem wk_list {a : Addr} {vs : List V} {ds : List D} (e : H1 a = some (.lst vs)) (hF : F1 a) (r : RepL K H1 F1 ds frs0 vs []) : Wk K (Itl K a) H1 F1 ds := fun i H' F' l => by
  have e' := (l.lst a vs e hF).1
  refine ⟨fun d hd => ?_, fun hi => ⟨vs, SqL.of e', by rw [RepL.length r]; exact hi⟩⟩
  obtain ⟨v, hv, rv⟩ := RepL.get r hd
  refine ⟨⟨vs, v, SqL.of e', hv⟩, fun x H'' ⟨e2, hy⟩ => ?_⟩
  subst e2
  have q := hy vs (SqL.of e')
  rw [hv] at q
  injection q with q
  subst q
  exact ⟨Same.refl _, Rep.leaves _ _ _ _ l rv⟩
theorem wk_tup {a : Addr} {vs : List V} {ds : List D} (e : H1 a = some (.tup vs)) (r : RepL K H1 F1 ds frs0 vs []) : Wk K (Itt K a) H1 F1 ds := fun i H' F' l => by
  have e' := l.tup a vs e
  refine ⟨fun d hd => ?_, fun hi => ⟨vs, SqT.of e', by rw [RepL.length r]; exact hi⟩⟩
  obtain ⟨v, hv, rv⟩ := RepL.get r hd
  refine ⟨⟨vs, v, SqT.of e', hv⟩, fun x H'' ⟨e2, hy⟩ => ?_⟩
  subst e2
  have q := hy vs (SqT.of e')
  rw [hv] at q
  injection q with q
  subst q
  exact ⟨Same.refl _, Rep.leaves _ _ _ _ l rv⟩
theorem wk_str {s : W} : Wk K (Its (toS s)) H1 F1 (s.map fun c => .str [c]) := fun i H' F' l => by
  have hz : (toS s).cps.size = s.length := rfl
  refine ⟨fun d hd => ?_, fun hi => by rw [List.length_map] at hi; exact hi⟩
  rw [List.getElem?_map, Option.map_eq_some_iff] at hd
  obtain ⟨c, hc, rfl⟩ := hd
  have hl : i < s.length := (List.getElem?_eq_some_iff.mp hc).1
  refine ⟨hl, fun x H'' ⟨e2, c', hc', ex⟩ => ?_⟩
  subst e2 ex
  have q : s.toArray[i]? = some c' := hc'
  rw [List.getElem?_toArray, hc] at q
  injection q with q
  subst q
  refine ⟨Same.refl _, ?_⟩
  simp only [Rep]
  exact ⟨rfl, trivial⟩
theorem upto_get : ∀ (n : Nat) (lo : Int) (i : Nat), (upto lo n)[i]? = if i < n then some (.int (lo + i)) else none
  | 0, lo, i => by simp [upto]
  | n + 1, lo, i => by
    cases i with
    | zero => simp [upto]
    | succ i =>
      rw [upto, List.getElem?_cons_succ, upto_get n (lo + 1) i]
      by_cases h : i < n
      · rw [if_pos h, if_pos (by omega)]
        congr 2
        omega
      · rw [if_neg h, if_neg (by omega)]
theorem upto_length : ∀ (n : Nat) (lo : Int), (upto lo n).length = n
  | 0, _ => rfl
  | n + 1, lo => by rw [upto, List.length_cons, upto_length n]
theorem downto_get : ∀ (n : Nat) (lo : Int) (i : Nat), (downto lo n)[i]? = if i < n then some (.int (lo - i)) else none
  | 0, lo, i => by simp [downto]
  | n + 1, lo, i => by
    cases i with
    | zero => simp [downto]
    | succ i =>
      rw [downto, List.getElem?_cons_succ, downto_get n (lo - 1) i]
      by_cases h : i < n
      · rw [if_pos h, if_pos (by omega)]
        congr 2
        omega
      · rw [if_neg h, if_neg (by omega)]
theorem downto_length : ∀ (n : Nat) (lo : Int), (downto lo n).length = n
  | 0, _ => rfl
  | n + 1, lo => by rw [downto, List.length_cons, downto_length n]
theorem rep_int {H : Hp} {F : Addr → Prop} {i : Int} {t : OT} : Rep K H F (.int i) t (.int i) [] := by simp [Rep]
theorem wk_range {lo : Int} {n : Nat} : Wk K (Itr lo n) H1 F1 (upto lo n) := fun i H' F' l => by
  refine ⟨fun d hd => ?_, fun hi => by rw [upto_length] at hi; exact hi⟩
  rw [upto_get] at hd
  split at hd
  · rename_i hi
    injection hd with hd
    subst hd
    refine ⟨hi, fun x H'' ⟨e2, ex⟩ => ?_⟩
    subst e2 ex
    exact ⟨Same.refl _, rep_int⟩
  · cases hd
theorem wk_down {lo : Int} {n : Nat} : Wk K (Itc lo (-1) n) H1 F1 (downto lo n) := fun i H' F' l => by
  refine ⟨fun d hd => ?_, fun hi => by rw [downto_length] at hi; exact hi⟩
  rw [downto_get] at hd
  split at hd
  · rename_i hi
    injection hd with hd
    subst hd
    refine ⟨hi, fun x H'' ⟨e2, ex⟩ => ?_⟩
    subst e2 ex
    have e : lo + (i : Int) * (-1) = lo - i := by omega
    rw [e]
    exact ⟨Same.refl _, rep_int⟩
  · cases hd
theorem enumL_get : ∀ (xs : List D) (n : Int) (i : Nat), (enumL n xs)[i]? = xs[i]?.map fun x => .tup [.int (n + i), x]
  | [], n, i => by simp [enumL]
  | x :: xs, n, i => by
    cases i with
    | zero => simp [enumL]
    | succ i =>
      rw [enumL, List.getElem?_cons_succ, enumL_get xs (n + 1) i, List.getElem?_cons_succ]
      congr 1
      funext x
      have e : n + 1 + (i : Nat) = n + ((i + 1 : Nat) : Int) := by omega
      rw [e]
theorem enumL_length : ∀ (xs : List D) (n : Int), (enumL n xs).length = xs.length
  | [], _ => rfl
  | x :: xs, n => by rw [enumL, List.length_cons, List.length_cons, enumL_length xs]
theorem zipD_get : ∀ (xs ys : List D) (i : Nat) (d : D), (zipD xs ys)[i]? = some d → ∃ x y, xs[i]? = some x ∧ ys[i]? = some y ∧ d = .tup [x, y]
  | [], ys, i, d, h => by cases ys <;> simp [zipD] at h
  | x :: xs, [], i, d, h => by simp [zipD] at h
  | x :: xs, y :: ys, i, d, h => by
    cases i with
    | zero =>
      simp [zipD] at h
      exact ⟨x, y, rfl, rfl, h.symm⟩
    | succ i =>
      rw [zipD, List.getElem?_cons_succ] at h
      obtain ⟨x', y', h1, h2, h3⟩ := zipD_get xs ys i d h
      exact ⟨x', y', h1, h2, h3⟩
theorem zipD_length : ∀ (xs ys : List D), (zipD xs ys).length = min xs.length ys.length
  | [], ys => by cases ys <;> simp [zipD]
  | x :: xs, [] => by simp [zipD]
  | x :: xs, y :: ys => by simp [zipD, zipD_length xs ys]
theorem rep_pair {H : Hp} {F : Addr → Prop} {x y : D} {v u : V} {T : Addr} (hT : H T = none) (h1 : Rep K H F x .fr v []) (h2 : Rep K H F y .fr u []) : Rep K (upd H T (.tup [v, u])) F (.tup [x, y]) .fr (.ref T) [] := by
  have s : Same H (upd H T (.tup [v, u])) := sameUpd (Same.refl _) hT
  have l : Leaves H (upd H T (.tup [v, u])) F F [] := Leaves.same s fun _ _ q => q
  simp only [Rep]
  refine ⟨T, _, rfl, upd_same, ?_⟩
  exact RepL.cons (f1 := []) (f2 := []) (Rep.leaves _ _ _ _ l h1) (RepL.cons (f1 := []) (f2 := []) (Rep.leaves _ _ _ _ l h2) RepL.nil)
theorem wk_enum {a : Addr} {vs : List V} {ds : List D} (e : H1 a = some (.lst vs)) (hF : F1 a) (r : RepL K H1 F1 ds frs0 vs []) : Wk K (Ite K a) H1 F1 (enumL 0 ds) := fun i H' F' l => by
  have e' := (l.lst a vs e hF).1
  refine ⟨fun d hd => ?_, fun hi => ⟨vs, SqL.of e', by rw [RepL.length r]; rw [enumL_length] at hi; exact hi⟩⟩
  rw [enumL_get, Option.map_eq_some_iff] at hd
  obtain ⟨z, hz, rfl⟩ := hd
  obtain ⟨v, hv, rv⟩ := RepL.get r hz
  refine ⟨⟨vs, v, SqL.of e', hv⟩, fun x H'' ⟨T, u, ex, hT, e2, hy⟩ => ?_⟩
  subst e2 ex
  have q := hy vs (SqL.of e')
  rw [hv] at q
  injection q with q
  subst q
  refine ⟨sameUpd (Same.refl _) hT, rep_pair hT ?_ (Rep.leaves _ _ _ _ l rv)⟩
  have ei : (0 : Int) + (i : Nat) = (i : Nat) := by omega
  rw [ei]
  exact rep_int
theorem wk_zip {a b : Addr} {vs us : List V} {ds es : List D} (e : H1 a = some (.lst vs)) (hF : F1 a) (r : RepL K H1 F1 ds frs0 vs []) (eb : H1 b = some (.lst us)) (hFb : F1 b) (rb : RepL K H1 F1 es frs0 us []) : Wk K (Itz K a b) H1 F1 (zipD ds es) := fun i H' F' l => by
  have e' := (l.lst a vs e hF).1
  have eb' := (l.lst b us eb hFb).1
  refine ⟨fun d hd => ?_, fun hi => ⟨vs, us, SqL.of e', SqL.of eb', by rw [RepL.length r, RepL.length rb]; rw [zipD_length] at hi; omega⟩⟩
  obtain ⟨x, y, hx, hy, rfl⟩ := zipD_get _ _ _ _ hd
  obtain ⟨v, hv, rv⟩ := RepL.get r hx
  obtain ⟨u, hu, ru⟩ := RepL.get rb hy
  refine ⟨⟨vs, us, v, u, SqL.of e', SqL.of eb', hv, hu⟩, fun z H'' ⟨T, v', u', ex, hT, e2, h1, h2⟩ => ?_⟩
  subst e2 ex
  have q := h1 vs (SqL.of e')
  rw [hv] at q
  injection q with q
  subst q
  have q := h2 us (SqL.of eb')
  rw [hu] at q
  injection q with q
  subst q
  exact ⟨sameUpd (Same.refl _) hT, rep_pair hT (Rep.leaves _ _ _ _ l rv) (Rep.leaves _ _ _ _ l ru)⟩
def itV (d : D) : R (List D) := itD .val [d]
theorem di_val {tg e : Expr} (he : PE X e (tE fm Wi al .fr f)) (hK : fm.K = X.K) : PI X tg e (tI fm Wi al fun ρ => f ρ >>= itV) := by
  refine PI.imp (PI.or (pi_list he) (PI.or (pi_tup he) (pi_str he))) fun σ H Q ⟨ρ, fps, er, h⟩ => ?_
  rw [← hK]
  dsimp only at h
  cases e : f ρ with
  | stk => rw [e] at h; exact h.elim
  | exn c ps =>
    rw [e] at h
    refine .inl ⟨ρ, fps, er, ?_⟩
    rw [e]
    exact h
  | ok d =>
    rw [e] at h
    have h : OKI fm Wi al (itD .val [d]) σ H fps Q := h
    cases d with
    | lst xs =>
      refine .inl ⟨ρ, fps, er, ?_⟩
      rw [e]
      intro v H' fp s x
      obtain rfl := x.fr
      obtain ⟨a, vs, rfl, e2, x2⟩ := Rep.lst_inv x.rep
      exact ⟨a, rfl, ⟨vs, SqL.of e2.1⟩, h _ H' s (wk_list e2.1 e2.2 x2)⟩
    | tup xs =>
      refine .inr (.inl ⟨ρ, fps, er, ?_⟩)
      rw [e]
      intro v H' fp s x
      obtain rfl := x.fr
      obtain ⟨a, vs, rfl, e2, x2⟩ := Rep.tup_inv x.rep
      exact ⟨a, rfl, ⟨vs, SqT.of e2⟩, h _ H' s (wk_tup e2 x2)⟩
    | str w =>
      refine .inr (.inr ⟨ρ, fps, er, ?_⟩)
      rw [e]
      intro v H' fp s x
      obtain rfl := x.read.str
      exact ⟨_, rfl, h _ H' s wk_str⟩
    | _ => exact h.elim
theorem OKI.seq {r : R (List D)} {k : List D → R (List D)} {σ : St} {H : Hp} {fps : Fps} {Q : It → Hp → Prop} {Q' : List V → Hp → Prop} {ft : Nat → OT} (h : OKI fm Wi al (r >>= k) σ H fps Q)
    (hk : ∀ d v H1 fp, r = .ok d → OKI fm Wi al (k d) σ H fps Q → Same H H1 → XRL fm fps H H1 al1 d ft v fp → Q' v H1) : OKL fm Wi al1 ft r σ H fps Q' := by
  cases r with
  | ok d => exact fun v H' fp s x => hk d v H' fp rfl h s x
  | exn c ps => exact h
  | stk => exact h
theorem small_of {i : Int} (h : small62 i = true) : -(2 ^ 62) ≤ i ∧ i < 2 ^ 62 := by
  unfold small62 at h
  simpa only [Bool.and_eq_true, decide_eq_true_eq] using h
theorem di_range1 {tg a : Expr} {p pos : Pos} {gs : Rho → R (List D)} (hg : Gl X "range") (hm : X.mg "range" = none) (ha : PA X [a] (tL fm Wi al1 frs0 gs)) (hs : noStar a = true) :
    PI X tg (.Call (.Name "range" p) [a] [] pos) (tI fm Wi al fun ρ => gs ρ >>= itD .range1) := by
  refine PI.imp (pi_range1 hg hm ha (star_of hs)) fun σ H Q ⟨ρ, fps, er, h⟩ => ⟨ρ, fps, er, OKI.seq h fun ds vs H1 fp e hk s x => ?_⟩
  obtain rfl := (RepL.fr_nil x.rep).1
  unfold itD at hk
  split at hk <;> first | contradiction | exact hk.elim | skip
  split at hk
  · rename_i hz
    obtain ⟨v, rfl, y⟩ := x.one
    obtain rfl := y.read.int
    exact ⟨_, rfl, (small_of hz).1, (small_of hz).2, hk _ _ s wk_range⟩
  · exact hk.elim
theorem di_range2 {tg a b : Expr} {p pos : Pos} {gs : Rho → R (List D)} (hg : Gl X "range") (hm : X.mg "range" = none) (ha : PA X [a, b] (tL fm Wi al1 frs0 gs)) (hs : noStar a = true) (hs2 : noStar b = true) :
    PI X tg (.Call (.Name "range" p) [a, b] [] pos) (tI fm Wi al fun ρ => gs ρ >>= itD .range2) := by
  refine PI.imp (pi_range2 hg hm ha (by rw [star_of hs, star_of hs2]; rfl) (star_of hs2)) fun σ H Q ⟨ρ, fps, er, h⟩ => ⟨ρ, fps, er, OKI.seq h fun ds vs H1 fp e hk s x => ?_⟩
  obtain rfl := (RepL.fr_nil x.rep).1
  unfold itD at hk
  split at hk <;> first | contradiction | exact hk.elim | skip
  split at hk
  · rename_i hz
    simp only [Bool.and_eq_true] at hz
    obtain ⟨v, u, rfl, y, z⟩ := x.two
    obtain rfl := y.read.int
    obtain rfl := z.read.int
    exact ⟨_, _, rfl, ⟨(small_of hz.1).1, (small_of hz.1).2, (small_of hz.2).1, (small_of hz.2).2⟩, hk _ _ s wk_range⟩
  · exact hk.elim
theorem XRL.three {H H2 : Hp} {fps : Fps} {d e f : D} {vs : List V} (x : XRL fm fps H H2 al [d, e, f] frs0 vs []) : ∃ v u w, vs = [v, u, w] ∧ XR fm fps H H2 al d .fr v [] ∧ XR fm fps H H2 al e .fr u [] ∧ XR fm fps H H2 al f .fr w [] := by
  obtain ⟨v, r, f1, f2, rfl, e, h1, h2⟩ := x.rep.uncons
  obtain ⟨u, r, f3, f4, rfl, e, h3, h4⟩ := h2.uncons
  obtain ⟨w, r, f5, f6, rfl, e, h5, h6⟩ := h4.uncons
  obtain ⟨rfl, _⟩ := h6.nil_inv
  exact ⟨v, u, w, rfl, ⟨(Rep.fr_nil h1).2, List.nodup_nil, fun _ h => nomatch h⟩, ⟨(Rep.fr_nil h3).2, List.nodup_nil, fun _ h => nomatch h⟩, ⟨(Rep.fr_nil h5).2, List.nodup_nil, fun _ h => nomatch h⟩⟩
theorem di_range3 {tg a b c : Expr} {p pos : Pos} {gs : Rho → R (List D)} (hg : Gl X "range") (hm : X.mg "range" = none) (ha : PA X [a, b, c] (tL fm Wi al1 frs0 gs)) (hs : noStar a = true) (hs2 : noStar b = true) (hs3 : noStar c = true) :
    PI X tg (.Call (.Name "range" p) [a, b, c] [] pos) (tI fm Wi al fun ρ => gs ρ >>= itD .range3) := by
  refine PI.imp (pi_range3 hg hm ha (star_of hs) (back_of (by simp [hs2, hs3]))) fun σ H Q ⟨ρ, fps, er, h⟩ => ⟨ρ, fps, er, OKI.seq h fun ds vs H1 fp e hk s x => ?_⟩
  obtain rfl := (RepL.fr_nil x.rep).1
  unfold itD at hk
  split at hk <;> first | contradiction | exact hk.elim | skip
  split at hk
  · rename_i hz
    simp only [Bool.and_eq_true, decide_eq_true_eq] at hz
    obtain ⟨⟨h1, h2⟩, rfl⟩ := hz
    obtain ⟨v, u, w, rfl, y, z, z2⟩ := x.three
    obtain rfl := y.read.int
    obtain rfl := z.read.int
    obtain rfl := z2.read.int
    exact ⟨_, _, _, _, rfl, RgC.neg (small_of h1).1 (small_of h1).2 (small_of h2).1 (small_of h2).2, hk _ _ s wk_down⟩
  · exact hk.elim
theorem di_enum {elts : List Expr} {kk : Nat} {tpos : Pos} {a : Expr} {p pos : Pos} {gs : Rho → R (List D)} (hK : fm.K = X.K) (hg : Gl X "enumerate") (hm : X.mg "enumerate" = none) (ha : PA X [a] (tL fm Wi al frs0 gs)) (hs : noStar a = true) :
    PI X (.Tuple elts kk tpos) (.Call (.Name "enumerate" p) [a] [] pos) (tI fm Wi al fun ρ => gs ρ >>= itD .enum) := by
  refine PI.imp (pi_enum hg hm ha (star_of hs)) fun σ H Q ⟨ρ, fps, er, h⟩ => ⟨ρ, fps, er, OKI.seq h fun ds vs H1 fp e hk s x => ?_⟩
  rw [← hK]
  obtain rfl := (RepL.fr_nil x.rep).1
  unfold itD at hk
  split at hk <;> first | contradiction | exact hk.elim | skip
  obtain ⟨v, rfl, y⟩ := x.one
  obtain ⟨a, us, rfl, e2, x2⟩ := Rep.lst_inv y.rep
  exact ⟨a, us, rfl, SqL.of e2.1, hk _ _ s (wk_enum e2.1 e2.2 x2)⟩
theorem di_zip {elts : List Expr} {kk : Nat} {tpos : Pos} {a b : Expr} {p pos : Pos} {gs : Rho → R (List D)} (hK : fm.K = X.K) (hg : Gl X "zip") (hm : X.mg "zip" = none) (ha : PA X [a, b] (tL fm Wi al frs0 gs)) (hs : noStar a = true) (hs2 : noStar b = true) :
    PI X (.Tuple elts kk tpos) (.Call (.Name "zip" p) [a, b] [] pos) (tI fm Wi al fun ρ => gs ρ >>= itD .zip) := by
  refine PI.imp (pi_zip hg hm ha (star_of hs) (back_of (by simp [hs2]))) fun σ H Q ⟨ρ, fps, er, h⟩ => ⟨ρ, fps, er, OKI.seq h fun ds vs H1 fp e hk s x => ?_⟩
  rw [← hK]
  obtain rfl := (RepL.fr_nil x.rep).1
  unfold itD at hk
  split at hk <;> first | contradiction | exact hk.elim | skip
  obtain ⟨v, u, rfl, y, z⟩ := x.two
  obtain ⟨a, us, rfl, e2, x2⟩ := Rep.lst_inv y.rep
  obtain ⟨b, ws, rfl, e3, x3⟩ := Rep.lst_inv z.rep
  exact ⟨a, b, us, ws, rfl, SqL.of e2.1, SqL.of e3.1, hk _ _ s (wk_zip e2.1 e2.2 x2 e3.1 e3.2 x3)⟩
end
end L2.Py

set_option Elab.async false
set_option linter.all false
set_option maxRecDepth 100000
set_option maxHeartbeats 1000000
/-! PyE12: two methods of texts; targets; comprehensions. -/
namespace L2.Py
open PySem PySem.Spec PyProof.Rows TL
section
variable {X : Cx} {fm : Fm} {Wi : WX} {al al1 al2 : Bool} {t : OT} {f g : Rho → R D}
theorem de_starts {o e : Expr} {apos pos : Pos} (ho : PE X o (tE fm Wi al1 .fr f)) (he : PE X e (tE fm Wi al2 .fr g)) (hs : noStar e = true) (hb : noSuper o = true) (hl : (apos.endLine == pos.line) = true) (hraise : ∀ ρ c ps, g ρ ≠ .exn c ps) :
    PE X (.Call (.Attribute o "startswith" apos) [e] [] pos) (tE fm Wi al t fun ρ => do let x ← f ρ; let y ← g ρ; methD .startswith x [y]) := by
  refine de_meth1S F.slot_str_startswith F.type_str_startswith mt_startswith ho he hs hb hl (k := fun x y => methD .startswith x [y]) (fun d => ?_) hraise fun {x y v u σ H H2 fps Q} s x1 y1 h => ?_
  · cases d <;> first | exact .inl ⟨_, rfl⟩ | exact .inr fun _ => rfl
  · cases x <;> first | exact h.elim | skip
    cases y <;> first | exact h.elim | skip
    obtain rfl := x1.read.str
    obtain rfl := y1.read.str
    exact ⟨_, _, rfl, rfl, by rw [begins_starts]; exact OKE.bl h s⟩
theorem getStrs_eq : ∀ {ds : List D} {ns : List W}, getStrs ds = some ns → ds = ns.map .str
  | [], ns, h => by cases h; rfl
  | d :: ds, ns, h => by
    cases d with
    | str i =>
      unfold getStrs at h
      obtain ⟨ms, h1, rfl⟩ := Option.map_eq_some_iff.mp h
      rw [getStrs_eq h1]; rfl
    | _ => cases h
theorem RdL.strsV {H2 : Hp} : ∀ {ns : List W} {vs : List V}, RdL fm H2 (ns.map .str) vs → vs = (ns.map toS).map V.str
  | [], vs, h => h.nil_inv.1
  | n :: ns, vs, h => by
    obtain ⟨v, r, f1, f2, rfl, e2, h1, h2⟩ := h.uncons
    have h1' : RdR fm H2 (.str n) v := (Rep.fr_nil h1).2
    rw [h1'.str, RdL.strsV (RepL.fr_nil h2).2]; rfl
theorem joinW_L (s : W) : ∀ ws : List W, joinL s ws = joinW s ws
  | [] => rfl
  | [w] => rfl
  | w :: v :: r => by
    rw [joinL, joinW, joinW_L s (v :: r), List.append_assoc]
theorem join_toS (s : W) (ws : List W) : Txt.join (toS s) (ws.map toS) = toS (joinW s ws) := by
  apply ext_tl
  rw [join_eq, tl_join, List.map_map]
  have e : (tl ∘ toS) = id := rfl
  rw [e, List.map_id]
  exact joinW_L s ws
theorem sum_len (a : Nat) : ∀ ws : List W, ((ws.map toS).map (·.length)).sum + (ws.map toS).length * a = (ws.map fun w => w.length + a).sum
  | [] => by simp
  | w :: ws => by
    have ih := sum_len a ws
    simp only [List.map_cons, List.sum_cons, List.length_cons, Nat.succ_mul] at ih ⊢
    rw [toS_len]
    omega
theorem de_join {o e : Expr} {apos pos : Pos} (hK : fm.K = X.K) (ho : PE X o (tE fm Wi al1 .fr f)) (he : PE X e (tE fm Wi al2 .fr g)) (hs : noStar e = true) (hb : noSuper o = true) (hl : (apos.endLine == pos.line) = true) (hraise : ∀ ρ c ps, g ρ ≠ .exn c ps) :
    PE X (.Call (.Attribute o "join" apos) [e] [] pos) (tE fm Wi al t fun ρ => do let x ← f ρ; let y ← g ρ; methD .join x [y]) := by
  refine de_meth1S F.slot_str_join F.type_str_join mt_join ho he hs hb hl (k := fun x y => methD .join x [y]) (fun d => ?_) hraise fun {x y v u σ H H2 fps Q} s x1 y1 h => ?_
  · cases d <;> first | exact .inl ⟨_, rfl⟩ | exact .inr fun _ => rfl
  · cases x <;> first | exact h.elim | skip
    cases y <;> first | exact h.elim | skip
    rename_i w xs
    unfold methD at h
    dsimp only at h
    split at h
    · rename_i ws hw
      split at h
      · rename_i hz
        obtain rfl := x1.read.str
        have e1 := getStrs_eq hw
        subst e1
        obtain ⟨a, us, rfl, e2, x2⟩ := y1.lst
        obtain rfl := RdL.strsV x2.read
        refine ⟨_, _, ws.map toS, rfl, rfl, .inl (SqL.of e2), ?_, by rw [join_toS]; exact OKE.str h s⟩
        rw [toS_len, sum_len]
        exact hz
      · exact h.elim
    · exact h.elim

/-! ### xs[::-1] -/
theorem RepL.rev {K : PySem.W.Frag} {H : Hp} {F : Addr → Prop} : ∀ {ds : List D} {vs : List V}, RepL K H F ds frs0 vs [] → RepL K H F ds.reverse frs0 vs.reverse []
  | [], vs, h => by
    obtain ⟨rfl, _⟩ := h.nil_inv
    exact RepL.nil
  | d :: ds, vs, h => by
    obtain ⟨v, r, f1, f2, rfl, e2, h1, h2⟩ := h.uncons
    have h1' := (Rep.fr_nil h1).2
    have h2' := RepL.rev (RepL.fr_nil h2).2
    rw [List.reverse_cons, List.reverse_cons]
    exact RepL.app (f1 := []) (f2 := []) h2' (RepL.cons (f1 := []) (f2 := []) h1' RepL.nil)
theorem de_revL {e : Expr} {k : Nat} {p1 p2 p3 pos : Pos} (hK : fm.K = X.K) (ht : t.elem = .fr) (he : PE X e (tE fm Wi al .fr f)) :
    PE X (.Subscript e (.Slice none none (some (.UnaryOp .USub (.Constant (.int 1) k p1) p2)) p3) pos) (tE fm Wi al t fun ρ => do let x ← f ρ; revD x) := by
  refine PE.imp (pe_revL he) fun σ H Q ⟨ρ, fps, er, h⟩ => ⟨ρ, fps, er, OKE.bind h fun d v H1 fp e1 hk s x => ?_⟩
  obtain rfl := x.fr
  cases d with
  | lst xs =>
    obtain ⟨a, us, rfl, e2, y⟩ := x.lst
    exact ⟨a, us, rfl, hK ▸ SqL.of e2, OKE.newL ht hk s ⟨RepL.rev y.rep, List.nodup_nil, fun _ h => nomatch h⟩⟩
  | _ => exact hk.elim
/-! ### targets -/
def tG (fm : Fm) (is : List Nat) (bd : D → Rho → R Rho) : TG := fun v σ H Q => ∃ d ρ fps ρ', ER fm ρ σ H fps ∧ Rep fm.K H (Fz fm fps) d .fr v [] ∧ bd d ρ = .ok ρ' ∧
  ∀ σ', ER fm ρ' σ' H fps → σ'.length = σ.length → (∀ j, j ∉ is → σ'[j]? = σ[j]?) → Q σ' H
theorem PG.imp {e : Expr} {t t' : TG} (p : PG X e t) (h : ∀ v σ H Q, t' v σ H Q → t v σ H Q) : PG X e t' := ⟨fun pins s σ H v u Q I r q => p.run pins s σ H v u Q I r (h v σ H Q q)⟩
theorem PGs.imp {e : List Expr} {t t' : TGs} (p : PGs X e t) (h : ∀ v σ H Q, t' v σ H Q → t v σ H Q) : PGs X e t' := ⟨fun pins s σ H v u Q I r q => p.run pins s σ H v u Q I r (h v σ H Q q)⟩
theorem ER.bind {ρ : Rho} {σ : St} {H : Hp} {fps : Fps} {i : Nat} {d : D} {v : V} (er : ER fm ρ σ H fps) (ho : fm.ot i = .fr) (r : Rep fm.K H (Fz fm fps) d .fr v []) : ER fm (ρ.put i d) (σ.set i (some v)) H fps where
  len := by rw [List.length_set, Rho.put, List.length_set]; exact er.len
  rep := fun j x e => by
    unfold Rho.put at e
    rw [List.getElem?_set] at e
    rw [List.getElem?_set]
    by_cases hij : i = j
    · subst hij
      rw [if_pos rfl] at e ⊢
      by_cases hl : i < ρ.length
      · rw [if_pos hl] at e
        injection e with e
        injection e with e
        subst e
        rw [if_pos (by rw [er.len]; exact hl)]
        refine ⟨v, rfl, ?_⟩
        rw [ho, er.nil i hl ho]
        exact r
      · rw [if_neg hl] at e; cases e
    · rw [if_neg hij] at e ⊢
      exact er.rep j x e
  nil := fun j hj e => er.nil j (by rw [Rho.put, List.length_set] at hj; exact hj) e
  nd := er.nd
  dj := er.dj
  new := er.new
  trk := er.trk
  frame := er.frame
  lent := er.lent
/-- a target name -/
structure Tg1 (X : Cx) (fm : Fm) (i : Nat) (e : Expr) : Prop where
  is : ∃ x pos, e = .Name x pos ∧ X.N[i]? = some x ∧ Loc X.env.scope x ∧ (X.fn x = true ∨ X.env.scope.names.lookup x = some .local)
  fr : fm.ot i = .fr
theorem dg_name (hN : X.N.Nodup) {i : Nat} {e : Expr} (h : Tg1 X fm i e) : PG X e (tG fm [i] (bindTg false [i])) := by
  obtain ⟨x, pos, rfl, h1, h2, h3⟩ := h.is
  refine PG.imp (pg_name hN h1 h2 h3) fun v σ H Q ⟨d, ρ, fps, ρ', er, r, e, q⟩ => ?_
  unfold bindTg at e
  rw [if_neg Bool.false_ne_true] at e
  injection e with e
  subst e
  exact q _ (er.bind h.fr r) (List.length_set ..) fun j hj => List.getElem?_set_ne (fun z => hj (by simp [z]))
def tGs (fm : Fm) (is : List Nat) : TGs := fun vs σ H Q => ∃ ds ρ fps ρ', ER fm ρ σ H fps ∧ RepL fm.K H (Fz fm fps) ds frs0 vs [] ∧ putAll ρ is ds = .ok ρ' ∧
  ∀ σ', ER fm ρ' σ' H fps → σ'.length = σ.length → (∀ j, j ∉ is → σ'[j]? = σ[j]?) → Q σ' H
inductive TgL (X : Cx) (fm : Fm) : List Nat → List Expr → Prop
  | nil : TgL X fm [] []
  | cons {i is e es} : Tg1 X fm i e → TgL X fm is es → TgL X fm (i :: is) (e :: es)
theorem dgs (hN : X.N.Nodup) : ∀ {is : List Nat} {es : List Expr}, TgL X fm is es → PGs X es (tGs fm is)
  | _, _, .nil => PGs.imp pgs_nil fun vs σ H Q ⟨ds, ρ, fps, ρ', er, r, e, q⟩ => by
    cases ds with
    | nil =>
      unfold putAll at e
      injection e with e
      subst e
      exact ⟨r.nil_inv.1, q _ er rfl fun _ _ => rfl⟩
    | cons d ds => unfold putAll at e; cases e
  | i :: is, e :: es, .cons h hs => by
    have hst : (assignEach (e :: es) X.env).map (·.2) = assign e X.env :: (assignEach es X.env).map (·.2) := by
      obtain ⟨x, pos, rfl, _⟩ := h.is
      rfl
    refine PGs.imp (pgs_cons (dg_name hN h) (dgs hN hs) hst) fun vs σ H Q ⟨ds, ρ, fps, ρ', er, r, e, q⟩ => ?_
    cases ds with
    | nil => unfold putAll at e; cases e
    | cons d ds =>
      unfold putAll at e
      obtain ⟨v, vr, f1, f2, rfl, e2, h1, h2⟩ := r.uncons
      have h1' := (Rep.fr_nil h1).2
      have h2' := (RepL.fr_nil h2).2
      refine ⟨v, vr, rfl, d, ρ, fps, _, er, h1', by unfold bindTg; rfl, fun σ1 er1 l1 k1 => ?_⟩
      refine ⟨ds, _, fps, ρ', er1, h2', e, fun σ2 er2 l2 k2 => ?_⟩
      refine q σ2 er2 (l2.trans l1) fun j hj => ?_
      simp only [List.mem_cons, not_or] at hj
      rw [k2 j hj.2, k1 j (by simp [hj.1])]
theorem tgL_len : ∀ {is : List Nat} {es : List Expr}, TgL X fm is es → ∀ env : PySem.Env, (assignEach es env).length = is.length ∧ (assignEach es env).findIdx? (·.1) = none
  | _, _, .nil, env => ⟨rfl, rfl⟩
  | i :: is, e :: es, .cons h hs, env => by
    obtain ⟨x, pos, rfl, _⟩ := h.is
    obtain ⟨h1, h2⟩ := tgL_len hs env
    refine ⟨?_, ?_⟩
    · show (assignEach es env).length + 1 = _
      rw [h1]; rfl
    · show List.findIdx? (·.1) ((false, assign (.Name x pos) env) :: assignEach es env) = none
      rw [List.findIdx?_cons]
      simp [h2]
theorem putAll_len : ∀ {is : List Nat} {ds : List D} {ρ ρ' : Rho}, putAll ρ is ds = .ok ρ' → ds.length = is.length
  | [], [], _, _, _ => rfl
  | [], _ :: _, _, _, h => by unfold putAll at h; cases h
  | _ :: _, [], _, _, h => by unfold putAll at h; cases h
  | _ :: is, _ :: ds, _, _, h => by
    unfold putAll at h
    rw [List.length_cons, List.length_cons, putAll_len h]
theorem PG.or {e : Expr} {t t' : TG} (p : PG X e t) (p' : PG X e t') : PG X e (fun v σ H Q => t v σ H Q ∨ t' v σ H Q) :=
  ⟨fun pins s σ H v u Q I r q => q.elim (p.run pins s σ H v u Q I r) (p'.run pins s σ H v u Q I r)⟩
theorem dg_tup (hK : fm.K = X.K) (hN : X.N.Nodup) (hc : X.calm = true) {is : List Nat} {es : List Expr} {k : Nat} {pos : Pos} (h : TgL X fm is es) : PG X (.Tuple es k pos) (tG fm is (bindTg true is)) := by
  refine PG.imp (PG.or (pg_tup hc (dgs hN h) (tgL_len h X.env).1 (tgL_len h X.env).2) (pg_unl hc (dgs hN h) (tgL_len h X.env).1 (tgL_len h X.env).2)) fun v σ H Q ⟨d, ρ, fps, ρ', er, r, e, q⟩ => ?_
  unfold bindTg at e
  rw [if_pos rfl] at e
  cases d with
  | tup ds =>
    obtain ⟨a, vs, rfl, e2, r2⟩ := Rep.tup_inv r
    exact .inl ⟨a, vs, rfl, hK ▸ SqT.of e2, by rw [RepL.length r2]; exact putAll_len e, ds, ρ, fps, ρ', er, r2, e, q⟩
  | lst ds =>
    obtain ⟨a, vs, rfl, e2, r2⟩ := Rep.lst_inv r
    exact .inr ⟨a, vs, rfl, hK ▸ SqL.of e2.1, by rw [RepL.length r2]; exact putAll_len e, ds, ρ, fps, ρ', er, r2, e, q⟩
  | _ => cases e
end
end L2.Py

set_option Elab.async false
set_option linter.all false
set_option maxRecDepth 100000
set_option maxHeartbeats 1000000
/-! PyE13: comprehensions. -/
namespace L2.Py
open PySem PySem.Spec PyProof.Rows TL
section
variable {X : Cx} {fm : Fm} {Wi : WX} {al al1 al2 : Bool} {t : OT} {f g : Rho → R D}
theorem wipe_get {σ : St} : ∀ {vs : List Nat} {i : Nat}, i ∉ vs → (wipe σ vs)[i]? = σ[i]?
  | [], i, _ => rfl
  | v :: vs, i, h => by
    simp only [List.mem_cons, not_or] at h
    unfold wipe
    rw [List.getElem?_set_ne (Ne.symm h.1), wipe_get h.2]
theorem wipe_in {σ : St} : ∀ {vs : List Nat} {i : Nat}, i ∈ vs → (wipe σ vs)[i]? = if i < σ.length then some none else none
  | v :: vs, i, h => by
    unfold wipe
    rw [List.getElem?_set, wipe_length]
    by_cases e : v = i
    · rw [if_pos e, e]
    · rw [if_neg e]
      exact wipe_in ((List.mem_cons.mp h).resolve_left (Ne.symm e))
theorem wipeE_length (ρ : Rho) : ∀ vs : List Nat, (wipeE ρ vs).length = ρ.length
  | [] => rfl
  | v :: vs => by unfold wipeE; rw [List.length_set, wipeE_length ρ vs]
theorem wipeE_some {ρ : Rho} {i : Nat} {x : D} : ∀ {vs : List Nat}, (wipeE ρ vs)[i]? = some (some x) → ρ[i]? = some (some x) ∧ i ∉ vs
  | [], h => ⟨h, by simp⟩
  | v :: vs, h => by
    unfold wipeE at h
    rw [List.getElem?_set] at h
    by_cases e : v = i
    · rw [if_pos e] at h
      split at h <;> cases h
    · rw [if_neg e] at h
      obtain ⟨h1, h2⟩ := wipeE_some h
      exact ⟨h1, by simp only [List.mem_cons, not_or]; exact ⟨fun z => e z.symm, h2⟩⟩
theorem ER.wipe {ρ : Rho} {σ : St} {H : Hp} {fps : Fps} {vs : List Nat} (er : ER fm ρ σ H fps) : ER fm (wipeE ρ vs) (L2.wipe σ vs) H fps where
  len := by rw [wipe_length, wipeE_length]; exact er.len
  rep := fun i d e => by
    obtain ⟨h1, h2⟩ := wipeE_some e
    rw [wipe_get h2]
    exact er.rep i d h1
  nil := fun i hi e => er.nil i (by rw [wipeE_length] at hi; exact hi) e
  nd := er.nd
  dj := er.dj
  new := er.new
  trk := er.trk
  frame := er.frame
  lent := er.lent
theorem wipe_same {σ σ2 : St} {vs : List Nat} (hl : σ2.length = (wipe σ vs).length) (h : ∀ j, j ∉ vs → σ2[j]? = (wipe σ vs)[j]?) : wipe σ2 vs = wipe σ vs := by
  apply List.ext_getElem?
  intro j
  rw [wipe_length] at hl
  by_cases hj : j ∈ vs
  · rw [wipe_in hj, wipe_in hj, hl]
  · rw [wipe_get hj, h j hj]
theorem compL_cons {h : Rho → R D} {p : Rho → R Bool} {bd : D → R Rho} {d : D} {ds rest : List D} (e : compL h p bd (d :: ds) = .ok rest) :
    ∃ ρ' b, bd d = .ok ρ' ∧ p ρ' = .ok b ∧ (b = true → ∃ y ys, h ρ' = .ok y ∧ compL h p bd ds = .ok ys ∧ rest = y :: ys) ∧ (b = false → compL h p bd ds = .ok rest) := by
  unfold compL at e
  cases h1 : bd d with
  | stk => rw [h1] at e; cases e
  | exn c ps => rw [h1] at e; cases e
  | ok ρ' =>
    rw [h1] at e
    rw [ok_bind] at e
    cases h2 : p ρ' with
    | stk => rw [h2] at e; cases e
    | exn c ps => rw [h2] at e; cases e
    | ok b =>
      rw [h2] at e
      rw [ok_bind] at e
      cases b with
      | false =>
        rw [if_neg Bool.false_ne_true] at e
        exact ⟨ρ', false, rfl, h2, (fun z => nomatch z), fun _ => e⟩
      | true =>
        rw [if_pos rfl] at e
        cases h3 : h ρ' with
        | stk => rw [h3] at e; cases e
        | exn c ps => rw [h3] at e; cases e
        | ok y =>
          rw [h3, ok_bind] at e
          cases h4 : compL h p bd ds with
          | stk => rw [h4] at e; cases e
          | exn c ps => rw [h4] at e; cases e
          | ok ys =>
            rw [h4] at e
            injection e with e
            exact ⟨ρ', true, rfl, h2, fun _ => ⟨y, ys, h3, rfl, e.symm⟩, fun z => nomatch z⟩
theorem bindFl_of {fl tt : Bool} {vs : List Nat} {d : D} {ρ ρ' : Rho} (h : bindFl fl tt vs d ρ = .ok ρ') : bindTg tt vs d ρ = .ok ρ' ∧ (fl = true → d.noMut = true) := by
  unfold bindFl at h
  split at h
  · cases h
  · rename_i hz
    refine ⟨h, fun e => ?_⟩
    subst e
    simpa using hz
/-- no exception is wanted -/
def W0 : WX := fun _ _ _ _ => False
/-- what is within a new list's parts -/
def Fc (fm : Fm) (fps : Fps) (H1 : Hp) (p : Addr) (fp : List Addr) : Addr → Prop := fun a => (Fz fm fps a ∨ H1 a = none) ∧ a ≠ p ∧ a ∉ fp
theorem fz_addT {fps : Fps} {n : Nat} {fp : List Addr} {a : Addr} (h : Fz fm (addT fps n fp) a) : Fz fm fps a ∧ a ∉ fp := by
  refine ⟨⟨h.1, fun i hi => h.2 i ?_⟩, fun hf => h.2 n ?_⟩
  · unfold addT
    split
    · exact List.mem_append_left _ hi
    · exact hi
  · unfold addT
    rw [if_pos rfl]
    exact List.mem_append_right _ hf
theorem lc_read {vs : List Nat} {fl tt : Bool} {gs : Rho → R (List D)} {p : Rho → R Bool} {h : Rho → R D} (hfl : al1 = true → fl = true) {σ : St} {H : Hp} {Q : VK}
    (q : tE fm Wi false t (fun ρ => do
      let ds ← gs ρ
      let ys ← noExn (compL h p (fun d => bindFl fl tt vs d (wipeE ρ vs)) ds)
      if ys.length ≤ lim then pure (.lst ys) else .stk) σ H Q) :
    tLc (tI fm Wi al1 gs) (tG fm vs (bindTg tt vs)) (tTT fm W0 p) (tE fm W0 false t.elem h) vs σ H Q := by
  obtain ⟨ρ, fps, er, q⟩ := q
  refine ⟨ρ, fps, er, ?_⟩
  dsimp only at q
  cases e1 : gs ρ with
  | stk => rw [e1] at q; exact q.elim
  | exn c ps => rw [e1] at q; exact q
  | ok ds =>
    rw [e1, ok_bind] at q
    intro J H1 s1 wk
    cases e2 : compL h p (fun d => bindFl fl tt vs d (wipeE ρ vs)) ds with
    | stk => rw [e2] at q; exact q.elim
    | exn c ps => rw [e2] at q; exact q.elim
    | ok yall =>
      rw [e2] at q
      have q : OKE fm Wi false t (if yall.length ≤ lim then pure (.lst yall) else .stk) σ H fps Q := q
      by_cases hlim' : ¬ yall.length ≤ lim
      · rw [if_neg hlim'] at q; exact q.elim
      have hlim := Decidable.not_not.mp hlim'
      rw [if_pos hlim] at q
      intro Dn hDn
      have er1 := er.ext s1
      have hD0 : H Dn = none := s1.free hDn
      refine ⟨fun i m H' => m = ds.length - i ∧ i ≤ ds.length ∧ ∃ ys rest acc fp, compL h p (fun d => bindFl fl tt vs d (wipeE ρ vs)) (ds.drop i) = .ok rest ∧ ys ++ rest = yall ∧ Same H1 H' ∧ H' Dn = some (.lst acc) ∧
        RepL fm.K H' (Fc fm fps H1 Dn fp) ys (fun _ => t.elem) acc fp ∧ fp.Nodup ∧ Dn ∉ fp ∧ ∀ a ∈ fp, H1 a = none, ⟨ds.length, by simp, Nat.zero_le _, [], yall, [], [], e2, rfl, sameUpd (Same.refl _) hDn, upd_same, RepL.nil, List.nodup_nil, by simp, fun a h => nomatch h⟩, ?_⟩
      rintro i m H' ⟨rfl, hi, ys, rest, acc, fp, hrest, hall, s2, hD, rp, nd, nD, new⟩
      have hDtrk : ∀ a ∈ Dn :: fp, H' a ≠ none := fun a ha => by
        rcases List.mem_cons.mp ha with rfl | ha
        · rw [hD]; exact fun z => nomatch z
        · exact RepL.trk _ _ _ _ rp a ha
      by_cases hlt : i < ds.length
      · have hdrop : ds.drop i = ds[i] :: ds.drop (i + 1) := List.drop_eq_getElem_cons hlt
        rw [hdrop] at hrest
        obtain ⟨ρ', b, hb, hp, h1, h2⟩ := compL_cons hrest
        obtain ⟨hb1, hb2⟩ := bindFl_of hb
        have lv : Leaves H1 H' (Fq fm fps H al1 []) (Fq fm fps H al1 []) [] := Leaves.same s2 fun _ _ z => z
        obtain ⟨hgo, hyl⟩ := (wk i H' _ lv).1 ds[i] (by simp [hlt])
        refine .inr ⟨hgo, fun H2 => ∃ m', m' < ds.length - i ∧ (m' = ds.length - (i + 1) ∧ i + 1 ≤ ds.length ∧ ∃ ys rest acc fp, compL h p (fun d => bindFl fl tt vs d (wipeE ρ vs)) (ds.drop (i + 1)) = .ok rest ∧ ys ++ rest = yall ∧ Same H1 H2 ∧ H2 Dn = some (.lst acc) ∧
          RepL fm.K H2 (Fc fm fps H1 Dn fp) ys (fun _ => t.elem) acc fp ∧ fp.Nodup ∧ Dn ∉ fp ∧ ∀ a ∈ fp, H1 a = none), fun _ z => z, fun x H2 hy => ?_⟩
        obtain ⟨s3, rx⟩ := hyl x H2 hy
        have s12 := s2.trans s3
        -- the frame inside the block
        have er2 : ER fm (wipeE ρ vs) (wipe σ vs) H2 (addT fps ρ.length (Dn :: fp)) := by
          have := (er1.temp s12 (fp := Dn :: fp) (List.nodup_cons.mpr ⟨nD, nd⟩) (fun a ha => by
            rcases List.mem_cons.mp ha with rfl | ha
            · exact hDn
            · exact new a ha) (fun a ha z => hDtrk a ha (s3.free z)))
          exact this.wipe
        have rp2 : RepL fm.K H2 (Fc fm fps H1 Dn fp) ys (fun _ => t.elem) acc fp := RepL.leaves _ _ _ _ (Leaves.same s3 fun _ _ z => z) rp
        have hD2 := s3 _ _ hD
        have rxz : Rep fm.K H2 (Fz fm (addT fps ρ.length (Dn :: fp))) ds[i] .fr x [] := by
          cases hal : al1 with
          | true => exact (Rep.flat _ _ _ _ (hb2 (hfl hal)) rx).2 _ _
          | false =>
            rw [hal] at rx
            have nmem : ∀ a, H a = none → H1 a ≠ none → ∀ i, a ∉ fps i := fun a hn _ i hm => er.trk i a hm hn
            by_cases hz : True
            · rw [hal] at lv
              -- the item is read at H1, then carried on
              have lv' : Leaves H1 H' (Fq fm fps H al1 []) (fun a => H1 a ≠ none ∧ Fq fm fps H al1 [] a) [] := by
                refine ⟨(fun a ha => nomatch ha), fun a u r z => ⟨rdSame s2 r, rd_ne r, z⟩, fun a vs e z => ⟨s2 _ _ e, by rw [e]; exact (fun z => nomatch z), z⟩, fun a vs e => s2 _ _ e, fun a o vs e => s2 _ _ e⟩
              obtain ⟨_, hyl'⟩ := (wk i H' _ lv').1 ds[i] (by simp [hlt])
              obtain ⟨_, rx'⟩ := hyl' x H2 hy
              refine Rep.leaves _ _ _ _ (Leaves.same (Same.refl _) fun a ha z => ?_) rx'
              obtain ⟨z1, z2⟩ := z
              rw [hal] at z2
              rcases z2 with z2 | ⟨z2, _⟩
              · cases z2
              · have zz : (fm.B a ∨ fm.H0 a = none ∨ a ∈ fm.Lt) ∧ ∀ i, a ∉ fps i := by
                  rcases z2 with z2 | z2
                  · exact z2
                  · exact ⟨.inr (.inl (er.h0 z2)), nmem a z2 z1⟩
                refine ⟨zz.1, fun j hj => ?_⟩
                rcases mem_addT hj with w | ⟨_, w⟩
                · exact zz.2 j w
                · rcases List.mem_cons.mp w with rfl | w
                  · exact z1 hDn
                  · exact z1 (new a w)
            · exact absurd trivial hz
        refine ⟨ds[i], wipeE ρ vs, _, ρ', er2, rxz, hb1, fun σ2 er3 l3 k3 => ⟨wipe_same l3 k3, ρ', _, er3, ?_⟩⟩
        rw [hp]
        intro H3 s4
        have s13 := s12.trans s4
        cases b with
        | false =>
          simp only [if_neg Bool.false_ne_true]
          exact ⟨ds.length - (i + 1), by omega, rfl, by omega, ys, rest, acc, fp, h2 rfl, hall, s13, s4 _ _ hD2, RepL.leaves _ _ _ _ (Leaves.same s4 fun _ _ z => z) rp2, nd, nD, new⟩
        | true =>
          simp only [if_true]
          obtain ⟨y, ysr, hh, hc, rfl⟩ := h1 rfl
          refine ⟨ρ', _, er3.ext s4, ?_⟩
          rw [hh]
          intro v H4 fp2 s5 x5
          have s14 := s13.trans s5
          have s24 := s4.trans s5
          have hD4 := s24 _ _ hD2
          have accl : acc.length < sizeLine := by
            have e := RepL.length rp
            rw [e]
            have : ys.length < yall.length := by rw [← hall, List.length_append, List.length_cons]; omega
            rw [sizeLine_eq]
            have := hlim
            unfold lim at this
            omega
          refine ⟨acc, hD4, accl, ds.length - (i + 1), by omega, rfl, by omega, ys ++ [y], ysr, acc ++ [v], fp ++ fp2, hc, by rw [← hall]; simp, ?_, upd_same, ?_, ?_, ?_, ?_⟩
          · intro a o e
            have := s14 a o e
            rw [upd_ne (fun z => by rw [z, hDn] at e; cases e)]
            exact this
          · have t3 : ∀ a ∈ fp, H3 a ≠ none := fun a ha z => hDtrk a (List.mem_cons_of_mem _ ha) (s3.free (s4.free z))
            have lvA : ∀ {F : Addr → Prop} {fq : List Addr}, (∀ a, F a → a ≠ Dn) → Dn ∉ fq → Leaves H4 (upd H4 Dn (.lst (acc ++ [v]))) F F fq := fun {F fq} hF hq => by
              refine ⟨fun a ha o e => ?_, fun a u r z => ⟨?_, z⟩, fun a us e z => ⟨?_, z⟩, fun a us e => ?_, fun a o us e => ?_⟩
              · rw [upd_ne (fun z => hq (by rw [← z]; exact ha))]; exact e
              · rcases r with r | ⟨o, r⟩
                · exact .inl (by rw [upd_ne (hF a z)]; exact r)
                · exact .inr ⟨o, by rw [upd_ne (hF a z)]; exact r⟩
              · rw [upd_ne (hF a z)]; exact e
              · rw [upd_ne (fun z => by rw [z, hD4] at e; cases e)]; exact e
              · rw [upd_ne (fun z => by rw [z, hD4] at e; cases e)]; exact e
            have nD2 : Dn ∉ fp2 := fun hm => by
              have := x5.new _ hm
              rw [s4 _ _ hD2] at this
              cases this
            have r1 : RepL fm.K H4 (Fc fm fps H1 Dn (fp ++ fp2)) ys (fun _ => t.elem) acc fp := RepL.leaves _ _ _ _ (Leaves.same s24 fun a ha z => ⟨z.1, z.2.1, fun hm => by
              rcases List.mem_append.mp hm with hm | hm
              · exact z.2.2 hm
              · exact ha (s4.free (x5.new a hm))⟩) rp2
            have r2 : RepL fm.K H4 (Fc fm fps H1 Dn (fp ++ fp2)) [y] (fun _ => t.elem) [v] fp2 := by
              have := RepL.cons (f := fun _ => t.elem) (Rep.leaves _ _ _ _ (Leaves.same (Same.refl _) fun a ha z => ?_) x5.rep) (RepL.nil (K := fm.K) (H := H4) (F := Fc fm fps H1 Dn (fp ++ fp2)))
              · rw [List.append_nil] at this; exact this
              · rcases z with z | ⟨z1, z2⟩
                · cases z
                · rcases z1 with z1 | z1
                  · obtain ⟨w1, w2⟩ := fz_addT z1
                    simp only [List.mem_cons, not_or] at w2
                    exact ⟨.inl w1, w2.1, fun hm => (List.mem_append.mp hm).elim w2.2 z2⟩
                  · refine ⟨.inr (s13.free z1), fun z => ?_, fun hm => (List.mem_append.mp hm).elim (fun w => t3 a w z1) z2⟩
                    rw [z, s4 _ _ hD2] at z1; cases z1
            refine RepL.leaves _ _ _ _ (lvA (fun a z => z.2.1) fun hm => ?_) (RepL.app r1 r2)
            exact (List.mem_append.mp hm).elim nD nD2
          · exact List.nodup_append.mpr ⟨nd, x5.nd, fun a ha b hb e => by
              subst e
              exact hDtrk a (List.mem_cons_of_mem _ ha) (s3.free (s4.free (x5.new a hb)))⟩
          · intro hm
            rcases List.mem_append.mp hm with hm | hm
            · exact nD hm
            · have := x5.new _ hm
              rw [s4 _ _ hD2] at this
              cases this
          · intro a ha
            rcases List.mem_append.mp ha with ha | ha
            · exact new a ha
            · exact s13.free (x5.new a ha)
      · have ei : i = ds.length := by omega
        subst ei
        have lv : Leaves H1 H' (Fq fm fps H al1 []) (Fq fm fps H al1 []) [] := Leaves.same s2 fun _ _ z => z
        refine .inl ⟨(wk ds.length H' _ lv).2 (Nat.le_refl _), ?_⟩
        rw [List.drop_length] at hrest
        have er0 : rest = [] := by unfold compL at hrest; injection hrest with z; exact z.symm
        subst er0
        rw [List.append_nil] at hall
        subst hall
        have sH := s1.trans s2
        have fin : ∃ fp', XR fm fps H H' false (.lst ys) t (.ref Dn) fp' := by
          cases t with
          | ow t =>
            refine ⟨Dn :: fp, ?_, List.nodup_cons.mpr ⟨nD, nd⟩, fun a ha => ?_⟩
            · simp only [Rep]
              refine ⟨Dn, acc, fp, rfl, ⟨hD, rfl⟩, RepL.leaves _ _ _ _ (Leaves.same (Same.refl _) fun a ha z => .inr ⟨z.1.imp id fun w => s1.free w, fun hm => ?_⟩) rp⟩
              rcases List.mem_cons.mp hm with hm | hm
              · exact z.2.1 hm
              · exact z.2.2 hm
            · rcases List.mem_cons.mp ha with rfl | ha
              · exact hD0
              · exact s1.free (new a ha)
          | fr =>
            have e : fp = [] := (RepL.fr_nil rp).1
            subst e
            refine ⟨[], ?_, List.nodup_nil, fun a ha => nomatch ha⟩
            simp only [Rep]
            exact ⟨Dn, acc, [], rfl, ⟨⟨hD, .inr ⟨.inr hD0, by simp⟩⟩, rfl⟩, RepL.leaves _ _ _ _ (Leaves.same (Same.refl _) fun a ha z => .inr ⟨z.1.imp id fun w => s1.free w, by simp⟩) rp⟩
          | tp ts =>
            have e : fp = [] := (RepL.fr_nil rp).1
            subst e
            refine ⟨[], ?_, List.nodup_nil, fun a ha => nomatch ha⟩
            simp only [Rep]
            exact ⟨Dn, acc, [], rfl, ⟨⟨hD, .inr ⟨.inr hD0, by simp⟩⟩, rfl⟩, RepL.leaves _ _ _ _ (Leaves.same (Same.refl _) fun a ha z => .inr ⟨z.1.imp id fun w => s1.free w, by simp⟩) rp⟩
        obtain ⟨fp', x'⟩ := fin
        exact q _ H' fp' sH x'
theorem PTs.imp {e : List Expr} {t t' : TT} (p : PTs X e t) (h : ∀ σ H Q, t' σ H Q → t σ H Q) : PTs X e t' := ⟨fun pins s σ H Q I q => p.run pins s σ H Q I (h σ H Q q)⟩
theorem dts_nil : PTs X [] (tTT fm Wi fun _ => .ok true) := PTs.imp pts_nil fun σ H Q ⟨ρ, fps, er, h⟩ => h H (Same.refl _)
theorem set_ofF {e : Expr} {env : PySem.Env} (h : noSet e = true) : ∀ x, foldedSetIterable e env x = pure x := set_of h
theorem de_comp {elt tg iter : Expr} {ifs : List Expr} {scope : Scope} {own : List (Str × Nat)} {pos : Pos} {vs : List Nat} {fl tt : Bool} {gs : Rho → R (List D)} {p : Rho → R Bool} {h : Rho → R D} (hc : X.calm = true) (hN : X.N.Nodup)
    (hi : PI X tg iter (tI fm Wi al1 gs)) (ok : BlkOk X.N X.env.scope scope own) (how : own.map (·.2) = vs)
    (hg : ∀ (s : Shared) (H : Hp) (C : Addr) (cl : List (Str × Addr)) (fp : List Addr), PG (X.blk s H scope (compEnvC scope cl C X.env) fp) tg (tG fm vs (bindTg tt vs)))
    (ht : ∀ (s : Shared) (H : Hp) (C : Addr) (cl : List (Str × Addr)) (fp : List Addr), PTs (X.blk s H scope (compEnvC scope cl C X.env) fp) ifs (tTT fm W0 p))
    (he : ∀ (s : Shared) (H : Hp) (C : Addr) (cl : List (Str × Addr)) (fp : List Addr), PE (X.blk s H scope (compEnvC scope cl C X.env) fp) elt (tE fm W0 false t.elem h)) (hfl : al1 = true → fl = true) (hs : noSet iter = true) :
    PE X (.ListComp elt [⟨tg, iter, ifs, 0⟩] scope pos) (tE fm Wi false t fun ρ => do
      let ds ← gs ρ
      let ys ← noExn (compL h p (fun d => bindFl fl tt vs d (wipeE ρ vs)) ds)
      if ys.length ≤ lim then pure (.lst ys) else .stk) := by
  subst how
  exact PE.imp (pe_lc hc hN hi ok hg ht he (set_of hs)) fun σ H Q q => lc_read hfl q
end
end L2.Py

set_option Elab.async false
set_option linter.all false
set_option maxRecDepth 100000
set_option maxHeartbeats 1000000
/-! PyE14: statements. -/
namespace L2.Py
open PySem PySem.Spec PyProof.Rows TL
abbrev Fm.w (fm : Fm) (ot : Nat → OT) : Fm := { fm with ot := ot }
def nof : Fps := fun _ => []
def setF (fps : Fps) (i : Nat) (fp : List Addr) : Fps := fun j => if j = i then fp else fps j
def otSet (ot : Nat → OT) (i : Nat) (t : OT) : Nat → OT := fun j => if j = i then t else ot j
theorem setF_same {fps : Fps} {i : Nat} {fp : List Addr} : setF fps i fp i = fp := if_pos rfl
theorem setF_ne {fps : Fps} {i j : Nat} {fp : List Addr} (h : j ≠ i) : setF fps i fp j = fps j := if_neg h
theorem mem_setF {fps : Fps} {i j : Nat} {fp : List Addr} {a : Addr} (h : a ∈ setF fps i fp j) : (j = i ∧ a ∈ fp) ∨ (j ≠ i ∧ a ∈ fps j) := by
  unfold setF at h
  split at h
  · rename_i e; exact .inl ⟨e, h⟩
  · rename_i e; exact .inr ⟨e, h⟩
/-- what a return gives -/
def RetR (fm : Fm) (res : OT) (d : D) (v : V) (H' : Hp) : Prop :=
  ∃ fp, (∀ a o, fm.H0 a = some o → a ∉ fm.Lt → H' a = some o) ∧ fp.Nodup ∧ (∀ a ∈ fp, fm.H0 a = none ∨ a ∈ fm.Lt) ∧ Rep fm.K H' (fun a => (fm.B a ∨ fm.H0 a = none ∨ a ∈ fm.Lt) ∧ a ∉ fp) d res v fp
def OKS (fm : Fm) (Wi : WX) (res : OT) (ot' : Nat → OT) (o : Out) (H : Hp) (fps : Fps) (D : Ends) : Prop :=
  match o with
  | .next ρ' => ∀ σ' H' fps', ER (fm.w ot') ρ' σ' H' fps' → Leaves H H' (Fz fm fps) (Fz fm fps') [] → D.nx σ' H'
  | .ret d _ => ∀ v H', RetR fm res d v H' → D.rt v H'
  | .exn c ps ρ' => ∀ cls dx σ' H', ER (fm.w frs0) ρ' σ' H' nof → Leaves H H' (Fz fm fps) (Fz fm nof) [] → ExnR fm H' c ps cls dx → Wi cls dx σ' H'
  | .stk => False
def tB (fm : Fm) (Wi : WX) (res : OT) (ot ot' : Nat → OT) (f : Rho → Out) : TS := fun D σ H => ∃ ρ fps, ER (fm.w ot) ρ σ H fps ∧ OKS fm Wi res ot' (f ρ) H fps D
theorem PS.imp {X : Cx} {e : Stmt} {t t' : TS} (p : PS X e t) (h : ∀ D σ H, t' D σ H → t D σ H) : PS X e t' := ⟨fun pins s σ H D I q => p.run pins s σ H D I (h D σ H q)⟩
theorem PSs.imp {X : Cx} {e : List Stmt} {t t' : TS} (p : PSs X e t) (h : ∀ D σ H, t' D σ H → t D σ H) : PSs X e t' := ⟨fun pins s σ H D I q => p.run pins s σ H D I (h D σ H q)⟩
theorem Leaves.trans {H H' H'' : Hp} {F F' F'' : Addr → Prop} (l : Leaves H H' F F' []) (m : Leaves H' H'' F' F'' []) : Leaves H H'' F F'' [] :=
  ⟨(fun a ha => nomatch ha), fun a u r z => let ⟨r', z'⟩ := l.frz a u r z; m.frz a u r' z', fun a vs e z => let ⟨e', z'⟩ := l.lst a vs e z; m.lst a vs e' z', fun a vs e => m.tup a vs (l.tup a vs e), fun a o vs e => m.scr a o vs (l.scr a o vs e)⟩
section
variable {X : Cx} {fm : Fm} {Wi : WX} {al al1 al2 : Bool} {t res : OT} {f g : Rho → R D} {ot ot' ot'' : Nat → OT} {ρ : Rho} {σ : St} {H H1 H2 : Hp} {fps fps1 : Fps} {D1 D2 : Ends}
theorem fz_nof {a : Addr} (h : Fz fm fps a) : Fz fm nof a := ⟨h.1, fun i h => nomatch h⟩
theorem ER.freeze (er : ER (fm.w ot) ρ σ H fps) : ER (fm.w frs0) ρ σ H nof where
  len := er.len
  rep := fun i d e => by
    obtain ⟨v, e1, r⟩ := er.rep i d e
    exact ⟨v, e1, Rep.forget _ _ _ _ (fun a _ q => fz_nof q) (fun a ha => ⟨.inr (er.new i a ha), fun j h => nomatch h⟩) r⟩
  nil := fun _ _ _ => rfl
  nd := fun _ => List.nodup_nil
  dj := fun i j a _ h => nomatch h
  new := fun i a h => nomatch h
  trk := fun i a h => nomatch h
  frame := er.frame
  lent := er.lent
theorem ER.frz1 (i : Nat) (er : ER (fm.w ot) ρ σ H fps) : ER (fm.w (otSet ot i .fr)) ρ σ H (setF fps i []) where
  len := er.len
  rep := fun j d e => by
    obtain ⟨v, e1, r⟩ := er.rep j d e
    refine ⟨v, e1, ?_⟩
    have hF : ∀ a, H a ≠ none → Fz (fm.w ot) fps a → Fz (fm.w (otSet ot i .fr)) (setF fps i []) a := fun a _ q => ⟨q.1, fun k hk => by
      rcases mem_setF hk with ⟨_, z⟩ | ⟨_, z⟩
      · cases z
      · exact q.2 k z⟩
    by_cases hj : j = i
    · subst hj
      have eo : (fm.w (otSet ot j .fr)).ot j = .fr := if_pos rfl
      rw [eo, setF_same]
      refine Rep.forget _ _ _ _ hF (fun a ha => ⟨.inr (er.new j a ha), fun k hk => ?_⟩) r
      rcases mem_setF hk with ⟨_, z⟩ | ⟨ne, z⟩
      · cases z
      · exact er.dj j k a (Ne.symm ne) ha z
    · have eo : (fm.w (otSet ot i .fr)).ot j = ot j := if_neg hj
      rw [eo, setF_ne hj]
      exact Rep.leaves _ _ _ _ (Leaves.same (Same.refl _) hF) r
  nil := fun j hj e => by
    by_cases hji : j = i
    · rw [hji, setF_same]
    · have eo : otSet ot i .fr j = ot j := if_neg hji
      rw [setF_ne hji]
      exact er.nil j hj (eo.symm.trans e)
  nd := fun j => by
    unfold setF
    split
    · exact List.nodup_nil
    · exact er.nd j
  dj := fun j k a hjk h1 h2 => by
    rcases mem_setF h1 with ⟨_, z⟩ | ⟨_, z⟩
    · cases z
    · rcases mem_setF h2 with ⟨_, w⟩ | ⟨_, w⟩
      · cases w
      · exact er.dj j k a hjk z w
  new := fun j a h => by
    rcases mem_setF h with ⟨_, z⟩ | ⟨_, z⟩
    · cases z
    · exact er.new j a z
  trk := fun j a h => by
    rcases mem_setF h with ⟨_, z⟩ | ⟨_, z⟩
    · cases z
    · exact er.trk j a z
  frame := er.frame
  lent := er.lent
theorem ER.put {i : Nat} {d : D} {v : V} {fp : List Addr} (er : ER (fm.w ot) ρ σ H fps) (s : Same H H1) (x : XR (fm.w ot) fps H H1 false d t v fp) :
    ER (fm.w (otSet ot i t)) (ρ.put i d) (σ.set i (some v)) H1 (setF fps i fp) ∧ Leaves H H1 (Fz fm fps) (Fz fm (setF fps i fp)) [] := by
  have hF : ∀ a, H a ≠ none → Fz fm fps a → Fz fm (setF fps i fp) a := fun a ha q => ⟨q.1, fun k hk => by
    rcases mem_setF hk with ⟨_, z⟩ | ⟨_, z⟩
    · exact ha (x.new a z)
    · exact q.2 k z⟩
  refine ⟨⟨?_, ?_, ?_, ?_, ?_, ?_, ?_, ?_, ?_⟩, Leaves.same s hF⟩
  · rw [List.length_set, Rho.put, List.length_set]; exact er.len
  · intro j y e
    unfold Rho.put at e
    rw [List.getElem?_set] at e
    rw [List.getElem?_set]
    by_cases hij : i = j
    · subst hij
      rw [if_pos rfl] at e ⊢
      by_cases hl : i < ρ.length
      · rw [if_pos hl] at e
        injection e with e
        injection e with e
        subst e
        rw [if_pos (by rw [er.len]; exact hl)]
        have eo : (fm.w (otSet ot i t)).ot i = t := if_pos rfl
        rw [eo, setF_same]
        refine ⟨v, rfl, Rep.leaves _ _ _ _ (Leaves.same (Same.refl _) fun a ha q => ?_) x.rep⟩
        rcases q with q | ⟨q1, q2⟩
        · cases q
        · rcases q1 with q1 | q1
          · refine ⟨q1.1, fun k hk => ?_⟩
            rcases mem_setF hk with ⟨_, z⟩ | ⟨_, z⟩
            · exact q2 z
            · exact q1.2 k z
          · refine ⟨.inr (.inl (er.h0 q1)), fun k hk => ?_⟩
            rcases mem_setF hk with ⟨_, z⟩ | ⟨_, z⟩
            · exact q2 z
            · exact er.trk k a z q1
      · rw [if_neg hl] at e; cases e
    · rw [if_neg hij] at e ⊢
      obtain ⟨u, e1, r⟩ := er.rep j y e
      have eo : (fm.w (otSet ot i t)).ot j = ot j := if_neg (Ne.symm hij)
      rw [eo, setF_ne (Ne.symm hij)]
      exact ⟨u, e1, Rep.leaves _ _ _ _ (Leaves.same s hF) r⟩
  · intro j hj e
    rw [Rho.put, List.length_set] at hj
    by_cases hji : j = i
    · subst hji
      have eo : otSet ot j t j = t := if_pos rfl
      have e : otSet ot j t j = .fr := e
      rw [eo] at e
      subst e
      rw [setF_same]
      exact x.fr
    · have eo : otSet ot i t j = ot j := if_neg hji
      rw [setF_ne hji]
      exact er.nil j hj (eo.symm.trans e)
  · intro j
    unfold setF
    split
    · exact x.nd
    · exact er.nd j
  · intro j k a hjk h1 h2
    rcases mem_setF h1 with ⟨e1, z⟩ | ⟨e1, z⟩
    · rcases mem_setF h2 with ⟨e2, w⟩ | ⟨e2, w⟩
      · exact hjk (e1.trans e2.symm)
      · exact er.trk k a w (x.new a z)
    · rcases mem_setF h2 with ⟨e2, w⟩ | ⟨e2, w⟩
      · exact er.trk j a z (x.new a w)
      · exact er.dj j k a hjk z w
  · intro j a h
    rcases mem_setF h with ⟨_, z⟩ | ⟨_, z⟩
    · exact .inl (er.h0 (x.new a z))
    · exact er.new j a z
  · intro j a h z
    rcases mem_setF h with ⟨_, w⟩ | ⟨_, w⟩
    · exact Rep.trk _ _ _ _ x.rep a w z
    · exact er.trk j a w (s.free z)
  · exact fun a o e n => s _ _ (er.frame a o e n)
  · exact fun a h z => er.lent a h (s.free z)

/-! ### joining readings -/
theorem OKS.from {o : Out} (l : Leaves H H1 (Fz fm fps) (Fz fm fps1) []) (h : OKS fm Wi res ot' o H fps D1) : OKS fm Wi res ot' o H1 fps1 D1 := by
  cases o with
  | next ρ' => exact fun σ' H' fps' er m => h σ' H' fps' er (l.trans m)
  | ret d ρ' => exact h
  | exn c ps ρ' => exact fun cls dx σ' H' er m => h cls dx σ' H' er (l.trans m)
  | stk => exact h
theorem OKS.ofR {r : R D} {k : D → Out} {Q : VK} (er : ER (fm.w ot) ρ σ H fps) (h : OKS fm Wi res ot' (Out.ofR ρ r k) H fps D1)
    (hk : ∀ d v H1 fp, r = .ok d → OKS fm Wi res ot' (k d) H fps D1 → Same H H1 → XR (fm.w ot) fps H H1 al d t v fp → Q v H1) : OKE (fm.w ot) Wi al t r σ H fps Q := by
  cases r with
  | ok d => exact fun v H' fp s x => hk d v H' fp rfl h s x
  | exn c ps => exact fun cls dx H' s e => h cls dx σ H' (er.ext s).freeze (Leaves.same s fun _ _ z => fz_nof z) e
  | stk => exact h
theorem OKS.ofL {r : R (List D)} {k : List D → Out} {Q : List V → Hp → Prop} {ft : Nat → OT} (er : ER (fm.w ot) ρ σ H fps) (h : OKS fm Wi res ot' (Out.ofR ρ r k) H fps D1)
    (hk : ∀ d v H1 fp, r = .ok d → OKS fm Wi res ot' (k d) H fps D1 → Same H H1 → XRL (fm.w ot) fps H H1 al d ft v fp → Q v H1) : OKL (fm.w ot) Wi al ft r σ H fps Q := by
  cases r with
  | ok d => exact fun v H' fp s x => hk d v H' fp rfl h s x
  | exn c ps => exact fun cls dx H' s e => h cls dx σ H' (er.ext s).freeze (Leaves.same s fun _ _ z => fz_nof z) e
  | stk => exact h
theorem OKS.ofB {r : R Bool} {k : Bool → Out} {Q : Bool → Hp → Prop} (er : ER (fm.w ot) ρ σ H fps) (h : OKS fm Wi res ot' (Out.ofR ρ r k) H fps D1)
    (hk : ∀ d H1, r = .ok d → OKS fm Wi res ot' (k d) H fps D1 → Same H H1 → Q d H1) : OKB (fm.w ot) Wi r σ H Q := by
  cases r with
  | ok d => exact fun H' s => hk d H' rfl h s
  | exn c ps => exact fun cls dx H' s e => h cls dx σ H' (er.ext s).freeze (Leaves.same s fun _ _ z => fz_nof z) e
  | stk => exact h
theorem OKS.ofI {r : R (List D)} {k : List D → Out} {Q : It → Hp → Prop} (er : ER (fm.w ot) ρ σ H fps) (h : OKS fm Wi res ot' (Out.ofR ρ r k) H fps D1)
    (hk : ∀ ds J H1, r = .ok ds → OKS fm Wi res ot' (k ds) H fps D1 → Same H H1 → Wk fm.K J H1 (Fq (fm.w ot) fps H al []) ds → Q J H1) : OKI (fm.w ot) Wi al r σ H fps Q := by
  cases r with
  | ok d => exact fun J H' s x => hk d J H' rfl h s x
  | exn c ps => exact fun cls dx H' s e => h cls dx σ H' (er.ext s).freeze (Leaves.same s fun _ _ z => fz_nof z) e
  | stk => exact h
theorem OKS.same {o : Out} (s : Same H H1) (h : OKS fm Wi res ot' o H fps D1) : OKS fm Wi res ot' o H1 fps D1 := h.from (Leaves.same s fun _ _ z => z)

/-! ### the statements -/
theorem dS_nil : PSs X [] (tB fm Wi res ot ot Out.next) := PSs.imp pss_nil fun En σ H ⟨ρ, fps, er, h⟩ => h σ H fps er (Leaves.same (Same.refl _) fun _ _ z => z)
theorem dS_cons {st : Stmt} {sts : List Stmt} {a b : Rho → Out} (h1 : PS X st (tB fm Wi res ot ot' a)) (h2 : PSs X sts (tB fm Wi res ot' ot'' b)) :
    PSs X (st :: sts) (tB fm Wi res ot ot'' fun ρ => match a ρ with | .next ρ' => b ρ' | o => o) := by
  refine PSs.imp (pss_cons h1 h2) fun En σ H ⟨ρ, fps, er, h⟩ => ⟨ρ, fps, er, ?_⟩
  dsimp only at h
  cases e : a ρ with
  | next ρ' =>
    rw [e] at h
    exact fun σ' H' fps' er' l => ⟨ρ', fps', er', OKS.from l h⟩
  | ret d ρ' => rw [e] at h; exact h
  | exn c ps ρ' => rw [e] at h; exact h
  | stk => rw [e] at h; exact h
theorem dS_frz {sts : List Stmt} {b : Rho → Out} (i : Nat) (h : PSs X sts (tB fm Wi res (otSet ot i .fr) ot' b)) : PSs X sts (tB fm Wi res ot ot' b) :=
  PSs.imp h fun En σ H ⟨ρ, fps, er, h⟩ => ⟨ρ, _, er.frz1 i, OKS.from (Leaves.same (Same.refl _) fun a _ z => ⟨z.1, fun k hk => by
    rcases mem_setF hk with ⟨_, w⟩ | ⟨_, w⟩
    · cases w
    · exact z.2 k w⟩) h⟩
theorem d_pass {pos : Pos} : PS X (.Pass pos) (tB fm Wi res ot ot Out.next) := PS.imp ps_pass fun En σ H ⟨ρ, fps, er, h⟩ => h σ H fps er (Leaves.same (Same.refl _) fun _ _ z => z)
/-- a local name of the def -/
structure Nm (X : Cx) (i : Nat) (x : Str) : Prop where
  ix : X.N[i]? = some x
  loc : Loc X.env.scope x
  fn : X.fn x = true ∨ X.env.scope.names.lookup x = some .local
theorem d_set {i : Nat} {x : Str} {e : Expr} {pos pos' : Pos} (hN : X.N.Nodup) (n : Nm X i x) (he : PE X e (tE (fm.w ot) Wi false t f)) (hc : noComp e = true) :
    PS X (.Assign [.Name x pos'] e pos) (tB fm Wi res ot (otSet ot i t) fun ρ => .ofR ρ (f ρ) fun d => .next (ρ.put i d)) := by
  refine PS.imp (ps_set hN n.ix n.loc he (comp_of hc) n.fn) fun En σ H ⟨ρ, fps, er, h⟩ => ⟨ρ, fps, er, OKS.ofR er h fun d v H1 fp e1 hk s x => ?_⟩
  obtain ⟨q1, q2⟩ := er.put (i := i) s x
  exact hk _ H1 _ q1 q2
theorem swSole {tg : Expr} {e : Expr} {l : Nat} {env : PySem.Env} (hc : noComp e = true) : swapsWithSole [tg] e l env = pure false := by
  show swapsWith e (some tg) l env = pure false
  exact comp_of hc
def noTup : Expr → Bool
  | .Tuple _ _ _ => false
  | _ => true
theorem swNone {tg : Expr} {e : Expr} {env : PySem.Env} (h : noTup e = true) : swappedStores [tg] e env = pure none := by
  cases e <;> first
    | (cases h; done)
    | (cases tg <;> rfl)
theorem d_asgT {is : List Nat} {es : List Expr} {e : Expr} {pos pt : Pos} {k : Nat} (hK : fm.K = X.K) (hN : X.N.Nodup) (hcm : X.calm = true) (n : TgL X (fm.w ot) is es) (he : PE X e (tE (fm.w ot) Wi false .fr f)) (hc : noComp e = true) (ht : noTup e = true) :
    PS X (.Assign [.Tuple es k pt] e pos) (tB fm Wi res ot ot fun ρ => .ofR ρ (f ρ) fun d => match d with | .tup ds => .ofR ρ (putAll ρ is ds) .next | .lst ds => .ofR ρ (putAll ρ is ds) .next | _ => .stk) := by
  refine PS.imp (ps_asg he (dg_tup (fm := fm.w ot) hK hN hcm n) (swSole hc) (swNone ht)) fun En σ H ⟨ρ, fps, er, h⟩ => ⟨ρ, fps, er, OKS.ofR er h fun d v H1 fp e1 hk s x => ?_⟩
  obtain rfl := x.fr
  have key : ∀ (is : List Nat) (ds : List D) (ρ : Rho) c ps, putAll ρ is ds ≠ .exn c ps := by
    intro is
    induction is with
    | nil => intro ds ρ c ps h; cases ds <;> (unfold putAll at h; cases h)
    | cons i is ih =>
      intro ds ρ c ps h
      cases ds with
      | nil => unfold putAll at h; cases h
      | cons d ds => unfold putAll at h; exact ih _ _ _ _ h
  have go : ∀ ds, (∀ ρ', putAll ρ is ds = .ok ρ' → bindTg true is d ρ = .ok ρ') → OKS fm Wi res ot (.ofR ρ (putAll ρ is ds) .next) H fps En → tG (fm.w ot) is (bindTg true is) v σ H1 En.nx := fun ds hb hk => by
    cases e2 : putAll ρ is ds with
    | ok ρ' =>
      rw [e2] at hk
      refine ⟨d, ρ, fps, ρ', er.ext s, ?_, hb ρ' e2, fun σ' er' _ _ => hk σ' H1 fps er' (Leaves.same s fun _ _ z => z)⟩
      refine Rep.leaves _ _ _ _ (Leaves.same (Same.refl _) fun a ha z => ?_) x.rep
      rcases z with z | ⟨z, _⟩
      · cases z
      · rcases z with z | z
        · exact z
        · exact ⟨.inr (.inl (er.h0 z)), fun j hj => er.trk j a hj z⟩
    | exn c ps => exact absurd e2 (key is ds ρ c ps)
    | stk => rw [e2] at hk; exact hk.elim
  cases d with
  | tup ds => exact go ds (fun ρ' e => by unfold bindTg; exact e) hk
  | lst ds => exact go ds (fun ρ' e => by unfold bindTg; exact e) hk
  | _ => exact hk.elim
theorem d_inc {i : Nat} {x : Str} {e : Expr} {pos pos' : Pos} (hN : X.N.Nodup) (n : Nm X i x) (ho : ot i = .fr) (he : PE X e (tE (fm.w ot) Wi al .fr f)) :
    PS X (.AugAssign (.Name x pos') .Add e pos) (tB fm Wi res ot ot fun ρ => .ofR ρ (ρ.get i) fun x => match x with | .int _ => .ofR ρ (f ρ) fun y => (match y with | .int _ => .ofR ρ (binD .add x y) fun z => .next (ρ.put i z) | _ => .stk) | _ => .stk) := by
  refine PS.imp (ps_aug hN n.ix n.loc he ip_add n.fn) fun En σ H ⟨ρ, fps, er, h⟩ => ?_
  dsimp only at h
  unfold Rho.get at h
  split at h
  · rename_i d e
    obtain ⟨v, e1, r⟩ := er.rep i d e
    rw [ofR_ok] at h
    cases d with
    | int a =>
      have e3 : v = .int a := by simp only [Rep] at r; exact r.1
      subst e3
      refine ⟨.int a, e1, ρ, fps, er, OKS.ofR er h fun d v H1 fp e4 hk s x => ?_⟩
      cases d with
      | int b =>
        obtain rfl := x.read.int
        refine ⟨a, b, rfl, rfl, ?_⟩
        have x' : XR (fm.w ot) fps H H1 false (.int (a + b)) .fr (.int (a + b)) [] := XR.int
        obtain ⟨q1, q2⟩ := er.put (i := i) s x'
        have eo : otSet ot i .fr = ot := by
          funext j
          unfold otSet
          split
          · rename_i z; rw [z, ho]
          · rfl
        rw [eo] at q1
        exact hk _ H1 _ q1 q2
      | _ => exact hk.elim
    | _ => exact h.elim
  · exact h.elim
theorem d_if {c : Expr} {a b : List Stmt} {pos : Pos} {fa fb : Rho → Out} (hc : PT X c (tTT (fm.w ot) Wi fun ρ => f ρ >>= isTrueD)) (ha : PSs X a (tB fm Wi res ot ot' fa)) (hb : PSs X b (tB fm Wi res ot ot' fb)) :
    PS X (.If c a b pos) (tB fm Wi res ot ot' fun ρ => .ofR ρ (f ρ) fun x => .ofR ρ (isTrueD x) fun t => if t then fa ρ else fb ρ) := by
  refine PS.imp (ps_if hc ha hb) fun En σ H ⟨ρ, fps, er, h⟩ => ⟨ρ, fps, er, ?_⟩
  have e : (Out.ofR ρ (f ρ) fun x => .ofR ρ (isTrueD x) fun t => if t then fa ρ else fb ρ) = Out.ofR ρ (f ρ >>= isTrueD) fun t => if t then fa ρ else fb ρ := by
    cases f ρ <;> rfl
  dsimp only at h
  rw [e] at h
  refine OKS.ofB er h fun d H1 e1 hk s => ?_
  cases d with
  | true => exact ⟨ρ, fps, er.ext s, OKS.same s hk⟩
  | false => exact ⟨ρ, fps, er.ext s, OKS.same s hk⟩
theorem d_while {c : Expr} {b : List Stmt} {pos : Pos} {fb : Rho → Out} (hp : PassesOwn (model X.prog X.w) X.A X.env X.xe) (hc : PT X c (tTT (fm.w ot) Wi fun ρ => f ρ >>= isTrueD)) (hb : PSs X b (tB fm Wi res ot ot fb)) :
    PS X (.While c b [] pos) (tB fm Wi res ot ot fun ρ => whileR (fun r => f r >>= isTrueD) fb ρ) := by
  refine PS.imp (ps_while hp hc hb) fun En σ H ⟨ρ, fps, er, h⟩ => ?_
  dsimp only at h
  have hn : whileR (fun r => f r >>= isTrueD) fb ρ ≠ .stk := fun z => by rw [z] at h; exact h
  obtain ⟨n, en⟩ := whileR_run hn
  refine ⟨fun m σ H => ∃ ρ fps, ER (fm.w ot) ρ σ H fps ∧ ∃ o, whileN (fun r => f r >>= isTrueD) fb m ρ = some o ∧ OKS fm Wi res ot o H fps En, ⟨n, ρ, fps, er, _, en, h⟩, ?_⟩
  rintro m σ H ⟨ρ, fps, er, o, eo, h⟩
  refine ⟨ρ, fps, er, ?_⟩
  show OKB (fm.w ot) Wi (f ρ >>= isTrueD) σ H _
  cases m with
  | zero => cases eo
  | succ m =>
    rw [whileN] at eo
    cases e : f ρ >>= isTrueD with
    | ok d =>
      rw [e] at eo
      intro H1 s
      cases d with
      | true =>
        dsimp only at eo
        refine ⟨fun σ' H' => ∃ m', m' < m + 1 ∧ ∃ ρ fps, ER (fm.w ot) ρ σ' H' fps ∧ ∃ o, whileN (fun r => f r >>= isTrueD) fb m' ρ = some o ∧ OKS fm Wi res ot o H' fps En, fun _ _ z => z, ρ, fps, er.ext s, ?_⟩
        cases eb : fb ρ with
        | next ρ' =>
          rw [eb] at eo
          exact fun σ' H' fps' er' l => ⟨m, Nat.lt_succ_self _, ρ', fps', er', o, eo, OKS.from l (OKS.same s h)⟩
        | ret d ρ' =>
          rw [eb] at eo
          injection eo with eo
          subst eo
          exact h
        | exn c ps ρ' =>
          rw [eb] at eo
          injection eo with eo
          subst eo
          exact OKS.same s h
        | stk =>
          rw [eb] at eo
          injection eo with eo
          subst eo
          exact h
      | false =>
        injection eo with eo
        subst eo
        exact h σ H1 fps (er.ext s) (Leaves.same s fun _ _ z => z)
    | exn c ps =>
      rw [e] at eo
      injection eo with eo
      subst eo
      exact fun cls dx H' s e => h cls dx σ H' (er.ext s).freeze (Leaves.same s fun _ _ z => fz_nof z) e
    | stk =>
      rw [e] at eo
      injection eo with eo
      subst eo
      exact h
/-- what is walked stays as it is while the frame runs on -/
theorem walk_keep {al : Bool} (er : ER (fm.w ot) ρ σ H fps) (ha : al = false) : ∀ a, H1 a ≠ none → Fq (fm.w ot) fps H al [] a → Fz fm fps a := fun a _ z => by
  rcases z with z | ⟨z, _⟩
  · rw [ha] at z; cases z
  · rcases z with z | z
    · exact z
    · exact ⟨.inr (.inl (er.h0 z)), fun j hj => er.trk j a hj z⟩
theorem d_for {tg iter : Expr} {b : List Stmt} {pos : Pos} {fl tt : Bool} {vs : List Nat} {gs : Rho → R (List D)} {fb : Rho → Out} (hp : PassesOwn (model X.prog X.w) X.A X.env X.xe) (hcm : X.calm = true) (hi : PI X tg iter (tI (fm.w ot) Wi false gs)) (hg : PG X tg (tG (fm.w ot) vs (bindTg tt vs)))
    (hb : PSs X b (tB fm Wi res ot ot fb)) (hs : noSet iter = true) :
    PS X (.For tg iter b [] pos) (tB fm Wi res ot ot fun ρ => .ofR ρ (gs ρ) fun ds => forR (fun d r => bindFl fl tt vs d r) fb ds ρ) := by
  refine PS.imp (ps_for hp hcm hi hg hb (set_of hs)) fun En σ H ⟨ρ, fps, er, h⟩ => ⟨ρ, fps, er, OKS.ofI er h fun ds J H1 e1 hk s wk => ?_⟩
  refine ⟨fun i m σ' H' => m = ds.length - i ∧ i ≤ ds.length ∧ ∃ ρ' fps', ER (fm.w ot) ρ' σ' H' fps' ∧ Leaves H1 H' (Fq (fm.w ot) fps H false []) (Fz fm fps') [] ∧ OKS fm Wi res ot (forR (fun d r => bindFl fl tt vs d r) fb (ds.drop i) ρ') H' fps' En,
    ⟨ds.length, rfl, Nat.zero_le _, ρ, fps, er.ext s, Leaves.same (Same.refl _) (walk_keep er rfl), OKS.same s hk⟩, ?_⟩
  rintro i m σ' H' ⟨rfl, hle, ρ', fps', er', lv, h'⟩
  by_cases hlt : i < ds.length
  · have hdrop : ds.drop i = ds[i] :: ds.drop (i + 1) := List.drop_eq_getElem_cons hlt
    rw [hdrop] at h'
    unfold forR at h'
    obtain ⟨hgo, hyl⟩ := (wk i H' _ lv).1 ds[i] (by simp [hlt])
    cases e2 : bindFl fl tt vs ds[i] ρ' with
    | ok ρ1 =>
      rw [e2] at h'
      obtain ⟨hb1, _⟩ := bindFl_of e2
      refine .inr ⟨hgo, fun σ2 H2 => ∃ m', m' < ds.length - i ∧ (m' = ds.length - (i + 1) ∧ i + 1 ≤ ds.length ∧ ∃ ρ' fps', ER (fm.w ot) ρ' σ2 H2 fps' ∧ Leaves H1 H2 (Fq (fm.w ot) fps H false []) (Fz fm fps') [] ∧ OKS fm Wi res ot (forR (fun d r => bindFl fl tt vs d r) fb (ds.drop (i + 1)) ρ') H2 fps' En),
        fun _ _ z => z, fun x H2 hy => ?_⟩
      obtain ⟨s2, rx⟩ := hyl x H2 hy
      refine ⟨ds[i], ρ', fps', ρ1, er'.ext s2, rx, hb1, fun σ2 er2 _ _ => ⟨ρ1, fps', er2, ?_⟩⟩
      have h2 := OKS.same s2 h'
      have h2 : OKS fm Wi res ot (match fb ρ1 with | .next ρ2 => forR (fun d r => bindFl fl tt vs d r) fb (ds.drop (i + 1)) ρ2 | o => o) H2 fps' En := h2
      cases eb : fb ρ1 with
      | next ρ2 =>
        rw [eb] at h2
        exact fun σ3 H3 fps3 er3 l => ⟨ds.length - (i + 1), by omega, rfl, by omega, ρ2, fps3, er3, lv.trans ((Leaves.same s2 fun _ _ z => z : Leaves H' H2 (Fz fm fps') (Fz fm fps') []).trans l), OKS.from l h2⟩
      | ret d ρ2 => rw [eb] at h2; exact h2
      | exn c ps ρ2 => rw [eb] at h2; exact h2
      | stk => rw [eb] at h2; exact h2
    | exn c ps =>
      exfalso
      unfold bindFl bindTg at e2
      split at e2
      · cases e2
      · have key : ∀ (is : List Nat) (ds : List D) (ρ : Rho), putAll ρ is ds ≠ .exn c ps := by
          intro is
          induction is with
          | nil => intro ds ρ h; cases ds <;> (unfold putAll at h; cases h)
          | cons i is ih =>
            intro ds ρ h
            cases ds with
            | nil => unfold putAll at h; cases h
            | cons d ds => unfold putAll at h; exact ih _ _ h
        split at e2
        · split at e2
          · exact key _ _ _ e2
          · exact key _ _ _ e2
          · cases e2
        · split at e2 <;> cases e2
    | stk => rw [e2] at h'; exact h'.elim
  · have ei : i = ds.length := by omega
    subst ei
    rw [List.drop_length] at h'
    exact .inl ⟨(wk ds.length H' _ lv).2 (Nat.le_refl _), h' σ' H' fps' er' (Leaves.same (Same.refl _) fun _ _ z => z)⟩
/-! ### return -/
theorem RetR.of {d : D} {v : V} {fp : List Addr} (er : ER (fm.w ot) ρ σ H fps) (s : Same H H1) (x : XR (fm.w ot) fps H H1 false d res v fp) : RetR fm res d v H1 :=
  ⟨fp, fun a o e n => s _ _ (er.frame a o e n), x.nd, fun a ha => .inl (er.h0 (x.new a ha)), Rep.leaves _ _ _ _ (Leaves.same (Same.refl _) fun a _ z => by
    rcases z with z | ⟨z, z2⟩
    · cases z
    · refine ⟨?_, z2⟩
      rcases z with z | z
      · exact z.1
      · exact .inr (.inl (er.h0 z))) x.rep⟩
theorem d_ret {e : Expr} {pos : Pos} (he : PE X e (tE (fm.w ot) Wi false res f)) : PS X (.Return (some e) pos) (tB fm Wi res ot ot' fun ρ => .ofR ρ (f ρ) fun d => .ret d ρ) :=
  PS.imp (ps_ret he) fun En σ H ⟨ρ, fps, er, h⟩ => ⟨ρ, fps, er, OKS.ofR er h fun d v H1 fp e1 hk s x => hk v H1 (RetR.of er s x)⟩
/-- all is frozen first -/
theorem d_retF {e : Expr} {pos : Pos} (he : PE X e (tE (fm.w frs0) Wi false .fr f)) : PS X (.Return (some e) pos) (tB fm Wi .fr ot ot' fun ρ => .ofR ρ (f ρ) fun d => .ret d ρ) :=
  PS.imp (ps_ret he) fun En σ H ⟨ρ, fps, er, h⟩ => ⟨ρ, nof, er.freeze, OKS.ofR er.freeze (OKS.from (Leaves.same (Same.refl _) fun _ _ z => fz_nof z) h) fun d v H1 fp e1 hk s x => hk v H1 (RetR.of er.freeze s x)⟩
/-- an owned slot goes out -/
theorem d_retM {i : Nat} {x : Str} {pos pos' : Pos} (hN : X.N[i]? = some x) (hv : Vis X.env.scope x) (hd : (x == ("__debug__" : Str)) = false) (hcd : (x == ("__classdict__" : Str)) = false) (ho : ot i = res) :
    PS X (.Return (some (.Name x pos')) pos) (tB fm Wi res ot ot' fun ρ => .ofR ρ (ρ.get i) fun d => .ret d ρ) :=
  PS.imp (ps_ret (pe_var hN hv hd hcd)) fun En σ H ⟨ρ, fps, er, h⟩ => by
    dsimp only at h
    unfold Rho.get at h
    split at h
    · rename_i d e
      obtain ⟨v, e1, r⟩ := er.rep i d e
      have r : Rep fm.K H (Fz fm fps) d (ot i) v (fps i) := r
      rw [ho] at r
      exact ⟨v, e1, h v H ⟨fps i, er.frame, er.nd i, er.new i, Rep.leaves _ _ _ _ (Leaves.same (Same.refl _) fun a _ z => ⟨z.1, z.2 i⟩) r⟩⟩
    · exact h.elim
theorem d_retN {pos : Pos} : PS X (.Return none pos) (tB fm Wi res ot ot' fun ρ => .ret .non ρ) :=
  PS.imp ps_retN fun En σ H ⟨ρ, fps, er, h⟩ => h .non H (RetR.of er (Same.refl _) XR.non)
theorem d_drop {e : Expr} {pos : Pos} (he : PE X e (tE (fm.w ot) Wi al .fr f)) (hc : noComp e = true) : PS X (.Expr e pos) (tB fm Wi res ot ot fun ρ => .ofR ρ (f ρ) fun _ => .next ρ) :=
  PS.imp (ps_expr he (comp_of hc)) fun En σ H ⟨ρ, fps, er, h⟩ => ⟨ρ, fps, er, OKS.ofR er h fun d v H1 fp e1 hk s x => hk σ H1 fps (er.ext s) (Leaves.same s fun _ _ z => z)⟩
/-- name = [..] on one line -/
theorem d_setLc {i : Nat} {y : Str} {py : Pos} {elt tg iter : Expr} {ifs : List Expr} {scope : Scope} {own : List (Str × Nat)} {pos spos : Pos} {vs : List Nat} {fl tt : Bool} {gs : Rho → R (List D)} {p : Rho → R Bool} {h : Rho → R D} (hc : X.calm = true) (hN : X.N.Nodup) (hy : X.N[i]? = some y) (hyl : X.env.scope.names.lookup y = some .local)
    (hsw : swapsWith (.ListComp elt [⟨tg, iter, ifs, 0⟩] scope pos) (some (.Name y py)) spos.line X.env = pure true)
    (hi : PI X tg iter (tI (fm.w ot) Wi al1 gs)) (ok : BlkOk X.N X.env.scope scope own) (how : own.map (·.2) = vs)
    (hg : ∀ (s : Shared) (H : Hp) (C : Addr) (cl : List (Str × Addr)) (fp : List Addr), PG (X.blk s H scope (compEnvC scope cl C X.env) fp) tg (tG (fm.w ot) vs (bindTg tt vs)))
    (ht : ∀ (s : Shared) (H : Hp) (C : Addr) (cl : List (Str × Addr)) (fp : List Addr), PTs (X.blk s H scope (compEnvC scope cl C X.env) fp) ifs (tTT (fm.w ot) W0 p))
    (he : ∀ (s : Shared) (H : Hp) (C : Addr) (cl : List (Str × Addr)) (fp : List Addr), PE (X.blk s H scope (compEnvC scope cl C X.env) fp) elt (tE (fm.w ot) W0 false t.elem h)) (hfl : al1 = true → fl = true) (hs : noSet iter = true) :
    PS X (.Assign [.Name y py] (.ListComp elt [⟨tg, iter, ifs, 0⟩] scope pos) spos) (tB fm Wi res ot (otSet ot i t) fun ρ => .ofR ρ (do
      let ds ← gs ρ
      let ys ← noExn (compL h p (fun d => bindFl fl tt vs d (wipeE ρ vs)) ds)
      if ys.length ≤ lim then pure (.lst ys) else .stk) fun d => .next (ρ.put i d)) := by
  subst how
  refine PS.imp (ps_setLc hc hN hy hyl hsw hi ok hg ht he (set_of hs)) fun En σ H ⟨ρ, fps, er, h⟩ => lc_read (Wi := Wi) (t := t) hfl ⟨ρ, fps, er, OKS.ofR er h fun d v H1 fp e1 hk s x => ?_⟩
  obtain ⟨q1, q2⟩ := er.put (i := i) s x
  exact hk _ H1 _ q1 q2
end
end L2.Py

set_option Elab.async false
set_option linter.all false
set_option maxRecDepth 100000
set_option maxHeartbeats 1000000
/-! PyE15: changes in place. -/
namespace L2.Py
open PySem PySem.Spec PyProof.Rows TL
section
variable {X : Cx} {fm : Fm} {Wi : WX} {al al1 al2 : Bool} {t res : OT} {f g : Rho → R D} {ot ot' ot'' : Nat → OT} {ρ : Rho} {σ : St} {H H1 H2 : Hp} {fps fps1 : Fps}
/-- an owned node of slot i is rewritten -/
theorem ER.chg {i : Nat} {d d' : D} {v : V} {a : Addr} {o : HO} {fp : List Addr} (er : ER (fm.w ot) ρ σ H fps) (s : Same H H2) (ha : a ∈ fps i) (nt : ∀ vs, H2 a ≠ some (.tup vs)) (nf : ∀ o vs, H2 a ≠ some (.frz o (.lst vs)))
    (hv : σ[i]? = some (some v)) (nd : fp.Nodup) (new : ∀ b ∈ fp, b ∈ fps i ∨ H b = none) (rep : Rep fm.K (upd H2 a o) (Fz fm (setF fps i fp)) d' (ot i) v fp) (hnil : ot i = .fr → fp = []) :
    ER (fm.w ot) (ρ.put i d') σ (upd H2 a o) (setF fps i fp) ∧ Leaves H (upd H2 a o) (Fz fm fps) (Fz fm (setF fps i fp)) [] := by
  have hF : ∀ b, H b ≠ none → Fz fm fps b → Fz fm (setF fps i fp) b := fun b hb q => ⟨q.1, fun k hk => by
    rcases mem_setF hk with ⟨_, z⟩ | ⟨_, z⟩
    · rcases new b z with w | w
      · exact q.2 i w
      · exact hb w
    · exact q.2 k z⟩
  have nea : ∀ b, (∀ k, b ∉ fps k) → b ≠ a := fun b hb z => hb i (by rw [z]; exact ha)
  have lv : ∀ {fq : List Addr}, (a ∉ fq) → Leaves H (upd H2 a o) (Fz fm fps) (Fz fm (setF fps i fp)) fq := fun {fq} hq =>
    ⟨fun b hb u e => by rw [upd_ne (fun z => hq (by rw [← z]; exact hb))]; exact s _ _ e,
      fun b u r z => ⟨by
        have := rdSame s r
        rcases this with r | ⟨o', r⟩
        · exact .inl (by rw [upd_ne (nea b z.2)]; exact r)
        · exact .inr ⟨o', by rw [upd_ne (nea b z.2)]; exact r⟩, hF b (rd_ne r) z⟩,
      fun b vs e z => ⟨by rw [upd_ne (nea b z.2)]; exact s _ _ e, hF b (by rw [e]; exact (fun z => nomatch z)) z⟩,
      fun b vs e => by rw [upd_ne (fun z => nt vs (by rw [← z]; exact s _ _ e))]; exact s _ _ e,
      fun b o' vs e => by rw [upd_ne (fun z => nf o' vs (by rw [← z]; exact s _ _ e))]; exact s _ _ e⟩
  have h2ne : ∀ b, H2 b ≠ none → upd H2 a o b ≠ none := fun b hb => by
    by_cases z : b = a
    · rw [z, upd_same]; exact (fun z => nomatch z)
    · rw [upd_ne z]; exact hb
  refine ⟨⟨?_, ?_, ?_, ?_, ?_, ?_, ?_, ?_, ?_⟩, lv (by simp)⟩
  · rw [Rho.put, List.length_set]; exact er.len
  · intro j y e
    unfold Rho.put at e
    rw [List.getElem?_set] at e
    by_cases hij : i = j
    · subst hij
      rw [if_pos rfl] at e
      by_cases hl : i < ρ.length
      · rw [if_pos hl] at e
        injection e with e
        injection e with e
        subst e
        rw [setF_same]
        exact ⟨v, hv, rep⟩
      · rw [if_neg hl] at e; cases e
    · rw [if_neg hij] at e
      obtain ⟨u, e1, r⟩ := er.rep j y e
      rw [setF_ne (Ne.symm hij)]
      exact ⟨u, e1, Rep.leaves _ _ _ _ (lv fun z => er.dj i j a hij ha z) r⟩
  · intro j hj e
    rw [Rho.put, List.length_set] at hj
    by_cases hji : j = i
    · subst hji
      rw [setF_same]
      exact hnil e
    · rw [setF_ne hji]
      exact er.nil j hj e
  · intro j
    unfold setF
    split
    · exact nd
    · exact er.nd j
  · intro j k b hjk h1 h2
    rcases mem_setF h1 with ⟨e1, z⟩ | ⟨e1, z⟩
    · rcases mem_setF h2 with ⟨e2, w⟩ | ⟨e2, w⟩
      · exact hjk (e1.trans e2.symm)
      · rcases new b z with q | q
        · exact er.dj i k b (by rw [← e1]; exact hjk) q w
        · exact er.trk k b w q
    · rcases mem_setF h2 with ⟨e2, w⟩ | ⟨e2, w⟩
      · rcases new b w with q | q
        · exact er.dj j i b e1 z q
        · exact er.trk j b z q
      · exact er.dj j k b hjk z w
  · intro j b h
    rcases mem_setF h with ⟨_, z⟩ | ⟨_, z⟩
    · rcases new b z with q | q
      · exact er.new i b q
      · exact .inl (er.h0 q)
    · exact er.new j b z
  · intro j b h
    rcases mem_setF h with ⟨_, w⟩ | ⟨_, w⟩
    · exact Rep.trk _ _ _ _ rep b w
    · exact h2ne b fun z => er.trk j b w (s.free z)
  · intro b u e n
    have hb : b ≠ a := fun z => by
      rcases er.new i a ha with q | q
      · rw [z] at e
        have e : fm.H0 a = some u := e
        have q : fm.H0 a = none := q
        rw [q] at e; cases e
      · exact n (by rw [z]; exact q)
    rw [upd_ne hb]
    exact s _ _ (er.frame b u e n)
  · exact fun b h => h2ne b fun z => er.lent b h (s.free z)
theorem evs_one {sub : Sub} {G : Gam} {e : E} {ρ : Rho} : evs sub G [e] ρ = (do let x ← ev sub G e ρ; R.ok [x]) := by
  rw [evs]
  cases ev sub G e ρ <;> rfl
/-- name.append(e) -/
theorem d_append {i : Nat} {x : Str} {e : Expr} {p apos cpos pos : Pos} {t : OT} (hK : fm.K = X.K) (n : Nm X i x) (hd : (x == ("__debug__" : Str)) = false) (hcd : (x == ("__classdict__" : Str)) = false) (ho : ot i = .ow t) (he : PE X e (tE (fm.w ot) Wi false t f)) (hs : noStar e = true) (hl : (apos.endLine == cpos.line) = true) :
    PS X (.Expr (.Call (.Attribute (.Name x p) "append" apos) [e] [] cpos) pos) (tB fm Wi res ot ot fun ρ => .ofR ρ (ρ.get i) fun x => match x with | .lst xs => .ofR ρ (f ρ) fun y => (if xs.length < lim then .next (ρ.put i (.lst (xs ++ [y]))) else .stk) | _ => .stk) := by
  have hv : Vis X.env.scope x := by rcases n.loc with k | k; exact .inl k; exact .inr (.inl k)
  have pe := pe_bm (r := rAppend) (cpos := cpos) (apos := apos) F.plainAttrs_list F.slot_list_append F.type_list_append mt_append (pe_var (pos := p) n.ix hv hd hcd) (pa_cons he pa_nil (star_of hs)) rfl (by rw [star_of hs]; rfl) hl (star_of hs) rfl
  refine PS.imp (ps_expr pe rfl) fun En σ H ⟨ρ, fps, er, h⟩ => ?_
  dsimp only at h
  unfold Rho.get at h
  split at h
  · rename_i d e
    rw [ofR_ok] at h
    obtain ⟨v, e1, r⟩ := er.rep i d e
    have r : Rep fm.K H (Fz fm fps) d (ot i) v (fps i) := r
    cases d with
    | lst xs =>
      rw [ho] at r
      simp only [Rep] at r
      obtain ⟨a, vs, fp', rfl, ⟨r1, r2⟩, r3⟩ := r
      have r3 : RepL fm.K H (Fz fm fps) xs (fun _ => t) vs fp' := r3
      have hai : a ∈ fps i := by rw [r2]; exact List.mem_cons_self
      refine ⟨.ref a, e1, .inl ⟨rfl, vs, SqL.of r1⟩, ρ, fps, er, OKS.ofR er h fun y u H1 fp2 e2 hk s x => ?_⟩
      split at hk
      · rename_i hz
        have r1' := s _ _ r1
        refine ⟨a, vs, u, rfl, rfl, r1', by rw [RepL.length r3, sizeLine_eq]; exact hz, ?_⟩
        have hnd := er.nd i
        rw [r2] at hnd
        obtain ⟨hna, hnd'⟩ := List.nodup_cons.mp hnd
        have t1 : ∀ b ∈ fp', H b ≠ none := RepL.trk _ _ _ _ r3
        have dj2 : ∀ b ∈ fp', b ∉ fp2 := fun b hb hb2 => t1 b hb (x.new b hb2)
        have na2 : a ∉ fp2 := fun z => by
          have := x.new a z
          rw [r1] at this; cases this
        have hnn : (a :: (fp' ++ fp2)).Nodup := List.nodup_cons.mpr ⟨fun z => (List.mem_append.mp z).elim hna na2, List.nodup_append.mpr ⟨hnd', x.nd, fun b hb c hc e => dj2 b hb (e ▸ hc)⟩⟩
        have hF : ∀ b, H b ≠ none → Fz fm fps b → Fz fm (setF fps i (a :: (fp' ++ fp2))) b := fun b hb q => ⟨q.1, fun k hk => by
          rcases mem_setF hk with ⟨_, z⟩ | ⟨_, z⟩
          · rcases List.mem_cons.mp z with z | z
            · exact q.2 i (by rw [z]; exact hai)
            · rcases List.mem_append.mp z with z | z
              · exact q.2 i (by rw [r2]; exact List.mem_cons_of_mem _ z)
              · exact hb (x.new b z)
          · exact q.2 k z⟩
        have nea : ∀ b, (∀ k, b ∉ fps k) → b ≠ a := fun b hb z => hb i (by rw [z]; exact hai)
        have key : Rep fm.K (upd H1 a (.lst (vs ++ [u]))) (Fz fm (setF fps i (a :: (fp' ++ fp2)))) (.lst (xs ++ [y])) (ot i) (.ref a) (a :: (fp' ++ fp2)) := by
          rw [ho]
          simp only [Rep]
          refine ⟨a, vs ++ [u], fp' ++ fp2, rfl, ⟨upd_same, rfl⟩, ?_⟩
          have lvx : ∀ {fq : List Addr} {F : Addr → Prop}, a ∉ fq → (∀ b, H1 b ≠ none → F b → b ≠ a) → (∀ b, H1 b ≠ none → F b → Fz fm (setF fps i (a :: (fp' ++ fp2))) b) → Leaves H1 (upd H1 a (.lst (vs ++ [u]))) F (Fz fm (setF fps i (a :: (fp' ++ fp2)))) fq := fun {fq F} hq hne hF =>
            ⟨fun b hb u e => by rw [upd_ne (fun z => hq (by rw [← z]; exact hb))]; exact e,
              fun b u rr z => ⟨by
                have hb := hne b (rd_ne rr) z
                rcases rr with r' | ⟨o', r'⟩
                · exact .inl (by rw [upd_ne hb]; exact r')
                · exact .inr ⟨o', by rw [upd_ne hb]; exact r'⟩, hF b (rd_ne rr) z⟩,
              fun b vs e z => ⟨by rw [upd_ne (hne b (by rw [e]; exact (fun z => nomatch z)) z)]; exact e, hF b (by rw [e]; exact (fun z => nomatch z)) z⟩,
              fun b vs e => by rw [upd_ne (fun z => by rw [z, r1'] at e; cases e)]; exact e,
              fun b o' vs e => by rw [upd_ne (fun z => by rw [z, r1'] at e; cases e)]; exact e⟩
          have rA : RepL fm.K (upd H1 a (.lst (vs ++ [u]))) (Fz fm (setF fps i (a :: (fp' ++ fp2)))) xs (fun _ => t) vs fp' := by
            have r4 : RepL fm.K H1 (fun b => H b ≠ none ∧ Fz fm fps b) xs (fun _ => t) vs fp' := RepL.leaves _ _ _ _ (Leaves.same s fun b hb z => ⟨hb, z⟩) r3
            exact RepL.leaves _ _ _ _ (lvx hna (fun b _ z => nea b z.2.2) fun b _ z => hF b z.1 z.2) r4
          have rB : Rep fm.K (upd H1 a (.lst (vs ++ [u]))) (Fz fm (setF fps i (a :: (fp' ++ fp2)))) y t u fp2 := by
            refine Rep.leaves _ _ _ _ (lvx na2 (fun b _ z => ?_) fun b hb z => ?_) x.rep
            · rcases z with z | ⟨z, _⟩
              · cases z
              · rcases z with z | z
                · exact nea b z.2
                · intro w; rw [w, r1] at z; cases z
            · rcases z with z | ⟨z, z2⟩
              · cases z
              · by_cases hbn : H b = none
                · refine ⟨.inr (.inl (er.h0 hbn)), fun k hk => ?_⟩
                  rcases mem_setF hk with ⟨_, w⟩ | ⟨_, w⟩
                  · rcases List.mem_cons.mp w with w | w
                    · rw [w, r1] at hbn; cases hbn
                    · rcases List.mem_append.mp w with w | w
                      · exact t1 b w hbn
                      · exact z2 w
                  · exact er.trk k b w hbn
                · exact hF b hbn (z.resolve_right hbn)
          have := RepL.app rA (RepL.cons (f := fun _ => t) rB RepL.nil)
          rw [List.append_nil] at this
          exact this
        obtain ⟨q1, q2⟩ := er.chg (d := .lst xs) (d' := .lst (xs ++ [y])) (o := .lst (vs ++ [u])) (fp := a :: (fp' ++ fp2)) s hai (fun vs z => by rw [r1'] at z; cases z) (fun o vs z => by rw [r1'] at z; cases z) e1 hnn (fun b hb => by
          rcases List.mem_cons.mp hb with z | z
          · exact .inl (by rw [z]; exact hai)
          · rcases List.mem_append.mp z with z | z
            · exact .inl (by rw [r2]; exact List.mem_cons_of_mem _ z)
            · exact .inr (x.new b z)) key (fun z => by rw [ho] at z; cases z)
        exact hk σ _ _ q1 q2
      · exact hk.elim
    | _ => exact h.elim
  · exact h.elim
end
end L2.Py

set_option Elab.async false
set_option linter.all false
set_option maxRecDepth 100000
set_option maxHeartbeats 1000000
/-! PyE16: what raises nothing; small facts for the checker. -/
namespace L2.Py
open PySem PySem.Spec PyProof.Rows TL
/-! ### what raises nothing -/
def NoX {α : Type} (r : R α) : Prop := ∀ c ps, r ≠ .exn c ps
theorem NoX.ok {α : Type} {a : α} : NoX (R.ok a) := fun _ _ h => nomatch h
theorem NoX.stk {α : Type} : NoX (R.stk : R α) := fun _ _ h => nomatch h
theorem NoX.bind {α β : Type} {r : R α} {k : α → R β} (h : NoX r) (hk : ∀ a, NoX (k a)) : NoX (r >>= k) := by
  cases r with
  | ok a => exact hk a
  | exn c ps => exact absurd rfl (h c ps)
  | stk => exact NoX.stk
theorem NoX.ite {α : Type} {b : Prop} [Decidable b] {x y : R α} (h1 : NoX x) (h2 : NoX y) : NoX (if b then x else y) := by
  split
  · exact h1
  · exact h2
theorem ofOpt_noX {α : Type} (o : Option α) : NoX (ofOpt o) := by cases o <;> first | exact NoX.ok | exact NoX.stk
theorem atD_noX {α : Type} (xs : List α) (i : Int) : NoX (atD xs i) := ofOpt_noX _
theorem binD_noX (op : Bop) (x y : D) : NoX (binD op x y) := by
  intro c ps h
  unfold binD at h
  split at h <;> first | cases h | (split at h <;> cases h)
theorem idxD_noX (x y : D) : NoX (idxD x y) := by
  cases x <;> cases y <;> first
    | exact NoX.stk
    | exact atD_noX _ _
    | exact NoX.ite (ofOpt_noX _) NoX.stk
    | exact NoX.ite (NoX.bind (atD_noX _ _) fun _ => NoX.ok) NoX.stk
    | exact NoX.bind (atD_noX _ _) fun _ => NoX.ok
theorem slcD_noX (x : D) (l h : Option Int) : NoX (slcD x l h) := by
  cases x <;> first
    | exact NoX.stk
    | exact NoX.ok
    | exact NoX.ite NoX.stk NoX.ok
    | exact NoX.ite NoX.ok NoX.stk
theorem oneI_noX (x : D) : NoX (oneI x) := by cases x <;> first | exact NoX.ok | exact NoX.stk
theorem rhoget_noX (ρ : Rho) (i : Nat) : NoX (ρ.get i) := by
  intro c ps h
  unfold Rho.get at h
  split at h <;> cases h
theorem itD_noX (k : ItK) (xs : List D) : NoX (itD k xs) := by
  intro c ps h
  unfold itD at h
  split at h <;> first | cases h | (split at h <;> cases h)
theorem noExn_noX {α : Type} (r : R α) : NoX (noExn r) := by cases r <;> first | exact NoX.ok | exact NoX.stk
mutual
def pureE : E → Bool
  | .slot _ => true
  | .cint _ => true
  | .cstr _ => true
  | .cbl _ => true
  | .cnon => true
  | .bin _ a b => pureE a && pureE b
  | .idx a b => pureE a && pureE b
  | .slcA a => pureE a
  | .slcL a b => pureE a && pureE b
  | .slcH a b => pureE a && pureE b
  | .slcB a b c => pureE a && pureE b && pureE c
  | .tup es => pureL es
  | .lst es => pureL es
  | .comp _ _ _ _ its _ _ => pureL its
  | .flat e => pureE e
  | .blt .len es => pureL es
  | _ => false
def pureL : List E → Bool
  | [] => true
  | e :: es => pureE e && pureL es
end
theorem len_noX (sub : Sub) (xs : List D) : NoX (bltD sub .len xs) := by
  intro c ps h
  unfold bltD at h
  split at h <;> first | contradiction | cases h | (split at h <;> cases h)
mutual
theorem pure_noX {sub : Sub} {G : Gam} : ∀ (e : E) (ρ : Rho), pureE e = true → NoX (ev sub G e ρ)
  | .slot i, ρ, _ => by rw [ev]; exact rhoget_noX ρ i
  | .cint _, ρ, _ => by rw [ev]; exact NoX.ok
  | .cstr _, ρ, _ => by rw [ev]; exact NoX.ok
  | .cbl _, ρ, _ => by rw [ev]; exact NoX.ok
  | .cnon, ρ, _ => by rw [ev]; exact NoX.ok
  | .bin op a b, ρ, h => by
    simp only [pureE, Bool.and_eq_true] at h
    rw [ev]
    exact NoX.bind (pure_noX a ρ h.1) fun x => NoX.bind (pure_noX b ρ h.2) fun y => binD_noX op x y
  | .idx a b, ρ, h => by
    simp only [pureE, Bool.and_eq_true] at h
    rw [ev]
    exact NoX.bind (pure_noX a ρ h.1) fun x => NoX.bind (pure_noX b ρ h.2) fun y => idxD_noX x y
  | .slcA a, ρ, h => by
    simp only [pureE] at h
    rw [ev]
    exact NoX.bind (pure_noX a ρ h) fun x => slcD_noX _ _ _
  | .slcL a b, ρ, h => by
    simp only [pureE, Bool.and_eq_true] at h
    rw [ev]
    exact NoX.bind (pure_noX a ρ h.1) fun x => NoX.bind (NoX.bind (pure_noX b ρ h.2) fun y => oneI_noX y) fun _ => slcD_noX _ _ _
  | .slcH a b, ρ, h => by
    simp only [pureE, Bool.and_eq_true] at h
    rw [ev]
    exact NoX.bind (pure_noX a ρ h.1) fun x => NoX.bind NoX.ok fun _ => NoX.bind (NoX.bind (pure_noX b ρ h.2) fun y => oneI_noX y) fun _ => slcD_noX _ _ _
  | .slcB a b c, ρ, h => by
    simp only [pureE, Bool.and_eq_true] at h
    rw [ev]
    exact NoX.bind (pure_noX a ρ h.1.1) fun x => NoX.bind (NoX.bind (pure_noX b ρ h.1.2) fun y => oneI_noX y) fun _ => NoX.bind (NoX.bind (pure_noX c ρ h.2) fun y => oneI_noX y) fun _ => slcD_noX _ _ _
  | .tup es, ρ, h => by
    simp only [pureE] at h
    rw [ev]
    exact NoX.bind (pureL_noX es ρ h) fun x => NoX.ok
  | .lst es, ρ, h => by
    simp only [pureE] at h
    rw [ev]
    exact NoX.bind (pureL_noX es ρ h) fun x => NoX.ok
  | .comp fl tg t k its elt cs, ρ, h => by
    simp only [pureE] at h
    rw [ev]
    exact NoX.bind (pureL_noX its ρ h) fun x => NoX.bind (itD_noX k x) fun ds => NoX.bind (noExn_noX _) fun ys => NoX.ite NoX.ok NoX.stk
  | .flat e, ρ, h => by
    simp only [pureE] at h
    rw [ev]
    exact NoX.bind (pure_noX e ρ h) fun x => NoX.ite NoX.ok NoX.stk
  | .blt .len es, ρ, h => by
    simp only [pureE] at h
    rw [ev]
    exact NoX.bind (pureL_noX es ρ h) fun x => len_noX sub x
  | .neg _, _, h => by simp [pureE] at h
  | .cmp _ _ _, _, h => by simp [pureE] at h
  | .not _, _, h => by simp [pureE] at h
  | .and _ _, _, h => by simp [pureE] at h
  | .or _ _, _, h => by simp [pureE] at h
  | .ite _ _ _, _, h => by simp [pureE] at h
  | .slcR _, _, h => by simp [pureE] at h
  | .dnew _ _, _, h => by simp [pureE] at h
  | .call _ _, _, h => by simp [pureE] at h
  | .meth _ _ _, _, h => by simp [pureE] at h
  | .blt .min1 _, _, h => by simp [pureE] at h
  | .blt .max1 _, _, h => by simp [pureE] at h
  | .blt .min2 _, _, h => by simp [pureE] at h
  | .blt .max2 _, _, h => by simp [pureE] at h
  | .blt .sorted _, _, h => by simp [pureE] at h
  | .blt .list _, _, h => by simp [pureE] at h
  | .blt .dict _, _, h => by simp [pureE] at h
  | .blt .lenSet _, _, h => by simp [pureE] at h
  | .blt .sortedSet _, _, h => by simp [pureE] at h
  | .blt .toInt _, _, h => by simp [pureE] at h
  | .blt .toStr _, _, h => by simp [pureE] at h
  | .blt (.isi _) _, _, h => by simp [pureE] at h
  | .blt .sum _, _, h => by simp [pureE] at h
  | .blt .tuple _, _, h => by simp [pureE] at h
  | .blt .listRange _, _, h => by simp [pureE] at h
theorem pureL_noX {sub : Sub} {G : Gam} : ∀ (es : List E) (ρ : Rho), pureL es = true → NoX (evs sub G es ρ)
  | [], ρ, _ => by rw [evs]; exact NoX.ok
  | e :: es, ρ, h => by
    simp only [pureL, Bool.and_eq_true] at h
    rw [evs]
    exact NoX.bind (pure_noX e ρ h.1) fun x => NoX.bind (pureL_noX es ρ h.2) fun y => NoX.ok
end
theorem evs_len {sub : Sub} {G : Gam} : ∀ {es : List E} {ρ : Rho} {ds : List D}, evs sub G es ρ = .ok ds → ds.length = es.length
  | [], ρ, ds, h => by
    rw [evs] at h
    injection h with h
    subst h; rfl
  | e :: es, ρ, ds, h => by
    rw [evs] at h
    cases h1 : ev sub G e ρ with
    | ok x =>
      rw [h1, ok_bind] at h
      cases h2 : evs sub G es ρ with
      | ok xs =>
        rw [h2] at h
        injection h with h
        subst h
        rw [List.length_cons, List.length_cons, evs_len h2]
      | exn c ps => rw [h2] at h; cases h
      | stk => rw [h2] at h; cases h
    | exn c ps => rw [h1] at h; cases h
    | stk => rw [h1] at h; cases h
/-! ### ownership types -/
def OT.isFr : OT → Bool
  | .fr => true
  | _ => false
theorem OT.isFr_eq {t : OT} (h : t.isFr = true) : t = .fr := by cases t <;> first | rfl | cases h
def OT.flatE : OT → Bool
  | .fr => true
  | .ow t => t.isFr
  | _ => false
theorem OT.flatE_eq {t : OT} (h : t.flatE = true) : t.elem = .fr ∧ ∀ i, t.comps i = .fr := by
  cases t with
  | fr => exact ⟨rfl, fun _ => rfl⟩
  | ow t => exact ⟨OT.isFr_eq h, fun _ => rfl⟩
  | tp ts => cases h
mutual
def OT.same : OT → OT → Bool
  | .fr, y => match y with | .fr => true | _ => false
  | .ow t, y => match y with | .ow u => OT.same t u | _ => false
  | .tp ts, y => match y with | .tp us => OT.sameL ts us | _ => false
def OT.sameL : List OT → List OT → Bool
  | [], ys => ys.isEmpty
  | t :: ts, ys => match ys with | [] => false | u :: us => OT.same t u && OT.sameL ts us
end
mutual
theorem OT.same_eq : ∀ (t u : OT), t.same u = true → t = u
  | .fr, u, h => by cases u <;> first | rfl | (simp only [OT.same] at h; cases h)
  | .ow t, u, h => by
    cases u with
    | ow u => simp only [OT.same] at h; rw [OT.same_eq t u h]
    | _ => simp only [OT.same] at h; cases h
  | .tp ts, u, h => by
    cases u with
    | tp us => simp only [OT.same] at h; rw [OT.sameL_eq ts us h]
    | _ => simp only [OT.same] at h; cases h
theorem OT.sameL_eq : ∀ (ts us : List OT), OT.sameL ts us = true → ts = us
  | [], us, h => by cases us <;> first | rfl | (simp only [OT.sameL] at h; cases h)
  | t :: ts, us, h => by
    cases us with
    | nil => simp only [OT.sameL] at h; cases h
    | cons u us =>
      simp only [OT.sameL, Bool.and_eq_true] at h
      rw [OT.same_eq t u h.1, OT.sameL_eq ts us h.2]
end
section
variable {X : Cx} {fm : Fm} {Wi : WX} {al al1 al2 : Bool} {t : OT} {f g : Rho → R D}
theorem de_al {a : Expr} (h : al1 = true → al = true) (he : PE X a (tE fm Wi al1 t f)) : PE X a (tE fm Wi al t f) :=
  PE.imp he fun σ H Q ⟨ρ, fps, er, q⟩ => ⟨ρ, fps, er, by
    cases e : f ρ with
    | ok d => rw [e] at q; exact fun v H' fp s x => q v H' fp s (x.al_imp h)
    | exn c ps => rw [e] at q; exact q
    | stk => rw [e] at q; exact q⟩
theorem de_bv {a : Expr} (he : PE X a (tE fm Wi al1 .fr f)) : PE X a (tE fm Wi al t fun ρ => bv (f ρ)) :=
  PE.imp he fun σ H Q ⟨ρ, fps, er, q⟩ => ⟨ρ, fps, er, by
    dsimp only at q
    unfold bv at q
    cases e : f ρ with
    | ok d =>
      rw [e] at q
      cases d with
      | bl b =>
        intro v H' fp s x
        obtain rfl := x.read.bl
        exact OKE.bl q s
      | _ => exact q.elim
    | exn c ps => rw [e] at q; exact q
    | stk => rw [e] at q; exact q⟩
theorem de_eq {a : Expr} {f' : Rho → R D} (h : ∀ ρ, f' ρ = f ρ) (he : PE X a (tE fm Wi al t f)) : PE X a (tE fm Wi al t f') := by
  have e : f' = f := funext h
  rw [e]; exact he
end
end L2.Py

set_option Elab.async false
set_option linter.all false
set_option maxRecDepth 100000
set_option maxHeartbeats 2000000
/-! PyE17: the checker of expressions, and that it is right. -/
namespace L2.Py
open PySem PySem.Spec PyProof.Rows TL
structure Cn where
  N : List Str
  sc : Scope
  fnb : Str → Bool
  /-- each def: its name, how many it takes, what its result owns -/
  fns : List (Str × Nat × OT)
def bltNames : List Str := ["len", "range", "min", "max", "list", "int", "sum", "isinstance", "str", "bool", "tuple", "enumerate", "zip", "sorted", "set", "dict"]
structure Good (X : Cx) (fm : Fm) (sub : Sub) (G : Gam) (k : Nat) (Wi : WX) (c : Cn) : Prop where
  K : fm.K = X.K
  N : X.N = c.N
  nd : X.N.Nodup
  sc : X.env.scope = c.sc
  calm : X.calm = true
  room : Room k X.A
  fnb : ∀ x, c.fnb x = true → X.fn x = true
  mgB : ∀ x ∈ bltNames, X.mg x = none
  call : ∀ f name n res, c.fns[f]? = some (name, n, res) → ∃ fa fd ps, FnOk X.prog X.w X.K X.mg X.base (L2.CX X.prog X.w) k fa fd ps (spD X.K fm.ca (G f) n res) ∧ X.mg name = some (.ref fa) ∧ PySem.W.keepIn X.K (.ref fa) = true ∧ Binds X.K fd ps []
  pass : ∀ σ, PassesAt (L2.CX X.prog X.w) X σ (WE Wi σ)
def isBuiltin (c : Cn) (x name : Str) : Bool := decide (x = name) && decide (name ∈ bltNames) && decide (c.sc.names.lookup x = some .globalImplicit)
def Cn.vis (c : Cn) (i : Nat) (x : Str) : Bool := decide (c.N[i]? = some x) && (match c.sc.names.lookup x with | some .local => true | some .cell => true | some .free => true | _ => false) && !(x == ("__debug__" : Str)) && !(x == ("__classdict__" : Str))
def Cn.loc (c : Cn) (i : Nat) (x : Str) : Bool := decide (c.N[i]? = some x) && (match c.sc.names.lookup x with | some .local => true | some .cell => c.fnb x | _ => false) && !(x == ("__debug__" : Str)) && !(x == ("__classdict__" : Str))
def tgOne (c : Cn) (ot : Nat → OT) (i : Nat) : Expr → Bool
  | .Name x _ => c.loc i x && (ot i).isFr
  | _ => false
def tgAll (c : Cn) (ot : Nat → OT) : List Nat → List Expr → Bool
  | [], es => es.isEmpty
  | i :: is, es => match es with | [] => false | e :: es => tgOne c ot i e && tgAll c ot is es
def tgOk (c : Cn) (ot : Nat → OT) (tt : Bool) (is : List Nat) (e : Expr) : Bool :=
  if tt then (match e with | .Tuple es _ _ => tgAll c ot is es | _ => false) else (match is with | [i] => tgOne c ot i e | _ => false)
def isTupE : Expr → Bool
  | .Tuple _ _ _ => true
  | _ => false
def ownOf (c : Cn) (tg : List Nat) : List (Str × Nat) := tg.map fun i => (c.N.getD i "", i)
def inner (c : Cn) (scope : Scope) : Cn := { c with sc := relS scope c.sc, fnb := fun x => scope.names.lookup x == some .cell }
def sameLine (p q : Pos) : Bool := p.endLine == q.line
def onName (a : Expr) (f : Str → Bool) : Bool := match a with | .Name x _ => f x | _ => false
def onInt (a : Expr) (f : Int → Bool) : Bool := match a with | .Constant (.int x) _ _ => f x | _ => false
def onStr (a : Expr) (f : Str → Bool) : Bool := match a with | .Constant (.str x) _ _ => f x | _ => false
def onBl (a : Expr) (f : Bool → Bool) : Bool := match a with | .Constant (.bool x) _ _ => f x | _ => false
def onNon (a : Expr) : Bool := match a with | .Constant .none _ _ => true | _ => false
def onBin (a : Expr) (f : Expr → Operator → Expr → Bool) : Bool := match a with | .BinOp l o r _ => f l o r | _ => false
def onNeg (a : Expr) (f : Expr → Bool) : Bool := match a with | .UnaryOp .USub l _ => f l | _ => false
def onNot (a : Expr) (f : Expr → Bool) : Bool := match a with | .UnaryOp .Not l _ => f l | _ => false
def onCmp (a : Expr) (f : Expr → CmpOp → Expr → Bool) : Bool := match a with | .Compare l [o] [r] _ => f l o r | _ => false
def onAnd (a : Expr) (f : Expr → Expr → Bool) : Bool := match a with
  | .BoolOp .And [l, r] p => f l r
  | .BoolOp .And (l :: r :: r2 :: rs) p => f l (.BoolOp .And (r :: r2 :: rs) p)
  | _ => false
def onOr (a : Expr) (f : Expr → Expr → Bool) : Bool := match a with
  | .BoolOp .Or [l, r] p => f l r
  | .BoolOp .Or (l :: r :: r2 :: rs) p => f l (.BoolOp .Or (r :: r2 :: rs) p)
  | _ => false
def onIte (a : Expr) (f : Expr → Expr → Expr → Bool) : Bool := match a with | .IfExp p q r _ => f p q r | _ => false
def onIdx (a : Expr) (f : Expr → Expr → Bool) : Bool := match a with | .Subscript l r _ => noSl r && f l r | _ => false
def onSlcA (a : Expr) (f : Expr → Bool) : Bool := match a with | .Subscript l (.Slice none none none _) _ => f l | _ => false
def onSlcL (a : Expr) (f : Expr → Expr → Bool) : Bool := match a with | .Subscript l (.Slice (some p) none none _) _ => f l p | _ => false
def onSlcH (a : Expr) (f : Expr → Expr → Bool) : Bool := match a with | .Subscript l (.Slice none (some p) none _) _ => f l p | _ => false
def onSlcB (a : Expr) (f : Expr → Expr → Expr → Bool) : Bool := match a with | .Subscript l (.Slice (some p) (some q) none _) _ => f l p q | _ => false
def onRev (a : Expr) (f : Expr → Bool) : Bool := match a with | .Subscript l (.Slice none none (some (.UnaryOp .USub (.Constant (.int 1) _ _) _)) _) _ => f l | _ => false
def onTup (a : Expr) (f : List Expr → Bool) : Bool := match a with | .Tuple as _ _ => f as | _ => false
def onLst (a : Expr) (f : List Expr → Bool) : Bool := match a with | .List as _ => f as | _ => false
def onCall (a : Expr) (f : Str → List Expr → Bool) : Bool := match a with | .Call (.Name x _) as [] _ => !as.isEmpty && f x as | _ => false
def onFn (c : Cn) (i : Nat) (f : Str → Nat → OT → Bool) : Bool := match c.fns[i]? with | some (x, n, t) => f x n t | none => false
def onCons (as : List Expr) (f : Expr → List Expr → Bool) : Bool := match as with | [] => false | a :: as => f a as
def onMeth (a : Expr) (f : Expr → Str → Expr → Bool) : Bool := match a with
  | .Call (.Attribute l name ap) [r] [] cp => noSuper l && sameLine ap cp && f l name r
  | _ => false
def methSt (mt : Mth) (name : Str) (t : OT) : Bool := match mt with
  | .startswith => decide (name = ("startswith" : Str))
  | .join => decide (name = ("join" : Str))
  | .get1 => t.isFr && decide (name = ("get" : Str))
  | _ => false
def methAl (mt : Mth) (al : Bool) : Bool := match mt with | .get1 => al | _ => true
/-- a built-in's arguments -/
def onBlt (c : Cn) (b : Blt) (a : Expr) (t : OT) (f : List Expr → Bool) : Bool := match a with
  | .Call (.Name x _) as [] _ => (match b with
    | .len => isBuiltin c x "len" && !as.isEmpty && f as
    | .min1 => isBuiltin c x "min" && decide (as.length = 1) && f as
    | .max1 => isBuiltin c x "max" && decide (as.length = 1) && f as
    | .min2 => isBuiltin c x "min" && !as.isEmpty && f as
    | .max2 => isBuiltin c x "max" && !as.isEmpty && f as
    | .list => isBuiltin c x "list" && t.elem.isFr && !as.isEmpty && f as
    | .sum => isBuiltin c x "sum" && !as.isEmpty && f as
    | .isi [k] => isBuiltin c x "isinstance" && (match as, clsN k with
      | [l, .Name y _], some (z, _) => decide (y = z) && isBuiltin c y z && f [l]
      | _, _ => false)
    | .isi [k1, k2] => isBuiltin c x "isinstance" && (match as, clsN k1, clsN k2 with
      | [l, .Tuple [.Name y1 _, .Name y2 _] _ _], some (z1, _), some (z2, _) => decide (y1 = z1) && isBuiltin c y1 z1 && decide (y2 = z2) && isBuiltin c y2 z2 && f [l]
      | _, _, _ => false)
    | _ => false)
  | _ => false
def bltAl (b : Blt) (al : Bool) : Bool := match b with | .list => al | _ => true
def onComp (a : Expr) (f : Expr → Expr → Expr → List Expr → Scope → Bool) : Bool := match a with
  | .ListComp ea [⟨ta, ia, fa, 0⟩] scope _ => f ea ta ia fa scope
  | _ => false
/-- what an iteration is over -/
def onIt (c : Cn) (k : ItK) (ta ia : Expr) (f : List Expr → Bool) : Bool := match k with
  | .val => f [ia]
  | .range1 => (match ia with | .Call (.Name x _) [p] [] _ => isBuiltin c x "range" && f [p] | _ => false)
  | .range2 => (match ia with | .Call (.Name x _) [p, q] [] _ => isBuiltin c x "range" && f [p, q] | _ => false)
  | .range3 => (match ia with | .Call (.Name x _) [p, q, r] [] _ => isBuiltin c x "range" && f [p, q, r] | _ => false)
  | .enum => isTupE ta && (match ia with | .Call (.Name x _) [p] [] _ => isBuiltin c x "enumerate" && f [p] | _ => false)
  | .zip => isTupE ta && (match ia with | .Call (.Name x _) [p, q] [] _ => isBuiltin c x "zip" && f [p, q] | _ => false)
  | _ => false
def itAl (k : ItK) (al : Bool) : Bool := match k with | .range1 => true | .range2 => true | .range3 => true | _ => al
mutual
/-- m: whether as a test; al: whether parts of others may be within -/
def chk (ot : Nat → OT) : E → Cn → Bool → Expr → OT → Bool → Bool
  | .slot i, c, m, a, t, al => (!m || plainTruth a) && t.isFr && ((ot i).isFr || al) && onName a fun x => c.vis i x
  | .cint i, c, m, a, t, al => !m && onInt a fun j => decide (j = i)
  | .cstr s, c, m, a, t, al => !m && onStr a fun x => decide (tl x = s)
  | .cbl b, c, m, a, t, al => (!m || (plainTruth a && t.isFr)) && onBl a fun x => x == b
  | .cnon, c, m, a, t, al => !m && onNon a
  | .bin op x y, c, m, a, t, al => !m && t.elem.isFr && onBin a fun l o r => decide (o = bopA op) && chk ot x c false l .fr al && chk ot y c false r .fr al
  | .neg x, c, m, a, t, al => !m && onNeg a fun l => chk ot x c false l .fr true
  | .cmp op x y, c, m, a, t, al => onCmp a fun l o r => decide (o = copA op) && !(behindInMarks (copA op) r) && chk ot x c false l .fr true && chk ot y c false r .fr true
  | .not x, c, m, a, t, al => onNot a fun l => chk ot x c m l .fr true
  | .and x y, c, m, a, t, al => onAnd a fun l r => chk ot x c m l .fr true && chk ot y c m r .fr true
  | .or x y, c, m, a, t, al => onOr a fun l r => chk ot x c m l .fr true && chk ot y c m r .fr true
  | .ite x y z, c, m, a, t, al => !m && onIte a fun p q r => chk ot x c true p .fr true && chk ot y c false q t al && chk ot z c false r t al
  | .idx x y, c, m, a, t, al => (!m || plainTruth a) && t.isFr && onIdx a fun l r => chk ot x c false l .fr al && chk ot y c false r .fr true
  | .slcA x, c, m, a, t, al => !m && t.flatE && onSlcA a fun l => chk ot x c false l .fr al
  | .slcL x y, c, m, a, t, al => !m && t.flatE && onSlcL a fun l p => chk ot x c false l .fr al && chk ot y c false p .fr true
  | .slcH x y, c, m, a, t, al => !m && t.flatE && onSlcH a fun l p => chk ot x c false l .fr al && chk ot y c false p .fr true
  | .slcB x y z, c, m, a, t, al => !m && t.flatE && onSlcB a fun l p q => chk ot x c false l .fr al && chk ot y c false p .fr true && chk ot z c false q .fr true
  | .slcR x, c, m, a, t, al => !m && t.elem.isFr && onRev a fun l => chk ot x c false l .fr al
  | .tup es, c, m, a, t, al => !m && onTup a fun as => decide (es.length ≤ 1000) && chkL ot es c as t.comps al
  | .lst es, c, m, a, t, al => !m && onLst a fun as => decide (es.length ≤ 1000) && chkL ot es c as (fun _ => t.elem) al
  | .dnew _ _, _, _, _, _, _ => false
  | .call f es, c, m, a, t, al => (!m || (plainTruth a && t.isFr)) && onCall a fun x as => onFn c f fun name n res =>
      decide (x = name) && decide (c.sc.names.lookup x = some .globalImplicit) && !(x == ("__debug__" : Str)) && decide (es.length = n) && (t.isFr || t.same res) && chkL ot es c as frs0 al
  | .blt b es, c, m, a, t, al => (!m || (plainTruth a && t.isFr)) && onBlt c b a t fun as => chkL ot es c as frs0 (bltAl b al)
  | .meth mt x es, c, m, a, t, al => (!m || (plainTruth a && t.isFr)) && onMeth a fun l name r => methSt mt name t && pureL es && chk ot x c false l .fr (methAl mt al) && chkL ot es c [r] frs0 true
  | .comp fl tg tt k its elt cs, c, m, a, t, al => !m && onComp a fun ea ta ia fa scope =>
      blkC c.N c.sc scope (ownOf c tg) && noSet ia && tgOk (inner c scope) ot tt tg ta && decide (cs.length ≤ 1) && chk ot elt (inner c scope) false ea t.elem false &&
      chkC ot cs (inner c scope) fa && onIt c k ta ia fun as => chkL ot its c as frs0 (itAl k fl)
  | .flat e, c, m, a, t, al => !m && chk ot e c false a .fr true
def chkL (ot : Nat → OT) : List E → Cn → List Expr → (Nat → OT) → Bool → Bool
  | [], c, as, ft, al => as.isEmpty
  | e :: es, c, as, ft, al => onCons as fun a as => noStar a && chk ot e c false a (ft 0) al && chkL ot es c as (fun i => ft (i + 1)) al
def chkC (ot : Nat → OT) : List E → Cn → List Expr → Bool
  | [], c, as => as.isEmpty
  | e :: es, c, as => onCons as fun a as => chk ot e c true a .fr true && chkC ot es c as
end
section
variable {fm : Fm} {sub : Sub} {G : Gam} {k : Nat}
theorem Good.vis {X : Cx} {Wi : WX} {c : Cn} (g : Good X fm sub G k Wi c) {i : Nat} {x : Str} (h : c.vis i x = true) : X.N[i]? = some x ∧ Vis X.env.scope x ∧ (x == ("__debug__" : Str)) = false ∧ (x == ("__classdict__" : Str)) = false := by
  unfold Cn.vis at h
  simp only [Bool.and_eq_true, decide_eq_true_eq, Bool.not_eq_true'] at h
  obtain ⟨⟨⟨h1, h2⟩, h3⟩, h4⟩ := h
  refine ⟨by rw [g.N]; exact h1, ?_, h3, h4⟩
  rw [g.sc]
  unfold Vis
  split at h2
  · exact .inl ‹_›
  · exact .inr (.inl ‹_›)
  · exact .inr (.inr ‹_›)
  · cases h2
theorem Good.loc {X : Cx} {Wi : WX} {c : Cn} (g : Good X fm sub G k Wi c) {i : Nat} {x : Str} (h : c.loc i x = true) : Nm X i x ∧ (x == ("__debug__" : Str)) = false ∧ (x == ("__classdict__" : Str)) = false := by
  unfold Cn.loc at h
  simp only [Bool.and_eq_true, decide_eq_true_eq, Bool.not_eq_true'] at h
  obtain ⟨⟨⟨h1, h2⟩, h3⟩, h4⟩ := h
  have h1' : X.N[i]? = some x := by rw [g.N]; exact h1
  refine ⟨?_, h3, h4⟩
  split at h2
  · rename_i e; exact ⟨h1', .inl (by rw [g.sc]; exact e), .inr (by rw [g.sc]; exact e)⟩
  · rename_i e; exact ⟨h1', .inr (by rw [g.sc]; exact e), .inl (g.fnb x h2)⟩
  · cases h2
theorem Good.glob {X : Cx} {Wi : WX} {c : Cn} (g : Good X fm sub G k Wi c) {x : Str} (h : c.sc.names.lookup x = some .globalImplicit) : Gl X x := by
  show X.env.scope.names.lookup x = _
  rw [g.sc]; exact h
theorem Good.blt {X : Cx} {Wi : WX} {c : Cn} (g : Good X fm sub G k Wi c) {x name : Str} (h : isBuiltin c x name = true) : x = name ∧ Gl X name ∧ X.mg name = none := by
  unfold isBuiltin at h
  simp only [Bool.and_eq_true, decide_eq_true_eq] at h
  obtain ⟨⟨rfl, h2⟩, h3⟩ := h
  exact ⟨rfl, g.glob h3, g.mgB _ h2⟩
theorem Good.hu {X : Cx} {Wi : WX} {c : Cn} (g : Good X fm sub G k Wi c) : X.A.units + 64 < cLine := g.room.units
theorem tgOne_ok {X : Cx} {Wi : WX} {c : Cn} {ot : Nat → OT} (g : Good X fm sub G k Wi c) {i : Nat} {e : Expr} (h : tgOne c ot i e = true) : Tg1 X (fm.w ot) i e := by
  unfold tgOne at h
  split at h
  · simp only [Bool.and_eq_true] at h
    obtain ⟨n, _⟩ := g.loc h.1
    exact ⟨⟨_, _, rfl, n.ix, n.loc, n.fn⟩, OT.isFr_eq h.2⟩
  · cases h
theorem tgAll_ok {X : Cx} {Wi : WX} {c : Cn} {ot : Nat → OT} (g : Good X fm sub G k Wi c) : ∀ {is : List Nat} {es : List Expr}, tgAll c ot is es = true → TgL X (fm.w ot) is es
  | [], es, h => by
    unfold tgAll at h
    cases es with
    | nil => exact .nil
    | cons e es => cases h
  | i :: is, es, h => by
    unfold tgAll at h
    cases es with
    | nil => cases h
    | cons e es =>
      simp only [Bool.and_eq_true] at h
      exact .cons (tgOne_ok g h.1) (tgAll_ok g h.2)
theorem tgOk_ok {X : Cx} {Wi : WX} {c : Cn} {ot : Nat → OT} (g : Good X fm sub G k Wi c) {tt : Bool} {is : List Nat} {e : Expr} (h : tgOk c ot tt is e = true) : PG X e (tG (fm.w ot) is (bindTg tt is)) := by
  unfold tgOk at h
  cases tt with
  | true =>
    rw [if_pos rfl] at h
    split at h
    · exact dg_tup (fm := fm.w ot) g.K g.nd g.calm (tgAll_ok g h)
    · cases h
  | false =>
    rw [if_neg Bool.false_ne_true] at h
    split at h
    · exact dg_name (fm := fm.w ot) g.nd (tgOne_ok g h)
    · cases h
/-- a comprehension's block -/
theorem Good.blk {X : Cx} {Wi : WX} {c : Cn} (g : Good X fm sub G k Wi c) (scope : Scope) (s : Shared) (H : Hp) (C : Addr) (cl : List (Str × Addr)) (fp : List Addr) :
    Good (X.blk s H scope (compEnvC scope cl C X.env) fp) fm sub G k W0 (inner c scope) where
  K := g.K
  N := g.N
  nd := g.nd
  sc := by show relS scope X.env.scope = relS scope c.sc; rw [g.sc]
  calm := g.calm
  room := g.room
  fnb := fun x h => h
  mgB := g.mgB
  call := g.call
  pass := fun σ pins H s e s' I q => by
    obtain ⟨_, _, _, _, _, _, _, _, _, _, _, _, q⟩ := q
    exact q
def Res (X : Cx) (fm : Fm) (sub : Sub) (G : Gam) (Wi : WX) (m : Bool) (e : E) (a : Expr) (t : OT) (al : Bool) : Prop :=
  if m then PT X a (tTT fm Wi fun ρ => ev sub G e ρ >>= isTrueD) ∧ (∀ op vs pos, a = .BoolOp op vs pos → PW X a (tTT fm Wi fun ρ => ev sub G e ρ >>= isTrueD)) else PE X a (tE fm Wi al t (ev sub G e))
theorem Res.pe {X : Cx} {Wi : WX} {e : E} {a : Expr} {t : OT} {al : Bool} (h : Res X fm sub G Wi false e a t al) : PE X a (tE fm Wi al t (ev sub G e)) := by
  unfold Res at h; rw [if_neg Bool.false_ne_true] at h; exact h
theorem Res.pt {X : Cx} {Wi : WX} {e : E} {a : Expr} {t : OT} {al : Bool} (h : Res X fm sub G Wi true e a t al) : PT X a (tTT fm Wi fun ρ => ev sub G e ρ >>= isTrueD) := by
  unfold Res at h; rw [if_pos rfl] at h; exact h.1
theorem Res.of {X : Cx} {Wi : WX} {m : Bool} {e : E} {a : Expr} {t : OT} {al : Bool} (h : PE X a (tE fm Wi al t (ev sub G e))) (hm : m = true → plainTruth a = true ∧ t = .fr) : Res X fm sub G Wi m e a t al := by
  unfold Res
  cases m with
  | false => rw [if_neg Bool.false_ne_true]; exact h
  | true =>
    rw [if_pos rfl]
    obtain ⟨h1, rfl⟩ := hm rfl
    refine ⟨dt_val h1 h, fun op vs pos e => ?_⟩
    subst e
    cases h1
theorem Res.of0 {X : Cx} {Wi : WX} {m : Bool} {e : E} {a : Expr} {t : OT} {al : Bool} (hm : m = false) (h : PE X a (tE fm Wi al t (ev sub G e))) : Res X fm sub G Wi m e a t al := .of h fun z => by rw [hm] at z; cases z
theorem Res.ofT {X : Cx} {Wi : WX} {e : E} {a : Expr} {t : OT} {al : Bool} (h : PT X a (tTT fm Wi fun ρ => ev sub G e ρ >>= isTrueD)) (hb : ∀ op vs pos, a ≠ .BoolOp op vs pos) : Res X fm sub G Wi true e a t al := by
  unfold Res; rw [if_pos rfl]; exact ⟨h, fun op vs pos e => absurd e (hb op vs pos)⟩
theorem evs_one_bind {e : E} {ρ : Rho} {α : Type} {kk : List D → R α} : (evs sub G [e] ρ >>= kk) = (ev sub G e ρ >>= fun y => kk [y]) := by
  rw [evs_one]
  cases ev sub G e ρ <;> rfl
theorem em2 {m b : Bool} (h : (!m || b) = true) : m = true → b = true := by cases m <;> simp_all
theorem evc_one {e : E} {ρ : Rho} : evc sub G [e] ρ = (ev sub G e ρ >>= isTrueD) := by
  rw [evc]
  cases ev sub G e ρ with
  | ok d =>
    rw [ok_bind, ok_bind]
    cases isTrueD d with
    | ok b => cases b <;> (rw [ok_bind]; first | rfl | (rw [if_pos rfl]; rw [evc]))
    | exn c ps => rfl
    | stk => rfl
  | exn c ps => rfl
  | stk => rfl
end
end L2.Py

set_option Elab.async false
set_option linter.all false
set_option maxRecDepth 100000
set_option maxHeartbeats 4000000
/-! PyE18: the checker of expressions is right. -/
namespace L2.Py
open PySem PySem.Spec PyProof.Rows TL
theorem boots : bootBuiltins "len" = some (.builtin "len") ∧ bootBuiltins "min" = some (.builtin "min") ∧ bootBuiltins "max" = some (.builtin "max") ∧ bootBuiltins "sum" = some (.builtin "sum") ∧ bootBuiltins "list" = some (.type "list") := by decide +kernel
theorem onCons_of {as : List Expr} {f : Expr → List Expr → Bool} (h : onCons as f = true) : ∃ a r, as = a :: r ∧ f a r = true := by
  cases as with
  | nil => cases h
  | cons a r => exact ⟨a, r, rfl, h⟩
theorem chkL_star {ot : Nat → OT} : ∀ {es : List E} {c : Cn} {as : List Expr} {ft : Nat → OT} {al : Bool}, chkL ot es c as ft al = true → as.all noStar = true
  | [], c, as, ft, al, h => by
    rw [chkL] at h
    cases as with
    | nil => rfl
    | cons a as => cases h
  | e :: es, c, as, ft, al, h => by
    rw [chkL] at h
    obtain ⟨a, r, rfl, hh⟩ := onCons_of h
    simp only [Bool.and_eq_true] at hh
    simp only [List.all_cons, Bool.and_eq_true]
    exact ⟨hh.1.1, chkL_star hh.2⟩
theorem chkL_len {ot : Nat → OT} : ∀ {es : List E} {c : Cn} {as : List Expr} {ft : Nat → OT} {al : Bool}, chkL ot es c as ft al = true → as.length = es.length
  | [], c, as, ft, al, h => by
    rw [chkL] at h
    cases as with
    | nil => rfl
    | cons a as => cases h
  | e :: es, c, as, ft, al, h => by
    rw [chkL] at h
    obtain ⟨a, r, rfl, hh⟩ := onCons_of h
    simp only [Bool.and_eq_true] at hh
    rw [List.length_cons, List.length_cons, chkL_len hh.2]
theorem cons_of {α : Type} {l : List α} (h : l.isEmpty = false) : ∃ a r, l = a :: r := by
  cases l with
  | nil => cases h
  | cons a r => exact ⟨a, r, rfl⟩
theorem one_of {α : Type} {l : List α} (h : l.length = 1) : ∃ a, l = [a] := by
  match l, h with
  | [a], _ => exact ⟨a, rfl⟩
section
variable {fm : Fm} {sub : Sub} {G : Gam} {k : Nat} {ot : Nat → OT}
/-- what a checked list gives -/
structure ResL (X : Cx) (fm : Fm) (sub : Sub) (G : Gam) (Wi : WX) (es : List E) (as : List Expr) (ft : Nat → OT) (al : Bool) : Prop where
  pa : PA X as (tL fm Wi al ft (evs sub G es))
  one : ∀ a, as = [a] → ∃ e, es = [e] ∧ PE X a (tE fm Wi al (ft 0) (ev sub G e))
  star : as.all noStar = true
  len : as.length = es.length
theorem blt_ok {X : Cx} {Wi : WX} {c : Cn} {b : Blt} {a : Expr} {t : OT} {al : Bool} {es : List E} {f : List Expr → Bool} (g : Good X fm sub G k Wi c) (hf : ∀ as, f as = true → ResL X (fm.w ot) sub G Wi es as frs0 (bltAl b al)) (h : onBlt c b a t f = true) : PE X a (tE (fm.w ot) Wi al t (ev sub G (.blt b es))) := by
  refine de_eq (f := fun ρ => evs sub G es ρ >>= bltD sub b) (fun ρ => by rw [ev]) ?_
  unfold onBlt at h
  split at h
  · rename_i x _ as _
    split at h
    · simp only [Bool.and_eq_true, Bool.not_eq_true'] at h
      obtain ⟨⟨h4, h5⟩, h6⟩ := h
      obtain ⟨rfl, gl, mg⟩ := g.blt h4
      obtain ⟨b, bs, rfl⟩ := cons_of h5
      exact de_callB (fm := fm.w ot) call_lenAny gl mg boots.1 (by decide +kernel) (by decide +kernel) (hf _ h6).star (hf _ h6).pa (do_len (fm := fm.w ot) g.K)
    · simp only [Bool.and_eq_true, decide_eq_true_eq] at h
      obtain ⟨⟨h4, h5⟩, h6⟩ := h
      obtain ⟨rfl, gl, mg⟩ := g.blt h4
      obtain ⟨b, rfl⟩ := one_of h5
      exact de_callB (fm := fm.w ot) ((cr_min g.calm).or (cr_minS g.calm)) gl mg boots.2.1 (by decide +kernel) (by decide +kernel) (hf _ h6).star (hf _ h6).pa (do_min1 (fm := fm.w ot) g.K)
    · simp only [Bool.and_eq_true, decide_eq_true_eq] at h
      obtain ⟨⟨h4, h5⟩, h6⟩ := h
      obtain ⟨rfl, gl, mg⟩ := g.blt h4
      obtain ⟨b, rfl⟩ := one_of h5
      exact de_callB (fm := fm.w ot) ((cr_max g.calm).or (cr_maxS g.calm)) gl mg boots.2.2.1 (by decide +kernel) (by decide +kernel) (hf _ h6).star (hf _ h6).pa (do_max1 (fm := fm.w ot) g.K)
    · simp only [Bool.and_eq_true, Bool.not_eq_true'] at h
      obtain ⟨⟨h4, h5⟩, h6⟩ := h
      obtain ⟨rfl, gl, mg⟩ := g.blt h4
      obtain ⟨b, bs, rfl⟩ := cons_of h5
      exact de_callB (fm := fm.w ot) (call_min2 g.calm) gl mg boots.2.1 (by decide +kernel) (by decide +kernel) (hf _ h6).star (hf _ h6).pa do_min2
    · simp only [Bool.and_eq_true, Bool.not_eq_true'] at h
      obtain ⟨⟨h4, h5⟩, h6⟩ := h
      obtain ⟨rfl, gl, mg⟩ := g.blt h4
      obtain ⟨b, bs, rfl⟩ := cons_of h5
      exact de_callB (fm := fm.w ot) (call_max2 g.calm) gl mg boots.2.2.1 (by decide +kernel) (by decide +kernel) (hf _ h6).star (hf _ h6).pa do_max2
    · simp only [Bool.and_eq_true, Bool.not_eq_true'] at h
      obtain ⟨⟨⟨h4, h7⟩, h5⟩, h6⟩ := h
      obtain ⟨rfl, gl, mg⟩ := g.blt h4
      obtain ⟨b, bs, rfl⟩ := cons_of h5
      exact de_callTy (fm := fm.w ot) (call_listAny g.calm) gl mg boots.2.2.2.2 (by decide +kernel) (by decide +kernel) (hf _ h6).star (hf _ h6).pa (do_list (fm := fm.w ot) g.K (OT.isFr_eq h7) id)
    · simp only [Bool.and_eq_true, Bool.not_eq_true'] at h
      obtain ⟨⟨h4, h5⟩, h6⟩ := h
      obtain ⟨rfl, gl, mg⟩ := g.blt h4
      obtain ⟨b, bs, rfl⟩ := cons_of h5
      exact de_callB (fm := fm.w ot) (cr_sum g.calm) gl mg boots.2.2.2.1 (by decide +kernel) (by decide +kernel) (hf _ h6).star (hf _ h6).pa (do_sum (fm := fm.w ot) g.K)
    · simp only [Bool.and_eq_true] at h
      obtain ⟨h4, h5⟩ := h
      obtain ⟨rfl, gl, mg⟩ := g.blt h4
      split at h5
      · rename_i l y _ z _ hz
        simp only [Bool.and_eq_true, decide_eq_true_eq] at h5
        obtain ⟨⟨rfl, h6⟩, h8⟩ := h5
        obtain ⟨_, gl2, mg2⟩ := g.blt h6
        obtain ⟨e, rfl, pe⟩ := (hf _ h8).one _ rfl
        have st := (hf _ h8).star
        simp only [List.all_cons, Bool.and_eq_true] at st
        exact de_eq (fun ρ => evs_one_bind) (de_isi1 (fm := fm.w ot) g.K hz gl mg gl2 mg2 st.1 pe)
      · cases h5
    · simp only [Bool.and_eq_true] at h
      obtain ⟨h4, h5⟩ := h
      obtain ⟨rfl, gl, mg⟩ := g.blt h4
      split at h5
      · rename_i l y1 _ y2 _ _ _ z1 _ z2 _ hz1 hz2
        simp only [Bool.and_eq_true, decide_eq_true_eq] at h5
        obtain ⟨⟨⟨⟨rfl, h6⟩, rfl⟩, h9⟩, h8⟩ := h5
        obtain ⟨_, gl2, mg2⟩ := g.blt h6
        obtain ⟨_, gl3, mg3⟩ := g.blt h9
        obtain ⟨e, rfl, pe⟩ := (hf _ h8).one _ rfl
        have st := (hf _ h8).star
        simp only [List.all_cons, Bool.and_eq_true] at st
        exact de_eq (fun ρ => evs_one_bind) (de_isi2 (fm := fm.w ot) g.K hz1 hz2 gl mg gl2 mg2 gl3 mg3 st.1 pe)
      · cases h5
    · cases h
  · cases h
theorem it_ok {X : Cx} {Wi : WX} {c : Cn} {kk : ItK} {ta ia : Expr} {al : Bool} {its : List E} {f : List Expr → Bool} (g : Good X fm sub G k Wi c) (hf : ∀ as, f as = true → ResL X (fm.w ot) sub G Wi its as frs0 (itAl kk al)) (h : onIt c kk ta ia f = true) : PI X ta ia (tI (fm.w ot) Wi al fun ρ => evs sub G its ρ >>= itD kk) := by
  unfold onIt at h
  split at h
  · obtain ⟨e, rfl, pe⟩ := (hf _ h).one _ rfl
    refine PI.imp (di_val (tg := ta) pe g.K) fun σ H Q z => ?_
    have e : (fun ρ => evs sub G [e] ρ >>= itD .val) = fun ρ => ev sub G e ρ >>= itV := funext fun ρ => evs_one_bind
    rw [e] at z; exact z
  · split at h
    · simp only [Bool.and_eq_true] at h
      obtain ⟨ha, hc⟩ := h
      obtain ⟨rfl, gl, mg⟩ := g.blt ha
      have st := (hf _ hc).star
      simp only [List.all_cons, Bool.and_eq_true] at st
      exact di_range1 gl mg (hf _ hc).pa st.1
    · cases h
  · split at h
    · simp only [Bool.and_eq_true] at h
      obtain ⟨ha, hc⟩ := h
      obtain ⟨rfl, gl, mg⟩ := g.blt ha
      have st := (hf _ hc).star
      simp only [List.all_cons, Bool.and_eq_true] at st
      exact di_range2 gl mg (hf _ hc).pa st.1 st.2.1
    · cases h
  · split at h
    · simp only [Bool.and_eq_true] at h
      obtain ⟨ha, hc⟩ := h
      obtain ⟨rfl, gl, mg⟩ := g.blt ha
      have st := (hf _ hc).star
      simp only [List.all_cons, Bool.and_eq_true] at st
      exact di_range3 gl mg (hf _ hc).pa st.1 st.2.1 st.2.2.1
    · cases h
  · simp only [Bool.and_eq_true] at h
    obtain ⟨hi, h9⟩ := h
    split at h9
    · simp only [Bool.and_eq_true] at h9
      obtain ⟨ha, hc⟩ := h9
      obtain ⟨rfl, gl, mg⟩ := g.blt ha
      have st := (hf _ hc).star
      simp only [List.all_cons, Bool.and_eq_true] at st
      cases ta <;> first | (cases hi; done) | exact di_enum (fm := fm.w ot) g.K gl mg (hf _ hc).pa st.1
    · cases h9
  · simp only [Bool.and_eq_true] at h
    obtain ⟨hi, h9⟩ := h
    split at h9
    · simp only [Bool.and_eq_true] at h9
      obtain ⟨ha, hc⟩ := h9
      obtain ⟨rfl, gl, mg⟩ := g.blt ha
      have st := (hf _ hc).star
      simp only [List.all_cons, Bool.and_eq_true] at st
      cases ta <;> first | (cases hi; done) | exact di_zip (fm := fm.w ot) g.K gl mg (hf _ hc).pa st.1 st.2.1
    · cases h9
  · cases h
theorem meth_ok {X : Cx} {Wi : WX} {c : Cn} {mt : Mth} {x : E} {es : List E} {l r : Expr} {name : Str} {ap cp : Pos} {t : OT} {al : Bool} (g : Good X fm sub G k Wi c) (h0 : noSuper l = true) (h1 : sameLine ap cp = true) (h2 : methSt mt name t = true) (h3 : pureL es = true)
    (hx : PE X l (tE (fm.w ot) Wi (methAl mt al) .fr (ev sub G x))) (hr : ResL X (fm.w ot) sub G Wi es [r] frs0 true) : PE X (.Call (.Attribute l name ap) [r] [] cp) (tE (fm.w ot) Wi al t (ev sub G (.meth mt x es))) := by
  obtain ⟨e, rfl, pe⟩ := hr.one _ rfl
  have st := hr.star
  simp only [List.all_cons, Bool.and_eq_true] at st
  simp only [pureL, Bool.and_eq_true] at h3
  have nx : ∀ ρ c ps, ev sub G e ρ ≠ .exn c ps := fun ρ => pure_noX e ρ h3.1
  have key : ∀ ρ, ev sub G (.meth mt x [e]) ρ = (do let y ← ev sub G x ρ; let z ← ev sub G e ρ; methD mt y [z]) := fun ρ => by
    rw [ev]
    cases ev sub G x ρ with
    | ok d => exact evs_one_bind
    | exn c ps => rfl
    | stk => rfl
  refine de_eq key ?_
  unfold methSt at h2
  split at h2
  · simp only [decide_eq_true_eq] at h2
    subst h2
    exact de_starts hx pe st.1 h0 h1 nx
  · simp only [decide_eq_true_eq] at h2
    subst h2
    exact de_join (fm := fm.w ot) g.K hx pe st.1 h0 h1 nx
  · simp only [Bool.and_eq_true, decide_eq_true_eq] at h2
    obtain ⟨h2, rfl⟩ := h2
    obtain rfl := OT.isFr_eq h2
    exact de_get1 (by have := g.hu; omega) hx pe st.1 h0 h1 nx
  · cases h2
theorem mt_of {m : Bool} {a : Expr} {t : OT} (h1 : (!m || (plainTruth a && t.isFr)) = true) : m = true → plainTruth a = true ∧ t = .fr := fun z => by
  have := em2 h1 z
  simp only [Bool.and_eq_true] at this
  exact ⟨this.1, OT.isFr_eq this.2⟩
mutual
theorem chk_ok : ∀ (e : E) (X : Cx) (Wi : WX) (c : Cn) (m : Bool) (a : Expr) (t : OT) (al : Bool), Good X fm sub G k Wi c → chk ot e c m a t al = true → Res X (fm.w ot) sub G Wi m e a t al
  | .slot i, X, Wi, c, m, a, t, al, g, h => by
    simp only [chk, Bool.and_eq_true] at h
    obtain ⟨⟨⟨h1, h2⟩, h3⟩, h4⟩ := h
    unfold onName at h4
    split at h4
    · obtain ⟨q1, q2, q3, q4⟩ := g.vis h4
      obtain rfl := OT.isFr_eq h2
      refine Res.of ?_ fun z => ⟨em2 h1 z, rfl⟩
      refine de_eq (fun ρ => by rw [ev]) ?_
      cases al with
      | false => exact de_slot q1 q2 q3 q4 (OT.isFr_eq (by simpa using h3))
      | true => exact de_slotA q1 q2 q3 q4
    · cases h4
  | .cint i, X, Wi, c, m, a, t, al, g, h => by
    simp only [chk, Bool.and_eq_true, Bool.not_eq_true'] at h
    obtain ⟨h1, h2⟩ := h
    unfold onInt at h2
    split at h2
    · have e := of_decide_eq_true h2
      subst e
      exact Res.of0 h1 (de_eq (fun ρ => by rw [ev]) de_int)
    · cases h2
  | .cstr s, X, Wi, c, m, a, t, al, g, h => by
    simp only [chk, Bool.and_eq_true, Bool.not_eq_true'] at h
    obtain ⟨h1, h2⟩ := h
    unfold onStr at h2
    split at h2
    · have e := of_decide_eq_true h2
      subst e
      exact Res.of0 h1 (de_eq (fun ρ => by rw [ev]) de_str)
    · cases h2
  | .cbl b, X, Wi, c, m, a, t, al, g, h => by
    simp only [chk, Bool.and_eq_true] at h
    obtain ⟨h1, h2⟩ := h
    unfold onBl at h2
    split at h2
    · have e := eq_of_beq h2
      subst e
      refine Res.of (de_eq (fun ρ => by rw [ev]) de_bl) fun z => ?_
      have := em2 h1 z
      simp only [Bool.and_eq_true] at this
      exact ⟨this.1, OT.isFr_eq this.2⟩
    · cases h2
  | .cnon, X, Wi, c, m, a, t, al, g, h => by
    simp only [chk, Bool.and_eq_true, Bool.not_eq_true'] at h
    obtain ⟨h1, h2⟩ := h
    unfold onNon at h2
    split at h2
    · exact Res.of0 h1 (de_eq (fun ρ => by rw [ev]) de_non)
    · cases h2
  | .bin op x y, X, Wi, c, m, a, t, al, g, h => by
    simp only [chk, Bool.and_eq_true, Bool.not_eq_true'] at h
    obtain ⟨⟨h1, h2⟩, h3⟩ := h
    unfold onBin at h3
    split at h3
    · simp only [Bool.and_eq_true, decide_eq_true_eq] at h3
      obtain ⟨⟨rfl, h4⟩, h5⟩ := h3
      refine Res.of0 h1 (de_eq (fun ρ => by rw [ev]) ?_)
      have q := de_bin (t := t) (op := op) (pos := by assumption) (OT.isFr_eq h2) (chk_ok x X Wi c _ _ _ _ g h4).pe (chk_ok y X Wi c _ _ _ _ g h5).pe
      rw [Bool.or_self] at q
      exact q
    · cases h3
  | .neg x, X, Wi, c, m, a, t, al, g, h => by
    simp only [chk, Bool.and_eq_true, Bool.not_eq_true'] at h
    obtain ⟨h1, h3⟩ := h
    unfold onNeg at h3
    split at h3
    · exact Res.of0 h1 (de_eq (fun ρ => by rw [ev] <;> rfl) (de_neg (chk_ok x X Wi c _ _ _ _ g h3).pe))
    · cases h3
  | .cmp op x y, X, Wi, c, m, a, t, al, g, h => by
    simp only [chk] at h
    unfold onCmp at h
    split at h
    · simp only [Bool.and_eq_true, decide_eq_true_eq, Bool.not_eq_true'] at h
      obtain ⟨⟨⟨rfl, h2⟩, h4⟩, h5⟩ := h
      cases m with
      | false => exact Res.of0 rfl (de_eq (fun ρ => by rw [ev]) (de_cmp g.K g.hu h2 (chk_ok x X Wi c _ _ _ _ g h4).pe (chk_ok y X Wi c _ _ _ _ g h5).pe))
      | true =>
        refine Res.ofT ?_ fun _ _ _ z => nomatch z
        have q := dt_cmp (fm := fm.w ot) (pos := by assumption) g.K g.hu h2 (chk_ok x X Wi c _ _ _ _ g h4).pe (chk_ok y X Wi c _ _ _ _ g h5).pe
        have e : (fun ρ => ev sub G (.cmp op x y) ρ >>= isTrueD) = fun ρ => (do let x ← ev sub G x ρ; let y ← ev sub G y ρ; cmpD op x y) >>= isTrueD := funext fun ρ => by rw [ev]
        rw [e]
        exact q
    · cases h
  | .not x, X, Wi, c, m, a, t, al, g, h => by
    simp only [chk] at h
    unfold onNot at h
    split at h
    · cases m with
      | false => exact Res.of0 rfl (de_eq (fun ρ => by rw [ev]) (de_not (chk_ok x X Wi c _ _ _ _ g h).pe))
      | true =>
        refine Res.ofT ?_ fun _ _ _ z => nomatch z
        have q := dt_not (pos := by assumption) (chk_ok x X Wi c _ _ _ _ g h).pt
        have e : (fun ρ => ev sub G (.not x) ρ >>= isTrueD) = fun ρ => (ev sub G x ρ >>= isTrueD) >>= fun c => .ok (!c) := funext fun ρ => by rw [ev]; exact ev_not
        rw [e]
        exact q
    · cases h
  | .and x y, X, Wi, c, m, a, t, al, g, h => by
    simp only [chk] at h
    have e : (fun ρ => ev sub G (.and x y) ρ >>= isTrueD) = fun ρ => (ev sub G x ρ >>= isTrueD) >>= fun c => if c then ev sub G y ρ >>= isTrueD else .ok false := funext fun ρ => by rw [ev]; exact ev_and
    unfold onAnd at h
    split at h
    · simp only [Bool.and_eq_true] at h
      cases m with
      | false => exact Res.of0 rfl (de_eq (fun ρ => by rw [ev] <;> rfl) (de_and (g := ev sub G y) (chk_ok x X Wi c _ _ _ _ g h.1).pe (de_one (al := true) (chk_ok y X Wi c _ _ _ _ g h.2).pe)))
      | true =>
        have q := dw_and (chk_ok x X Wi c _ _ _ _ g h.1).pt (dw_and1 (pos := by assumption) (chk_ok y X Wi c _ _ _ _ g h.2).pt)
        unfold Res
        rw [if_pos rfl, e]
        exact ⟨q.pt, fun op vs pos e => by cases e; exact q⟩
    · simp only [Bool.and_eq_true] at h
      cases m with
      | false => exact Res.of0 rfl (de_eq (fun ρ => by rw [ev] <;> rfl) (de_and (g := ev sub G y) (chk_ok x X Wi c _ _ _ _ g h.1).pe (de_bv (al := true) (chk_ok y X Wi c _ _ _ _ g h.2).pe)))
      | true =>
        have r := chk_ok y X Wi c _ _ _ _ g h.2
        unfold Res at r
        rw [if_pos rfl] at r
        have q := dw_and (chk_ok x X Wi c _ _ _ _ g h.1).pt (r.2 _ _ _ rfl)
        unfold Res
        rw [if_pos rfl, e]
        exact ⟨q.pt, fun op vs pos e => by cases e; exact q⟩
    · cases h
  | .or x y, X, Wi, c, m, a, t, al, g, h => by
    simp only [chk] at h
    have e : (fun ρ => ev sub G (.or x y) ρ >>= isTrueD) = fun ρ => (ev sub G x ρ >>= isTrueD) >>= fun c => if c then .ok true else ev sub G y ρ >>= isTrueD := funext fun ρ => by rw [ev]; exact ev_or
    unfold onOr at h
    split at h
    · simp only [Bool.and_eq_true] at h
      cases m with
      | false => exact Res.of0 rfl (de_eq (fun ρ => by rw [ev] <;> rfl) (de_or (g := ev sub G y) (chk_ok x X Wi c _ _ _ _ g h.1).pe (de_one (al := true) (chk_ok y X Wi c _ _ _ _ g h.2).pe)))
      | true =>
        have q := dw_or (chk_ok x X Wi c _ _ _ _ g h.1).pt (dw_or1 (pos := by assumption) (chk_ok y X Wi c _ _ _ _ g h.2).pt)
        unfold Res
        rw [if_pos rfl, e]
        exact ⟨q.pt, fun op vs pos e => by cases e; exact q⟩
    · simp only [Bool.and_eq_true] at h
      cases m with
      | false => exact Res.of0 rfl (de_eq (fun ρ => by rw [ev] <;> rfl) (de_or (g := ev sub G y) (chk_ok x X Wi c _ _ _ _ g h.1).pe (de_bv (al := true) (chk_ok y X Wi c _ _ _ _ g h.2).pe)))
      | true =>
        have r := chk_ok y X Wi c _ _ _ _ g h.2
        unfold Res at r
        rw [if_pos rfl] at r
        have q := dw_or (chk_ok x X Wi c _ _ _ _ g h.1).pt (r.2 _ _ _ rfl)
        unfold Res
        rw [if_pos rfl, e]
        exact ⟨q.pt, fun op vs pos e => by cases e; exact q⟩
    · cases h
  | .ite x y z, X, Wi, c, m, a, t, al, g, h => by
    simp only [chk, Bool.and_eq_true, Bool.not_eq_true'] at h
    obtain ⟨h1, h3⟩ := h
    unfold onIte at h3
    split at h3
    · simp only [Bool.and_eq_true] at h3
      exact Res.of0 h1 (de_eq (fun ρ => by rw [ev]) (de_ite (k := ev sub G x) (chk_ok x X Wi c _ _ _ _ g h3.1.1).pt (chk_ok y X Wi c _ _ _ _ g h3.1.2).pe (chk_ok z X Wi c _ _ _ _ g h3.2).pe))
    · cases h3
  | .idx x y, X, Wi, c, m, a, t, al, g, h => by
    simp only [chk, Bool.and_eq_true] at h
    obtain ⟨⟨h1, h2⟩, h3⟩ := h
    unfold onIdx at h3
    split at h3
    · simp only [Bool.and_eq_true] at h3
      obtain rfl := OT.isFr_eq h2
      exact Res.of (de_eq (fun ρ => by rw [ev]) (de_idx g.K g.hu h3.1 (chk_ok x X Wi c _ _ _ _ g h3.2.1).pe (chk_ok y X Wi c _ _ _ _ g h3.2.2).pe)) fun z => ⟨em2 h1 z, rfl⟩
    · cases h3
  | .slcA x, X, Wi, c, m, a, t, al, g, h => by
    simp only [chk, Bool.and_eq_true, Bool.not_eq_true'] at h
    obtain ⟨⟨h1, h2⟩, h3⟩ := h
    unfold onSlcA at h3
    split at h3
    · exact Res.of0 h1 (de_eq (fun ρ => by rw [ev]) (de_slc g.K (OT.flatE_eq h2) (chk_ok x X Wi c _ _ _ _ g h3).pe do_none do_none))
    · cases h3
  | .slcL x y, X, Wi, c, m, a, t, al, g, h => by
    simp only [chk, Bool.and_eq_true, Bool.not_eq_true'] at h
    obtain ⟨⟨h1, h2⟩, h3⟩ := h
    unfold onSlcL at h3
    split at h3
    · simp only [Bool.and_eq_true] at h3
      exact Res.of0 h1 (de_eq (fun ρ => by rw [ev]) (de_slc g.K (OT.flatE_eq h2) (chk_ok x X Wi c _ _ _ _ g h3.1).pe (do_some (chk_ok y X Wi c _ _ _ _ g h3.2).pe) do_none))
    · cases h3
  | .slcH x y, X, Wi, c, m, a, t, al, g, h => by
    simp only [chk, Bool.and_eq_true, Bool.not_eq_true'] at h
    obtain ⟨⟨h1, h2⟩, h3⟩ := h
    unfold onSlcH at h3
    split at h3
    · simp only [Bool.and_eq_true] at h3
      exact Res.of0 h1 (de_eq (fun ρ => by rw [ev]) (de_slc g.K (OT.flatE_eq h2) (chk_ok x X Wi c _ _ _ _ g h3.1).pe do_none (do_some (chk_ok y X Wi c _ _ _ _ g h3.2).pe)))
    · cases h3
  | .slcB x y z, X, Wi, c, m, a, t, al, g, h => by
    simp only [chk, Bool.and_eq_true, Bool.not_eq_true'] at h
    obtain ⟨⟨h1, h2⟩, h3⟩ := h
    unfold onSlcB at h3
    split at h3
    · simp only [Bool.and_eq_true] at h3
      exact Res.of0 h1 (de_eq (fun ρ => by rw [ev]) (de_slc g.K (OT.flatE_eq h2) (chk_ok x X Wi c _ _ _ _ g h3.1.1).pe (do_some (chk_ok y X Wi c _ _ _ _ g h3.1.2).pe) (do_some (chk_ok z X Wi c _ _ _ _ g h3.2).pe)))
    · cases h3
  | .slcR x, X, Wi, c, m, a, t, al, g, h => by
    simp only [chk, Bool.and_eq_true, Bool.not_eq_true'] at h
    obtain ⟨⟨h1, h2⟩, h3⟩ := h
    unfold onRev at h3
    split at h3
    · exact Res.of0 h1 (de_eq (fun ρ => by rw [ev]) (de_revL (fm := fm.w ot) g.K (OT.isFr_eq h2) (chk_ok x X Wi c _ _ _ _ g h3).pe))
    · cases h3
  | .dnew _ _, X, Wi, c, m, a, t, al, g, h => by simp [chk] at h
  | .tup es, X, Wi, c, m, a, t, al, g, h => by
    simp only [chk, Bool.and_eq_true, Bool.not_eq_true'] at h
    obtain ⟨h1, h3⟩ := h
    unfold onTup at h3
    split at h3
    · simp only [Bool.and_eq_true, decide_eq_true_eq] at h3
      exact Res.of0 h1 (de_eq (fun ρ => by rw [ev]) (de_tup (chkL_ok es X Wi c _ _ _ g h3.2).pa fun ρ ds e => by rw [evs_len e]; exact h3.1))
    · cases h3
  | .lst es, X, Wi, c, m, a, t, al, g, h => by
    simp only [chk, Bool.and_eq_true, Bool.not_eq_true'] at h
    obtain ⟨h1, h3⟩ := h
    unfold onLst at h3
    split at h3
    · simp only [Bool.and_eq_true, decide_eq_true_eq] at h3
      exact Res.of0 h1 (de_eq (fun ρ => by rw [ev]) (de_lst (chkL_ok es X Wi c _ _ _ g h3.2).pa fun ρ ds e => by rw [evs_len e]; exact h3.1))
    · cases h3
  | .call f es, X, Wi, c, m, a, t, al, g, h => by
    rw [chk, Bool.and_eq_true] at h
    obtain ⟨h1, h3⟩ := h
    unfold onCall at h3
    split at h3
    · rw [Bool.and_eq_true, Bool.not_eq_true'] at h3
      obtain ⟨h8, h3⟩ := h3
      unfold onFn at h3
      split at h3
      · rename_i name n res hf
        simp only [Bool.and_eq_true, decide_eq_true_eq, Bool.not_eq_true', Bool.or_eq_true] at h3
        obtain ⟨⟨⟨⟨⟨rfl, h4⟩, h5⟩, h6⟩, h7⟩, h9⟩ := h3
        obtain ⟨fa, fd, ps, F, mg, kp, bd⟩ := g.call _ _ _ _ hf
        obtain ⟨b, bs, rfl⟩ := cons_of h8
        have r := chkL_ok es X Wi c _ _ _ g h9
        refine Res.of (de_eq (fun ρ => by rw [ev]) ?_) (mt_of h1)
        exact de_call (fm := fm.w ot) g.K F g.room (g.glob h4) mg kp bd g.pass h5 r.star r.pa (fun ρ ds e => by rw [evs_len e]; exact h6) (h7.imp OT.isFr_eq (OT.same_eq _ _)) id
      · cases h3
    · cases h3
  | .blt b es, X, Wi, c, m, a, t, al, g, h => by
    rw [chk, Bool.and_eq_true] at h
    exact Res.of (blt_ok g (fun as z => chkL_ok es X Wi c _ _ _ g z) h.2) (mt_of h.1)
  | .meth mt x es, X, Wi, c, m, a, t, al, g, h => by
    rw [chk, Bool.and_eq_true] at h
    obtain ⟨h1, h3⟩ := h
    unfold onMeth at h3
    split at h3
    · simp only [Bool.and_eq_true] at h3
      obtain ⟨⟨h4, h5⟩, ⟨⟨h6, h7⟩, h8⟩, h9⟩ := h3
      exact Res.of (meth_ok g h4 h5 h6 h7 (chk_ok x X Wi c _ _ _ _ g h8).pe (chkL_ok es X Wi c _ _ _ g h9)) (mt_of h1)
    · cases h3
  | .comp fl tg tt kk its elt cs, X, Wi, c, m, a, t, al, g, h => by
    rw [chk, Bool.and_eq_true, Bool.not_eq_true'] at h
    obtain ⟨h1, h3⟩ := h
    unfold onComp at h3
    split at h3
    · rename_i ea ta ia fa scope _
      simp only [Bool.and_eq_true, decide_eq_true_eq] at h3
      obtain ⟨⟨⟨⟨⟨⟨h4, h5⟩, h6⟩, h10⟩, h7⟩, h8⟩, h9⟩ := h3
      have bok : BlkOk X.N X.env.scope scope (ownOf c tg) := by
        rw [g.N, g.sc]; exact blkOk_by h4
      have how : (ownOf c tg).map (·.2) = tg := by
        unfold ownOf
        rw [List.map_map]
        have : ((fun x => x.2) ∘ fun i => (c.N.getD i "", i)) = (id : Nat → Nat) := rfl
        rw [this, List.map_id]
      have hi := it_ok (al := fl) g (fun as z => chkL_ok its X Wi c _ _ _ g z) h9
      have hts : ∀ (s : Shared) (H : Hp) (C : Addr) (cl : List (Str × Addr)) (fp : List Addr), PTs (X.blk s H scope (compEnvC scope cl C X.env) fp) fa (tTT (fm.w ot) W0 (evc sub G cs)) := fun s H C cl fp => chkC_ok cs _ W0 (inner c scope) fa (g.blk scope s H C cl fp) h10 h8
      have q := de_comp (fm := fm.w ot) (Wi := Wi) (t := t) (al1 := fl) (pos := by assumption) g.calm g.nd hi bok how (fun s H C cl fp => tgOk_ok (g.blk scope s H C cl fp) h6) hts (fun s H C cl fp => (chk_ok elt _ W0 (inner c scope) _ _ _ _ (g.blk scope s H C cl fp) h7).pe) id h5
      refine Res.of0 h1 (de_al (al1 := false) (fun z => nomatch z) (de_eq (fun ρ => ?_) q))
      rw [ev]
      cases evs sub G its ρ <;> rfl
    · cases h3
  | .flat e, X, Wi, c, m, a, t, al, g, h => by
    simp only [chk, Bool.and_eq_true, Bool.not_eq_true'] at h
    exact Res.of0 h.1 (de_eq (fun ρ => by rw [ev]) (de_flat (chk_ok e X Wi c _ _ _ _ g h.2).pe))
theorem chkL_ok : ∀ (es : List E) (X : Cx) (Wi : WX) (c : Cn) (as : List Expr) (ft : Nat → OT) (al : Bool), Good X fm sub G k Wi c → chkL ot es c as ft al = true → ResL X (fm.w ot) sub G Wi es as ft al
  | [], X, Wi, c, as, ft, al, g, h => by
    rw [chkL] at h
    cases as with
    | nil =>
      have e : evs sub G [] = fun _ => .ok [] := funext fun ρ => by rw [evs]
      exact ⟨by rw [e]; exact dl_nil, (fun a e => nomatch e), rfl, rfl⟩
    | cons a as => cases h
  | e :: es, X, Wi, c, as, ft, al, g, h => by
    have st := chkL_star h
    have ln := chkL_len h
    rw [chkL] at h
    obtain ⟨a, as, rfl, hh⟩ := onCons_of h
    simp only [Bool.and_eq_true] at hh
    have q1 := (chk_ok e X Wi c _ _ _ _ g hh.1.2).pe
    have q := dl_cons q1 (chkL_ok es X Wi c _ _ _ g hh.2).pa hh.1.1
    rw [Bool.or_self] at q
    have e' : evs sub G (e :: es) = fun ρ => (do let x ← ev sub G e ρ; let xs ← evs sub G es ρ; pure (x :: xs)) := funext fun ρ => by rw [evs]
    refine ⟨by rw [e']; exact q, fun b eb => ?_, st, ln⟩
    injection eb with eb1 eb2
    subst eb1 eb2
    cases es with
    | nil => exact ⟨e, rfl, q1⟩
    | cons e2 es => rw [List.length_cons, List.length_cons, List.length_cons] at ln; simp at ln
theorem chkC_ok : ∀ (cs : List E) (X : Cx) (Wi : WX) (c : Cn) (as : List Expr), Good X fm sub G k Wi c → cs.length ≤ 1 → chkC ot cs c as = true → PTs X as (tTT (fm.w ot) Wi (evc sub G cs))
  | [], X, Wi, c, as, g, hl, h => by
    rw [chkC] at h
    cases as with
    | nil =>
      have e : evc sub G [] = fun _ => .ok true := funext fun ρ => by rw [evc]
      rw [e]; exact dts_nil
    | cons a as => cases h
  | e :: es, X, Wi, c, as, g, hl, h => by
    rw [chkC] at h
    obtain ⟨a, as, rfl, hh⟩ := onCons_of h
    simp only [Bool.and_eq_true] at hh
    cases es with
    | nil =>
      have h2 := hh.2
      rw [chkC] at h2
      cases as with
      | nil =>
        have q := pts_one (chk_ok e X Wi c _ _ _ _ g hh.1).pt
        have e' : evc sub G [e] = fun ρ => ev sub G e ρ >>= isTrueD := funext fun ρ => evc_one
        rw [e']; exact q
      | cons b bs => cases h2
    | cons e2 es => simp at hl
end
end
end L2.Py

set_option Elab.async false
set_option linter.all false
set_option maxRecDepth 100000
set_option maxHeartbeats 4000000
/-! PyE19: the checker of statements, and that it is right. -/
namespace L2.Py
open PySem PySem.Spec PyProof.Rows TL
abbrev Flo := Option (List OT)
def otf (l : List OT) : Nat → OT := fun i => l.getD i .fr
def onFrz {α : Type} (s : S) (f : Nat → α) (g : α) : α := match s with | .frz i => f i | _ => g
def onConsS (sts : List Stmt) (f : Stmt → List Stmt → Option Flo) : Option Flo := match sts with | [] => none | st :: r => f st r
def contF (fl : Option Flo) (f : List OT → Option Flo) (e : Bool) : Option Flo := match fl with | none => none | some none => if e then some none else none | some (some l) => f l
def iffB (b : Bool) (x : Flo) : Option Flo := if b then some x else none
def onAsg (st : Stmt) (f : Str → Pos → Expr → Pos → Bool) : Bool := match st with | .Assign [.Name x pp] e p => f x pp e p | _ => false
def onAsgT (st : Stmt) (f : List Expr → Expr → Bool) : Bool := match st with | .Assign [.Tuple es _ _] e _ => f es e | _ => false
def onInc (st : Stmt) (f : Str → Expr → Bool) : Bool := match st with | .AugAssign (.Name x _) .Add e _ => f x e | _ => false
def onApp (st : Stmt) (f : Str → Expr → Bool) : Bool := match st with | .Expr (.Call (.Attribute (.Name x _) m ap) [e] [] cp) _ => decide (m = ("append" : Str)) && sameLine ap cp && f x e | _ => false
def onIf (st : Stmt) (f : Expr → List Stmt → List Stmt → Option Flo) : Option Flo := match st with | .If c a b _ => f c a b | _ => none
def onWhile (st : Stmt) (f : Expr → List Stmt → Option Flo) : Option Flo := match st with | .While c a [] _ => f c a | _ => none
def onFor (st : Stmt) (f : Expr → Expr → List Stmt → Option Flo) : Option Flo := match st with | .For t i a [] _ => f t i a | _ => none
def onRet (st : Stmt) (f : Expr → Bool) : Bool := match st with | .Return (some e) _ => f e | _ => false
def onRetN (st : Stmt) : Bool := match st with | .Return none _ => true | _ => false
def onExpr (st : Stmt) (f : Expr → Bool) : Bool := match st with | .Expr e _ => f e | _ => false
def onPass (st : Stmt) : Bool := match st with | .Pass _ => true | _ => false
def isSlot (e : E) (f : Nat → Bool) : Bool := match e with | .slot i => f i | _ => false
def isCompE (e : E) : Bool := match e with | .comp _ _ _ _ _ _ _ => true | _ => false
def isOw (t : OT) : Bool := match t with | .ow _ => true | _ => false
def owOf (t : OT) : OT := match t with | .ow u => u | _ => .fr
/-- a comprehension stored on its own line -/
def lcLine (c : Cn) (x : Str) (pp p : Pos) (e : Expr) : Bool := match e with
  | .ListComp _ _ scope lp => decide (c.sc.kind = .function) && decide (c.sc.names.lookup x = some .local) && (pp.line == lp.line) && !(scope.names.any fun (n, k) => n == x && (k == .local || k == .cell))
  | _ => false
def joinF (a b : Flo) : Option Flo := match a, b with
  | none, y => some y
  | some x, none => some (some x)
  | some x, some y => if OT.sameL x y then some (some x) else none
def loopF (fl : Option Flo) (ots : List OT) : Option Flo := match fl with
  | none => none
  | some none => some (some ots)
  | some (some l) => if OT.sameL l ots then some (some ots) else none
def bindF (fl : Option Flo) (f : Flo → Option Flo) : Option Flo := match fl with | none => none | some x => f x
mutual
def chkS (res : OT) (c : Cn) : S → List OT → Stmt → Option Flo
  | .pass, ots, st => iffB (onPass st) (some ots)
  | .asg i t e, ots, st => iffB (onAsg st fun x pp a p => c.loc i x && decide (i < ots.length) && chk (otf ots) e c false a t false && (noComp a || (isCompE e && lcLine c x pp p a))) (some (ots.set i t))
  | .asgT is e, ots, st => iffB (onAsgT st fun es a => tgAll c (otf ots) is es && noComp a && noTup a && chk (otf ots) e c false a .fr false) (some ots)
  | .inc i e, ots, st => iffB (onInc st fun x a => c.loc i x && (otf ots i).isFr && chk (otf ots) e c false a .fr true) (some ots)
  | .app i e, ots, st => iffB (onApp st fun x a => c.loc i x && isOw (otf ots i) && noStar a && chk (otf ots) e c false a (owOf (otf ots i)) false) (some ots)
  | .iff p a b, ots, st => onIf st fun pa aa ba => if chk (otf ots) p c true pa .fr true then bindF (chkSs res c a ots aa) fun f1 => bindF (chkSs res c b ots ba) fun f2 => joinF f1 f2 else none
  | .whl p b, ots, st => onWhile st fun pa ba => if chk (otf ots) p c true pa .fr true then loopF (chkSs res c b ots ba) ots else none
  | .frh tt tg fl k its b, ots, st => onFor st fun ta ia ba => if noSet ia && tgOk c (otf ots) tt tg ta && onIt c k ta ia (fun as => chkL (otf ots) its c as frs0 (itAl k false)) then loopF (chkSs res c b ots ba) ots else none
  | .ret e, ots, st => iffB (onRet st fun a => (res.isFr && chk frs0 e c false a .fr false) || isSlot e (fun i => (otf ots i).same res && onName a fun x => c.vis i x) || chk (otf ots) e c false a res false) none
  | .retN, ots, st => iffB (onRetN st) none
  | .drop e, ots, st => iffB (onExpr st fun a => noComp a && chk (otf ots) e c false a .fr true) (some ots)
  | _, _, _ => none
def chkSs (res : OT) (c : Cn) : List S → List OT → List Stmt → Option Flo
  | [], ots, sts => iffB sts.isEmpty (some ots)
  | s :: ss, ots, sts => onFrz s (fun i => if i < ots.length then chkSs res c ss (ots.set i .fr) sts else none) (onConsS sts fun st r => contF (chkS res c s ots st) (fun l => chkSs res c ss l r) (ss.isEmpty && r.isEmpty))
end
theorem otf_set {l : List OT} {i : Nat} {t : OT} (h : i < l.length) : otf (l.set i t) = otSet (otf l) i t := by
  funext j
  unfold otf otSet
  rw [List.getD_eq_getElem?_getD, List.getElem?_set]
  by_cases e : i = j
  · subst e; simp [h]
  · rw [if_neg e, if_neg (Ne.symm e)]
    exact (List.getD_eq_getElem?_getD ..).symm
theorem isOw_eq {t : OT} (h : isOw t = true) : t = .ow (owOf t) := by
  cases t <;> first | rfl | cases h
theorem iffB_of {b : Bool} {x y : Flo} (h : iffB b x = some y) : b = true ∧ x = y := by
  unfold iffB at h
  split at h
  · rename_i e; exact ⟨e, Option.some.inj h⟩
  · cases h
section
variable {fm : Fm} {sub : Sub} {G : Gam} {k : Nat} {X : Cx} {Wi : WX} {c : Cn} {res : OT}
theorem comp_parts {ot : Nat → OT} {fl tt : Bool} {tg : List Nat} {kk : ItK} {its : List E} {elt : E} {cs : List E} {m : Bool} {a : Expr} {t : OT} {al : Bool} (g : Good X fm sub G k Wi c) (h : chk ot (.comp fl tg tt kk its elt cs) c m a t al = true) :
    ∃ ea ta ia fa scope pos, a = .ListComp ea [⟨ta, ia, fa, 0⟩] scope pos ∧ PI X ta ia (tI (fm.w ot) Wi fl fun ρ => evs sub G its ρ >>= itD kk) ∧ BlkOk X.N X.env.scope scope (ownOf c tg) ∧ (ownOf c tg).map (·.2) = tg ∧
      (∀ (s : Shared) (H : Hp) (C : Addr) (cl : List (Str × Addr)) (fp : List Addr), PG (X.blk s H scope (compEnvC scope cl C X.env) fp) ta (tG (fm.w ot) tg (bindTg tt tg))) ∧
      (∀ (s : Shared) (H : Hp) (C : Addr) (cl : List (Str × Addr)) (fp : List Addr), PTs (X.blk s H scope (compEnvC scope cl C X.env) fp) fa (tTT (fm.w ot) W0 (evc sub G cs))) ∧
      (∀ (s : Shared) (H : Hp) (C : Addr) (cl : List (Str × Addr)) (fp : List Addr), PE (X.blk s H scope (compEnvC scope cl C X.env) fp) ea (tE (fm.w ot) W0 false t.elem (ev sub G elt))) ∧ noSet ia = true := by
  rw [chk, Bool.and_eq_true] at h
  obtain ⟨h1, h3⟩ := h
  unfold onComp at h3
  split at h3
  · rename_i ea ta ia fa scope pos
    simp only [Bool.and_eq_true, decide_eq_true_eq] at h3
    obtain ⟨⟨⟨⟨⟨⟨h4, h5⟩, h6⟩, h10⟩, h7⟩, h8⟩, h9⟩ := h3
    have bok : BlkOk X.N X.env.scope scope (ownOf c tg) := by
      rw [g.N, g.sc]; exact blkOk_by h4
    have how : (ownOf c tg).map (·.2) = tg := by
      unfold ownOf
      rw [List.map_map]
      have : ((fun x => x.2) ∘ fun i => (c.N.getD i "", i)) = (id : Nat → Nat) := rfl
      rw [this, List.map_id]
    exact ⟨ea, ta, ia, fa, scope, pos, rfl, it_ok (al := fl) g (fun as z => chkL_ok its X Wi c _ _ _ g z) h9, bok, how, fun s H C cl fp => tgOk_ok (g.blk scope s H C cl fp) h6, fun s H C cl fp => chkC_ok cs _ W0 (inner c scope) fa (g.blk scope s H C cl fp) h10 h8,
      fun s H C cl fp => (chk_ok elt _ W0 (inner c scope) _ _ _ _ (g.blk scope s H C cl fp) h7).pe, h5⟩
  · cases h3
def ResS (X : Cx) (fm : Fm) (sub : Sub) (G : Gam) (Wi : WX) (res : OT) (ots : List OT) (fl : Flo) (st : Stmt) (s : S) : Prop :=
  ∀ ot', (fl = none ∨ ∃ l, fl = some l ∧ ot' = otf l) → PS X st (tB fm Wi res (otf ots) ot' (run sub G s))
def ResSs (X : Cx) (fm : Fm) (sub : Sub) (G : Gam) (Wi : WX) (res : OT) (ots : List OT) (fl : Flo) (sts : List Stmt) (ss : List S) : Prop :=
  ∀ ot', (fl = none ∨ ∃ l, fl = some l ∧ ot' = otf l) → PSs X sts (tB fm Wi res (otf ots) ot' (runs sub G ss))
theorem ps_eq {st : Stmt} {ot ot' : Nat → OT} {f f' : Rho → Out} (h : ∀ ρ, f' ρ = f ρ) (p : PS X st (tB fm Wi res ot ot' f)) : PS X st (tB fm Wi res ot ot' f') := by
  have e : f' = f := funext h
  rw [e]; exact p
theorem pss_eq {st : List Stmt} {ot ot' : Nat → OT} {f f' : Rho → Out} (h : ∀ ρ, f' ρ = f ρ) (p : PSs X st (tB fm Wi res ot ot' f)) : PSs X st (tB fm Wi res ot ot' f') := by
  have e : f' = f := funext h
  rw [e]; exact p
theorem ResS.one {ots l : List OT} {st : Stmt} {s : S} (p : PS X st (tB fm Wi res (otf ots) (otf l) (run sub G s))) : ResS X fm sub G Wi res ots (some l) st s := fun ot' h => by
  rcases h with h | ⟨l', h, rfl⟩
  · cases h
  · injection h with h
    subst h
    exact p
theorem frs0_w : (fm.w frs0).ot = frs0 := rfl
theorem onRet_of {st : Stmt} {f : Expr → Bool} (h : onRet st f = true) : ∃ e p, st = .Return (some e) p ∧ f e = true := by
  unfold onRet at h
  split at h
  · exact ⟨_, _, rfl, h⟩
  · cases h
theorem asg_ok {i : Nat} {t : OT} {e : E} {ots : List OT} {st : Stmt} (g : Good X fm sub G k Wi c) (h : (onAsg st fun x pp a p => c.loc i x && decide (i < ots.length) && chk (otf ots) e c false a t false && (noComp a || (isCompE e && lcLine c x pp p a))) = true) :
    PS X st (tB fm Wi res (otf ots) (otf (ots.set i t)) (run sub G (.asg i t e))) := by
  unfold onAsg at h
  split at h
  · rename_i x pp a p
    simp only [Bool.and_eq_true, decide_eq_true_eq, Bool.or_eq_true] at h
    obtain ⟨⟨⟨h1, h2⟩, h3⟩, h4⟩ := h
    obtain ⟨nm, hd, hcd⟩ := g.loc h1
    rw [otf_set h2]
    rcases h4 with h4 | h4
    · exact ps_eq (fun ρ => by rw [run]) (d_set g.nd nm (chk_ok e X Wi c _ _ _ _ g h3).pe h4)
    · obtain ⟨h5, h4⟩ := h4
      unfold lcLine at h4
      split at h4
      · rename_i e1 e2 scope lp
        simp only [Bool.and_eq_true, decide_eq_true_eq, Bool.not_eq_true'] at h4
        obtain ⟨⟨⟨k1, k2⟩, k3⟩, k4⟩ := h4
        cases e with
        | comp fl tg tt kk its elt cs =>
          obtain ⟨ea, ta, ia, fa, scope', pos, ea1, hi, bok, how, hg, hts, he, hs⟩ := comp_parts g h3
          injection ea1 with z1 z2 z3 z4
          subst z1 z2 z3 z4
          refine ps_eq (fun ρ => ?_) (d_setLc (fm := fm) (al1 := fl) (fl := fl) g.calm g.nd nm.ix (by rw [g.sc]; exact k2) (sw_true (by rw [g.sc]; exact k1) (by rw [g.sc]; exact k2) k3 k4) hi bok how hg hts he id hs)
          rw [run, ev]
          cases evs sub G its ρ <;> rfl
        | _ => cases h5
      · cases h4
  · cases h
theorem tgAll_w {ot : Nat → OT} (g : Good X fm sub G k Wi c) {is : List Nat} {es : List Expr} (h : tgAll c ot is es = true) : TgL X (fm.w ot) is es := tgAll_ok g h
mutual
theorem chkS_ok (g : Good X fm sub G k Wi c) (own : PassesOwn (model X.prog X.w) X.A X.env X.xe) : ∀ (s : S) (ots : List OT) (st : Stmt) (fl : Flo), chkS res c s ots st = some fl → ResS X fm sub G Wi res ots fl st s
  | .pass, ots, st, fl, h => by
    rw [chkS] at h
    obtain ⟨hh, ee⟩ := iffB_of h
    clear h
    subst ee
    have h := hh
    clear hh
    unfold onPass at h
    split at h
    · exact ResS.one (ps_eq (fun ρ => by rw [run]) d_pass)
    · cases h
  | .asg i t e, ots, st, fl, h => by
    rw [chkS] at h
    obtain ⟨hh, ee⟩ := iffB_of h
    clear h
    subst ee
    have h := hh
    clear hh
    exact ResS.one (asg_ok g h)
  | .asgT is e, ots, st, fl, h => by
    rw [chkS] at h
    obtain ⟨hh, ee⟩ := iffB_of h
    clear h
    subst ee
    have h := hh
    clear hh
    unfold onAsgT at h
    split at h
    · simp only [Bool.and_eq_true] at h
      obtain ⟨⟨⟨h1, h2⟩, h3⟩, h4⟩ := h
      exact ResS.one (ps_eq (fun ρ => by rw [run] <;> rfl) (d_asgT (fm := fm) g.K g.nd g.calm (tgAll_w g h1) (chk_ok e X Wi c _ _ _ _ g h4).pe h2 h3))
    · cases h
  | .inc i e, ots, st, fl, h => by
    rw [chkS] at h
    obtain ⟨hh, ee⟩ := iffB_of h
    clear h
    subst ee
    have h := hh
    clear hh
    unfold onInc at h
    split at h
    · simp only [Bool.and_eq_true] at h
      obtain ⟨⟨h1, h2⟩, h3⟩ := h
      obtain ⟨nm, _⟩ := g.loc h1
      exact ResS.one (ps_eq (fun ρ => by rw [run] <;> rfl) (d_inc (fm := fm) g.nd nm (OT.isFr_eq h2) (chk_ok e X Wi c _ _ _ _ g h3).pe))
    · cases h
  | .app i e, ots, st, fl, h => by
    rw [chkS] at h
    obtain ⟨hh, ee⟩ := iffB_of h
    clear h
    subst ee
    have h := hh
    clear hh
    unfold onApp at h
    split at h
    · simp only [Bool.and_eq_true, decide_eq_true_eq] at h
      obtain ⟨⟨rfl, h0⟩, ⟨⟨h1, h2⟩, h3⟩, h4⟩ := h
      obtain ⟨nm, hd, hcd⟩ := g.loc h1
      exact ResS.one (ps_eq (fun ρ => by rw [run] <;> rfl) (d_append (fm := fm) g.K nm hd hcd (isOw_eq h2) (chk_ok e X Wi c _ _ _ _ g h4).pe h3 h0))
    · cases h
  | .iff p a b, ots, st, fl, h => by
    rw [chkS] at h
    unfold onIf at h
    split at h
    · dsimp only at h
      split at h
      · rename_i h1
        have q := (chk_ok p X Wi c _ _ _ _ g h1).pt
        rename_i ca aa ba _
        cases ha : chkSs res c a ots aa with
        | none => rw [ha] at h; cases h
        | some f1 =>
          rw [ha] at h
          cases hb : chkSs res c b ots ba with
          | none =>
            have h : bindF (chkSs res c b ots ba) (fun f2 => joinF f1 f2) = some fl := h
            rw [hb] at h; cases h
          | some f2 =>
            have h : bindF (chkSs res c b ots ba) (fun f2 => joinF f1 f2) = some fl := h
            rw [hb] at h
            have h : joinF f1 f2 = some fl := h
            have r1 := chkSs_ok g own a ots aa f1 ha
            have r2 := chkSs_ok g own b ots ba f2 hb
            intro ot' hot
            refine ps_eq (fun ρ => by rw [run]) (d_if q (r1 ot' ?_) (r2 ot' ?_))
            · unfold joinF at h
              split at h
              · exact .inl rfl
              · injection h with h; subst h; exact hot
              · split at h
                · injection h with h; subst h; exact hot
                · cases h
            · unfold joinF at h
              split at h
              · injection h with h; subst h; exact hot
              · exact .inl rfl
              · split at h
                · rename_i e
                  have e := OT.sameL_eq _ _ e
                  injection h with h
                  rw [← h] at hot
                  rw [← e]
                  exact hot
                · cases h
      · cases h
    · cases h
  | .whl p b, ots, st, fl, h => by
    rw [chkS] at h
    unfold onWhile at h
    split at h
    · dsimp only at h
      split at h
      · rename_i h1
        have q := (chk_ok p X Wi c _ _ _ _ g h1).pt
        rename_i ca ba _
        cases hb : chkSs res c b ots ba with
        | none => rw [hb] at h; cases h
        | some f2 =>
          rw [hb] at h
          have r2 := chkSs_ok g own b ots ba f2 hb
          have key : fl = some ots ∧ (f2 = none ∨ f2 = some ots) := by
            unfold loopF at h
            split at h
            · cases h
            · rename_i e; injection e with e; injection h with h; exact ⟨h.symm, .inl e⟩
            · rename_i e
              injection e with e
              split at h
              · rename_i e2
                have e2 := OT.sameL_eq _ _ e2
                injection h with h
                exact ⟨h.symm, .inr (by rw [e, e2])⟩
              · cases h
          obtain ⟨rfl, k2⟩ := key
          refine ResS.one (ps_eq (fun ρ => by rw [run]) (d_while own q (r2 _ ?_)))
          rcases k2 with k2 | k2
          · exact .inl k2
          · exact .inr ⟨ots, k2, rfl⟩
      · cases h
    · cases h
  | .frh tt tg fl' kk its b, ots, st, fl, h => by
    rw [chkS] at h
    unfold onFor at h
    split at h
    · dsimp only at h
      split at h
      · rename_i h1
        simp only [Bool.and_eq_true] at h1
        obtain ⟨⟨h1, h2⟩, h3⟩ := h1
        rename_i ta ia ba _
        have hi := it_ok (al := false) (ot := otf ots) (its := its) g (fun as z => chkL_ok its X Wi c _ _ _ g z) h3
        have hg := tgOk_ok g h2
        cases hb : chkSs res c b ots ba with
        | none => rw [hb] at h; cases h
        | some f2 =>
          rw [hb] at h
          have r2 := chkSs_ok g own b ots ba f2 hb
          have key : fl = some ots ∧ (f2 = none ∨ f2 = some ots) := by
            unfold loopF at h
            split at h
            · cases h
            · rename_i e; injection e with e; injection h with h; exact ⟨h.symm, .inl e⟩
            · rename_i e
              injection e with e
              split at h
              · rename_i e2
                have e2 := OT.sameL_eq _ _ e2
                injection h with h
                exact ⟨h.symm, .inr (by rw [e, e2])⟩
              · cases h
          obtain ⟨rfl, k2⟩ := key
          refine ResS.one (ps_eq (fun ρ => ?_) (d_for (fl := fl') own g.calm hi hg (r2 _ ?_) h1))
          · rw [run]
            cases evs sub G its ρ <;> rfl
          · rcases k2 with k2 | k2
            · exact .inl k2
            · exact .inr ⟨ots, k2, rfl⟩
      · cases h
    · cases h
  | .ret e, ots, st, fl, h => by
    rw [chkS] at h
    obtain ⟨hh, ee⟩ := iffB_of h
    clear h
    subst ee
    have h := hh
    clear hh
    obtain ⟨a, p, ee, hh⟩ := onRet_of h
    clear h
    subst ee
    have h := hh
    clear hh
    intro ot' _
    simp only [Bool.or_eq_true, Bool.and_eq_true] at h
    rcases h with (⟨h1, h2⟩ | h) | h
    · obtain rfl := OT.isFr_eq h1
      exact ps_eq (fun ρ => by rw [run]) (d_retF (fm := fm) (chk_ok e X Wi c _ _ _ _ g h2).pe)
    · unfold isSlot at h
      split at h
      · simp only [Bool.and_eq_true] at h
        obtain ⟨h1, h2⟩ := h
        unfold onName at h2
        split at h2
        · obtain ⟨q1, q2, q3, q4⟩ := g.vis h2
          exact ps_eq (fun ρ => by rw [run, ev]) (d_retM q1 q2 q3 q4 (OT.same_eq _ _ h1))
        · cases h2
      · cases h
    · exact ps_eq (fun ρ => by rw [run]) (d_ret (chk_ok e X Wi c _ _ _ _ g h).pe)
  | .retN, ots, st, fl, h => by
    rw [chkS] at h
    obtain ⟨hh, ee⟩ := iffB_of h
    clear h
    subst ee
    have h := hh
    clear hh
    unfold onRetN at h
    split at h
    · intro ot' _
      exact ps_eq (fun ρ => by rw [run]) d_retN
    · cases h
  | .drop e, ots, st, fl, h => by
    rw [chkS] at h
    obtain ⟨hh, ee⟩ := iffB_of h
    clear h
    subst ee
    have h := hh
    clear hh
    unfold onExpr at h
    split at h
    · simp only [Bool.and_eq_true] at h
      exact ResS.one (ps_eq (fun ρ => by rw [run]) (d_drop (chk_ok e X Wi c _ _ _ _ g h.2).pe h.1))
    · cases h
  | .frz _, ots, st, fl, h => by rw [chkS] at h <;> first | cases h | (intros; contradiction)
  | .put _ _ _ _, ots, st, fl, h => by rw [chkS] at h <;> first | cases h | (intros; contradiction)
  | .mut _ _ _ _, ots, st, fl, h => by rw [chkS] at h <;> first | cases h | (intros; contradiction)
  | .pop _ _ _ _, ots, st, fl, h => by rw [chkS] at h <;> first | cases h | (intros; contradiction)
  | .setd _ _ _ _, ots, st, fl, h => by rw [chkS] at h <;> first | cases h | (intros; contradiction)
  | .raise _ _, ots, st, fl, h => by rw [chkS] at h <;> first | cases h | (intros; contradiction)
  | .tryX _ _, ots, st, fl, h => by rw [chkS] at h <;> first | cases h | (intros; contradiction)
  | .callM _ _ _ _, ots, st, fl, h => by rw [chkS] at h <;> first | cases h | (intros; contradiction)
theorem chkSs_ok (g : Good X fm sub G k Wi c) (own : PassesOwn (model X.prog X.w) X.A X.env X.xe) : ∀ (ss : List S) (ots : List OT) (sts : List Stmt) (fl : Flo), chkSs res c ss ots sts = some fl → ResSs X fm sub G Wi res ots fl sts ss
  | [], ots, sts, fl, h => by
    rw [chkSs] at h
    obtain ⟨hh, ee⟩ := iffB_of h
    clear h
    subst ee
    have h := hh
    clear hh
    cases sts with
    | nil =>
      intro ot' hot
      rcases hot with hot | ⟨l, hot, rfl⟩
      · cases hot
      · injection hot with hot
        subst hot
        exact pss_eq (fun ρ => by rw [runs]) dS_nil
    | cons a b => cases h
  | s :: ss, ots, sts, fl, h => by
    rw [chkSs] at h
    have fin : onConsS sts (fun st r => contF (chkS res c s ots st) (fun l => chkSs res c ss l r) (ss.isEmpty && r.isEmpty)) = some fl → ResSs X fm sub G Wi res ots fl sts (s :: ss) := fun h => by
      cases sts with
      | nil => cases h
      | cons st r =>
        have h : contF (chkS res c s ots st) (fun l => chkSs res c ss l r) (ss.isEmpty && r.isEmpty) = some fl := h
        intro ot' hot
        have eq : ∀ ρ, runs sub G (s :: ss) ρ = (match run sub G s ρ with | .next ρ' => runs sub G ss ρ' | o => o) := fun ρ => by rw [runs] <;> (cases run sub G s ρ <;> rfl)
        cases hs : chkS res c s ots st with
        | none => rw [hs] at h; cases h
        | some f1 =>
          rw [hs] at h
          have r1 := chkS_ok g own s ots st f1 hs
          cases f1 with
          | none =>
            unfold contF at h
            dsimp only at h
            split at h
            · rename_i e
              simp only [Bool.and_eq_true, List.isEmpty_iff] at e
              obtain ⟨rfl, rfl⟩ := e
              exact pss_eq eq (dS_cons (r1 ot' (.inl rfl)) (pss_eq (fun ρ => by rw [runs]) dS_nil))
            · cases h
          | some l =>
            have h : chkSs res c ss l r = some fl := h
            exact pss_eq eq (dS_cons (r1 (otf l) (.inr ⟨l, rfl, rfl⟩)) (chkSs_ok g own ss l r fl h ot' hot))
    unfold onFrz at h
    split at h
    · rename_i i
      dsimp only at h
      split at h
      · rename_i hi
        intro ot' hot
        have q := chkSs_ok g own ss _ sts fl h ot' hot
        rw [otf_set hi] at q
        refine pss_eq (fun ρ => ?_) (dS_frz i q)
        rw [runs, run]
      · cases h
    · exact fin h
end
end
end L2.Py

set_option Elab.async false
set_option linter.all false
set_option maxRecDepth 100000
set_option maxHeartbeats 4000000
/-! PyE20: defs, a table of defs, a law. -/
namespace L2.Py
open PySem PySem.Spec PyProof.Rows TL
/-- one def: its name, its parameters, its slots' names, what it means, what its result owns, its text -/
structure Dd where
  name : Str
  ps : List Str
  N : List Str
  d : Def
  res : OT
  st : Stmt
def Dd.sig (e : Dd) : Str × Nat × OT := (e.name, e.ps.length, e.res)
def scC (N P : List Str) (sc : Scope) : Bool :=
  decide (sc.kind = .function) && !sc.isCoroutine && !sc.isGenerator && decide N.Nodup && decide (N.take P.length = P) && P.all (fun x => decide (sc.names.lookup x = some .local) || decide (sc.names.lookup x = some .cell)) && sc.names.all (fun y => !decide (y.2 = .free))
theorem fnScope_by {N P : List Str} {sc : Scope} (h : scC N P sc = true) : FnScope N P sc := by
  unfold scC at h
  simp only [Bool.and_eq_true, Bool.not_eq_true', decide_eq_true_eq, List.all_eq_true, Bool.or_eq_true, decide_eq_false_iff_not] at h
  obtain ⟨⟨⟨⟨⟨⟨h1, h2⟩, h3⟩, h4⟩, h5⟩, h6⟩, h7⟩ := h
  exact ⟨h1, h2, h3, h4, h5, h6, h7⟩
def Dd.cn (e : Dd) (fns : List (Str × Nat × OT)) : Cn := { N := e.N, sc := defScope e.st, fnb := fun _ => true, fns := fns }
def Dd.chk (e : Dd) (fns : List (Str × Nat × OT)) : Bool :=
  scC e.N e.ps (defScope e.st) && decide (e.d.nps = e.ps.length) && decide (e.d.nsl = e.N.length) && e.d.io.isEmpty && (chkSs e.res (e.cn fns) e.d.body (List.replicate e.N.length .fr) (defBody e.st)).isSome
section
variable {P : Program} {w : World} {K : PySem.W.Frag} {mg : Str → Option Value} {base : Heap} {sub : Sub} {G : Gam} {ca : Nat → Addr}
theorem otf_rep (n : Nat) : otf (List.replicate n .fr) = frs0 := by
  funext i
  unfold otf
  rw [List.getD_eq_getElem?_getD, List.getElem?_replicate]
  split <;> rfl
theorem entry_get {nsl : Nat} {xs : List D} {i : Nat} {d : D} (h : (entry nsl xs)[i]? = some (some d)) : xs[i]? = some d := by
  unfold entry at h
  by_cases hi : i < xs.length
  · rw [List.getElem?_append_left (by simpa using hi), List.getElem?_map] at h
    rw [Option.map_eq_some_iff] at h
    obtain ⟨a, h1, h2⟩ := h
    injection h2 with h2
    rw [h1, h2]
  · rw [List.getElem?_append_right (by simpa using hi), List.getElem?_replicate] at h
    split at h <;> cases h
theorem start_get {N : List Str} {vs : List V} {i : Nat} {v : V} (h : vs[i]? = some v) : (start N vs)[i]? = some (some v) := by
  have hi : i < vs.length := (List.getElem?_eq_some_iff.mp h).1
  unfold start
  rw [List.getElem?_append_left (by simpa using hi), List.getElem?_map, h]
  rfl
theorem def_ok {x qual : Str} {f : Addr} {fd : FuncData} {k : Nat} {e : Dd} {fns : List (Str × Nat × OT)} (F : Fun K x qual e.st f fd) (h : e.chk fns = true)
    (hcall : ∀ f name n res, fns[f]? = some (name, n, res) → ∃ fa fd ps, FnOk P w K mg base (L2.CX P w) k fa fd ps (spD K ca (G f) n res) ∧ mg name = some (.ref fa) ∧ PySem.W.keepIn K (.ref fa) = true ∧ Binds K fd ps [])
    (hmg : ∀ x ∈ bltNames, mg x = none) : FnOk P w K mg base (L2.CX P w) (k + 1) f fd e.ps (spD K ca (runDef sub G e.d) e.ps.length e.res) := by
  unfold Dd.chk at h
  simp only [Bool.and_eq_true, decide_eq_true_eq] at h
  obtain ⟨⟨⟨⟨h1, h2⟩, h3⟩, h4⟩, h5⟩ := h
  obtain ⟨fl, hfl⟩ := Option.isSome_iff_exists.mp h5
  refine F.okX (fnScope_by h1) (fun vs H Q E hsp => ?_) fun cdv A outer s H vs Q E hr hsp => ?_
  · obtain ⟨ds, B, rep, hl, _⟩ := hsp
    rw [RepL.length rep]; exact hl
  · obtain ⟨ds, B, rep, hl, hm⟩ := hsp
    generalize hX : cxOf (L2.CX P w) P w K mg base e.N qual (defScope e.st) f cdv A outer s H E = X
    have g : Good X ⟨K, H, [], B, frs0, ca⟩ sub G k (fun cls dx _ H' => E cls dx H') (e.cn fns) := by
      subst hX
      exact ⟨rfl, rfl, (fnScope_by h1).nd, rfl, rfl, hr, fun _ _ => rfl, hmg, hcall, passAt (takes_of rfl rfl rfl rfl)⟩
    have own : PassesOwn (model X.prog X.w) X.A X.env X.xe := by
      subst hX
      exact passes_of rfl
    have r := chkSs_ok (res := e.res) g own e.d.body _ _ fl hfl
    obtain ⟨ot', hot⟩ : ∃ ot', fl = none ∨ ∃ l, fl = some l ∧ ot' = otf l := by
      cases fl with
      | none => exact ⟨frs0, .inl rfl⟩
      | some l => exact ⟨otf l, .inr ⟨l, rfl, rfl⟩⟩
    refine ⟨_, r ot' hot, entry e.d.nsl ds, nof, ?_, ?_⟩
    · have hvl : vs.length = ds.length := RepL.length rep
      have hN : ds.length ≤ e.N.length := by
        have := congrArg List.length (fnScope_by h1).pre
        rw [List.length_take] at this
        omega
      refine ⟨?_, ?_, fun _ _ _ => rfl, fun _ => List.nodup_nil, fun i j a _ h => (nomatch h), fun i a h => (nomatch h), fun i a h => (nomatch h), fun a o e _ => e, fun a h => (nomatch h)⟩
      · unfold start entry
        rw [List.length_append, List.length_append, List.length_map, List.length_map, List.length_replicate, List.length_replicate, hvl, h3]
      · intro i d hi
        obtain ⟨v, hv, rv⟩ := RepL.get rep (entry_get hi)
        refine ⟨v, start_get hv, ?_⟩
        show Rep K H _ d (otf _ i) v []
        rw [otf_rep]
        exact Rep.leaves _ _ _ _ (Leaves.same (Same.refl _) fun a _ z => ⟨.inl z, fun i h => nomatch h⟩) rv
    · have hlen : ds.length = e.d.nps := by rw [hl, h2]
      unfold runDef at hm
      rw [if_pos hlen] at hm
      cases eo : runs sub G e.d.body (entry e.d.nsl ds) with
      | next ρ =>
        rw [eo] at hm
        intro σ' H' fps' er _
        refine hm .non H' [] (fun a o e => er.frame a o e (by simp)) List.nodup_nil (fun a h => nomatch h) ?_
        simp only [Rep]
        exact ⟨trivial, trivial⟩
      | ret d ρ =>
        rw [eo] at hm
        rintro v H' ⟨fp, q1, q2, q3, q4⟩
        refine hm v H' fp (fun a o e => q1 a o e (by simp)) q2 (fun a ha => (q3 a ha).resolve_right (by simp)) (Rep.leaves _ _ _ _ (Leaves.same (Same.refl _) fun a _ z => ⟨?_, z.2⟩) q4)
        rcases z.1 with z | z | z
        · exact .inl z
        · exact .inr z
        · cases z
      | exn c ps ρ =>
        rw [eo] at hm
        exact fun cls dx σ' H' er _ ex => hm cls dx H' (fun a o e => er.frame a o e (by simp)) ex
      | stk => rw [eo] at hm; exact hm
/-- what the top has written of a def -/
structure At (K : PySem.W.Frag) (mg : Str → Option Value) (e : Dd) (fa : Addr) (fd : FuncData) : Prop where
  fn : Fun K e.name e.name e.st fa fd
  mgf : mg e.name = some (.ref fa)
  bd : Binds K fd e.ps []
def chkAll (tb : List Dd) : Bool := (List.range tb.length).all fun i => match tb[i]? with | some e => e.chk ((tb.take i).map Dd.sig) | none => true
theorem chkAll_at {tb : List Dd} (h : chkAll tb = true) {i : Nat} {e : Dd} (he : tb[i]? = some e) : e.chk ((tb.take i).map Dd.sig) = true := by
  unfold chkAll at h
  have hi : i < tb.length := (List.getElem?_eq_some_iff.mp he).1
  have q := List.all_eq_true.mp h i (List.mem_range.mpr hi)
  rw [he] at q
  exact q
theorem link {tb : List Dd} (hchk : chkAll tb = true) (hat : ∀ (i : Nat) (e : Dd), tb[i]? = some e → ∃ fa fd, At K mg e fa fd) (hmg : ∀ x ∈ bltNames, mg x = none) :
    ∀ (i : Nat) (e : Dd), tb[i]? = some e → ∀ fa fd, At K mg e fa fd → FnOk P w K mg base (L2.CX P w) (i + 1) fa fd e.ps (spD K ca (sem sub (tb.map Dd.d) (i + 1) i) e.ps.length e.res) := by
  intro i
  induction i using Nat.strongRecOn with
  | _ i ih =>
    intro e he fa fd A
    have hd : (tb.map Dd.d)[i]? = some e.d := by rw [List.getElem?_map, he]; rfl
    have es : sem sub (tb.map Dd.d) (i + 1) i = runDef sub (sem sub (tb.map Dd.d) i) e.d := funext fun xs => sem_at hd (Nat.lt_succ_self i) xs
    rw [es]
    refine def_ok (fns := (tb.take i).map Dd.sig) A.fn (chkAll_at hchk he) (fun f name n res hf => ?_) hmg
    rw [List.getElem?_map, Option.map_eq_some_iff] at hf
    obtain ⟨e2, h1, h2⟩ := hf
    have hfi : f < i := by
      have := (List.getElem?_eq_some_iff.mp h1).1
      rw [List.length_take] at this
      omega
    rw [List.getElem?_take_of_lt hfi] at h1
    unfold Dd.sig at h2
    injection h2 with h2 h3
    injection h3 with h3 h4
    subst h2 h3 h4
    obtain ⟨fa2, fd2, A2⟩ := hat f e2 h1
    have hd2 : (tb.map Dd.d)[f]? = some e2.d := by rw [List.getElem?_map, h1]; rfl
    have es2 : sem sub (tb.map Dd.d) i f = sem sub (tb.map Dd.d) (f + 1) f := funext fun xs => by rw [sem_at hd2 hfi, sem_at hd2 (Nat.lt_succ_self f)]
    rw [es2]
    exact ⟨fa2, fd2, e2.ps, (ih f hfi e2 h1 fa2 fd2 A2).mono hfi, A2.mgf, A2.fn.kp, A2.bd⟩
end
def AtL (K : PySem.W.Frag) (mg : Str → Option Value) : List Dd → Prop
  | [] => True
  | e :: es => (∃ fa fd, At K mg e fa fd) ∧ AtL K mg es
theorem AtL.get {K : PySem.W.Frag} {mg : Str → Option Value} : ∀ {tb : List Dd}, AtL K mg tb → ∀ (i : Nat) (e : Dd), tb[i]? = some e → ∃ fa fd, At K mg e fa fd
  | [], _, i, e, h => by simp at h
  | d :: ds, a, i, e, h => by
    cases i with
    | zero =>
      simp at h
      subst h
      exact a.1
    | succ i => exact AtL.get a.2 i e (by simpa using h)
def NoL (mg : Str → Option Value) : List Str → Prop
  | [] => True
  | x :: xs => mg x = none ∧ NoL mg xs
theorem NoL.get {mg : Str → Option Value} : ∀ {xs : List Str}, NoL mg xs → ∀ x ∈ xs, mg x = none
  | [], _, x, h => nomatch h
  | y :: ys, a, x, h => by
    rcases List.mem_cons.mp h with rfl | h
    · exact a.1
    · exact NoL.get a.2 x h
/-- the law's promise, by values -/
theorem law_walk {l : PySem.W.OpenLaw} {q : Program} {loose : List Str} {XP : (Str → Option Value) → Heap → Prop} {YP : World → Heap → Prop} {d : DefRec} {K : Params → PySem.W.Frag} {x : Str} {tb : List Dd} {n : Nat} {e : Dd} {sub : Sub} {ca : Params → Nat → Addr}
    (hn : l.most = some 63) (hdf : d.params.defaults = []) (hk : tb[n]? = some e) (hname : e.name = d.name) (hps : e.ps = [x]) (hr : Room (n + 1) callerA)
    (hY : ∀ (w : World) (h : Heap), YP w h → (K w.params).In h) (hchk : chkAll tb = true)
    (F : ∀ (w : World) (mg : Str → Option Value) (h : Heap), (K w.params).In h → h.Ns mainGlobals mg → (∀ (i : Nat) (e : Dd), tb[i]? = some e → ∃ fa fd, At (K w.params) mg e fa fd) ∧ (∀ x ∈ bltNames, mg x = none) ∧ ∀ fa fd, At (K w.params) mg e fa fd → ∀ (s : Shared) (u : Value), BindsTo s fd ⟨[u], []⟩ [(x, u)])
    (hlaw : ∀ ns : List Int, ns.length ≤ 63 → (∀ z ∈ ns, Builtin.Int.intBits z ≤ 1048576) → ∃ r, sem sub (tb.map Dd.d) (n + 1) n [.scr ns] = .ok (.bl true, r)) :
    PySem.W.WalkO q loose XP YP l.row.toRowW d [] (fun f vs => PySem.call f vs) := by
  refine L2.walk_ofB (n := 63) (k := n + 1) (x := x) (CX := fun w => L2.CX l.prog w) (sp := fun w => spD (K w.params) (ca w.params) (sem sub (tb.map Dd.d) (n + 1) n) 1 e.res) hn (by decide) hdf hr hY (fun w mg fa h KX G hmg => ?_) (fun w H a ns hl hb hO hS => ?_) fun w H s ex s' z => ?_
  · obtain ⟨hat, hz, hbt⟩ := F w mg h KX G
    obtain ⟨fa', fd, A⟩ := hat n e hk
    have e1 : fa' = fa := by
      have := A.mgf
      rw [hname, hmg] at this
      injection this with this
      injection this with this
      exact this.symm
    subst e1
    refine ⟨fd, hbt _ fd A, fun base _ _ => ?_⟩
    have := link (P := l.prog) (w := w) (base := base) (sub := sub) (ca := ca w.params) hchk hat hz n e hk fa' fd A
    rw [hps] at this
    exact this
  · obtain ⟨r, hr⟩ := hlaw ns hl hb
    refine ⟨[.scr ns], fun _ => True, ?_, rfl, ?_⟩
    · refine RepL.cons (f1 := []) (f2 := []) ?_ RepL.nil
      simp only [Rep]
      refine ⟨⟨a, rfl, ?_⟩, trivial⟩
      rcases hS with (h | h) | h
      · rcases hO a with z | ⟨o, xs, z⟩
        · rw [z] at h; cases h
        · rw [z] at h; cases h
      · exact .inl h
      · exact .inr h
    · rw [hr]
      intro v H' fp _ _ _ rep
      have rep : Rep _ _ _ (.bl true) _ _ _ := rep
      simp only [Rep] at rep
      exact rep.1
  · obtain ⟨_, _, _, _, _, _, _, _, _, _, _, _, z⟩ := z
    exact z
end L2.Py

set_option Elab.async false
set_option linter.all false
set_option maxRecDepth 100000
set_option maxHeartbeats 1000000
/-! PyP1: plain facts: running the language on given slots; words and their order. -/
namespace L2.Py
open PySem PySem.Spec PyProof.Rows TL
theorem noExn_ok {α : Type} (a : α) : noExn (R.ok a) = .ok a := rfl
theorem smallR {i j : Int} (h1 : -(2 ^ 64) < j) (h2 : j < 2 ^ 64) : smallF i j = true := by
  unfold smallF
  simp only [Bool.or_eq_true, Bool.and_eq_true, decide_eq_true_eq]
  exact .inr ⟨h1, h2⟩
theorem smallL {i j : Int} (h1 : -(2 ^ 64) < i) (h2 : i < 2 ^ 64) : smallF i j = true := by
  unfold smallF
  simp only [Bool.or_eq_true, Bool.and_eq_true, decide_eq_true_eq]
  exact .inl ⟨h1, h2⟩
@[simp] theorem d_sub (i j : Int) : binD .sub (.int i) (.int j) = .ok (.int (i - j)) := rfl
@[simp] theorem d_add (i j : Int) : binD .add (.int i) (.int j) = .ok (.int (i + j)) := rfl
theorem d_mul {i j : Int} (h : smallF i j = true) : binD .mul (.int i) (.int j) = .ok (.int (i * j)) := by
  show (if smallF i j then _ else _) = _
  rw [if_pos h]
theorem d_fdiv {i j : Int} (h1 : 0 < j) (h2 : j < 1073741824) : binD .fdiv (.int i) (.int j) = .ok (.int (i / j)) := by
  show (if decide (0 < j) && decide (j < 1073741824) then _ else _) = _
  rw [if_pos (by simp [h1, h2])]
theorem d_mod {i j : Int} (h1 : 0 < j) : binD .mod (.int i) (.int j) = .ok (.int (i % j)) := by
  show (if 0 < j then _ else _) = _
  rw [if_pos h1]
theorem d_cat {s t : W} (h : s.length + t.length ≤ lim) : binD .add (.str s) (.str t) = .ok (.str (s ++ t)) := by
  show (if _ then _ else _) = _
  rw [if_pos h]
theorem plain_strs (ws : List W) (n : Nat) : plainLN (ws.map .str) n = true := by
  induction ws with
  | nil => rfl
  | cons w ws ih => simp only [List.map_cons, plainLN, D.plainN, ih, Bool.and_self]
theorem plain_ints (ws : List Int) (n : Nat) : plainLN (ws.map .int) n = true := by
  induction ws with
  | nil => rfl
  | cons w ws ih => simp only [List.map_cons, plainLN, D.plainN, ih, Bool.and_self]
theorem eqvL_refl_strs (ws : List W) : eqvL (ws.map .str) (ws.map .str) = true := by
  induction ws with
  | nil => rfl
  | cons w ws ih => simp only [List.map_cons, eqvL, D.eqv, ih, Bool.and_true, beq_self_eq_true]
@[simp] theorem eqD_str (a b : W) : eqD (.str a) (.str b) = .ok (a == b) := rfl
@[simp] theorem eqD_int (a b : Int) : eqD (.int a) (.int b) = .ok (a == b) := rfl
theorem atD_some {α : Type} {xs : List α} {i : Int} {a : α} (h0 : 0 ≤ i) (h : xs[i.toNat]? = some a) : atD xs i = .ok a := by
  have hl : i.toNat < xs.length := (List.getElem?_eq_some_iff.mp h).1
  unfold atD ixOf
  rw [if_pos h0, if_pos (by omega)]
  simp only [Option.bind_some, h]
  rfl
theorem atD_nat {α : Type} {xs : List α} {i : Nat} {a : α} (h : xs[i]? = some a) : atD xs (i : Int) = .ok a := atD_some (by omega) (by simpa using h)
/-! ### words -/
theorem begins_refl : ∀ a : W, begins a a = true
  | [] => rfl
  | x :: xs => by simp [begins, begins_refl xs]
theorem begins_take : ∀ {p a : W}, begins p a = true ↔ a.take p.length = p
  | [], a => by simp [begins]
  | x :: xs, [] => by simp [begins]
  | x :: xs, y :: ys => by
    simp only [begins, Bool.and_eq_true, beq_iff_eq, begins_take (p := xs) (a := ys), List.length_cons, List.take_succ_cons, List.cons.injEq]
    constructor
    · rintro ⟨rfl, h⟩; exact ⟨rfl, h⟩
    · rintro ⟨rfl, h⟩; exact ⟨rfl, h⟩
theorem begins_len {p a : W} (h : begins p a = true) : p.length ≤ a.length := by
  have := begins_take.mp h
  rw [← this, List.length_take]
  exact Nat.min_le_right _ _
theorem wle_refl : ∀ a : W, wle a a = true
  | [] => rfl
  | x :: xs => by simp [wle, wle_refl xs]
theorem wle_total : ∀ a b : W, wle a b = true ∨ wle b a = true
  | [], _ => .inl rfl
  | _ :: _, [] => .inr rfl
  | x :: xs, y :: ys => by
    by_cases e : x = y
    · subst e
      simpa [wle] using wle_total xs ys
    · have e' : ¬ y = x := fun z => e z.symm
      simp only [wle, if_neg e, if_neg e', decide_eq_true_eq]
      omega
theorem wle_trans : ∀ {a b c : W}, wle a b = true → wle b c = true → wle a c = true
  | [], _, _, _, _ => rfl
  | _ :: _, [], _, h, _ => by cases h
  | _ :: _, _ :: _, [], _, h => by cases h
  | x :: xs, y :: ys, z :: zs, h1, h2 => by
    simp only [wle] at h1 h2 ⊢
    by_cases e : x = y
    · subst e
      rw [if_pos rfl] at h1
      by_cases e2 : x = z
      · subst e2
        rw [if_pos rfl] at h2 ⊢
        exact wle_trans h1 h2
      · rw [if_neg e2] at h2 ⊢
        exact h2
    · rw [if_neg e, decide_eq_true_eq] at h1
      by_cases e2 : y = z
      · subst e2
        rw [if_neg e]
        exact decide_eq_true h1
      · rw [if_neg e2, decide_eq_true_eq] at h2
        rw [if_neg (by omega)]
        exact decide_eq_true (by omega)
/-- between two words that begin with p, all begin with p -/
theorem begins_between : ∀ {p a b w : W}, begins p a = true → begins p b = true → wle a w = true → wle w b = true → begins p w = true
  | [], _, _, _, _, _, _, _ => by simp [begins]
  | c :: p, [], _, _, h, _, _, _ => by cases h
  | c :: p, _ :: _, [], _, _, h, _, _ => by cases h
  | c :: p, x :: xs, y :: ys, [], h1, h2, h3, h4 => by cases h3
  | c :: p, x :: xs, y :: ys, z :: zs, h1, h2, h3, h4 => by
    simp only [begins, Bool.and_eq_true, beq_iff_eq] at h1 h2 ⊢
    obtain ⟨rfl, h1⟩ := h1
    obtain ⟨rfl, h2⟩ := h2
    simp only [wle] at h3 h4
    by_cases e : c = z
    · subst e
      rw [if_pos rfl] at h3 h4
      exact ⟨rfl, begins_between h1 h2 h3 h4⟩
    · rw [if_neg e, decide_eq_true_eq] at h3
      rw [if_neg (fun q => e q.symm), decide_eq_true_eq] at h4
      omega
/-- a word that begins both is not behind the other -/
theorem wle_begins : ∀ {p a : W}, begins p a = true → wle p a = true
  | [], _, _ => rfl
  | _ :: _, [], h => by cases h
  | x :: xs, y :: ys, h => by
    simp only [begins, Bool.and_eq_true, beq_iff_eq] at h
    obtain ⟨rfl, h⟩ := h
    simp [wle, wle_begins h]
theorem wle_antisymm : ∀ {a b : W}, wle a b = true → wle b a = true → a = b
  | [], [], _, _ => rfl
  | [], _ :: _, _, h => by cases h
  | _ :: _, [], h, _ => by cases h
  | x :: xs, y :: ys, h1, h2 => by
    simp only [wle] at h1 h2
    by_cases e : x = y
    · subst e
      rw [if_pos rfl] at h1 h2
      rw [wle_antisymm h1 h2]
    · rw [if_neg e, decide_eq_true_eq] at h1
      rw [if_neg (fun q => e q.symm), decide_eq_true_eq] at h2
      omega
def leastW (x : W) (ws : List W) : W := ws.foldl (fun m y => if wle m y then m else y) x
def mostW (x : W) (ws : List W) : W := ws.foldl (fun m y => if wle y m then m else y) x
theorem leastW_spec : ∀ (ws : List W) (x : W), leastW x ws ∈ x :: ws ∧ ∀ y ∈ x :: ws, wle (leastW x ws) y = true
  | [], x => ⟨by simp [leastW], fun y hy => by
    simp at hy
    subst hy
    exact wle_refl _⟩
  | w :: ws, x => by
    have e : leastW x (w :: ws) = leastW (if wle x w then x else w) ws := rfl
    obtain ⟨h1, h2⟩ := leastW_spec ws (if wle x w then x else w)
    rw [e]
    by_cases hx : wle x w = true
    · rw [if_pos hx] at h1 h2 ⊢
      refine ⟨?_, fun y hy => ?_⟩
      · rcases List.mem_cons.mp h1 with z | z
        · rw [z]; exact List.mem_cons_self
        · exact List.mem_cons_of_mem _ (List.mem_cons_of_mem _ z)
      · rcases List.mem_cons.mp hy with z | z
        · rw [z]; exact h2 x List.mem_cons_self
        · rcases List.mem_cons.mp z with z | z
          · rw [z]; exact wle_trans (h2 x List.mem_cons_self) hx
          · exact h2 y (List.mem_cons_of_mem _ z)
    · rw [if_neg hx] at h1 h2 ⊢
      have hw : wle w x = true := (wle_total x w).resolve_left hx
      refine ⟨List.mem_cons_of_mem _ h1, fun y hy => ?_⟩
      rcases List.mem_cons.mp hy with z | z
      · rw [z]; exact wle_trans (h2 w List.mem_cons_self) hw
      · exact h2 y z
theorem mostW_spec : ∀ (ws : List W) (x : W), mostW x ws ∈ x :: ws ∧ ∀ y ∈ x :: ws, wle y (mostW x ws) = true
  | [], x => ⟨by simp [mostW], fun y hy => by
    simp at hy
    subst hy
    exact wle_refl _⟩
  | w :: ws, x => by
    have e : mostW x (w :: ws) = mostW (if wle w x then x else w) ws := rfl
    obtain ⟨h1, h2⟩ := mostW_spec ws (if wle w x then x else w)
    rw [e]
    by_cases hx : wle w x = true
    · rw [if_pos hx] at h1 h2 ⊢
      refine ⟨?_, fun y hy => ?_⟩
      · rcases List.mem_cons.mp h1 with z | z
        · rw [z]; exact List.mem_cons_self
        · exact List.mem_cons_of_mem _ (List.mem_cons_of_mem _ z)
      · rcases List.mem_cons.mp hy with z | z
        · rw [z]; exact h2 x List.mem_cons_self
        · rcases List.mem_cons.mp z with z | z
          · rw [z]; exact wle_trans hx (h2 x List.mem_cons_self)
          · exact h2 y (List.mem_cons_of_mem _ z)
    · rw [if_neg hx] at h1 h2 ⊢
      have hw : wle x w = true := (wle_total w x).resolve_left hx
      refine ⟨List.mem_cons_of_mem _ h1, fun y hy => ?_⟩
      rcases List.mem_cons.mp hy with z | z
      · rw [z]; exact wle_trans hw (h2 w List.mem_cons_self)
      · exact h2 y z
theorem all_str (ws : List W) : (ws.map D.str).all Sh.str.has = true := by
  rw [List.all_map]
  exact List.all_eq_true.mpr fun x _ => rfl
theorem minL_strs (x : W) (ws : List W) : minL ((x :: ws).map .str) = .ok (.str (leastW x ws)) := by
  show (if (D.str x :: ws.map D.str).all Sh.str.has then R.ok ((ws.map D.str).foldl (fun m y => if m.le y then m else y) (D.str x)) else .stk) = _
  have h := all_str (x :: ws)
  rw [List.map_cons] at h
  rw [if_pos h, fold_str D.le wle (fun _ _ => rfl)]
  rfl
theorem maxL_strs (x : W) (ws : List W) : maxL ((x :: ws).map .str) = .ok (.str (mostW x ws)) := by
  show (if (D.str x :: ws.map D.str).all Sh.str.has then R.ok ((ws.map D.str).foldl (fun m y => if y.le m then m else y) (D.str x)) else .stk) = _
  have h := all_str (x :: ws)
  rw [List.map_cons] at h
  rw [if_pos h, fold_str (fun m y => y.le m) (fun m y => wle y m) (fun _ _ => rfl)]
  rfl
theorem getStrs_map (ws : List W) : getStrs (ws.map .str) = some ws := by
  induction ws with
  | nil => rfl
  | cons w ws ih => simp only [List.map_cons, getStrs, ih, Option.map_some]
theorem slB_nat (n d k : Nat) : slB n d (some (k : Int)) = min k n := by
  unfold slB
  dsimp only
  rw [if_neg (by omega)]
  simp
theorem cutH {α : Type} (xs : List α) (k : Nat) : cutL xs none (some (k : Int)) = xs.take k := by
  unfold cutL
  rw [slB_nat]
  show (xs.drop 0).take (min k xs.length - 0) = _
  rw [List.drop_zero, Nat.sub_zero]
  by_cases h : k ≤ xs.length
  · rw [Nat.min_eq_left h]
  · rw [Nat.min_eq_right (by omega), List.take_of_length_le (Nat.le_refl _), List.take_of_length_le (by omega)]
theorem cutLo {α : Type} (xs : List α) (k : Nat) : cutL xs (some (k : Int)) none = xs.drop k := by
  unfold cutL
  rw [slB_nat]
  show (xs.drop (min k xs.length)).take (xs.length - min k xs.length) = _
  by_cases h : k ≤ xs.length
  · rw [Nat.min_eq_left h]
    exact List.take_of_length_le (by simp)
  · rw [Nat.min_eq_right (by omega), List.drop_of_length_le (Nat.le_refl _), List.drop_of_length_le (by omega)]
    simp
theorem slcH_str {s : W} {k : Nat} (h : s.length ≤ lim) : slcD (.str s) none (some (k : Int)) = .ok (.str (s.take k)) := by
  show (if s.length ≤ lim then R.ok (D.str (cutL s none (some (k : Int)))) else .stk) = _
  rw [if_pos h, cutH]
theorem slcL_str {s : W} {k : Nat} (h : s.length ≤ lim) : slcD (.str s) (some (k : Int)) none = .ok (.str (s.drop k)) := by
  show (if s.length ≤ lim then R.ok (D.str (cutL s (some (k : Int)) none)) else .stk) = _
  rw [if_pos h, cutLo]
theorem compL_map {elt : Rho → R D} {keep : Rho → R Bool} {bd : D → R Rho} (f : D → D) : ∀ (ds : List D), (∀ d ∈ ds, ∃ ρ, bd d = .ok ρ ∧ keep ρ = .ok true ∧ elt ρ = .ok (f d)) → compL elt keep bd ds = .ok (ds.map f)
  | [], _ => rfl
  | d :: ds, h => by
    obtain ⟨ρ, h1, h2, h3⟩ := h d List.mem_cons_self
    have ih := compL_map f ds fun x hx => h x (List.mem_cons_of_mem _ hx)
    rw [compL, h1, ok_bind, h2, ok_bind, if_pos rfl, h3, ok_bind, ih]
    rfl
theorem joinW_len : ∀ ws : List W, (joinW [] ws).length = (ws.map List.length).sum
  | [] => rfl
  | [w] => by simp [joinW]
  | w :: v :: r => by
    have := joinW_len (v :: r)
    simp only [joinW, List.append_nil, List.length_append, this, List.map_cons, List.sum_cons]
theorem slcH_int {s : W} {k : Int} (h : s.length ≤ lim) (h0 : 0 ≤ k) : slcD (.str s) none (some k) = .ok (.str (s.take k.toNat)) := by
  have := slcH_str (k := k.toNat) h
  rw [Int.toNat_of_nonneg h0] at this
  exact this
theorem slcH_scr (ns : List Int) (k : Nat) : slcD (.scr ns) none (some (k : Int)) = .ok (.lst ((ns.take k).map .int)) := by
  show R.ok (D.lst ((cutL ns none (some (k : Int))).map .int)) = _
  rw [cutH]
theorem join_run (s : W) (ws : List W) (h : (ws.map fun w : W => w.length + s.length).sum ≤ lim) : methD .join (.str s) [.lst (ws.map .str)] = .ok (.str (joinW s ws)) := by
  unfold methD
  simp only [getStrs_map, if_pos h]
end L2.Py

set_option Elab.async false
set_option linter.all false
set_option maxRecDepth 100000
set_option maxHeartbeats 1000000
/-! PyW1: defs about words, and what they mean. -/
namespace L2.Py
open PySem PySem.Spec PyProof.Rows TL
def D_l_mixed : Def := { nps := 2, nsl := 3, body := [
  .asg 2 .fr (.bin .mod (.bin .add (.bin .add (.bin .mul (.bin .mod (.slot 0) (.cint 2147483647)) (.cint 48271)) (.bin .mul (.slot 1) (.cint 69621))) (.cint 11)) (.cint 2147483647)),
  .asg 2 .fr (.bin .mod (.bin .mul (.slot 2) (.slot 2)) (.cint 2147483629)),
  .ret (.bin .mod (.bin .mul (.slot 2) (.slot 2)) (.cint 2147483587))] }
def D_l_cell_at : Def := { nps := 2, nsl := 2, body := [
  .iff (.cmp .lt (.slot 1) (.blt .len [(.slot 0)])) [.ret (.idx (.slot 0) (.slot 1))] [],
  .ret (.cint 0)] }
def B_l_word_1 : List S := [.asg 3 .fr (.bin .add (.slot 3) (.idx (.slot 1) (.bin .mod (.bin .add (.slot 0) (.bin .mul (.slot 4) (.slot 4))) (.blt .len [(.slot 1)])))), .asg 0 .fr (.bin .fdiv (.slot 0) (.blt .len [(.slot 1)]))]
def D_l_word : Def := { nps := 1, nsl := 5, body := [
  .asg 1 .fr (.idx (.lst [(.cstr [97, 98]), (.cstr [97]), (.cstr [97, 98, 99, 100, 101, 102, 103, 104, 105, 106, 107, 108, 109, 110, 111, 112, 113, 114, 115, 116, 117, 118, 119, 120, 121, 122])]) (.bin .mod (.slot 0) (.cint 3))),
  .asg 2 .fr (.idx (.lst [(.cint 0), (.cint 1), (.cint 1), (.cint 2), (.cint 3), (.cint 4)]) (.bin .mod (.bin .fdiv (.slot 0) (.cint 3)) (.cint 6))),
  .iff (.cmp .eq (.bin .mod (.bin .fdiv (.slot 0) (.cint 18)) (.cint 12)) (.cint 5)) [.asg 2 .fr (.bin .mod (.bin .fdiv (.slot 0) (.cint 216)) (.cint 41)), .asg 0 .fr (.bin .fdiv (.slot 0) (.cint 41))] [],
  .asg 0 .fr (.bin .fdiv (.slot 0) (.cint 216)),
  .asg 3 .fr (.cstr []),
  .frh false [4] false .range1 [(.slot 2)] B_l_word_1,
  .ret (.slot 3)] }
def W_common_of_1 : E := (.and (.cmp .lt (.slot 3) (.blt .len [(.slot 1)])) (.cmp .eq (.idx (.slot 1) (.slot 3)) (.idx (.slot 2) (.slot 3))))
def B_common_of_1 : List S := [.inc 3 (.cint 1)]
def D_common_of : Def := { nps := 1, nsl := 4, body := [
  .asg 1 .fr (.blt .min1 [(.slot 0)]),
  .asg 2 .fr (.blt .max1 [(.slot 0)]),
  .iff (.meth .startswith (.slot 2) [(.slot 1)]) [.ret (.slot 1)] [],
  .asg 3 .fr (.cint 0),
  .whl W_common_of_1 B_common_of_1,
  .ret (.slcH (.slot 1) (.slot 3))] }
def B_l_begins_1 : List S := [.iff (.cmp .ne (.slcH (.slot 2) (.blt .len [(.slot 0)])) (.slot 0)) [.ret (.cbl false)] []]
def D_l_begins : Def := { nps := 2, nsl := 3, body := [
  .frh false [2] false .val [(.slot 1)] B_l_begins_1,
  .ret (.cbl true)] }
section
variable {sub : Sub} {G : Gam}
def mixed1 (a b : Int) : Int := (a % 2147483647 * 48271 + b * 69621 + 11) % 2147483647
def mixed (a b : Int) : Int := (mixed1 a b * mixed1 a b % 2147483629) * (mixed1 a b * mixed1 a b % 2147483629) % 2147483587
theorem mixed_run (a b : Int) : runDef sub G D_l_mixed [.int a, .int b] = .ok (.int (mixed a b), []) := by
  have h1 : -(2 ^ 64) < mixed1 a b ∧ mixed1 a b < 2 ^ 64 := by unfold mixed1; omega
  have h2 : -(2 ^ 64) < mixed1 a b * mixed1 a b % 2147483629 ∧ mixed1 a b * mixed1 a b % 2147483629 < 2 ^ 64 := by omega
  have e1 : smallF (a % 2147483647) 48271 = true := smallR (by decide) (by decide)
  have e2 : smallF b 69621 = true := smallR (by decide) (by decide)
  have e3 : smallF (mixed1 a b) (mixed1 a b) = true := smallL h1.1 h1.2
  have e4 : smallF (mixed1 a b * mixed1 a b % 2147483629) (mixed1 a b * mixed1 a b % 2147483629) = true := smallL h2.1 h2.2
  have m1 : (a % 2147483647 * 48271 + b * 69621 + 11) % 2147483647 = mixed1 a b := rfl
  unfold runDef
  simp only [D_l_mixed, entry, outs, runs, run, ev, Rho.get, Rho.put, List.length_cons, List.length_nil, List.map_cons, List.map_nil, List.replicate, List.cons_append, List.nil_append, List.getElem?_cons_zero, List.getElem?_cons_succ, List.set_cons_zero, List.set_cons_succ, ok_bind, ofR_ok, d_add, d_mul e1, d_mul e2, d_mod (show (0 : Int) < 2147483647 by decide), m1, d_mul e3, d_mod (show (0 : Int) < 2147483629 by decide), d_mul e4, d_mod (show (0 : Int) < 2147483587 by decide)]
  rfl
def cellAt (ns : List Int) (k : Int) : Int := ns.getD k.toNat 0
theorem len_scr (ns : List Int) : bltD sub .len [.scr ns] = .ok (.int ns.length) := rfl
theorem cell_run (ns : List Int) (k : Int) (h0 : 0 ≤ k) : runDef sub G D_l_cell_at [.scr ns, .int k] = .ok (.int (cellAt ns k), []) := by
  have c : cmpD .lt (.int k) (.int (ns.length : Int)) = .ok (.bl (decide (k < ns.length))) := rfl
  unfold runDef
  simp only [D_l_cell_at, entry, outs, runs, run, ev, evs, Rho.get, Rho.put, List.length_cons, List.length_nil, List.map_cons, List.map_nil, List.replicate, List.cons_append, List.nil_append, List.getElem?_cons_zero, List.getElem?_cons_succ, List.set_cons_zero, List.set_cons_succ, ok_bind, ofR_ok, pure_ok, isTrueD, len_scr, c]
  by_cases h : k < ns.length
  · have e : ns[k.toNat]? = some (cellAt ns k) := by
      unfold cellAt
      rw [List.getD_eq_getElem?_getD, List.getElem?_eq_getElem (by omega)]
      rfl
    have e2 : idxD (.scr ns) (.int k) = .ok (.int (cellAt ns k)) := by
      show (do let n ← atD ns k; pure (D.int n) : R D) = _
      rw [atD_some h0 e]; rfl
    simp only [h, decide_true, if_true, e2, ofR_ok]
  · have e : cellAt ns k = 0 := by
      unfold cellAt
      rw [List.getD_eq_getElem?_getD, List.getElem?_eq_none (by omega)]
      rfl
    simp only [h, decide_false, Bool.false_eq_true, if_false, e]
    rfl
theorem len_str {s : W} (h : s.length ≤ lim) : bltD sub .len [.str s] = .ok (.int s.length) := by
  show (if s.length ≤ lim then _ else _) = _
  rw [if_pos h]
theorem idx_str {s : W} {k : Int} (hl : s.length ≤ lim) (h0 : 0 ≤ k) (h1 : k < s.length) : ∃ c, s[k.toNat]? = some c ∧ idxD (.str s) (.int k) = .ok (.str [c]) := by
  have e := List.getElem?_eq_getElem (l := s) (i := k.toNat) (by omega)
  refine ⟨_, e, ?_⟩
  show (if s.length ≤ lim then (do let c ← atD s k; pure (D.str [c]) : R D) else .stk) = _
  rw [if_pos hl, atD_some h0 e]
  rfl
theorem bind1 (i : Nat) (d : D) (ρ : Rho) : bindFl false false [i] d ρ = .ok (ρ.put i d) := rfl
theorem forR_nil {f : D → Rho → R Rho} {b : Rho → Out} {ρ : Rho} : forR f b [] ρ = .next ρ := rfl
theorem forR_cons {f : D → Rho → R Rho} {b : Rho → Out} {d : D} {ds : List D} {ρ ρ1 : Rho} (h : f d ρ = .ok ρ1) : forR f b (d :: ds) ρ = (match b ρ1 with | .next ρ2 => forR f b ds ρ2 | o => o) := by
  rw [forR, h]; rfl
theorem word_loop (L : W) (hL : 0 < L.length) (hL2 : L.length ≤ 26) (z : D) : ∀ (n : Nat) (lo : Int) (r : Int) (w : W) (k : Option D), 0 ≤ lo → lo + n ≤ 100 → w.length + n ≤ 100 →
    ∃ r' w' k', w'.length = w.length + n ∧ forR (fun d r => bindFl false false [4] d r) (fun r => runs sub G B_l_word_1 r) (upto lo n) [some (.int r), some (.str L), some z, some (.str w), k] = .next [some (.int r'), some (.str L), some z, some (.str w'), k']
  | 0, lo, r, w, k, _, _, _ => ⟨r, w, k, rfl, rfl⟩
  | n + 1, lo, r, w, k, h0, h1, h2 => by
    have hl : L.length ≤ lim := by unfold lim; omega
    have e1 : smallF lo lo = true := smallL (by omega) (by omega)
    have hp : (0 : Int) < (L.length : Int) := by omega
    obtain ⟨c, _, e2⟩ := idx_str (k := (r + lo * lo) % (L.length : Int)) hl (Int.emod_nonneg _ (by omega)) (Int.emod_lt_of_pos _ hp)
    have e3 : binD .add (.str w) (.str [c]) = .ok (.str (w ++ [c])) := d_cat (by simp; unfold lim; omega)
    obtain ⟨r', w', k', q1, q2⟩ := word_loop L hL hL2 z n (lo + 1) (r / L.length) (w ++ [c]) (some (.int lo)) (by omega) (by omega) (by simp; omega)
    refine ⟨r', w', k', by rw [q1, List.length_append]; simp; omega, ?_⟩
    rw [upto, forR_cons (bind1 4 _ _)]
    rw [← q2]
    simp only [B_l_word_1, entry, outs, runs, run, ev, evs, Rho.get, Rho.put, List.length_cons, List.length_nil, List.map_cons, List.map_nil, List.replicate, List.cons_append, List.nil_append, List.getElem?_cons_zero, List.getElem?_cons_succ, List.set_cons_zero, List.set_cons_succ, ok_bind, ofR_ok, pure_ok, isTrueD, len_str hl, d_mul e1, d_add, d_mod hp, e2, e3, d_fdiv hp (show (L.length : Int) < 1073741824 by omega)]
theorem three (r : Int) (a b c : D) : ∃ d, (d = a ∨ d = b ∨ d = c) ∧ idxD (.lst [a, b, c]) (.int (r % 3)) = .ok d := by
  have h1 : 0 ≤ r % 3 := by omega
  have h2 : r % 3 < 3 := by omega
  show ∃ d, _ ∧ atD [a, b, c] (r % 3) = .ok d
  have : r % 3 = 0 ∨ r % 3 = 1 ∨ r % 3 = 2 := by omega
  rcases this with e | e | e
  · exact ⟨a, .inl rfl, by rw [e]; rfl⟩
  · exact ⟨b, .inr (.inl rfl), by rw [e]; rfl⟩
  · exact ⟨c, .inr (.inr rfl), by rw [e]; rfl⟩
theorem six (r : Int) : ∃ z : Int, 0 ≤ z ∧ z ≤ 40 ∧ idxD (.lst [.int 0, .int 1, .int 1, .int 2, .int 3, .int 4]) (.int (r % 6)) = .ok (.int z) := by
  show ∃ z : Int, _ ∧ _ ∧ atD [D.int 0, .int 1, .int 1, .int 2, .int 3, .int 4] (r % 6) = .ok (.int z)
  have : r % 6 = 0 ∨ r % 6 = 1 ∨ r % 6 = 2 ∨ r % 6 = 3 ∨ r % 6 = 4 ∨ r % 6 = 5 := by omega
  rcases this with e | e | e | e | e | e
  · exact ⟨0, by omega, by omega, by rw [e]; rfl⟩
  · exact ⟨1, by omega, by omega, by rw [e]; rfl⟩
  · exact ⟨1, by omega, by omega, by rw [e]; rfl⟩
  · exact ⟨2, by omega, by omega, by rw [e]; rfl⟩
  · exact ⟨3, by omega, by omega, by rw [e]; rfl⟩
  · exact ⟨4, by omega, by omega, by rw [e]; rfl⟩
theorem word_run (r : Int) : ∃ w : W, w.length ≤ 40 ∧ runDef sub G D_l_word [.int r] = .ok (.str w, []) := by
  obtain ⟨d, hd, e1⟩ := three r (.str [97, 98]) (.str [97]) (.str [97, 98, 99, 100, 101, 102, 103, 104, 105, 106, 107, 108, 109, 110, 111, 112, 113, 114, 115, 116, 117, 118, 119, 120, 121, 122])
  obtain ⟨L, rfl, hL⟩ : ∃ L : W, d = .str L ∧ 0 < L.length ∧ L.length ≤ 26 := by
    rcases hd with rfl | rfl | rfl
    · exact ⟨_, rfl, by simp, by simp⟩
    · exact ⟨_, rfl, by simp, by simp⟩
    · exact ⟨_, rfl, by simp, by simp⟩
  obtain ⟨z, z0, z1, e2⟩ := six (r / 3)
  have fin : ∀ (r z : Int), 0 ≤ z → z ≤ 40 → ∃ w : W, w.length ≤ 40 ∧ ∃ ρ, runs sub G [.asg 0 .fr (.bin .fdiv (.slot 0) (.cint 216)), .asg 3 .fr (.cstr []), .frh false [4] false .range1 [(.slot 2)] B_l_word_1, .ret (.slot 3)] [some (.int r), some (.str L), some (.int z), none, none] = .ret (.str w) ρ := fun r z h0 h1 => by
    obtain ⟨r', w', k', q1, q2⟩ := word_loop (sub := sub) (G := G) L hL.1 hL.2 (.int z) z.toNat 0 (r / 216) [] none (by omega) (by omega) (by simp; omega)
    refine ⟨w', by rw [q1]; simp; omega, [some (.int r'), some (.str L), some (.int z), some (.str w'), k'], ?_⟩
    have e3 : itD .range1 [.int z] = .ok (upto 0 z.toNat) := by
      show (if small62 z then _ else _) = _
      rw [if_pos (by unfold small62; simp; omega)]
    simp only [entry, outs, runs, run, ev, evs, Rho.get, Rho.put, List.length_cons, List.length_nil, List.map_cons, List.map_nil, List.replicate, List.cons_append, List.nil_append, List.getElem?_cons_zero, List.getElem?_cons_succ, List.set_cons_zero, List.set_cons_succ, ok_bind, ofR_ok, pure_ok, isTrueD, d_fdiv (show (0 : Int) < 216 by decide) (by decide), e3, q2]
  have m3 : binD .mod (.int r) (.int 3) = .ok (.int (r % 3)) := d_mod (by decide)
  have f3 : binD .fdiv (.int r) (.int 3) = .ok (.int (r / 3)) := d_fdiv (by decide) (by decide)
  have m6 : binD .mod (.int (r / 3)) (.int 6) = .ok (.int (r / 3 % 6)) := d_mod (by decide)
  have f18 : binD .fdiv (.int r) (.int 18) = .ok (.int (r / 18)) := d_fdiv (by decide) (by decide)
  have m12 : binD .mod (.int (r / 18)) (.int 12) = .ok (.int (r / 18 % 12)) := d_mod (by decide)
  have f216 : binD .fdiv (.int r) (.int 216) = .ok (.int (r / 216)) := d_fdiv (by decide) (by decide)
  have m41 : binD .mod (.int (r / 216)) (.int 41) = .ok (.int (r / 216 % 41)) := d_mod (by decide)
  have f41 : binD .fdiv (.int r) (.int 41) = .ok (.int (r / 41)) := d_fdiv (by decide) (by decide)
  have c5 : cmpD .eq (.int (r / 18 % 12)) (.int 5) = .ok (.bl (r / 18 % 12 == 5)) := rfl
  unfold runDef
  simp only [D_l_word, List.length_cons, List.length_nil, if_true, Nat.zero_add]
  by_cases h : (r / 18 % 12 == 5) = true
  · obtain ⟨w, hw, ρ, q⟩ := fin (r / 41) (r / 216 % 41) (by omega) (by omega)
    refine ⟨w, hw, ?_⟩
    have go : runs sub G D_l_word.body (entry 5 [.int r]) = .ret (.str w) ρ := by
      rw [← q]
      simp only [D_l_word, B_l_word_1, entry, outs, runs, run, ev, evs, Rho.get, Rho.put, List.length_cons, List.length_nil, List.map_cons, List.map_nil, List.replicate, List.cons_append, List.nil_append, List.getElem?_cons_zero, List.getElem?_cons_succ, List.set_cons_zero, List.set_cons_succ, ok_bind, ofR_ok, pure_ok, isTrueD, m3, e1, f3, m6, e2, f18, m12, c5, h, if_true, f216, m41, f41]
    simp only [D_l_word] at go
    rw [go]
    rfl
  · obtain ⟨w, hw, ρ, q⟩ := fin r z z0 z1
    refine ⟨w, hw, ?_⟩
    have go : runs sub G D_l_word.body (entry 5 [.int r]) = .ret (.str w) ρ := by
      rw [← q]
      simp only [D_l_word, B_l_word_1, entry, outs, runs, run, ev, evs, Rho.get, Rho.put, List.length_cons, List.length_nil, List.map_cons, List.map_nil, List.replicate, List.cons_append, List.nil_append, List.getElem?_cons_zero, List.getElem?_cons_succ, List.set_cons_zero, List.set_cons_succ, ok_bind, ofR_ok, pure_ok, isTrueD, m3, e1, f3, m6, e2, f18, m12, c5, h, Bool.false_eq_true, if_false]
    simp only [D_l_word] at go
    rw [go]
    rfl
theorem begins_loop (p : W) (hp : p.length ≤ lim) (X : D) : ∀ (ws : List W) (k : Option D), (∀ w ∈ ws, w.length ≤ lim) →
    ((∀ w ∈ ws, begins p w = true) ∧ ∃ k', forR (fun d r => bindFl false false [2] d r) (fun r => runs sub G B_l_begins_1 r) (ws.map .str) [some (.str p), some X, k] = .next [some (.str p), some X, k']) ∨
    ((∃ w ∈ ws, begins p w = false) ∧ ∃ ρ', forR (fun d r => bindFl false false [2] d r) (fun r => runs sub G B_l_begins_1 r) (ws.map .str) [some (.str p), some X, k] = .ret (.bl false) ρ')
  | [], k, _ => .inl ⟨fun _ h => (nomatch h), k, rfl⟩
  | w :: ws, k, h => by
    have hw := h w List.mem_cons_self
    have e1 : slcD (.str w) none (some (p.length : Int)) = .ok (.str (w.take p.length)) := slcH_str hw
    have e2 : cmpD .ne (.str (w.take p.length)) (.str p) = .ok (.bl (!(w.take p.length == p))) := rfl
    rw [List.map_cons, forR_cons (bind1 2 _ _)]
    by_cases hb : begins p w = true
    · have e3 : (w.take p.length == p) = true := by rw [begins_take.mp hb]; simp
      rcases begins_loop p hp X ws (some (.str w)) (fun v hv => h v (List.mem_cons_of_mem _ hv)) with ⟨q1, k', q2⟩ | ⟨⟨v, hv, q1⟩, ρ', q2⟩
      · refine .inl ⟨fun v hv => ?_, k', ?_⟩
        · rcases List.mem_cons.mp hv with rfl | hv
          · exact hb
          · exact q1 v hv
        · rw [← q2]
          simp only [B_l_begins_1, entry, outs, runs, run, ev, evs, Rho.get, Rho.put, List.length_cons, List.length_nil, List.map_cons, List.map_nil, List.replicate, List.cons_append, List.nil_append, List.getElem?_cons_zero, List.getElem?_cons_succ, List.set_cons_zero, List.set_cons_succ, ok_bind, ofR_ok, pure_ok, isTrueD, len_str hp, oneI, e1, e2, e3, Bool.not_true, Bool.false_eq_true, if_false]
      · refine .inr ⟨⟨v, List.mem_cons_of_mem _ hv, q1⟩, ρ', ?_⟩
        rw [← q2]
        simp only [B_l_begins_1, entry, outs, runs, run, ev, evs, Rho.get, Rho.put, List.length_cons, List.length_nil, List.map_cons, List.map_nil, List.replicate, List.cons_append, List.nil_append, List.getElem?_cons_zero, List.getElem?_cons_succ, List.set_cons_zero, List.set_cons_succ, ok_bind, ofR_ok, pure_ok, isTrueD, len_str hp, oneI, e1, e2, e3, Bool.not_true, Bool.false_eq_true, if_false]
    · have e3 : (w.take p.length == p) = false := by
        rw [beq_eq_false_iff_ne]
        intro z
        exact hb (begins_take.mpr z)
      refine .inr ⟨⟨w, List.mem_cons_self, by simpa using hb⟩, [some (.str p), some X, some (.str w)], ?_⟩
      simp only [B_l_begins_1, entry, outs, runs, run, ev, evs, Rho.get, Rho.put, List.length_cons, List.length_nil, List.map_cons, List.map_nil, List.replicate, List.cons_append, List.nil_append, List.getElem?_cons_zero, List.getElem?_cons_succ, List.set_cons_zero, List.set_cons_succ, ok_bind, ofR_ok, pure_ok, isTrueD, len_str hp, oneI, e1, e2, e3, Bool.not_false, if_true]
theorem begins_run (p : W) (ws : List W) (hp : p.length ≤ lim) (h : ∀ w ∈ ws, w.length ≤ lim) :
    ∃ b, runDef sub G D_l_begins [.str p, .lst (ws.map .str)] = .ok (.bl b, []) ∧ (b = true ↔ ∀ w ∈ ws, begins p w = true) := by
  have e : itD .val [.lst (ws.map .str)] = .ok (ws.map D.str) := rfl
  rcases begins_loop (sub := sub) (G := G) p hp (.lst (ws.map .str)) ws none h with ⟨q1, k', q2⟩ | ⟨⟨w, hw, q1⟩, ρ', q2⟩
  · refine ⟨true, ?_, by simpa using q1⟩
    unfold runDef
    simp only [D_l_begins, entry, outs, runs, run, ev, evs, Rho.get, Rho.put, List.length_cons, List.length_nil, List.map_cons, List.map_nil, List.replicate, List.cons_append, List.nil_append, List.getElem?_cons_zero, List.getElem?_cons_succ, List.set_cons_zero, List.set_cons_succ, ok_bind, ofR_ok, pure_ok, isTrueD, e, q2]
    rfl
  · refine ⟨false, ?_, by simp; exact ⟨w, hw, q1⟩⟩
    unfold runDef
    simp only [D_l_begins, entry, outs, runs, run, ev, evs, Rho.get, Rho.put, List.length_cons, List.length_nil, List.map_cons, List.map_nil, List.replicate, List.cons_append, List.nil_append, List.getElem?_cons_zero, List.getElem?_cons_succ, List.set_cons_zero, List.set_cons_succ, ok_bind, ofR_ok, pure_ok, isTrueD, e, q2]
    rfl
theorem begins_app {p a : W} {c : Nat} : begins (p ++ [c]) a = true ↔ begins p a = true ∧ a[p.length]? = some c := by
  induction p generalizing a with
  | nil =>
    cases a with
    | nil => simp [begins]
    | cons x xs => simp [begins]; exact eq_comm
  | cons y ys ih =>
    cases a with
    | nil => simp [begins]
    | cons x xs => simp [begins, ih, and_assoc]
/-- the common beginning of two words, the first not behind the second -/
theorem com_loop (m M : W) (hm : m.length ≤ lim) (hM : M.length ≤ lim) (hle : wle m M = true) (X : D) :
    ∃ k : Nat, whileR (fun r => ev sub G W_common_of_1 r >>= isTrueD) (fun r => runs sub G B_common_of_1 r) [some X, some (.str m), some (.str M), some (.int 0)] = .next [some X, some (.str m), some (.str M), some (.int k)] ∧
      k ≤ m.length ∧ begins (m.take k) M = true ∧ ∀ c, ¬ (begins (m.take k ++ [c]) m = true ∧ begins (m.take k ++ [c]) M = true) := by
  have key := while_inv (c := fun r => ev sub G W_common_of_1 r >>= isTrueD) (b := fun r => runs sub G B_common_of_1 r)
    (fun ρ => ∃ k : Nat, ρ = [some X, some (.str m), some (.str M), some (.int k)] ∧ k ≤ m.length ∧ begins (m.take k) M = true)
    (fun ρ => m.length + 1 - (match ρ with | [_, _, _, some (.int k)] => k.toNat | _ => 0))
    (fun o => ∃ k : Nat, o = .next [some X, some (.str m), some (.str M), some (.int k)] ∧ k ≤ m.length ∧ begins (m.take k) M = true ∧ ∀ c, ¬ (begins (m.take k ++ [c]) m = true ∧ begins (m.take k ++ [c]) M = true)) ?_ ⟨0, rfl, Nat.zero_le _, by simp [begins]⟩
  · exact key
  · rintro ρ ⟨k, rfl, hk, hb⟩
    have c1 : cmpD .lt (.int (k : Int)) (.int (m.length : Int)) = .ok (.bl (decide ((k : Int) < m.length))) := rfl
    have tl : (m.take k).length = k := by rw [List.length_take, Nat.min_eq_left hk]
    by_cases hlt : k < m.length
    · have d1 : decide ((k : Int) < (m.length : Int)) = true := decide_eq_true (by omega)
      obtain ⟨a, ha, e1⟩ := idx_str (k := (k : Int)) hm (by omega) (by omega)
      have ha : m[k]? = some a := by simpa using ha
      have hkM : k < M.length := by
        have hl := begins_len hb
        rw [tl] at hl
        rcases Nat.lt_or_ge k M.length with h | h
        · exact h
        · exfalso
          have e : M = m.take k := by
            have := begins_take.mp hb
            rw [tl, List.take_of_length_le (by omega)] at this
            exact this
          have h2 : wle M m = true := wle_begins (by
            rw [e]
            refine begins_take.mpr ?_
            rw [tl])
          have e3 := wle_antisymm hle h2
          have : m.length = M.length := by rw [e3]
          omega
      obtain ⟨b, hb2, e2⟩ := idx_str (k := (k : Int)) hM (by omega) (by omega)
      have hb2 : M[k]? = some b := by simpa using hb2
      have c2 : cmpD .eq (.str [a]) (.str [b]) = .ok (.bl ([a] == [b])) := rfl
      by_cases hab : a = b
      · subst hab
        refine .inr ⟨by simp only [W_common_of_1, entry, outs, runs, run, ev, evs, Rho.get, Rho.put, List.length_cons, List.length_nil, List.map_cons, List.map_nil, List.replicate, List.cons_append, List.nil_append, List.getElem?_cons_zero, List.getElem?_cons_succ, List.set_cons_zero, List.set_cons_succ, ok_bind, ofR_ok, pure_ok, isTrueD, len_str hm, c1, d1, if_true, e1, e2, c2, beq_self_eq_true], .inl ⟨[some X, some (.str m), some (.str M), some (.int ((k + 1 : Nat) : Int))], by simp only [B_common_of_1, entry, outs, runs, run, ev, evs, Rho.get, Rho.put, List.length_cons, List.length_nil, List.map_cons, List.map_nil, List.replicate, List.cons_append, List.nil_append, List.getElem?_cons_zero, List.getElem?_cons_succ, List.set_cons_zero, List.set_cons_succ, ok_bind, ofR_ok, pure_ok, isTrueD, d_add]; rfl, ⟨k + 1, rfl, hlt, ?_⟩, ?_⟩⟩
        · have et : m.take (k + 1) = m.take k ++ [a] := by rw [List.take_add_one, ha]; rfl
          rw [et]
          exact begins_app.mpr ⟨hb, by rw [tl]; exact hb2⟩
        · show m.length + 1 - ((k + 1 : Nat) : Int).toNat < m.length + 1 - (k : Int).toNat
          omega
      · refine .inl ⟨by
          have : ([a] == [b]) = false := by simpa using hab
          simp only [W_common_of_1, entry, outs, runs, run, ev, evs, Rho.get, Rho.put, List.length_cons, List.length_nil, List.map_cons, List.map_nil, List.replicate, List.cons_append, List.nil_append, List.getElem?_cons_zero, List.getElem?_cons_succ, List.set_cons_zero, List.set_cons_succ, ok_bind, ofR_ok, pure_ok, isTrueD, len_str hm, c1, d1, if_true, e1, e2, c2, this], k, rfl, hk, hb, fun c hc => ?_⟩
        have h1 := (begins_app.mp hc.1).2
        have h2 := (begins_app.mp hc.2).2
        rw [tl, ha] at h1
        rw [tl, hb2] at h2
        injection h1 with h1
        injection h2 with h2
        exact hab (h1.trans h2.symm)
    · have d1 : decide ((k : Int) < (m.length : Int)) = false := decide_eq_false (by omega)
      refine .inl ⟨by simp only [W_common_of_1, entry, outs, runs, run, ev, evs, Rho.get, Rho.put, List.length_cons, List.length_nil, List.map_cons, List.map_nil, List.replicate, List.cons_append, List.nil_append, List.getElem?_cons_zero, List.getElem?_cons_succ, List.set_cons_zero, List.set_cons_succ, ok_bind, ofR_ok, pure_ok, isTrueD, len_str hm, c1, d1, Bool.false_eq_true, if_false], k, rfl, hk, hb, fun c hc => ?_⟩
      have h1 := (begins_app.mp hc.1).2
      rw [tl, List.getElem?_eq_none (by omega)] at h1
      cases h1
theorem common_run (x : W) (ws : List W) (h : ∀ w ∈ x :: ws, w.length ≤ lim) :
    ∃ p : W, runDef sub G D_common_of [.lst ((x :: ws).map .str)] = .ok (.str p, []) ∧ p.length ≤ lim ∧ (∀ w ∈ x :: ws, begins p w = true) ∧ ∀ c, ¬ ∀ w ∈ x :: ws, begins (p ++ [c]) w = true := by
  obtain ⟨m1, m2⟩ := leastW_spec ws x
  obtain ⟨M1, M2⟩ := mostW_spec ws x
  have hm := h _ m1
  have hM := h _ M1
  have hle := m2 _ M1
  have all : ∀ p : W, begins p (leastW x ws) = true → begins p (mostW x ws) = true → ∀ w ∈ x :: ws, begins p w = true := fun p h1 h2 w hw => begins_between h1 h2 (m2 w hw) (M2 w hw)
  have e1 : bltD sub .min1 [.lst ((x :: ws).map .str)] = .ok (.str (leastW x ws)) := minL_strs x ws
  have e2 : bltD sub .max1 [.lst ((x :: ws).map .str)] = .ok (.str (mostW x ws)) := maxL_strs x ws
  have e3 : methD .startswith (.str (mostW x ws)) [.str (leastW x ws)] = .ok (.bl (begins (leastW x ws) (mostW x ws))) := rfl
  by_cases hb : begins (leastW x ws) (mostW x ws) = true
  · refine ⟨leastW x ws, ?_, hm, all _ (begins_refl _) hb, fun c hc => ?_⟩
    · unfold runDef
      rw [List.map_cons] at e1 e2
      simp only [D_common_of, entry, outs, runs, run, ev, evs, Rho.get, Rho.put, List.length_cons, List.length_nil, List.map_cons, List.map_nil, List.replicate, List.cons_append, List.nil_append, List.getElem?_cons_zero, List.getElem?_cons_succ, List.set_cons_zero, List.set_cons_succ, ok_bind, ofR_ok, pure_ok, isTrueD, e1, e2, e3, hb, if_true]
    · have := (begins_app.mp (hc _ m1)).2
      rw [List.getElem?_eq_none (Nat.le_refl _)] at this
      cases this
  · obtain ⟨k, q1, q2, q3, q4⟩ := com_loop (sub := sub) (G := G) (leastW x ws) (mostW x ws) hm hM hle (.lst ((x :: ws).map .str))
    have e4 : slcD (.str (leastW x ws)) none (some (k : Int)) = .ok (.str ((leastW x ws).take k)) := slcH_str hm
    have hbm : begins ((leastW x ws).take k) (leastW x ws) = true := by
      refine begins_take.mpr ?_
      rw [List.length_take, Nat.min_eq_left q2]
    refine ⟨(leastW x ws).take k, ?_, by rw [List.length_take]; omega, all _ hbm q3, fun c hc => q4 c ⟨hc _ m1, hc _ M1⟩⟩
    unfold runDef
    rw [List.map_cons] at e1 e2 q1
    simp only [D_common_of, entry, outs, runs, run, ev, evs, Rho.get, Rho.put, List.length_cons, List.length_nil, List.map_cons, List.map_nil, List.replicate, List.cons_append, List.nil_append, List.getElem?_cons_zero, List.getElem?_cons_succ, List.set_cons_zero, List.set_cons_succ, ok_bind, ofR_ok, pure_ok, isTrueD, e1, e2, e3, hb, Bool.false_eq_true, if_false, q1, oneI, e4]
    rfl
end
end L2.Py

set_option Elab.async false
set_option linter.all false
set_option maxRecDepth 100000
set_option maxHeartbeats 4000000
namespace K03
open PySem PySem.Spec PyProof.Rows L2 L2.Py
def top (i : Nat) : Stmt := PySem.Challenge.pw_earlyscribe_k03_common_of_parts.main.body.getD i (.Pass ⟨0, 0, 0, 0⟩)
def L_l_words_1 (l_mixed l_cell_at l_word : Nat) : E := (.call l_word [(.bin .fdiv (.slot 1) (.cint 2))])
def L_l_words_2 (l_mixed l_cell_at l_word : Nat) : E := (.call l_word [(.call l_mixed [(.slot 2), (.slot 4)])])
def B_l_words_1 (l_mixed l_cell_at l_word : Nat) : List S := [.asg 1 .fr (.call l_mixed [(.call l_cell_at [(.slot 0), (.slot 4)]), (.bin .add (.slot 4) (.cint 100))]), .asg 7 .fr (.bin .add (.slot 5) (.bin .mod (.slot 1) (.bin .add (.bin .sub (.blt .len [(.slot 3)]) (.slot 5)) (.cint 1)))), .app 6 (.bin .add (.slcH (.slot 3) (.slot 7)) (.slcH (.call l_word [(.call l_mixed [(.slot 1), (.cint 200)])]) (.cint 4)))]
def D_l_words (l_mixed l_cell_at l_word : Nat) : Def := { nps := 1, nsl := 8, body := [
  .iff (.and (.cmp .eq (.bin .mod (.call l_cell_at [(.slot 0), (.cint 0)]) (.cint 2)) (.cint 1)) (.cmp .gt (.blt .len [(.slot 0)]) (.cint 1))) [.ret (.comp false [1] false .val [(.slcH (.slot 0) (.cint 63))] (L_l_words_1 l_mixed l_cell_at l_word) [])] [],
  .asg 2 .fr (.call l_mixed [(.call l_cell_at [(.slot 0), (.cint 0)]), (.cint 1)]),
  .asg 3 .fr (.slcH (.meth .join (.cstr []) [(.comp false [4] false .range1 [(.cint 9)] (L_l_words_2 l_mixed l_cell_at l_word) [])]) (.cint 40)),
  .asg 5 .fr (.cint 0),
  .iff (.cmp .eq (.bin .mod (.slot 2) (.cint 3)) (.cint 1)) [.asg 5 .fr (.bin .mod (.bin .fdiv (.slot 2) (.cint 3)) (.bin .add (.blt .len [(.slot 3)]) (.cint 1)))] [],
  .asg 6 (.ow .fr) (.lst []),
  .frh false [4] false .range1 [(.blt .max2 [(.cint 2), (.blt .len [(.slcH (.slot 0) (.cint 63))])])] (B_l_words_1 l_mixed l_cell_at l_word),
  .ret (.slot 6)] }
def L_law_1 (l_words common_of l_mixed l_cell_at : Nat) : E := (.call common_of [(.slot 5)])
def B_law_1 (l_words common_of l_mixed l_cell_at : Nat) : List S := [.iff (.not (.blt (.isi [.str]) [(.slot 6)])) [.ret (.cbl false)] []]
def D_law (l_words common_of l_mixed l_cell_at : Nat) : Def := { nps := 1, nsl := 7, body := [
  .asg 1 .fr (.call l_words [(.slot 0)]),
  .asg 2 .fr (.bin .add (.cint 1) (.bin .mod (.call l_mixed [(.call l_cell_at [(.slot 0), (.cint 1)]), (.cint 2)]) (.bin .sub (.blt .len [(.slot 1)]) (.cint 1)))),
  .asg 3 .fr (.lst [(.slcH (.slot 1) (.slot 2)), (.slcL (.slot 1) (.slot 2)), (.blt .list [(.slot 1)]), (.slcR (.slot 1)), (.bin .add (.slot 1) (.slot 1))]),
  .asg 4 .fr (.comp false [5] false .val [(.slot 3)] (L_law_1 l_words common_of l_mixed l_cell_at) []),
  .frh false [6] false .val [(.slot 4)] (B_law_1 l_words common_of l_mixed l_cell_at),
  .iff (.cmp .ne (.slot 3) (.lst [(.slcH (.slot 1) (.slot 2)), (.slcL (.slot 1) (.slot 2)), (.slot 1), (.slcR (.slot 1)), (.bin .add (.slot 1) (.slot 1))])) [.ret (.cbl false)] [],
  .ret (.cmp .eq (.slcL (.slot 4) (.cint 2)) (.bin .mul (.lst [(.call common_of [(.slcH (.slot 4) (.cint 2))])]) (.cint 3)))] }
def E_l_mixed : Dd := { name := "_law_mixed", ps := ["_law_cell", "_law_k"], N := ["_law_cell", "_law_k", "_law_number"], d := D_l_mixed, res := .fr, st := top 4 }
def E_l_cell_at : Dd := { name := "_law_cell_at", ps := ["_law_script", "_law_k"], N := ["_law_script", "_law_k"], d := D_l_cell_at, res := .fr, st := top 3 }
def E_l_word : Dd := { name := "_law_word", ps := ["_law_rest"], N := ["_law_rest", "_law_letters", "_law_size", "_law_word_here", "_law_k"], d := D_l_word, res := .fr, st := top 5 }
def E_l_words : Dd := { name := "_law_words", ps := ["_law_script"], N := ["_law_script", "_law_cell", "_law_number", "_law_base", "_law_k", "_law_low", "_law_words_here", "_law_size"], d := (D_l_words 0 1 2), res := .fr, st := top 6 }
def E_common_of : Dd := { name := "common_of", ps := ["words"], N := ["words", "least", "greatest", "many"], d := D_common_of, res := .fr, st := top 1 }
def E_law : Dd := { name := "law", ps := ["_law_script"], N := ["_law_script", "_law_words_here", "_law_cut", "_law_handed", "_law_told", "_law_row", "_law_word_here"], d := (D_law 3 4 0 1), res := .fr, st := top 7 }
def tb : List Dd := [E_l_mixed, E_l_cell_at, E_l_word, E_l_words, E_common_of, E_law]
theorem chk_tb : chkAll tb = true := by decide +kernel
def subs : Sub := fun _ _ => false
section
variable {sub : Sub} {G : Gam}
theorem words_loop (f : Int → W) (hf : ∀ r, (f r).length ≤ 40) (im ic iw : Nat) (h0 : ∀ a b, G im [.int a, .int b] = .ok (.int (mixed a b), [])) (h1 : ∀ ns k, 0 ≤ k → G ic [.scr ns, .int k] = .ok (.int (cellAt ns k), [])) (h2 : ∀ r, G iw [.int r] = .ok (.str (f r), []))
    (ns : List Int) (nb : Int) (base : W) (hbase : base.length ≤ 40) (low : Int) (hlow : 0 ≤ low ∧ low ≤ base.length) : ∀ (n : Nat) (lo : Int) (ws : List W) (a b c : Option D), 0 ≤ lo → ws.length + n ≤ 100 → (∀ w ∈ ws, w.length ≤ lim) →
    ∃ (ws' : List W) (a' b' c' : Option D), ws'.length = ws.length + n ∧ (∀ w ∈ ws', w.length ≤ lim) ∧ forR (fun d r => bindFl false false [4] d r) (fun r => runs sub G (B_l_words_1 im ic iw) r) (upto lo n) [some (.scr ns), a, some (.int nb), some (.str base), b, some (.int low), some (.lst (ws.map .str)), c] =
      .next [some (.scr ns), a', some (.int nb), some (.str base), b', some (.int low), some (.lst (ws'.map .str)), c']
  | 0, lo, ws, a, b, c, _, _, hw => ⟨ws, a, b, c, rfl, hw, rfl⟩
  | n + 1, lo, ws, a, b, c, hlo, hn, hw => by
    let cell := mixed (cellAt ns lo) (lo + 100)
    let size := low + cell % ((base.length : Int) - low + 1)
    let w := base.take size.toNat ++ (f (mixed cell 200)).take 4
    have hp : (0 : Int) < (base.length : Int) - low + 1 := by omega
    have hs : 0 ≤ size := by
      have := Int.emod_nonneg cell (show (base.length : Int) - low + 1 ≠ 0 by omega)
      show 0 ≤ low + cell % ((base.length : Int) - low + 1)
      omega
    have hbl : base.length ≤ lim := by unfold lim; omega
    have hwl : w.length ≤ 44 := by
      show (base.take size.toNat ++ (f (mixed cell 200)).take 4).length ≤ 44
      rw [List.length_append, List.length_take, List.length_take]
      omega
    have e1 : slcD (.str base) none (some size) = .ok (.str (base.take size.toNat)) := slcH_int hbl hs
    have e2 : slcD (.str (f (mixed cell 200))) none (some 4) = .ok (.str ((f (mixed cell 200)).take 4)) := slcH_int (k := 4) (by have := hf (mixed cell 200); unfold lim; omega) (by decide)
    have e3 : binD .add (.str (base.take size.toNat)) (.str ((f (mixed cell 200)).take 4)) = .ok (.str w) := d_cat (by
      have : (base.take size.toNat ++ (f (mixed cell 200)).take 4).length ≤ 44 := hwl
      rw [List.length_append] at this
      unfold lim; omega)
    obtain ⟨ws', a', b', c', q1, q2, q3⟩ := words_loop f hf im ic iw h0 h1 h2 ns nb base hbase low hlow n (lo + 1) (ws ++ [w]) (some (.int cell)) (some (.int lo)) (some (.int size)) (by omega) (by rw [List.length_append]; simp; omega) (fun v hv => by
      rcases List.mem_append.mp hv with hv | hv
      · exact hw v hv
      · simp at hv
        rw [hv]
        unfold lim; omega)
    refine ⟨ws', a', b', c', by rw [q1, List.length_append]; simp; omega, q2, ?_⟩
    rw [upto, forR_cons (bind1 4 _ _), ← q3]
    have hc : mixed (cellAt ns lo) (lo + 100) = cell := rfl
    have hz : low + cell % ((base.length : Int) - low + 1) = size := rfl
    have hlen : (ws.map D.str).length < lim := by rw [List.length_map]; unfold lim; omega
    simp only [B_l_words_1, entry, outs, runs, Py.run, ev, evs, Rho.get, Rho.put, wipeE, List.length_cons, List.length_nil, List.map_cons, List.map_nil, List.replicate, List.cons_append, List.nil_append, List.getElem?_cons_zero, List.getElem?_cons_succ, List.set_cons_zero, List.set_cons_succ, ok_bind, ofR_ok, pure_ok, isTrueD, h1 ns lo hlo, h0, hc, len_str hbl, d_sub, d_add, d_mod hp, hz, oneI, e1, h2, e2, e3, hlen, if_true, List.map_append]
theorem words_run (im ic iw : Nat) (h0 : ∀ a b, G im [.int a, .int b] = .ok (.int (mixed a b), [])) (h1 : ∀ ns k, 0 ≤ k → G ic [.scr ns, .int k] = .ok (.int (cellAt ns k), [])) (h2 : ∀ r, ∃ w : W, w.length ≤ 40 ∧ G iw [.int r] = .ok (.str w, []))
    (ns : List Int) (hl : ns.length ≤ 63) : ∃ ws : List W, 2 ≤ ws.length ∧ ws.length ≤ 100 ∧ runDef sub G (D_l_words im ic iw) [.scr ns] = .ok (.lst (ws.map .str), []) ∧ ∀ w ∈ ws, w.length ≤ lim := by
  obtain ⟨f, hf⟩ := Classical.axiomOfChoice h2
  have hf1 : ∀ r, (f r).length ≤ 40 := fun r => (hf r).1
  have hf2 : ∀ r, G iw [.int r] = .ok (.str (f r), []) := fun r => (hf r).2
  have hf3 : ∀ r, (f r).length ≤ lim := fun r => by have := hf1 r; unfold lim; omega
  have c0 : ∀ z : Int, cmpD .eq (.int z) (.int 1) = .ok (.bl (z == 1)) := fun _ => rfl
  have e63 : slcD (.scr ns) none (some 63) = .ok (.lst (ns.map .int)) := by
    have := slcH_scr ns 63
    rw [List.take_of_length_le hl] at this
    exact this
  have fin : ∀ ws : List W, 2 ≤ ws.length → ws.length ≤ 100 → (∀ w ∈ ws, w.length ≤ lim) → runDef sub G (D_l_words im ic iw) [.scr ns] = .ok (.lst (ws.map .str), []) → ∃ ws : List W, 2 ≤ ws.length ∧ ws.length ≤ 100 ∧ runDef sub G (D_l_words im ic iw) [.scr ns] = .ok (.lst (ws.map .str), []) ∧ ∀ w ∈ ws, w.length ≤ lim := fun ws h2 h3 hw e => ⟨ws, h2, h3, e, hw⟩
  have lscr : bltD sub .len [.scr ns] = .ok (.int ns.length) := rfl
  have hand : ev sub G (.and (.cmp .eq (.bin .mod (.call ic [(.slot 0), (.cint 0)]) (.cint 2)) (.cint 1)) (.cmp .gt (.blt .len [(.slot 0)]) (.cint 1))) [some (.scr ns), none, none, none, none, none, none, none] = .ok (.bl (cellAt ns 0 % 2 == 1 && decide ((1 : Int) < ns.length))) := by
    have gt : cmpD .gt (.int (ns.length : Int)) (.int 1) = .ok (.bl (decide ((1 : Int) < ns.length))) := rfl
    cases hc : (cellAt ns 0 % 2 == 1) <;> simp only [ev, evs, Rho.get, List.getElem?_cons_zero, ok_bind, pure_ok, isTrueD, h1 ns 0 (by decide), d_mod (show (0 : Int) < 2 by decide), c0, hc, lscr, gt, if_true, Bool.false_eq_true, if_false, Bool.true_and, Bool.false_and]
  generalize hcond : (E.and (.cmp .eq (.bin .mod (.call ic [(.slot 0), (.cint 0)]) (.cint 2)) (.cint 1)) (.cmp .gt (.blt .len [(.slot 0)]) (.cint 1))) = cond at hand
  have eD : (D_l_words im ic iw).body = [.iff cond [.ret (.comp false [1] false .val [(.slcH (.slot 0) (.cint 63))] (L_l_words_1 im ic iw) [])] [],
      .asg 2 .fr (.call im [(.call ic [(.slot 0), (.cint 0)]), (.cint 1)]),
      .asg 3 .fr (.slcH (.meth .join (.cstr []) [(.comp false [4] false .range1 [(.cint 9)] (L_l_words_2 im ic iw) [])]) (.cint 40)),
      .asg 5 .fr (.cint 0), .iff (.cmp .eq (.bin .mod (.slot 2) (.cint 3)) (.cint 1)) [.asg 5 .fr (.bin .mod (.bin .fdiv (.slot 2) (.cint 3)) (.bin .add (.blt .len [(.slot 3)]) (.cint 1)))] [],
      .asg 6 (.ow .fr) (.lst []),
      .frh false [4] false .range1 [(.blt .max2 [(.cint 2), (.blt .len [(.slcH (.slot 0) (.cint 63))])])] (B_l_words_1 im ic iw),
      .ret (.slot 6)] := by rw [← hcond]; rfl
  have hn0 : [D.scr ns].length = (D_l_words im ic iw).nps := rfl
  have hnsl0 : (D_l_words im ic iw).nsl = 8 := rfl
  have hio : (D_l_words im ic iw).io = [] := rfl
  by_cases hodd : (cellAt ns 0 % 2 == 1 && decide ((1 : Int) < ns.length)) = true
  · have hne : 2 ≤ ns.length := by
      simp only [Bool.and_eq_true, decide_eq_true_eq] at hodd
      omega
    refine fin (ns.map fun c => f (c / 2)) (by rw [List.length_map]; exact hne) (by rw [List.length_map]; omega) (fun w hw => ?_) ?_
    · obtain ⟨c, _, rfl⟩ := List.mem_map.mp hw
      exact hf3 _
    · have e1 : itD .val [.lst (ns.map .int)] = .ok (ns.map D.int) := rfl
      have e2 := compL_map (elt := fun r => ev sub G (L_l_words_1 im ic iw) r) (keep := fun r => evc sub G [] r) (bd := fun d => bindFl false false [1] d [some (.scr ns), none, none, none, none, none, none, none]) (fun d => match d with | .int c => .str (f (c / 2)) | _ => .non) (ns.map .int) (fun d hd => by
        obtain ⟨c, _, rfl⟩ := List.mem_map.mp hd
        refine ⟨_, bind1 1 _ _, by rw [evc], ?_⟩
        simp only [L_l_words_1, entry, outs, runs, Py.run, ev, evs, Rho.get, Rho.put, wipeE, List.length_cons, List.length_nil, List.map_cons, List.map_nil, List.replicate, List.cons_append, List.nil_append, List.getElem?_cons_zero, List.getElem?_cons_succ, List.set_cons_zero, List.set_cons_succ, ok_bind, ofR_ok, pure_ok, isTrueD, d_fdiv (show (0 : Int) < 2 by decide) (show (2 : Int) < 1073741824 by decide), hf2])
      have e3 : ((ns.map D.int).map fun d => match d with | .int c => D.str (f (c / 2)) | _ => .non) = (ns.map fun c => f (c / 2)).map .str := by
        rw [List.map_map, List.map_map]; rfl
      rw [e3] at e2
      have e4 : ((ns.map fun c => f (c / 2)).map D.str).length ≤ lim := by rw [List.length_map, List.length_map]; unfold lim; omega
      unfold runDef
      rw [if_pos hn0, hnsl0, eD, hio]
      simp only [entry, outs, runs, L2.Py.run, ev, evs, Rho.get, Rho.put, wipeE, List.length_cons, List.length_nil, List.map_cons, List.map_nil, List.replicate, List.cons_append, List.nil_append, List.getElem?_cons_zero, List.getElem?_cons_succ, List.set_cons_zero, List.set_cons_succ, ok_bind, ofR_ok, pure_ok, isTrueD, hand, hodd, if_true, oneI, e63, e1, e2, noExn_ok, e4]
  · let nb := mixed (cellAt ns 0) 1
    have hnb : mixed (cellAt ns 0) 1 = nb := rfl
    let ws0 := (upto 0 9).map fun d => match d with | .int c => f (mixed nb c) | _ => []
    have e1 : itD .range1 [.int 9] = .ok (upto 0 9) := rfl
    have e2 := compL_map (elt := fun r => ev sub G (L_l_words_2 im ic iw) r) (keep := fun r => evc sub G [] r) (bd := fun d => bindFl false false [4] d [some (.scr ns), none, some (.int nb), none, none, none, none, none]) (fun d => match d with | .int c => .str (f (mixed nb c)) | _ => .non) (upto 0 9) (fun d hd => by
      have : ∃ c, d = .int c := by
        simp [upto] at hd
        rcases hd with rfl | rfl | rfl | rfl | rfl | rfl | rfl | rfl | rfl <;> exact ⟨_, rfl⟩
      obtain ⟨c, rfl⟩ := this
      refine ⟨_, bind1 4 _ _, by rw [evc], ?_⟩
      simp only [L_l_words_2, entry, outs, runs, Py.run, ev, evs, Rho.get, Rho.put, wipeE, List.length_cons, List.length_nil, List.map_cons, List.map_nil, List.replicate, List.cons_append, List.nil_append, List.getElem?_cons_zero, List.getElem?_cons_succ, List.set_cons_zero, List.set_cons_succ, ok_bind, ofR_ok, pure_ok, isTrueD, h0, hf2])
    have e3 : ((upto 0 9).map fun d => match d with | .int c => D.str (f (mixed nb c)) | _ => .non) = ws0.map .str := rfl
    rw [e3] at e2
    have hw0 : ws0.length = 9 := rfl
    have hs0 : (ws0.map List.length).sum ≤ 360 := by
      have : ∀ l : List W, (∀ w ∈ l, w.length ≤ 40) → (l.map List.length).sum ≤ 40 * l.length := fun l => by
        induction l with
        | nil => intro _; simp
        | cons a l ih =>
          intro h
          have h1 := h a List.mem_cons_self
          have h2 := ih fun w hw => h w (List.mem_cons_of_mem _ hw)
          simp only [List.map_cons, List.sum_cons, List.length_cons]
          omega
      have := this ws0 (fun w hw => by
        obtain ⟨d, _, rfl⟩ := List.mem_map.mp hw
        cases d <;> first | exact hf1 _ | simp)
      omega
    have e4 : (ws0.map D.str).length ≤ lim := by rw [List.length_map, hw0]; decide
    have e5 : methD .join (.str []) [.lst (ws0.map .str)] = .ok (.str (joinW [] ws0)) := join_run [] ws0 (by
      have e : (ws0.map fun w : W => w.length + ([] : W).length) = ws0.map List.length := rfl
      rw [e]; unfold lim; omega)
    let base := (joinW [] ws0).take 40
    have hb : base.length ≤ 40 := by show ((joinW [] ws0).take 40).length ≤ 40; rw [List.length_take]; omega
    have hbl : base.length ≤ lim := by unfold lim; omega
    have e6 : slcD (.str (joinW [] ws0)) none (some 40) = .ok (.str base) := slcH_int (k := 40) (by rw [joinW_len]; unfold lim; omega) (by decide)
    have tail : ∀ low : Int, 0 ≤ low ∧ low ≤ base.length → ∃ ws : List W, 2 ≤ ws.length ∧ ws.length ≤ 100 ∧ (∀ w ∈ ws, w.length ≤ lim) ∧ ∃ ρ, runs sub G [.asg 6 (.ow .fr) (.lst []), .frh false [4] false .range1 [(.blt .max2 [(.cint 2), (.blt .len [(.slcH (.slot 0) (.cint 63))])])] (B_l_words_1 im ic iw), .ret (.slot 6)] [some (.scr ns), none, some (.int nb), some (.str base), none, some (.int low), none, none] = .ret (.lst (ws.map .str)) ρ := fun low hlow => by
      have hmax : bltD sub .max2 [.int 2, .int (ns.length : Int)] = .ok (.int (if (ns.length : Int) > 2 then ns.length else 2)) := rfl
      let m : Int := if (ns.length : Int) > 2 then ns.length else 2
      have hm : 2 ≤ m ∧ m ≤ 63 := by
        show 2 ≤ (if (ns.length : Int) > 2 then (ns.length : Int) else 2) ∧ (if (ns.length : Int) > 2 then (ns.length : Int) else 2) ≤ 63
        split <;> omega
      have hmm : (if (ns.length : Int) > 2 then (ns.length : Int) else 2) = m := rfl
      obtain ⟨ws', a', b', c', q1, q2, q3⟩ := words_loop (sub := sub) (G := G) f hf1 im ic iw h0 h1 hf2 ns nb base hb low hlow m.toNat 0 [] none none none (by decide) (by simp; omega) (fun w hw => nomatch hw)
      have er : itD .range1 [.int m] = .ok (upto 0 m.toNat) := by
        show (if small62 m then _ else _) = _
        rw [if_pos (by unfold small62; simp; omega)]
      have elen : bltD sub .len [.lst (ns.map .int)] = .ok (.int ns.length) := by
        show R.ok (D.int ((ns.map D.int).length : Int)) = _
        rw [List.length_map]
      refine ⟨ws', by rw [q1]; simp; omega, by rw [q1]; simp; omega, q2, [some (.scr ns), a', some (.int nb), some (.str base), b', some (.int low), some (.lst (ws'.map .str)), c'], ?_⟩
      · rw [List.map_nil] at q3
        simp only [entry, outs, runs, Py.run, ev, evs, Rho.get, Rho.put, wipeE, List.length_cons, List.length_nil, List.map_cons, List.map_nil, List.replicate, List.cons_append, List.nil_append, List.getElem?_cons_zero, List.getElem?_cons_succ, List.set_cons_zero, List.set_cons_succ, ok_bind, ofR_ok, pure_ok, isTrueD, oneI, e63, elen, hmax, hmm, er, q3]
    have c1 : ∀ z : Int, cmpD .eq (.int z) (.int 1) = .ok (.bl (z == 1)) := fun _ => rfl
    have done : ∀ low : Int, 0 ≤ low ∧ low ≤ base.length → runs sub G [.iff (.cmp .eq (.bin .mod (.slot 2) (.cint 3)) (.cint 1)) [.asg 5 .fr (.bin .mod (.bin .fdiv (.slot 2) (.cint 3)) (.bin .add (.blt .len [(.slot 3)]) (.cint 1)))] []] [some (.scr ns), none, some (.int nb), some (.str base), none, some (.int 0), none, none] = .next [some (.scr ns), none, some (.int nb), some (.str base), none, some (.int low), none, none] →
        ∃ ws : List W, 2 ≤ ws.length ∧ ws.length ≤ 100 ∧ runDef sub G (D_l_words im ic iw) [.scr ns] = .ok (.lst (ws.map .str), []) ∧ ∀ w ∈ ws, w.length ≤ lim := fun low hlow hrun => by
      obtain ⟨ws, hne, hne2, hw, ρ, q⟩ := tail low hlow
      refine fin ws hne hne2 hw ?_
      have hrun' : Py.run sub G (.iff (.cmp .eq (.bin .mod (.slot 2) (.cint 3)) (.cint 1)) [.asg 5 .fr (.bin .mod (.bin .fdiv (.slot 2) (.cint 3)) (.bin .add (.blt .len [(.slot 3)]) (.cint 1)))] []) [some (.scr ns), none, some (.int nb), some (.str base), none, some (.int 0), none, none] = .next [some (.scr ns), none, some (.int nb), some (.str base), none, some (.int low), none, none] := by
        rw [runs] at hrun
        revert hrun
        cases Py.run sub G (.iff (.cmp .eq (.bin .mod (.slot 2) (.cint 3)) (.cint 1)) [.asg 5 .fr (.bin .mod (.bin .fdiv (.slot 2) (.cint 3)) (.bin .add (.blt .len [(.slot 3)]) (.cint 1)))] []) [some (.scr ns), none, some (.int nb), some (.str base), none, some (.int 0), none, none] with
        | next ρ =>
          intro h
          have h2 : runs sub G [] ρ = _ := h
          rw [runs] at h2
          exact h2
        | ret d ρ => intro h; exact h
        | exn c p ρ => intro h; exact h
        | stk => intro h; exact h
      have go : runs sub G (D_l_words im ic iw).body (entry 8 [.scr ns]) = .ret (.lst (ws.map .str)) ρ := by
        rw [← q]
        generalize hs : ([.asg 6 (.ow .fr) (.lst []), .frh false [4] false .range1 [(.blt .max2 [(.cint 2), (.blt .len [(.slcH (.slot 0) (.cint 63))])])] (B_l_words_1 im ic iw), .ret (.slot 6)] : List S) = rest
        generalize hi : (S.iff (.cmp .eq (.bin .mod (.slot 2) (.cint 3)) (.cint 1)) [.asg 5 .fr (.bin .mod (.bin .fdiv (.slot 2) (.cint 3)) (.bin .add (.blt .len [(.slot 3)]) (.cint 1)))] []) = fork at hrun'
        have eb : (D_l_words im ic iw).body = [.iff cond [.ret (.comp false [1] false .val [(.slcH (.slot 0) (.cint 63))] (L_l_words_1 im ic iw) [])] [],
            .asg 2 .fr (.call im [(.call ic [(.slot 0), (.cint 0)]), (.cint 1)]),
            .asg 3 .fr (.slcH (.meth .join (.cstr []) [(.comp false [4] false .range1 [(.cint 9)] (L_l_words_2 im ic iw) [])]) (.cint 40)),
            .asg 5 .fr (.cint 0), fork] ++ rest := by rw [eD, ← hs, ← hi]; rfl
        rw [eb]
        simp only [entry, outs, runs, L2.Py.run, ev, evs, Rho.get, Rho.put, wipeE, List.length_cons, List.length_nil, List.map_cons, List.map_nil, List.replicate, List.cons_append, List.nil_append, List.getElem?_cons_zero, List.getElem?_cons_succ, List.set_cons_zero, List.set_cons_succ, ok_bind, ofR_ok, pure_ok, isTrueD, hand, h1 ns 0 (by decide), hodd, Bool.false_eq_true, if_false, h0, hnb, e1, e2, noExn_ok, e4, if_true, e5, oneI, e6, hrun']
      unfold runDef
      have hn : [D.scr ns].length = (D_l_words im ic iw).nps := rfl
      have hnsl : (D_l_words im ic iw).nsl = 8 := rfl
      rw [if_pos hn, hnsl, go]
      rfl
    by_cases h3 : (nb % 3 == 1) = true
    · have hp : (0 : Int) < (base.length : Int) + 1 := by omega
      refine done (nb / 3 % ((base.length : Int) + 1)) ⟨Int.emod_nonneg _ (by omega), by have := Int.emod_lt_of_pos (nb / 3) hp; omega⟩ ?_
      simp only [entry, outs, runs, Py.run, ev, evs, Rho.get, Rho.put, wipeE, List.length_cons, List.length_nil, List.map_cons, List.map_nil, List.replicate, List.cons_append, List.nil_append, List.getElem?_cons_zero, List.getElem?_cons_succ, List.set_cons_zero, List.set_cons_succ, ok_bind, ofR_ok, pure_ok, isTrueD, d_mod (show (0 : Int) < 3 by decide), c1, h3, if_true, d_fdiv (show (0 : Int) < 3 by decide) (show (3 : Int) < 1073741824 by decide), len_str hbl, d_add, d_mod hp]
    · refine done 0 ⟨by decide, by omega⟩ ?_
      simp only [entry, outs, runs, Py.run, ev, evs, Rho.get, Rho.put, wipeE, List.length_cons, List.length_nil, List.map_cons, List.map_nil, List.replicate, List.cons_append, List.nil_append, List.getElem?_cons_zero, List.getElem?_cons_succ, List.set_cons_zero, List.set_cons_succ, ok_bind, ofR_ok, pure_ok, isTrueD, d_mod (show (0 : Int) < 3 by decide), c1, h3, Bool.false_eq_true, if_false]
/-- the longest word that begins all -/
def TopL (p : W) (ws : List W) : Prop := (∀ w ∈ ws, begins p w = true) ∧ ∀ c, ¬ ∀ w ∈ ws, begins (p ++ [c]) w = true
theorem two_begin {p q a : W} (h1 : begins p a = true) (h2 : begins q a = true) (h : p.length ≤ q.length) : begins p q = true := by
  have e1 := begins_take.mp h1
  have e2 := begins_take.mp h2
  refine begins_take.mpr ?_
  rw [← e2, List.take_take, Nat.min_eq_left h, e1]
theorem begins_trans : ∀ {p q a : W}, begins p q = true → begins q a = true → begins p a = true
  | [], _, _, _, _ => by simp [begins]
  | _ :: _, [], _, h, _ => by cases h
  | _ :: _, _ :: _, [], _, h => by cases h
  | x :: p, y :: q, z :: a, h1, h2 => by
    simp only [begins, Bool.and_eq_true, beq_iff_eq] at h1 h2 ⊢
    exact ⟨h1.1.trans h2.1, begins_trans h1.2 h2.2⟩
/-- what begins all begins the longest -/
theorem topL_max {p x : W} {ws : List W} (hne : ws ≠ []) (h : TopL p ws) (hx : ∀ w ∈ ws, begins x w = true) : begins x p = true := by
  cases ws with
  | nil => exact absurd rfl hne
  | cons a ws =>
    have ha := List.mem_cons_self (a := a) (l := ws)
    rcases Nat.lt_or_ge p.length x.length with hlt | hge
    · exfalso
      refine h.2 x[p.length] fun w hw => ?_
      have hp : begins p x = true := two_begin (h.1 a ha) (hx a ha) (by omega)
      exact begins_trans (begins_app.mpr ⟨hp, List.getElem?_eq_getElem hlt⟩) (hx w hw)
    · exact two_begin (hx a ha) (h.1 a ha) hge
theorem topL_eq {p q : W} {ws vs : List W} (hne : ws ≠ []) (h1 : TopL p ws) (h2 : TopL q vs) (hm : ∀ w, w ∈ ws ↔ w ∈ vs) : p = q := by
  have hne2 : vs ≠ [] := fun z => by
    cases ws with
    | nil => exact hne rfl
    | cons a l =>
      have := (hm a).mp List.mem_cons_self
      rw [z] at this
      cases this
  have a1 := topL_max hne2 h2 (fun w hw => h1.1 w ((hm w).mpr hw))
  have a2 := topL_max hne h1 (fun w hw => h2.1 w ((hm w).mp hw))
  exact wle_antisymm (wle_begins a1) (wle_begins a2)
theorem topL_two {p q r : W} {ws vs : List W} (h1n : ws ≠ []) (h2n : vs ≠ []) (h1 : TopL p ws) (h2 : TopL q vs) (h : TopL r [p, q]) : TopL r (ws ++ vs) := by
  refine ⟨fun w hw => ?_, fun c hc => h.2 c fun w hw => ?_⟩
  · rcases List.mem_append.mp hw with hw | hw
    · exact begins_trans (h.1 p (by simp)) (h1.1 w hw)
    · exact begins_trans (h.1 q (by simp)) (h2.1 w hw)
  · simp only [List.mem_cons, List.mem_nil_iff, or_false] at hw
    rcases hw with rfl | rfl
    · exact topL_max h1n h1 fun v hv => hc v (List.mem_append_left _ hv)
    · exact topL_max h2n h2 fun v hv => hc v (List.mem_append_right _ hv)
theorem str_loop (im ic iw il : Nat) : ∀ (ps : List W) (s : List (Option D)) (k : Option D), s.length = 6 → ∃ k', forR (fun d r => bindFl false false [6] d r) (fun r => runs sub G (B_law_1 im ic iw il) r) (ps.map .str) (s ++ [k]) = .next (s ++ [k'])
  | [], s, k, _ => ⟨k, rfl⟩
  | p :: ps, s, k, hs => by
    match s, hs with
    | [a, b, c, d, e, f], _ =>
    have isi : bltD sub (.isi [.str]) [.str p] = .ok (.bl true) := rfl
    obtain ⟨k', q⟩ := str_loop im ic iw il ps [a, b, c, d, e, f] (some (.str p)) rfl
    refine ⟨k', ?_⟩
    rw [List.map_cons, forR_cons (bind1 6 _ _), ← q]
    simp only [B_law_1, entry, outs, runs, L2.Py.run, ev, evs, Rho.get, Rho.put, wipeE, List.length_cons, List.length_nil, List.map_cons, List.map_nil, List.replicate, List.cons_append, List.nil_append, List.getElem?_cons_zero, List.getElem?_cons_succ, List.set_cons_zero, List.set_cons_succ, ok_bind, ofR_ok, pure_ok, isTrueD, isi, Bool.not_true, Bool.false_eq_true, if_false]
theorem slcH_lst (xs : List D) (k : Nat) : slcD (.lst xs) none (some (k : Int)) = .ok (.lst (xs.take k)) := by
  show R.ok (D.lst (cutL xs none (some (k : Int)))) = _
  rw [cutH]
theorem slcL_lst (xs : List D) (k : Nat) : slcD (.lst xs) (some (k : Int)) none = .ok (.lst (xs.drop k)) := by
  show R.ok (D.lst (cutL xs (some (k : Int)) none)) = _
  rw [cutLo]
theorem law_run (iw io im ic : Nat) (ns : List Int) (ws : List W) (hw2 : 2 ≤ ws.length) (hw3 : ws.length ≤ 100) (hlen : ∀ w ∈ ws, w.length ≤ lim) (hw : G iw [.scr ns] = .ok (.lst (ws.map .str), []))
    (ho : ∀ vs : List W, vs ≠ [] → (∀ w ∈ vs, w.length ≤ lim) → ∃ p : W, G io [.lst (vs.map .str)] = .ok (.str p, []) ∧ p.length ≤ lim ∧ TopL p vs) (hm : ∀ a b, G im [.int a, .int b] = .ok (.int (mixed a b), [])) (hcl : ∀ k, 0 ≤ k → G ic [.scr ns, .int k] = .ok (.int (cellAt ns k), [])) :
    runDef sub G (D_law iw io im ic) [.scr ns] = .ok (.bl true, []) := by
  have hp : (0 : Int) < (ws.length : Int) - 1 := by omega
  obtain ⟨cut, hcut⟩ : ∃ cut : Nat, (1 : Int) + mixed (cellAt ns 1) 2 % ((ws.length : Int) - 1) = cut := by
    have := Int.emod_nonneg (mixed (cellAt ns 1) 2) (show (ws.length : Int) - 1 ≠ 0 by omega)
    exact ⟨(1 + mixed (cellAt ns 1) 2 % ((ws.length : Int) - 1)).toNat, by omega⟩
  have hc1 : 1 ≤ cut := by
    have := Int.emod_nonneg (mixed (cellAt ns 1) 2) (show (ws.length : Int) - 1 ≠ 0 by omega)
    omega
  have hc2 : cut < ws.length := by
    have := Int.emod_lt_of_pos (mixed (cellAt ns 1) 2) hp
    omega
  have nA : ws.take cut ≠ [] := fun z => by
    have this : (ws.take cut).length = 0 := by rw [z]; rfl
    rw [List.length_take, Nat.min_eq_left (by omega)] at this
    omega
  have nB : ws.drop cut ≠ [] := fun z => by
    have this : (ws.drop cut).length = 0 := by rw [z]; rfl
    rw [List.length_drop] at this
    omega
  have nW : ws ≠ [] := fun z => by rw [z] at hw2; simp at hw2
  obtain ⟨pA, a1, a2, a3⟩ := ho (ws.take cut) nA fun w h => hlen w (List.mem_of_mem_take h)
  obtain ⟨pB, b1, b2, b3⟩ := ho (ws.drop cut) nB fun w h => hlen w (List.mem_of_mem_drop h)
  obtain ⟨pW, c1, c2, c3⟩ := ho ws nW hlen
  obtain ⟨pR, d1, d2, d3⟩ := ho ws.reverse (by simpa using nW) fun w h => hlen w (List.mem_reverse.mp h)
  obtain ⟨pD, e1, e2, e3⟩ := ho (ws ++ ws) (by simpa using nW) fun w h => (List.mem_append.mp h).elim (hlen w) (hlen w)
  obtain ⟨r, f1, f2, f3⟩ := ho [pA, pB] (by simp) (by simp [a2, b2])
  have hr := topL_two nA nB a3 b3 f3
  rw [List.take_append_drop] at hr
  have eW : pW = r := topL_eq nW c3 hr fun _ => Iff.rfl
  have eR : pR = r := topL_eq (by simpa using nW) d3 hr fun w => List.mem_reverse
  have eD : pD = r := topL_eq (by simpa using nW) e3 hr fun w => by simp
  subst eW eR eD
  rw [List.map_take] at a1
  rw [List.map_drop] at b1
  rw [List.map_reverse] at d1
  rw [List.map_append] at e1
  generalize hX : ws.map D.str = X at *
  have lX : X.length = ws.length := by rw [← hX, List.length_map]
  have lenX : bltD sub .len [.lst X] = .ok (.int (ws.length : Int)) := by rw [← lX]; rfl
  have listX : bltD sub .list [.lst X] = .ok (.lst X) := rfl
  have revX : revD (.lst X) = .ok (.lst X.reverse) := rfl
  have addX : binD .add (.lst X) (.lst X) = .ok (.lst (X ++ X)) := by
    show (if X.length + X.length ≤ lim then _ else _) = _
    rw [if_pos (by rw [lX]; unfold lim; omega)]
  let hd : List D := [.lst (X.take cut), .lst (X.drop cut), .lst X, .lst X.reverse, .lst (X ++ X)]
  have itH : itD .val [.lst hd] = .ok hd := rfl
  let told : List D := [.str pA, .str pB, .str pD, .str pD, .str pD]
  have cmpH : ∀ a b c : Option D, compL (fun r => ev sub G (L_law_1 iw io im ic) r) (fun r => evc sub G [] r) (fun d => bindFl false false [5] d [some (.scr ns), a, b, some (.lst hd), none, none, c]) hd = .ok told := fun a b c => by
    have key : ∀ (d e : D), G io [d] = .ok (e, []) → ev sub G (L_law_1 iw io im ic) (Rho.put [some (.scr ns), a, b, some (.lst hd), none, none, c] 5 d) = .ok e := fun d e h => by
      simp only [L_law_1, ev, evs, Rho.get, Rho.put, List.set_cons_succ, List.set_cons_zero, List.getElem?_cons_succ, List.getElem?_cons_zero, ok_bind, pure_ok, h]
    show compL _ _ _ [D.lst (X.take cut), .lst (X.drop cut), .lst X, .lst X.reverse, .lst (X ++ X)] = _
    simp only [compL, bind1, ok_bind, evc, if_true, key _ _ a1, key _ _ b1, key _ _ c1, key _ _ d1, key _ _ e1, pure_ok]
    rfl
  have eqvX : ∀ Y : List W, eqvL (Y.map D.str) (Y.map D.str) = true := eqvL_refl_strs
  have plX : ∀ (Y : List W) n, plainLN (Y.map D.str) n = true := plain_strs
  have same : ∀ Y : List D, (∃ Z : List W, Y = Z.map D.str) → eqvL Y Y = true ∧ ∀ n, plainLN Y n = true := fun Y ⟨Z, e⟩ => by rw [e]; exact ⟨eqvX Z, plX Z⟩
  have s1 := same (X.take cut) ⟨ws.take cut, by rw [← hX, List.map_take]⟩
  have s2 := same (X.drop cut) ⟨ws.drop cut, by rw [← hX, List.map_drop]⟩
  have s3 := same X ⟨ws, hX.symm⟩
  have s4 := same X.reverse ⟨ws.reverse, by rw [← hX, List.map_reverse]⟩
  have s5 := same (X ++ X) ⟨ws ++ ws, by rw [← hX, List.map_append]⟩
  have neH : cmpD .ne (.lst hd) (.lst hd) = .ok (.bl false) := by
    have : eqD (.lst hd) (.lst hd) = .ok true := by
      unfold eqD
      have hpl : (D.lst hd).plain = true := by
        show plainLN [D.lst (X.take cut), .lst (X.drop cut), .lst X, .lst X.reverse, .lst (X ++ X)] 19 = true
        simp only [plainLN, D.plainN, s1.2, s2.2, s3.2, s4.2, s5.2, Bool.and_self]
      have he : (D.lst hd).eqv (.lst hd) = true := by
        show eqvL [D.lst (X.take cut), .lst (X.drop cut), .lst X, .lst X.reverse, .lst (X ++ X)] [D.lst (X.take cut), .lst (X.drop cut), .lst X, .lst X.reverse, .lst (X ++ X)] = true
        simp only [eqvL, D.eqv, s1.1, s2.1, s3.1, s4.1, s5.1, Bool.and_self, List.isEmpty_nil]
      rw [hpl, he]
      rfl
    show (do let r ← eqD (.lst hd) (.lst hd); pure (D.bl (!r)) : R D) = _
    rw [this]; rfl
  have sl1 : slcD (.lst X) none (some (cut : Int)) = .ok (.lst (X.take cut)) := slcH_lst X cut
  have sl2 : slcD (.lst X) (some (cut : Int)) none = .ok (.lst (X.drop cut)) := slcL_lst X cut
  have sl3 : slcD (.lst told) (some 2) none = .ok (.lst [.str pD, .str pD, .str pD]) := slcL_lst told 2
  have sl4 : slcD (.lst told) none (some 2) = .ok (.lst [.str pA, .str pB]) := slcH_lst told 2
  have f1' : G io [.lst [.str pA, .str pB]] = .ok (.str pD, []) := f1
  have mulR : binD .mul (.lst [.str pD]) (.int 3) = .ok (.lst [.str pD, .str pD, .str pD]) := rfl
  have eqR : cmpD .eq (.lst [.str pD, .str pD, .str pD]) (.lst [.str pD, .str pD, .str pD]) = .ok (.bl true) := by
    show R.ok (D.bl ((pD == pD) && ((pD == pD) && ((pD == pD) && true)))) = _
    simp
  obtain ⟨k', q⟩ := str_loop (sub := sub) (G := G) iw io im ic [pA, pB, pD, pD, pD] [some (.scr ns), some (.lst X), some (.int cut), some (.lst hd), some (.lst told), none] none rfl
  have itT : itD .val [.lst told] = .ok told := rfl
  have q' : forR (fun d r => bindFl false false [6] d r) (fun r => runs sub G (B_law_1 iw io im ic) r) told [some (.scr ns), some (.lst X), some (.int cut), some (.lst hd), some (.lst told), none, none] = .next [some (.scr ns), some (.lst X), some (.int cut), some (.lst hd), some (.lst told), none, k'] := q
  have hh : D.lst [.lst (X.take cut), .lst (X.drop cut), .lst X, .lst X.reverse, .lst (X ++ X)] = .lst hd := rfl
  have tl : told.length ≤ lim := by show 5 ≤ 16777216; decide
  unfold runDef
  simp only [D_law, entry, outs, runs, L2.Py.run, ev, evs, Rho.get, Rho.put, wipeE, List.length_cons, List.length_nil, List.map_cons, List.map_nil, List.replicate, List.cons_append, List.nil_append, List.getElem?_cons_zero, List.getElem?_cons_succ, List.set_cons_zero, List.set_cons_succ, ok_bind, ofR_ok, pure_ok, isTrueD, hw, hcl 1 (by decide), hm, lenX, d_sub, d_mod hp, d_add, hcut, oneI, sl1, sl2, listX, revX, addX, hh, itH, cmpH, noExn_ok, tl, if_true, itT, q', neH, Bool.false_eq_true, if_false, sl3, sl4, f1', mulR, eqR]
  all_goals rfl
end
theorem law_true (ns : List Int) (hl : ns.length ≤ 63) (hb : ∀ z ∈ ns, Builtin.Int.intBits z ≤ 1048576) : ∃ r, sem subs (tb.map Dd.d) 6 5 [.scr ns] = .ok (.bl true, r) := by
  have at0 : ∀ k, 0 < k → ∀ xs, sem subs (tb.map Dd.d) k 0 xs = runDef subs (sem subs (tb.map Dd.d) 0) D_l_mixed xs := fun k h xs => sem_at rfl h xs
  have at1 : ∀ k, 1 < k → ∀ xs, sem subs (tb.map Dd.d) k 1 xs = runDef subs (sem subs (tb.map Dd.d) 1) D_l_cell_at xs := fun k h xs => sem_at rfl h xs
  have at2 : ∀ k, 2 < k → ∀ xs, sem subs (tb.map Dd.d) k 2 xs = runDef subs (sem subs (tb.map Dd.d) 2) D_l_word xs := fun k h xs => sem_at rfl h xs
  have at3 : ∀ k, 3 < k → ∀ xs, sem subs (tb.map Dd.d) k 3 xs = runDef subs (sem subs (tb.map Dd.d) 3) (D_l_words 0 1 2) xs := fun k h xs => sem_at rfl h xs
  have at4 : ∀ k, 4 < k → ∀ xs, sem subs (tb.map Dd.d) k 4 xs = runDef subs (sem subs (tb.map Dd.d) 4) D_common_of xs := fun k h xs => sem_at rfl h xs
  have at5 : ∀ k, 5 < k → ∀ xs, sem subs (tb.map Dd.d) k 5 xs = runDef subs (sem subs (tb.map Dd.d) 5) (D_law 3 4 0 1) xs := fun k h xs => sem_at rfl h xs
  obtain ⟨ws, w1, w2, w3, w4⟩ := words_run (sub := subs) (G := sem subs (tb.map Dd.d) 3) 0 1 2 (fun a b => by rw [at0 3 (by decide), mixed_run]) (fun ns k h => by rw [at1 3 (by decide), cell_run ns k h]) (fun r => by
    obtain ⟨w, h1, h2⟩ := word_run (sub := subs) (G := sem subs (tb.map Dd.d) 2) r
    exact ⟨w, h1, by rw [at2 3 (by decide), h2]⟩) ns hl
  have g3 : sem subs (tb.map Dd.d) 5 3 [.scr ns] = .ok (.lst (ws.map .str), []) := by rw [at3 5 (by decide), w3]
  have ho : ∀ vs : List W, vs ≠ [] → (∀ w ∈ vs, w.length ≤ lim) → ∃ p : W, sem subs (tb.map Dd.d) 5 4 [.lst (vs.map .str)] = .ok (.str p, []) ∧ p.length ≤ lim ∧ TopL p vs := fun vs hne h => by
    cases vs with
    | nil => exact absurd rfl hne
    | cons x vs =>
      rw [at4 5 (by decide)]
      obtain ⟨p, p1, p2, p3, p4⟩ := common_run (sub := subs) (G := sem subs (tb.map Dd.d) 4) x vs h
      exact ⟨p, p1, p2, p3, p4⟩
  exact ⟨[], by rw [at5 6 (by decide)]; exact law_run 3 4 0 1 ns ws w1 w2 w4 g3 ho (fun a b => by rw [at0 5 (by decide), mixed_run]) (fun k h => by rw [at1 5 (by decide), cell_run ns k h])⟩
theorem facts {K : PySem.W.Frag} {h : Heap} {mg : Str → Option Value} (X : K.In h) (G : h.Ns mainGlobals mg)
    {f0 : Addr} {od0 an0 : Option Addr} {sl0 : Array (Option Value)} {oc0 kV0 dc0 pm0 cd0 ct0 : Value}
    (a0 : PySem.W.nsIn K mainGlobals "_law_mixed" = some (some (.ref f0))) (l0 : K.lookup f0 = some ⟨oc0, od0, .func (PySem.W.fnOf "_law_mixed" "_law_mixed" (defArgs (E_l_mixed).st) (defBody (E_l_mixed).st) (defScope (E_l_mixed).st) .none kV0 dc0 pm0 an0 cd0 ct0), sl0⟩) (c0 : PySem.W.codeIn K cd0 "_law_mixed" = true) (k0 : PySem.W.keepIn K (.ref f0) = true)
    {f1 : Addr} {od1 an1 : Option Addr} {sl1 : Array (Option Value)} {oc1 kV1 dc1 pm1 cd1 ct1 : Value}
    (a1 : PySem.W.nsIn K mainGlobals "_law_cell_at" = some (some (.ref f1))) (l1 : K.lookup f1 = some ⟨oc1, od1, .func (PySem.W.fnOf "_law_cell_at" "_law_cell_at" (defArgs (E_l_cell_at).st) (defBody (E_l_cell_at).st) (defScope (E_l_cell_at).st) .none kV1 dc1 pm1 an1 cd1 ct1), sl1⟩) (c1 : PySem.W.codeIn K cd1 "_law_cell_at" = true) (k1 : PySem.W.keepIn K (.ref f1) = true)
    {f2 : Addr} {od2 an2 : Option Addr} {sl2 : Array (Option Value)} {oc2 kV2 dc2 pm2 cd2 ct2 : Value}
    (a2 : PySem.W.nsIn K mainGlobals "_law_word" = some (some (.ref f2))) (l2 : K.lookup f2 = some ⟨oc2, od2, .func (PySem.W.fnOf "_law_word" "_law_word" (defArgs (E_l_word).st) (defBody (E_l_word).st) (defScope (E_l_word).st) .none kV2 dc2 pm2 an2 cd2 ct2), sl2⟩) (c2 : PySem.W.codeIn K cd2 "_law_word" = true) (k2 : PySem.W.keepIn K (.ref f2) = true)
    {f3 : Addr} {od3 an3 : Option Addr} {sl3 : Array (Option Value)} {oc3 kV3 dc3 pm3 cd3 ct3 : Value}
    (a3 : PySem.W.nsIn K mainGlobals "_law_words" = some (some (.ref f3))) (l3 : K.lookup f3 = some ⟨oc3, od3, .func (PySem.W.fnOf "_law_words" "_law_words" (defArgs (E_l_words).st) (defBody (E_l_words).st) (defScope (E_l_words).st) .none kV3 dc3 pm3 an3 cd3 ct3), sl3⟩) (c3 : PySem.W.codeIn K cd3 "_law_words" = true) (k3 : PySem.W.keepIn K (.ref f3) = true)
    {f4 : Addr} {od4 an4 : Option Addr} {sl4 : Array (Option Value)} {oc4 kV4 dc4 pm4 cd4 ct4 : Value}
    (a4 : PySem.W.nsIn K mainGlobals "common_of" = some (some (.ref f4))) (l4 : K.lookup f4 = some ⟨oc4, od4, .func (PySem.W.fnOf "common_of" "common_of" (defArgs (E_common_of).st) (defBody (E_common_of).st) (defScope (E_common_of).st) .none kV4 dc4 pm4 an4 cd4 ct4), sl4⟩) (c4 : PySem.W.codeIn K cd4 "common_of" = true) (k4 : PySem.W.keepIn K (.ref f4) = true)
    {f5 : Addr} {od5 an5 : Option Addr} {sl5 : Array (Option Value)} {oc5 kV5 dc5 pm5 cd5 ct5 : Value}
    (a5 : PySem.W.nsIn K mainGlobals "law" = some (some (.ref f5))) (l5 : K.lookup f5 = some ⟨oc5, od5, .func (PySem.W.fnOf "law" "law" (defArgs (E_law).st) (defBody (E_law).st) (defScope (E_law).st) .none kV5 dc5 pm5 an5 cd5 ct5), sl5⟩) (c5 : PySem.W.codeIn K cd5 "law" = true) (k5 : PySem.W.keepIn K (.ref f5) = true)
    (z0 : PySem.W.nsIn K mainGlobals "len" = some none)
    (z1 : PySem.W.nsIn K mainGlobals "range" = some none)
    (z2 : PySem.W.nsIn K mainGlobals "min" = some none)
    (z3 : PySem.W.nsIn K mainGlobals "max" = some none)
    (z4 : PySem.W.nsIn K mainGlobals "list" = some none)
    (z5 : PySem.W.nsIn K mainGlobals "int" = some none)
    (z6 : PySem.W.nsIn K mainGlobals "sum" = some none)
    (z7 : PySem.W.nsIn K mainGlobals "isinstance" = some none)
    (z8 : PySem.W.nsIn K mainGlobals "str" = some none)
    (z9 : PySem.W.nsIn K mainGlobals "bool" = some none)
    (z10 : PySem.W.nsIn K mainGlobals "tuple" = some none)
    (z11 : PySem.W.nsIn K mainGlobals "enumerate" = some none)
    (z12 : PySem.W.nsIn K mainGlobals "zip" = some none)
    (z13 : PySem.W.nsIn K mainGlobals "sorted" = some none)
    (z14 : PySem.W.nsIn K mainGlobals "set" = some none)
    (z15 : PySem.W.nsIn K mainGlobals "dict" = some none) :
    (∀ (i : Nat) (e : Dd), tb[i]? = some e → ∃ fa fd, At K mg e fa fd) ∧ (∀ x ∈ bltNames, mg x = none) ∧ ∀ fa fd, At K mg E_law fa fd → ∀ (s : Shared) (u : Value), BindsTo s fd ⟨[u], []⟩ [("_law_script", u)] := by
  have F0 := fun_mk (st := (E_l_mixed).st) l0 c0 k0
  have b0 := F0.binds (ps := (E_l_mixed).ps) fun _ _ _ _ _ _ us hl => match us, hl with | [_, _], _ => rfl
  have F1 := fun_mk (st := (E_l_cell_at).st) l1 c1 k1
  have b1 := F1.binds (ps := (E_l_cell_at).ps) fun _ _ _ _ _ _ us hl => match us, hl with | [_, _], _ => rfl
  have F2 := fun_mk (st := (E_l_word).st) l2 c2 k2
  have b2 := F2.binds (ps := (E_l_word).ps) fun _ _ _ _ _ _ us hl => match us, hl with | [_], _ => rfl
  have F3 := fun_mk (st := (E_l_words).st) l3 c3 k3
  have b3 := F3.binds (ps := (E_l_words).ps) fun _ _ _ _ _ _ us hl => match us, hl with | [_], _ => rfl
  have F4 := fun_mk (st := (E_common_of).st) l4 c4 k4
  have b4 := F4.binds (ps := (E_common_of).ps) fun _ _ _ _ _ _ us hl => match us, hl with | [_], _ => rfl
  have F5 := fun_mk (st := (E_law).st) l5 c5 k5
  have b5 := F5.binds (ps := (E_law).ps) fun _ _ _ _ _ _ us hl => match us, hl with | [_], _ => rfl
  refine ⟨AtL.get (⟨⟨_, _, F0, PySem.W.mg_of X G a0, b0⟩, ⟨_, _, F1, PySem.W.mg_of X G a1, b1⟩, ⟨_, _, F2, PySem.W.mg_of X G a2, b2⟩, ⟨_, _, F3, PySem.W.mg_of X G a3, b3⟩, ⟨_, _, F4, PySem.W.mg_of X G a4, b4⟩, ⟨_, _, F5, PySem.W.mg_of X G a5, b5⟩, trivial⟩), NoL.get (⟨PySem.W.mg_none_of X G z0, PySem.W.mg_none_of X G z1, PySem.W.mg_none_of X G z2, PySem.W.mg_none_of X G z3, PySem.W.mg_none_of X G z4, PySem.W.mg_none_of X G z5, PySem.W.mg_none_of X G z6, PySem.W.mg_none_of X G z7, PySem.W.mg_none_of X G z8, PySem.W.mg_none_of X G z9, PySem.W.mg_none_of X G z10, PySem.W.mg_none_of X G z11, PySem.W.mg_none_of X G z12, PySem.W.mg_none_of X G z13, PySem.W.mg_none_of X G z14, PySem.W.mg_none_of X G z15, trivial⟩), fun fa fd A s u => ?_⟩
  obtain ⟨oc, od, kV, doc, pm, an, cdv, ct, osl, rfl, lk, hcd⟩ := A.fn.ex
  exact .of_eq rfl
end K03
open PySem PySem.W PyProof.Rows
set_option maxRecDepth 100000 in
set_option maxHeartbeats 0 in
theorem PySem.Challenge.cw_earlyscribe_k03_common_of_parts_holds : PySem.Challenge.rw_earlyscribe_k03_common_of_parts.Holds := by
  w_on; o_law; k_head; (case hw => w_witness2)
  k_fill
  refine L2.Py.law_walk (l := PySem.Challenge.rw_earlyscribe_k03_common_of_parts) (tb := K03.tb) (n := 5) (e := K03.E_law) (sub := K03.subs) (ca := fun _ _ => 0) (x := "_law_script") rfl rfl rfl rfl rfl ⟨rfl, by decide, by decide⟩ (fun w h Y => PySem.W.kIn_of Y) K03.chk_tb ?F K03.law_true
  case F =>
    intro w mg h KX G
    refine' K03.facts KX G ?a0 ?l0 ?c0 ?k0 ?a1 ?l1 ?c1 ?k1 ?a2 ?l2 ?c2 ?k2 ?a3 ?l3 ?c3 ?k3 ?a4 ?l4 ?c4 ?k4 ?a5 ?l5 ?c5 ?k5 ?z0 ?z1 ?z2 ?z3 ?z4 ?z5 ?z6 ?z7 ?z8 ?z9 ?z10 ?z11 ?z12 ?z13 ?z14 ?z15
    (case a0 => k_is); (case l0 => k_is); (case c0 => k_is); (case k0 => k_is)
    (case a1 => k_is); (case l1 => k_is); (case c1 => k_is); (case k1 => k_is)
    (case a2 => k_is); (case l2 => k_is); (case c2 => k_is); (case k2 => k_is)
    (case a3 => k_is); (case l3 => k_is); (case c3 => k_is); (case k3 => k_is)
    (case a4 => k_is); (case l4 => k_is); (case c4 => k_is); (case k4 => k_is)
    (case a5 => k_is); (case l5 => k_is); (case c5 => k_is); (case k5 => k_is)
    (case z0 => k_is); (case z1 => k_is); (case z2 => k_is); (case z3 => k_is); (case z4 => k_is); (case z5 => k_is); (case z6 => k_is); (case z7 => k_is); (case z8 => k_is); (case z9 => k_is); (case z10 => k_is); (case z11 => k_is); (case z12 => k_is); (case z13 => k_is); (case z14 => k_is); (case z15 => k_is)
#print axioms PySem.Challenge.cw_earlyscribe_k03_common_of_parts_holds

