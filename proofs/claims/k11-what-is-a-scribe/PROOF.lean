import PyProof.Rows.All
import Wide.All
import OpenK.AllK
import Wide.FinOn
import HandS.ForMost
import HandS.ForExc
import KE.KDictKeyed
import KE.DataEq
import HandS.IsInst
import HandS.TupLen
import KE.KEqDict
import HandS.DeepEq
import HandS.Conv
import KE.KRevSl
import HandS.NoneIn
import HandS.Style
import HandS.More
import HandS.Zip
import HandS.Small
import HandS.ExcIs
import KE.KExcIs
import HandS.ExcOwn
import HandS.SortInts
import PyProof.Rows.SortShellAny
import PyProof.Rows.StrMeet
import HandS.Iter
import KE.KDictWalk
import PyProof.Rows.ListRangeD
import HandS.TupSets
import HandS.Strs
import KE.KSortTupG
import HandS.Replace
import HandS.SetFor
import HandS.StrMore
import KE.KDictDisplayH
import HandS.ExcInit
import HandS.EndBits
import PySem.Challenge.RW_earlyscribe_k11_what_is_a_scribe
set_option Elab.async false
set_option linter.all false
set_option maxRecDepth 100000
namespace L2.Py

abbrev W := List Nat

inductive D where
  | non | bl (b : Bool) | int (i : Int) | str (s : W) | tup (xs : List D) | lst (xs : List D)
  | dct (t : Bool) (es : List D)
  | dcn (es : List D)
  | exc (c : Nat) (ps : List D)
  | scr (ns : List Int)

inductive R (α : Type) where
  | ok (a : α) | exn (c : Nat) (ps : List D) | stk
def R.bind {α β : Type} : R α → (α → R β) → R β
  | .ok a, f => f a
  | .exn c ps, _ => .exn c ps
  | .stk, _ => .stk
instance : Monad R := { pure := R.ok, bind := R.bind }
@[simp] theorem ok_bind {α β : Type} (a : α) (f : α → R β) : (R.ok a >>= f) = f a := rfl
@[simp] theorem stk_bind {α β : Type} (f : α → R β) : ((R.stk : R α) >>= f) = R.stk := rfl
@[simp] theorem exn_bind {α β : Type} (c : Nat) (ps : List D) (f : α → R β) : ((R.exn c ps : R α) >>= f) = R.exn c ps := rfl
@[simp] theorem pure_ok {α : Type} (a : α) : (pure a : R α) = R.ok a := rfl

mutual
def D.noMut : D → Bool
  | .tup xs => noMutL xs
  | .lst _ => false
  | .dct _ _ => false
  | .dcn _ => false
  | .exc _ _ => false
  | .scr _ => true
  | .non => true
  | .bl _ => true
  | .int _ => true
  | .str _ => true
def noMutL : List D → Bool
  | [] => true
  | d :: ds => D.noMut d && noMutL ds
end
mutual
def D.plainN : D → Nat → Bool
  | .tup xs, n => match n with | 0 => false | n + 1 => plainLN xs n
  | .lst xs, n => match n with | 0 => false | n + 1 => plainLN xs n
  | .dct _ _, _ => false
  | .dcn _, _ => false
  | .exc _ _, _ => false
  | .scr _, _ => false
  | .non, _ => true
  | .bl _, _ => true
  | .int _, _ => true
  | .str _, _ => true
def plainLN : List D → Nat → Bool
  | [], _ => true
  | d :: ds, n => D.plainN d n && plainLN ds n
end
abbrev D.plain (d : D) : Bool := d.plainN 20
abbrev plainL (ds : List D) : Bool := plainLN ds 20
def b2n (b : Bool) : Int := if b then 1 else 0
mutual
def D.eqv : D → D → Bool
  | .non, y => match y with | .non => true | _ => false
  | .bl a, y => match y with | .bl b => a == b | .int j => b2n a == j | _ => false
  | .int i, y => match y with | .int j => i == j | .bl b => i == b2n b | _ => false
  | .str s, y => match y with | .str t => s == t | _ => false
  | .tup xs, y => match y with | .tup ys => eqvL xs ys | _ => false
  | .lst xs, y => match y with | .lst ys => eqvL xs ys | _ => false
  | .dct _ _, _ => false
  | .dcn _, _ => false
  | .exc _ _, _ => false
  | .scr _, _ => false
def eqvL : List D → List D → Bool
  | [], ys => ys.isEmpty
  | x :: xs, ys => match ys with | [] => false | y :: ys => D.eqv x y && eqvL xs ys
end

def isLeaf : D → Bool
  | .int _ => true
  | .str _ => true
  | _ => false
def isKeyT : D → Bool
  | .tup xs => xs.all isLeaf
  | _ => false
mutual
def isKN : D → Nat → Bool
  | .int _, _ => true
  | .str _, _ => true
  | .tup xs, n => match n with | 0 => false | n + 1 => isKNL xs n
  | _, _ => false
def isKNL : List D → Nat → Bool
  | [], _ => true
  | d :: ds, n => isKN d n && isKNL ds n
end
def keyNOk : D → Bool
  | .tup xs => isKNL xs 7
  | _ => false
def keyOk (t : Bool) (k : D) : Bool := if t then isKeyT k else isLeaf k
def dlook : List D → D → Option D
  | [], _ => none
  | e :: es, k => match e with
    | .tup [k', v] => if k'.eqv k then some v else dlook es k
    | _ => dlook es k
def drepl : List D → D → D → List D
  | [], _, _ => []
  | e :: es, k, v => match e with
    | .tup [k', _] => if k'.eqv k then .tup [k', v] :: drepl es k v else e :: drepl es k v
    | _ => e :: drepl es k v
def dput (es : List D) (k v : D) : List D := if (dlook es k).isSome then drepl es k v else es ++ [.tup [k, v]]
def dkeys : List D → List D
  | [] => []
  | e :: es => match e with
    | .tup [k, _] => k :: dkeys es
    | _ => dkeys es

def lim : Nat := 16777216
inductive Bop | add | sub | mul | fdiv | mod | pow | shr
  deriving DecidableEq
inductive Cop | eq | ne | lt | le | gt | ge | isN | notN | isin | notin | eqd | ned
  deriving DecidableEq

def smallF (i j : Int) : Bool := (decide (-(2 ^ 64) < i) && decide (i < 2 ^ 64)) || (decide (-(2 ^ 64) < j) && decide (j < 2 ^ 64))
def binD : Bop → D → D → R D
  | .add, .int i, .int j => .ok (.int (i + j))
  | .add, .str s, .str t => if s.length + t.length ≤ lim then .ok (.str (s ++ t)) else .stk
  | .add, .lst xs, .lst ys => if xs.length + ys.length ≤ lim then .ok (.lst (xs ++ ys)) else .stk
  | .sub, .int i, .int j => .ok (.int (i - j))
  | .mul, .int i, .int j => if smallF i j then .ok (.int (i * j)) else .stk
  | .mul, .lst xs, .int k => if decide (-(2 ^ 63) ≤ k) && decide (k < 2 ^ 63) && decide (xs.length * k.toNat ≤ lim) then .ok (.lst (List.replicate k.toNat xs).flatten) else .stk
  | .mul, .str s, .int k => if decide (-(2 ^ 63) ≤ k) && decide (k < 2 ^ 63) && decide (s.length * k.toNat ≤ lim) then .ok (.str (List.replicate k.toNat s).flatten) else .stk
  | .fdiv, .int i, .int j => if decide (0 < j) && decide (j < 1073741824) then .ok (.int (i / j)) else .stk
  | .mod, .int i, .int j => if 0 < j then .ok (.int (i % j)) else .stk
  | .pow, .int i, .int j => if decide (0 ≤ j) && decide (j ≤ 1000000) && decide (i.natAbs < 2 ^ 64) then .ok (.int (i ^ j.toNat)) else .stk
  | .shr, .int i, .int j => if 0 ≤ j then .ok (.int (i / 2 ^ j.toNat)) else .stk
  | _, _, _ => .stk
def dsame (xs ys : List D) : Bool := xs.length == ys.length && xs.all fun e => match e with
  | .tup [k, v] => match dlook ys k with | some u => v.eqv u | none => false
  | _ => false
def eqD (a b : D) : R Bool :=
  if a.plain && b.plain then .ok (a.eqv b) else .stk
def inD (a b : D) : R Bool :=
  match b with
  | .dct t es => if keyOk t a then .ok (dlook es a).isSome else .stk
  | .dcn es => if keyNOk a then .ok (dlook es a).isSome else .stk
  | .lst xs => if a.plain && plainL xs then .ok (xs.any fun x => x.eqv a) else .stk
  | .tup xs => if a.plain && plainL xs then .ok (xs.any fun x => x.eqv a) else .stk
  | .str t => match a with
    | .str [c] => .ok (t.contains c)
    | _ => .stk
  | _ => .stk
def isNon : D → Bool
  | .non => true
  | _ => false
def leafV (es : List D) : Bool := es.all fun e => match e with | .tup [_, v] => isLeaf v | _ => false
def cmpD : Cop → D → D → R D
  | .eq, a, b => do let r ← eqD a b; pure (.bl r)
  | .ne, a, b => do let r ← eqD a b; pure (.bl (!r))
  | .lt, .int i, .int j => .ok (.bl (decide (i < j)))
  | .le, .int i, .int j => .ok (.bl (decide (i ≤ j)))
  | .gt, .int i, .int j => .ok (.bl (decide (j < i)))
  | .ge, .int i, .int j => .ok (.bl (decide (j ≤ i)))
  | .isN, a, .non => .ok (.bl (isNon a))
  | .notN, a, .non => .ok (.bl (!isNon a))
  | .isin, a, b => do let r ← inD a b; pure (.bl r)
  | .notin, a, b => do let r ← inD a b; pure (.bl (!r))
  | .eqd, .dct false xs, .dct false ys => if leafV xs && leafV ys then .ok (.bl (dsame xs ys)) else .stk
  | .ned, .dct false xs, .dct false ys => if leafV xs && leafV ys then .ok (.bl (!dsame xs ys)) else .stk
  | _, _, _ => .stk
def ixOf (n : Nat) (i : Int) : Option Nat := if 0 ≤ i then (if i < n then some i.toNat else none) else if -(n : Int) ≤ i then some (i + n).toNat else none
def ofOpt {α : Type} : Option α → R α
  | some a => .ok a
  | none => .stk
def atD {α : Type} (xs : List α) (i : Int) : R α := ofOpt ((ixOf xs.length i).bind fun j => xs[j]?)
def idxD (a i : D) : R D :=
  match a with
  | .lst xs => match i with | .int k => atD xs k | _ => .stk
  | .tup xs => match i with | .int k => atD xs k | _ => .stk
  | .str s => match i with | .int k => if s.length ≤ lim then (do let c ← atD s k; pure (.str [c])) else .stk | _ => .stk
  | .dct t es => if keyOk t i then ofOpt (dlook es i) else .stk
  | .dcn es => if keyNOk i then ofOpt (dlook es i) else .stk
  | .scr ns => match i with | .int k => (do let n ← atD ns k; pure (.int n)) | _ => .stk
  | _ => .stk
def slB (n d : Nat) : Option Int → Nat
  | none => d
  | some v => if v < 0 then (v + (n : Int)).toNat else min v.toNat n
def cutL {α : Type} (xs : List α) (lo hi : Option Int) : List α := (xs.drop (slB xs.length 0 lo)).take (slB xs.length xs.length hi - slB xs.length 0 lo)
def slcD (a : D) (lo hi : Option Int) : R D :=
  match a with
  | .lst xs => .ok (.lst (cutL xs lo hi))
  | .tup xs => if slB xs.length 0 lo = 0 ∧ slB xs.length xs.length hi = xs.length then .stk else .ok (.tup (cutL xs lo hi))
  | .scr ns => .ok (.lst ((cutL ns lo hi).map .int))
  | .str s => if s.length ≤ lim then .ok (.str (cutL s lo hi)) else .stk
  | _ => .stk
def slcSD (a : D) (lo hi st : Option Int) : R D :=
  match a with
  | .scr ns => if st = some 0 then .stk else .ok (.lst ((PyProof.Rows.pickNums ns lo hi st).map .int))
  | _ => .stk
def revD (a : D) : R D :=
  match a with
  | .lst xs => .ok (.lst xs.reverse)
  | .str s => if s.length ≤ lim then .ok (.str s.reverse) else .stk
  | _ => .stk

def wle : W → W → Bool
  | [], _ => true
  | _ :: _, [] => false
  | a :: as, b :: bs => if a = b then wle as bs else decide (a < b)
mutual
def D.le : D → D → Bool
  | .int i, y => match y with | .int j => decide (i ≤ j) | _ => false
  | .str s, y => match y with | .str t => wle s t | _ => false
  | .tup xs, y => match y with | .tup ys => leL xs ys | _ => false
  | .lst xs, y => match y with | .lst ys => leL xs ys | _ => false
  | _, _ => false
def leL : List D → List D → Bool
  | [], _ => true
  | x :: xs, ys => match ys with
    | [] => false
    | y :: ys => if D.eqv x y then leL xs ys else D.le x y
end
inductive Sh | int | str | tup (ss : List Sh) | rows (s : Sh)
mutual
def Sh.has : Sh → D → Bool
  | .int, d => match d with | .int _ => true | _ => false
  | .str, d => match d with | .str _ => true | _ => false
  | .tup ss, d => match d with | .tup xs => hasL ss xs | _ => false
  | .rows s, d => match d with | .lst xs => hasA s xs | _ => false
def Sh.hasL : List Sh → List D → Bool
  | [], ds => ds.isEmpty
  | s :: ss, ds => match ds with | [] => false | d :: ds => Sh.has s d && Sh.hasL ss ds
def Sh.hasA : Sh → List D → Bool
  | _, [] => true
  | s, d :: ds => Sh.has s d && Sh.hasA s ds
end
def insD (x : D) : List D → List D
  | [] => [x]
  | y :: ys => if x.le y then x :: y :: ys else y :: insD x ys
def sortL : List D → List D
  | [] => []
  | x :: xs => insD x (sortL xs)
def insW (x : W) : List W → List W
  | [] => [x]
  | y :: ys => if wle x y then x :: y :: ys else y :: insW x ys
def sortW : List W → List W
  | [] => []
  | x :: xs => insW x (sortW xs)
def dedup : List D → List D
  | [] => []
  | x :: xs => if (dedup xs).any (fun y => y.eqv x) then dedup xs else x :: dedup xs
def minL : List D → R D
  | [] => .stk
  | x :: xs => match x with
    | .int _ => if (x :: xs).all Sh.int.has then .ok (xs.foldl (fun m y => if m.le y then m else y) x) else .stk
    | .str _ => if (x :: xs).all Sh.str.has then .ok (xs.foldl (fun m y => if m.le y then m else y) x) else .stk
    | _ => .stk
def maxL : List D → R D
  | [] => .stk
  | x :: xs => match x with
    | .int _ => if (x :: xs).all Sh.int.has then .ok (xs.foldl (fun m y => if y.le m then m else y) x) else .stk
    | .str _ => if (x :: xs).all Sh.str.has then .ok (xs.foldl (fun m y => if y.le m then m else y) x) else .stk
    | _ => .stk

inductive Cls | int | str | bool | list | tuple | valueError | own (c : Nat)
  deriving DecidableEq
inductive Blt | len | min1 | max1 | min2 | max2 | sorted | list | dict | lenSet | sortedSet | toInt | toStr | isi (cs : List Cls) | sum | tuple | listRange | keysL | isx (k : Option Nat) | sortedW | dictL | sortedN | lenSetS | listL | lenSetT
  deriving DecidableEq
inductive Mth | get1 | get2 | index | startswith | join | split | strip | sindex
  deriving DecidableEq
abbrev Sub := Nat → Nat → Bool
def isiD (sub : Sub) : D → Cls → Bool
  | .int _, .int => true
  | .bl _, .int => true
  | .bl _, .bool => true
  | .str _, .str => true
  | .lst _, .list => true
  | .tup _, .tuple => true
  | .exc _ _, .valueError => true
  | .exc c _, .own k => sub c k
  | _, _ => false
def isiOk : D → Bool
  | .dct _ _ => false
  | .dcn _ => false
  | .exc _ _ => false
  | .scr _ => false
  | _ => true
def getInts : List D → Option (List Int)
  | [] => some []
  | .int i :: ds => (getInts ds).map (i :: ·)
  | _ :: _ => none
def getStrs : List D → Option (List W)
  | [] => some []
  | .str i :: ds => (getStrs ds).map (i :: ·)
  | _ :: _ => none
def pairsIn : List D → List D → R (List D)
  | acc, [] => .ok acc
  | acc, e :: es => match e with
    | .tup [k, v] => if isLeaf k then pairsIn (dput acc k v) es else .stk
    | _ => .stk
def upto (lo : Int) : Nat → List D
  | 0 => []
  | n + 1 => .int lo :: upto (lo + 1) n
def isStrD : D → Bool
  | .str _ => true
  | _ => false
def tupShape : D → Option (List Bool)
  | .tup xs => if xs.all isLeaf && !xs.isEmpty then some (xs.map isStrD) else none
  | _ => none
def sortedT (xs : List D) : R D :=
  match xs with
  | [] => .ok (.lst [])
  | x :: _ => match tupShape x with
    | some sh => if xs.all (fun y => tupShape y == some sh) && decide (xs.length ≤ lim) then .ok (.lst (sortL xs)) else .stk
    | none => .stk
def insI (x : Int) : List Int → List Int
  | [] => [x]
  | y :: ys => if x < y then x :: y :: ys else if x = y then y :: ys else y :: insI x ys
def sortI : List Int → List Int
  | [] => []
  | x :: xs => insI x (sortI xs)
def insN (x : Int) : List Int → List Int
  | [] => [x]
  | y :: ys => if x ≤ y then x :: y :: ys else y :: insN x ys
def sortN : List Int → List Int
  | [] => []
  | x :: xs => insN x (sortN xs)
def bltD (sub : Sub) : Blt → List D → R D
  | .len, [.str s] => if s.length ≤ lim then .ok (.int s.length) else .stk
  | .len, [.lst xs] => .ok (.int xs.length)
  | .len, [.tup xs] => .ok (.int xs.length)
  | .len, [.dct _ es] => .ok (.int es.length)
  | .len, [.scr ns] => .ok (.int ns.length)
  | .min1, [.lst xs] => minL xs
  | .max1, [.lst xs] => maxL xs
  | .min2, [.int i, .int j] => .ok (.int (if j < i then j else i))
  | .max2, [.int i, .int j] => .ok (.int (if j > i then j else i))
  | .sorted, [.lst xs] => sortedT xs
  | .list, [.lst xs] => .ok (.lst xs)
  | .listL, [.lst xs] => if noMutL xs then .ok (.lst xs) else .stk
  | .list, [.tup xs] => .ok (.lst xs)
  | .list, [.dct _ es] => .ok (.lst (dkeys es))
  | .keysL, [.dct _ es] => .ok (.lst (dkeys es))
  | .tuple, [.lst xs] => .ok (.tup xs)
  | .tuple, [.tup xs] => .ok (.tup xs)
  | .dict, [.dct false es] => .ok (.dct false es)
  | .dictL, [.dct false es] => if leafV es then .ok (.dct false es) else .stk
  | .dict, [.lst xs] => do let es ← pairsIn [] xs; pure (.dct false es)
  | .lenSet, [.lst xs] => if decide (xs.length < 1200) && (xs.all isKeyT || (getInts xs).isSome) then .ok (.int (dedup xs).length) else .stk
  | .lenSetS, [.lst xs] => (match getStrs xs with | some ws => if ws.length < 64 then .ok (.int (dedup xs).length) else .stk | none => .stk)
  | .sortedSet, [.lst xs] => (match getInts xs with | some ns => if ns.length < 64 then .ok (.lst ((sortI ns).map .int)) else .stk | none => .stk)
  | .toInt, [.int i] => .ok (.int i)
  | .toInt, [.bl b] => .ok (.int (b2n b))
  | .toStr, [.int i] => if decide (0 ≤ i) && decide (i < 10000000000) then .ok (.str (TL.numL i.toNat)) else .stk
  | .toInt, [.str s] => if s.all (fun c => decide (48 ≤ c) && decide (c ≤ 57)) && !s.isEmpty && decide (s.length ≤ 640) then .ok (.int (PySem.NumText.digitsVal s : Nat)) else .stk
  | .lenSetT, [.str s] => if s.length < 4000 then .ok (.int (dedup (s.map fun c => .str [c])).length) else .stk
  | .isi cs, [d] => if isiOk d then .ok (.bl (cs.any (isiD sub d))) else .stk
  | .isx k, [.exc c _] => if sub c c then .ok (.bl (match k with | none => true | some k => sub c k)) else .stk
  | .isx _, [.non] => .ok (.bl false)
  | .sortedW, [.lst xs] => (match getStrs xs with | some ws => if ws.length ≤ lim then .ok (.lst ((sortW ws).map .str)) else .stk | none => .stk)
  | .sortedN, [.lst xs] => (match getInts xs with | some ns => if ns.length < 64 then .ok (.lst ((sortN ns).map .int)) else .stk | none => .stk)
  | .sortedW, [.dct false es] => (match getStrs (dkeys es) with | some ws => if ws.length ≤ lim then .ok (.lst ((sortW ws).map .str)) else .stk | none => .stk)
  | .sum, [.lst xs] => match getInts xs with | some ns => .ok (.int ns.sum) | none => .stk
  | .listRange, [.int n] => if decide (-(2 ^ 62) ≤ n) && decide (n ≤ 16777216) then .ok (.lst (upto 0 n.toNat)) else .stk
  | _, _ => .stk
def fldIx : Nat → Nat → Option Nat
  | 7, 0 => some 0
  | 8, 1 => some 0
  | 8, 2 => some 1
  | _, _ => none
def fldD (sub : Sub) (n : Nat) : D → R D
  | .exc c ps => if sub c c then (match fldIx c n with | some j => ofOpt ps[j]? | none => .stk) else .stk
  | _ => .stk
def begins : W → W → Bool
  | [], _ => true
  | _ :: _, [] => false
  | a :: as, b :: bs => a == b && begins as bs
def joinW (s : W) : List W → W
  | [] => []
  | [w] => w
  | w :: v :: r => w ++ s ++ joinW s (v :: r)
def cutAt (c : Nat) : W → W → List W
  | acc, [] => [acc]
  | acc, x :: xs => if x = c then acc :: cutAt c [] xs else cutAt c (acc ++ [x]) xs
def indexL : List D → D → Option Nat
  | [], _ => none
  | x :: xs, y => if x.eqv y then some 0 else (indexL xs y).map (· + 1)
def idxI : List Int → Int → Option Nat
  | [], _ => none
  | x :: xs, y => if x = y then some 0 else (idxI xs y).map (· + 1)
def idxW : W → Nat → Option Nat
  | [], _ => none
  | x :: xs, y => if x = y then some 0 else (idxW xs y).map (· + 1)
def methD : Mth → D → List D → R D
  | .get1, .dct t es, [k] => if keyOk t k then .ok ((dlook es k).getD .non) else .stk
  | .get2, .dct t es, [k, x] => if keyOk t k then .ok ((dlook es k).getD x) else .stk
  | .index, .lst xs, [y] => match y, getInts xs with
    | .int i, some ns => (match idxI ns i with | some j => .ok (.int j) | none => .stk)
    | _, _ => if y.plain && plainL xs then (match indexL xs y with | some j => .ok (.int j) | none => .stk) else .stk
  | .startswith, .str a, [.str b] => .ok (.bl (begins b a))
  | .sindex, .str a, [.str [c]] => (match idxW a c with | some j => .ok (.int j) | none => .stk)
  | .join, .str s, [.lst xs] => match getStrs xs with | some ws => if (ws.map (fun w => w.length + s.length)).sum ≤ lim then .ok (.str (joinW s ws)) else .stk | none => .stk
  | .strip, .str a, [.str [c]] => if decide (a = [c]) then .ok (.str []) else if !a.contains c && decide (a.length ≤ lim) then .ok (.str a) else .stk
  | .split, .str a, [.str [c]] => if decide (a.length + 2 ≤ lim) && decide (c < 128) then .ok (.lst ((cutAt c [] a).map .str)) else .stk
  | _, _, _ => .stk

inductive ItK | val | keys | range1 | range2 | range3 | enum | zip | items | enumS
  deriving DecidableEq
inductive E where
  | slot (i : Nat) | cint (i : Int) | cstr (s : W) | cbl (b : Bool) | cnon
  | bin (op : Bop) (a b : E) | neg (a : E) | cmp (op : Cop) (a b : E)
  | not (a : E) | and (a b : E) | or (a b : E) | ite (c a b : E)
  | idx (a i : E) | slcA (a : E) | slcL (a l : E) | slcH (a h : E) | slcB (a l h : E) | slcR (a : E)
  | tup (es : List E) | lst (es : List E) | dnew (t : Bool) (es : List E)
  | call (f : Nat) (es : List E) | blt (b : Blt) (es : List E) | meth (m : Mth) (a : E) (es : List E)
  | comp (fl : Bool) (tg : List Nat) (t : Bool) (k : ItK) (its : List E) (elt : E) (cs : List E)
  | flat (e : E)
  | nox (e : E)
  | getD (a k d : E)
  | dnT (k : E)
  | dnN
  | slcS (a l h k : E)
  | fld (n : Nat) (a : E)

abbrev Rho := List (Option D)
def Rho.get (ρ : Rho) (i : Nat) : R D := match ρ[i]? with | some (some d) => .ok d | _ => .stk
def Rho.put (ρ : Rho) (i : Nat) (d : D) : Rho := ρ.set i (some d)
def wipeE (ρ : Rho) : List Nat → Rho
  | [] => ρ
  | v :: vs => (wipeE ρ vs).set v none
def putAll : Rho → List Nat → List D → R Rho
  | ρ, [], [] => .ok ρ
  | ρ, i :: is, d :: ds => putAll (ρ.put i d) is ds
  | _, _, _ => .stk
def bindTg (t : Bool) (tg : List Nat) (d : D) (ρ : Rho) : R Rho :=
  if t then (match d with | .tup ds => putAll ρ tg ds | .lst ds => putAll ρ tg ds | _ => .stk) else (match tg with | [i] => .ok (ρ.put i d) | _ => .stk)
def enumL (n : Int) : List D → List D
  | [] => []
  | d :: ds => .tup [.int n, d] :: enumL (n + 1) ds
def zipD : List D → List D → List D
  | a :: as, b :: bs => .tup [a, b] :: zipD as bs
  | _, _ => []
def downto (lo : Int) : Nat → List D
  | 0 => []
  | n + 1 => .int lo :: downto (lo - 1) n
def small62 (i : Int) : Bool := decide (-(2 ^ 62) ≤ i) && decide (i < 2 ^ 62)
def itD : ItK → List D → R (List D)
  | .val, [.lst xs] => .ok xs
  | .val, [.tup xs] => .ok xs
  | .val, [.str s] => .ok (s.map fun c => .str [c])
  | .keys, [.dct _ es] => .ok (dkeys es)
  | .range1, [.int n] => if small62 n then .ok (upto 0 n.toNat) else .stk
  | .range2, [.int a, .int b] => if small62 a && small62 b then .ok (upto a (b - a).toNat) else .stk
  | .range3, [.int a, .int b, .int c] => if small62 a && small62 b && decide (c = -1) then .ok (downto a (a - b).toNat) else .stk
  | .enum, [.lst xs] => .ok (enumL 0 xs)
  | .enumS, [.str s] => .ok (enumL 0 (s.map fun c => .str [c]))
  | .zip, [.lst xs, .lst ys] => .ok (zipD xs ys)
  | .zip, [.tup xs, .lst ys] => .ok (zipD xs ys)
  | .items, [.dct _ es] => .ok es
  | _, _ => .stk
def isTrueD : D → R Bool
  | .bl b => .ok b
  | _ => .stk
def bindFl (fl t : Bool) (tg : List Nat) (d : D) (ρ : Rho) : R Rho := if fl && !d.noMut then .stk else bindTg t tg d ρ
def compL (elt : Rho → R D) (keep : Rho → R Bool) (bd : D → R Rho) : List D → R (List D)
  | [] => .ok []
  | d :: ds => do
    let ρ' ← bd d
    let b ← keep ρ'
    if b then do
      let y ← elt ρ'
      let ys ← compL elt keep bd ds
      pure (y :: ys)
    else compL elt keep bd ds
def pairUp (t : Bool) : List D → List D → R (List D)
  | acc, [] => .ok acc
  | acc, k :: r => match r with
    | v :: r => if keyOk t k then pairUp t (dput acc k v) r else .stk
    | [] => .stk
abbrev Gam := Nat → List D → R (D × List D)
def noExn {α : Type} : R α → R α
  | .exn _ _ => .stk
  | r => r
def oneI : D → R (Option Int)
  | .int i => .ok (some i)
  | _ => .stk
section
variable (sub : Sub) (G : Gam)
mutual
def ev : E → Rho → R D
  | .slot i, ρ => ρ.get i
  | .cint i, _ => .ok (.int i)
  | .cstr s, _ => .ok (.str s)
  | .cbl b, _ => .ok (.bl b)
  | .cnon, _ => .ok .non
  | .bin op a b, ρ => do let x ← ev a ρ; let y ← ev b ρ; binD op x y
  | .neg a, ρ => do let x ← ev a ρ; (match x with | .int i => .ok (.int (-i)) | _ => .stk)
  | .cmp op a b, ρ => do let x ← ev a ρ; let y ← ev b ρ; cmpD op x y
  | .not a, ρ => do let x ← ev a ρ; let b ← isTrueD x; pure (.bl (!b))
  | .and a b, ρ => do let x ← ev a ρ; let c ← isTrueD x; if c then (do let y ← ev b ρ; let d ← isTrueD y; pure (.bl d)) else pure (.bl false)
  | .or a b, ρ => do let x ← ev a ρ; let c ← isTrueD x; if c then pure (.bl true) else (do let y ← ev b ρ; let d ← isTrueD y; pure (.bl d))
  | .ite c a b, ρ => do let x ← ev c ρ; let c ← isTrueD x; if c then ev a ρ else ev b ρ
  | .idx a i, ρ => do let x ← ev a ρ; let y ← ev i ρ; idxD x y
  | .slcA a, ρ => do let x ← ev a ρ; let l ← R.ok none; let h ← R.ok none; slcD x l h
  | .slcL a l, ρ => do let x ← ev a ρ; let l ← (ev l ρ >>= oneI); let h ← R.ok none; slcD x l h
  | .slcH a h, ρ => do let x ← ev a ρ; let l ← R.ok none; let h ← (ev h ρ >>= oneI); slcD x l h
  | .slcB a l h, ρ => do let x ← ev a ρ; let l ← (ev l ρ >>= oneI); let h ← (ev h ρ >>= oneI); slcD x l h
  | .slcR a, ρ => do let x ← ev a ρ; revD x
  | .tup es, ρ => do let xs ← evs es ρ; pure (.tup xs)
  | .lst es, ρ => do let xs ← evs es ρ; pure (.lst xs)
  | .dnew t es, ρ => do let xs ← evs es ρ; let r ← pairUp t [] xs; pure (.dct t r)
  | .call f es, ρ => do let xs ← evs es ρ; let r ← G f xs; pure r.1
  | .blt b es, ρ => do let xs ← evs es ρ; bltD sub b xs
  | .meth m a es, ρ => do let x ← ev a ρ; let xs ← evs es ρ; methD m x xs
  | .comp fl tg t k its elt cs, ρ => do
    let xs ← evs its ρ
    let ds ← itD k xs
    let ys ← noExn (compL (fun r => ev elt r) (fun r => evc cs r) (fun d => bindFl fl t tg d (wipeE ρ tg)) ds)
    if ys.length ≤ lim then pure (.lst ys) else .stk
  | .flat e, ρ => do let x ← ev e ρ; if x.noMut then pure x else .stk
  | .nox e, ρ => noExn (ev e ρ)
  | .slcS a l h k, ρ => do let x ← ev a ρ; let l ← (ev l ρ >>= oneI); let h ← (ev h ρ >>= oneI); let k ← (ev k ρ >>= oneI); slcSD x l h k
  | .getD a k d, ρ => do let x ← ev a ρ; let y ← ev k ρ; let z ← ev d ρ; methD .get2 x [y, z]
  | .dnT k, ρ => do let x ← ev k ρ; let r ← pairUp true [] [x, .bl true]; pure (.dct true r)
  | .dnN, _ => .ok (.dcn [])
  | .fld n a, ρ => do let x ← ev a ρ; fldD sub n x
def evs : List E → Rho → R (List D)
  | [], _ => .ok []
  | e :: es, ρ => do let x ← ev e ρ; let xs ← evs es ρ; pure (x :: xs)
def evc : List E → Rho → R Bool
  | [], _ => .ok true
  | e :: es, ρ => do let x ← ev e ρ; let b ← isTrueD x; if b then evc es ρ else .ok false
end
end

inductive Mt | append | insert | clear | pop0 | pop1 | extend
  deriving DecidableEq
inductive OT where
  | fr | ow (t : OT) | tp (ts : List OT)
def OT.comps : OT → Nat → OT
  | .tp ts, i => ts.getD i .fr
  | .ow t, _ => t
  | .fr, _ => .fr
def OT.elem : OT → OT
  | .ow t => t
  | _ => .fr
mutual
def D.ownAt : D → OT → Bool
  | .tup xs, t => ownAtL xs t.comps
  | .lst xs, t => match t with | .ow u => ownAtL xs (fun _ => u) | _ => false
  | .dct _ _, _ => false
  | .dcn _, _ => false
  | .exc _ _, _ => false
  | .scr _, _ => true
  | .non, _ => true
  | .bl _, _ => true
  | .int _, _ => true
  | .str _, _ => true
def ownAtL : List D → (Nat → OT) → Bool
  | [], _ => true
  | d :: ds, f => D.ownAt d (f 0) && ownAtL ds (fun n => f (n + 1))
end
structure Hx where
  k : Nat
  i : Nat
  j : Nat
  cs : List (Nat × W)
def isDct : D → Bool
  | .dct _ _ => true
  | _ => false
def dctAt : List OT → List D → Bool
  | t :: ts, d :: ds => (match t with | .fr => true | _ => isDct d) && dctAt ts ds
  | [], ds => ds.isEmpty
  | _, [] => true
def otAt (ts : List OT) : Nat → OT := fun i => ts.getD i .fr
def callC (G : List D → R (D × List D)) (ts : List OT) (xs : List D) : R D := if dctAt ts xs then (do let r ← G xs; if r.1.plain then pure r.1 else .stk) else .stk
def callO (G : List D → R (D × List D)) (ts : List OT) (t : OT) (xs : List D) : R D := if dctAt ts xs then (do let r ← G xs; if r.1.ownAt t then pure r.1 else .stk) else .stk
def wayD : D → Bool
  | .tup [.int _, .lst _, .int _] => true
  | _ => false
def twoD : D → Bool
  | .tup [a, b] => wayD a && wayD b
  | _ => false
inductive S where
  | pass
  | stop
  | frz (i : Nat)
  | asg (i : Nat) (t : OT) (e : E)
  | asgF (i : Nat) (t : OT) (e : E)
  | asgT (is : List Nat) (e : E)
  | asgO (is : List Nat) (ts : List OT) (e : E)
  | inc (i : Nat) (e : E)
  | app (i : Nat) (e : E)
  | put (i : Nat) (path : List E) (k v : E)
  | mut (i : Nat) (path : List E) (m : Mt) (args : List E)
  | putL (i : Nat) (path : List E) (k v : E)
  | putF (i : Nat) (t : OT) (path : List E) (k v : E)
  | lstMv (i j : Nat)
  | putP (i : Nat) (path : List E) (k v : E)
  | pop (j i : Nat) (path : List E) (args : List E)
  | setd (i : Nat) (k v : E)
  | asgC (i : Nat) (ts : List OT) (f : Nat) (es : List E)
  | asgCO (i : Nat) (t : OT) (ts : List OT) (f : Nat) (es : List E)
  | clrW (i x : Nat)
  | swp (i : Nat) (a b : E)
  | dapp (i : Nat) (k v : E)
  | asgD (i j : Nat) (es : List E) (ks : List W)
  | drop (e : E)
  | iff (c : E) (a b : List S)
  | whl (c : E) (b : List S)
  | frh (t : Bool) (tg : List Nat) (fl : Bool) (k : ItK) (its : List E) (b : List S)
  | frd (t : Bool) (tg : List Nat) (k : ItK) (e : E) (b : List S)
  | ret (e : E) | retN
  | raise (c : Nat) (es : List E)
  | tryX (b : List S) (hs : List Hx)
  | tryO (b : List S) (hs : List Hx) (ks : List Nat)
  | callM (f : Nat) (es : List E) (i : Nat)
  | callP (j k f : Nat) (es : List E) (i : Nat)
  | raiseF (c : Nat) (ts : List OT) (es : List E)
  | tryB (b : List S) (ks : List Nat) (k j : Nat) (v : Bool)

inductive Out where
  | next (ρ : Rho) | ret (d : D) (ρ : Rho) | exn (c : Nat) (ps : List D) (ρ : Rho) | stk
def Out.ofR {α : Type} (ρ : Rho) (r : R α) (k : α → Out) : Out :=
  match r with
  | .ok a => k a
  | .exn c ps => .exn c ps ρ
  | .stk => .stk
@[simp] theorem ofR_ok {α : Type} (ρ : Rho) (a : α) (k : α → Out) : Out.ofR ρ (.ok a) k = k a := rfl
@[simp] theorem ofR_stk {α : Type} (ρ : Rho) (k : α → Out) : Out.ofR ρ (.stk : R α) k = .stk := rfl
@[simp] theorem ofR_exn {α : Type} (ρ : Rho) (c : Nat) (ps : List D) (k : α → Out) : Out.ofR ρ (.exn c ps : R α) k = .exn c ps ρ := rfl

def noX : Out → Out
  | .exn _ _ _ => .stk
  | o => o

def whileN (c : Rho → R Bool) (b : Rho → Out) : Nat → Rho → Option Out
  | 0, _ => none
  | n + 1, ρ => match c ρ with
    | .ok true => (match b ρ with
      | .next ρ' => whileN c b n ρ'
      | o => some o)
    | .ok false => some (.next ρ)
    | .exn c ps => some (.exn c ps ρ)
    | .stk => some .stk
open Classical in
noncomputable def whileR (c : Rho → R Bool) (b : Rho → Out) (ρ : Rho) : Out :=
  if h : ∃ o, ∃ n, whileN c b n ρ = some o then choose h else .stk
def forR (f : D → Rho → R Rho) (b : Rho → Out) : List D → Rho → Out
  | [], ρ => .next ρ
  | d :: ds, ρ => Out.ofR ρ (f d ρ) fun ρ1 => match b ρ1 with
    | .next ρ2 => forR f b ds ρ2
    | o => o
def updAt (f : D → R D) : List D → D → R D
  | [], d => f d
  | i :: is, d => match d with
    | .lst xs => (match i with
      | .int k => (match ixOf xs.length k with
        | some j => (match xs[j]? with
          | some x => do let y ← updAt f is x; pure (.lst (xs.set j y))
          | none => .stk)
        | none => .stk)
      | _ => .stk)
    | .tup xs => (match i with
      | .int k => (match ixOf xs.length k with
        | some j => (match xs[j]? with
          | some x => do let y ← updAt f is x; pure (.tup (xs.set j y))
          | none => .stk)
        | none => .stk)
      | _ => .stk)
    | _ => .stk
def stepD : D → D → R D
  | .lst xs, .int k => atD xs k
  | .tup xs, .int k => atD xs k
  | _, _ => .stk
def atPath : List D → D → R D
  | [], d => .ok d
  | i :: is, d => do let x ← stepD d i; atPath is x
def putD (k v : D) : D → R D
  | .lst xs => match k with
    | .int i => (match ixOf xs.length i with | some j => .ok (.lst (xs.set j v)) | none => .stk)
    | _ => .stk
  | .dcn es => if keyNOk k && decide (es.length < lim) then .ok (.dcn (dput es k v)) else .stk
  | .dct t es => if keyOk t k && decide (es.length < lim) then .ok (.dct t (dput es k v)) else .stk
  | _ => .stk
def putDD (k v : D) : D → R D
  | .dct t es => if keyOk t k && decide (es.length < lim) then .ok (.dct t (dput es k v)) else .stk
  | _ => .stk
def setLD (k v : D) (xs : List D) : R (List D) := match k with
  | .int i => (match ixOf xs.length i with | some j => .ok (xs.set j v) | none => .stk)
  | _ => .stk
def setFn (k v : D) : D → R D := fun x => match x with | .lst xs => setLD k v xs >>= fun ys => .ok (.lst ys) | _ => .stk
def mutD : Mt → List D → D → R D
  | .append, [v], .lst xs => if xs.length < lim then .ok (.lst (xs ++ [v])) else .stk
  | .insert, [.int i, v], .lst xs => if decide (xs.length < lim) && decide (0 ≤ i) && small62 i then .ok (.lst (xs.take i.toNat ++ v :: xs.drop i.toNat)) else .stk
  | .clear, [], .lst _ => .ok (.lst [])
  | .pop0, [], .lst xs => if xs.isEmpty then .stk else .ok (.lst xs.dropLast)
  | .pop1, [.int i], .lst xs => if small62 i then (match ixOf xs.length i with | some j => .ok (.lst (xs.eraseIdx j)) | none => .stk) else .stk
  | .extend, [.lst ys], .lst xs => if xs.length + ys.length ≤ lim then .ok (.lst (xs ++ ys)) else .stk
  | _, _, _ => .stk
def popped : List D → D → R D
  | [], .lst xs => atD xs (-1)
  | [.int i], .lst xs => atD xs i
  | _, _ => .stk
def popM : List D → Mt
  | [] => .pop0
  | _ => .pop1
def dapp : List D → D → D → Option (List D)
  | [], _, _ => none
  | e :: es, k, v => match e with
    | .tup [k', u] => if k'.eqv k then (match u with | .lst xs => if xs.length < lim then some (.tup [k', .lst (xs ++ [v])] :: es) else none | _ => none) else (dapp es k v).map (e :: ·)
    | _ => none
def setd0 (kd : D) (es : List D) : R (List D) :=
  if isKeyT kd && decide (es.length < lim) then (match dlook es kd with
    | some (.lst _) => .ok es
    | some _ => .stk
    | none => .ok (es ++ [.tup [kd, .lst []]])) else .stk
def setd1 (kd : D) (as : List D) (es : List D) : R (List D) :=
  match as with
  | [v] => (match dapp es kd v with | some es' => .ok es' | none => .stk)
  | _ => .stk
def pairW (x : D) : R (W × W) := match x with | .tup [.str a, .str b] => .ok (a, b) | _ => .stk
def lstD (x : D) : R (List D) := match x with | .lst xs => .ok xs | _ => .stk
def look1 (kd : D) (es : List D) : R Bool := if isLeaf kd then (match dlook es kd with | some (.lst _) => .ok true | _ => .stk) else .stk
def partsD (ks : List W) (x : D) : R (List D) := match x with
  | .dct false es => if decide ks.Nodup then (ks.foldr (fun k r => r >>= fun ys => match dlook es (.str k) with | some (.lst y) => .ok (.lst y :: ys) | _ => .stk) (.ok [])) else .stk
  | _ => .stk
def lentD : List D → R D
  | [.lst xs] => .ok (.lst xs)
  | [.dct b es] => .ok (.dct b es)
  | [.dcn es] => .ok (.dcn es)
  | _ => .stk
def catD : D → D → R D
  | .lst xs, .lst ys => if xs.length + ys.length ≤ lim then .ok (.lst (xs ++ ys)) else .stk
  | _, _ => .stk
def Rho.del (ρ : Rho) (i : Nat) : Rho := ρ.set i none
def putC (ρ : Rho) (cs : List (Nat × W)) : Rho := cs.foldl (fun ρ p => ρ.put p.1 (.str p.2)) ρ
def catch1 (sub : Sub) (ρ : Rho) (c : Nat) (ps : List D) : List Hx → Out
  | [] => .exn c ps ρ
  | h :: r => if sub c h.k then .next (((putC (ρ.del h.i) h.cs).put h.j (.exc c ps)).del h.i) else catch1 sub ρ c ps r
def flatAt (ρ : Rho) (k : Nat) : Bool := match ρ[k]? with
  | some (some d) => d.noMut
  | _ => true
def keepO (ks : List Nat) (o : Out) : Out := match o with
  | .next ρ => if ks.all (flatAt ρ) then .next ρ else .stk
  | o => o
section
variable (sub : Sub) (G : Gam)
mutual
noncomputable def run : S → Rho → Out
  | .pass, ρ => .next ρ
  | .stop, _ => .stk
  | .frz _, ρ => .next ρ
  | .asg i _ e, ρ => .ofR ρ (ev sub G e ρ) fun d => .next (ρ.put i d)
  | .asgF i t e, ρ => .ofR ρ (ev sub G e ρ) fun d => if d.ownAt t then .next (ρ.put i d) else .stk
  | .asgT is e, ρ => .ofR ρ (ev sub G e ρ) fun d => match d with | .tup ds => .ofR ρ (putAll ρ is ds) .next | .lst ds => .ofR ρ (putAll ρ is ds) .next | _ => .stk
  | .asgO is _ e, ρ => .ofR ρ (ev sub G e ρ) fun d => match d with | .tup ds => .ofR ρ (putAll ρ is ds) .next | _ => .stk
  | .inc i e, ρ => .ofR ρ (ρ.get i) fun x => match x with | .int _ => .ofR ρ (ev sub G e ρ) fun y => (match y with | .int _ => .ofR ρ (binD .add x y) fun z => .next (ρ.put i z) | _ => .stk) | _ => .stk
  | .app i e, ρ => .ofR ρ (ρ.get i) fun x => match x with | .lst xs => .ofR ρ (ev sub G e ρ) fun y => (if xs.length < lim then .next (ρ.put i (.lst (xs ++ [y]))) else .stk) | _ => .stk
  | .put i path k v, ρ => .ofR ρ (ev sub G v ρ) fun y => .ofR ρ (ρ.get i) fun x => .ofR ρ (evs sub G path ρ) fun ps => .ofR ρ (ev sub G k ρ) fun kd => .ofR ρ (updAt (putD kd y) ps x) fun x' => .next (ρ.put i x')
  | .lstMv i j, ρ => .ofR ρ (ρ.get j) fun d => match d with
    | .tup ds => if decide (ds.length ≤ lim) then .next ((ρ.put i (.lst ds)).set j none) else .stk
    | _ => .stk
  | .putF i t path k v, ρ => .ofR ρ (ev sub G v ρ >>= fun d => if d.ownAt t then .ok d else .stk) fun y => .ofR ρ (ρ.get i) fun x => .ofR ρ (evs sub G path ρ) fun ps => .ofR ρ (atPath ps x) fun l => match l with
    | .lst _ => .ofR ρ (ev sub G k ρ) fun kd => .ofR ρ (updAt (setFn kd y) ps x) fun x' => .next (ρ.put i x')
    | _ => .stk
  | .putL i path k v, ρ => .ofR ρ (ev sub G v ρ) fun y => .ofR ρ (ρ.get i) fun x => .ofR ρ (evs sub G path ρ) fun ps => .ofR ρ (atPath ps x) fun l => match l with
    | .lst _ => .ofR ρ (ev sub G k ρ) fun kd => .ofR ρ (updAt (setFn kd y) ps x) fun x' => .next (ρ.put i x')
    | _ => .stk
  | .putP i path k v, ρ => .ofR ρ (ev sub G v ρ) fun y => .ofR ρ (ρ.get i) fun x => .ofR ρ (evs sub G path ρ) fun ps => .ofR ρ (atPath ps x) fun _ => .ofR ρ (ev sub G k ρ) fun kd => .ofR ρ (updAt (putDD kd y) ps x) fun x' => .next (ρ.put i x')
  | .mut i path m args, ρ => .ofR ρ (ρ.get i) fun x => .ofR ρ (evs sub G path ρ) fun ps => .ofR ρ (atPath ps x) fun y => match y with
    | .lst _ => .ofR ρ (evs sub G args ρ) fun as => .ofR ρ (updAt (mutD m as) ps x) fun x' => .next (ρ.put i x')
    | _ => .stk
  | .pop j i path args, ρ => .ofR ρ (ρ.get i) fun x => .ofR ρ (evs sub G path ρ) fun ps => .ofR ρ (evs sub G args ρ) fun as => .ofR ρ (atPath ps x) fun l => .ofR ρ (popped as l) fun y => .ofR ρ (updAt (mutD (popM as) as) ps x) fun x' => .next ((ρ.put i x').put j y)
  | .setd i k v, ρ => .ofR ρ (ρ.get i) fun x => match x with
    | .dct true es => .ofR ρ (ev sub G k ρ) fun kd => .ofR ρ (setd0 kd es) fun es1 => .ofR (ρ.put i (.dct true es1)) (evs sub G [v] (ρ.put i (.dct true es1))) fun as => .ofR (ρ.put i (.dct true es1)) (setd1 kd as es1) fun es2 => .next ((ρ.put i (.dct true es1)).put i (.dct true es2))
    | _ => .stk
  | .asgC i ts f es, ρ => .ofR ρ (do let xs ← evs sub G es ρ; callC (G f) ts xs) fun d => .next (ρ.put i d)
  | .clrW i x, ρ => .ofR ρ (ρ.get i) fun d => if twoD d && decide (x < ρ.length) then .next (wipeE ρ [i, x]) else .stk
  | .asgCO i t ts f es, ρ => .ofR ρ (do let xs ← evs sub G es ρ; callO (G f) ts t xs) fun d => .next (ρ.put i d)
  | .swp i a b, ρ => .ofR ρ (ev sub G (.tup [.idx (.slot i) b, .idx (.slot i) a]) ρ) fun v => .ofR ρ (pairW v) fun p => .ofR ρ (ρ.get i) fun x => .ofR ρ (lstD x) fun _ => .ofR ρ (ev sub G a ρ) fun k1 => .ofR ρ (setFn k1 (.str p.1) x) fun x1 =>
      .ofR (ρ.put i x1) ((ρ.put i x1).get i) fun x1 => .ofR (ρ.put i x1) (lstD x1) fun _ => .ofR (ρ.put i x1) (ev sub G b (ρ.put i x1)) fun k2 => .ofR (ρ.put i x1) (setFn k2 (.str p.2) x1) fun x2 => .next ((ρ.put i x1).put i x2)
  | .dapp i k v, ρ => .ofR ρ (ρ.get i) fun x => match x with
    | .dct false es => .ofR ρ (ev sub G k ρ) fun kd => .ofR ρ (look1 kd es) fun _ => .ofR ρ (evs sub G [v] ρ) fun as => .ofR ρ (setd1 kd as es) fun es2 => .next (ρ.put i (.dct false es2))
    | _ => .stk
  | .asgD i j es ks, ρ => .ofR ρ (evs sub G es ρ) fun xs => .ofR ρ (ρ.get j) fun x => .ofR ρ (partsD ks x) fun ys => if noMutL xs && i != j then .next ((wipeE ρ [j]).put i (.tup (xs ++ ys))) else .stk
  | .drop e, ρ => .ofR ρ (ev sub G e ρ) fun _ => .next ρ
  | .iff c a b, ρ => .ofR ρ (ev sub G c ρ) fun x => .ofR ρ (isTrueD x) fun t => if t then runs a ρ else runs b ρ
  | .whl c b, ρ => whileR (fun r => ev sub G c r >>= isTrueD) (fun r => runs b r) ρ
  | .frh t tg fl k its b, ρ => .ofR ρ (evs sub G its ρ) fun xs => .ofR ρ (itD k xs) fun ds => forR (fun d r => bindFl fl t tg d r) (fun r => runs b r) ds ρ
  | .frd t tg k e b, ρ => .ofR ρ (ev sub G e ρ) fun d => .ofR ρ (itD k [d]) fun ds => noX (forR (fun d r => bindFl false t tg d r) (fun r => runs b r) ds ρ)
  | .ret e, ρ => .ofR ρ (ev sub G e ρ) fun d => .ret d ρ
  | .retN, ρ => .ret .non ρ
  | .raise c es, ρ => .ofR ρ (evs sub G es ρ) fun ps => .exn c ps ρ
  | .raiseF c ts es, ρ => .ofR ρ (evs sub G es ρ) fun ps => if ownAtL ps (otAt ts) then .exn c ps ρ else .stk
  | .tryX b hs, ρ => match runs b ρ with
    | .exn c ps ρ' => if sub c c then catch1 sub ρ' c ps hs else .stk
    | o => o
  | .tryO b hs ks, ρ => match runs b ρ with
    | .exn c ps ρ' => if sub c c then keepO ks (catch1 sub ρ' c ps hs) else .stk
    | o => o
  | .tryB b ks k j v, ρ => match runs b ρ with
    | .exn c ps ρ' => if sub c c then (if sub c k then keepO ks (.next (ρ'.put j (.bl v))) else .exn c ps ρ') else .stk
    | o => o
  | .callM f es i, ρ => .ofR ρ (evs sub G es ρ) fun xs => .ofR (wipeE ρ [i]) (G f xs) fun r => .ofR ρ (lentD r.2) fun x => .next (ρ.put i x)
  | .callP j k f es i, ρ => .ofR ρ (ρ.get k) fun y => .ofR ρ (evs sub G es ρ) fun xs => .ofR (wipeE ρ [i]) (G f xs) fun r => .ofR ρ (lentD r.2) fun x => .ofR ρ (catD y r.1) fun z => if i != k then .next ((ρ.put i x).put j z) else .stk
noncomputable def runs : List S → Rho → Out
  | [], ρ => .next ρ
  | s :: ss, ρ => match run s ρ with
    | .next ρ' => runs ss ρ'
    | o => o
end
end

structure Def where
  nps : Nat
  nsl : Nat
  io : List Nat := []
  body : List S
def outs (io : List Nat) (ρ : Rho) : List D := io.map fun i => match ρ[i]? with | some (some d) => d | _ => .non
def entry (nsl : Nat) (xs : List D) : Rho := xs.map some ++ List.replicate (nsl - xs.length) none
noncomputable def runDef (sub : Sub) (G : Gam) (d : Def) (xs : List D) : R (D × List D) :=
  if xs.length = d.nps then
    match runs sub G d.body (entry d.nsl xs) with
    | .next ρ => .ok (.non, outs d.io ρ)
    | .ret v ρ => .ok (v, outs d.io ρ)
    | .exn c ps _ => .exn c ps
    | .stk => .stk
  else .stk
noncomputable def sem (sub : Sub) (ds : List Def) : Nat → Nat → List D → R (D × List D)
  | 0, _, _ => .stk
  | k + 1, n, xs => if n = k then (match ds[k]? with | some d => runDef sub (sem sub ds k) d xs | none => .stk) else sem sub ds k n xs
theorem sem_at {sub : Sub} {ds : List Def} {d : Def} {n : Nat} (h : ds[n]? = some d) : ∀ {k : Nat}, n < k → ∀ xs, sem sub ds k n xs = runDef sub (sem sub ds n) d xs
  | 0, hk, _ => absurd hk (Nat.not_lt_zero _)
  | k + 1, hk, xs => by
    rw [sem]
    by_cases e : n = k
    · subst e
      rw [if_pos rfl, h]
    · rw [if_neg e]
      exact sem_at h (by omega) xs
end L2.Py

set_option maxRecDepth 100000
set_option maxHeartbeats 1000000
namespace L2.Py
open PySem PySem.Spec PyProof.Rows L2 TL

def toS (w : W) : Str := ⟨w.toArray⟩
theorem tl_toS (w : W) : tl (toS w) = w := rfl
theorem toS_tl (x : Str) : toS (tl x) = x := ext_tl rfl
theorem toS_len (w : W) : (toS w).length = w.length := by rw [len_tl]; rfl
theorem toS_inj {a b : W} (h : toS a = toS b) : a = b := by have := congrArg tl h; exact this
theorem toS_app (a b : W) : toS a ++ toS b = toS (a ++ b) := ext_tl (by rw [tl_append]; rfl)

abbrev frs0 : Nat → OT := fun _ => .fr

def KLst (K : PySem.W.Frag) (a : Addr) (xs : List V) : Prop :=
  ∃ (o : Obj) (its : Array Value) (n : Nat), K.lookup a = some o ∧ o.cls = .type "list" ∧ o.dict = none ∧ o.data = .seq its n ∧ its.size ≤ sizeLine ∧ Vals xs its.toList
def NodL (H : Hp) (F : Addr → Prop) (t : OT) (a : Addr) (vs : List V) (fp fp' : List Addr) : Prop :=
  match t with
  | .ow _ => H a = some (.lst vs) ∧ fp = a :: fp'
  | _ => (H a = some (.lst vs) ∧ F a) ∧ fp = fp'
def NodD (H : Hp) (F : Addr → Prop) (t : OT) (a : Addr) (o : HO) (fp fp' : List Addr) : Prop :=
  match t with
  | .ow _ => H a = some o ∧ fp = a :: fp'
  | _ => (Rd H a o ∧ F a) ∧ fp = fp'
def keyD : Key → D
  | .inl i => .int i
  | .inr x => .str (tl x)
def keyT (ks : List Key) : D := .tup (ks.map keyD)

mutual
def keyN : NestedKey → D
  | .none => .non
  | .num i => .int i
  | .text x => .str (tl x)
  | .tup ks => .tup (keyNL ks)
def keyNL : List NestedKey → List D
  | [] => []
  | k :: ks => keyN k :: keyNL ks
end
mutual
def KeyAt (H : Hp) : NestedKey → V → Prop
  | .none, v => v = .non
  | .num i, v => v = .int i
  | .text x, v => v = .str x
  | .tup ks, v => ∃ a vs, v = .ref a ∧ H a = some (.tup vs) ∧ KeyAtL H ks vs
def KeyAtL (H : Hp) : List NestedKey → List V → Prop
  | [], vs => vs = []
  | k :: ks, vs => ∃ v r, vs = v :: r ∧ KeyAt H k v ∧ KeyAtL H ks r
end
mutual
theorem KeyAt.mono {H H' : Hp} (h : ∀ a vs, H a = some (.tup vs) → H' a = some (.tup vs)) : ∀ (k : NestedKey) (v : V), KeyAt H k v → KeyAt H' k v
  | .none, _, q => by simpa only [KeyAt] using q
  | .num _, _, q => by simpa only [KeyAt] using q
  | .text _, _, q => by simpa only [KeyAt] using q
  | .tup ks, v, q => by
    simp only [KeyAt] at q ⊢
    obtain ⟨a, vs, e, h1, h2⟩ := q
    exact ⟨a, vs, e, h a vs h1, KeyAtL.mono h ks vs h2⟩
theorem KeyAtL.mono {H H' : Hp} (h : ∀ a vs, H a = some (.tup vs) → H' a = some (.tup vs)) : ∀ (ks : List NestedKey) (vs : List V), KeyAtL H ks vs → KeyAtL H' ks vs
  | [], _, q => by simpa only [KeyAtL] using q
  | k :: ks, vs, q => by
    simp only [KeyAtL] at q ⊢
    obtain ⟨v, r, e, h1, h2⟩ := q
    exact ⟨v, r, e, KeyAt.mono h k v h1, KeyAtL.mono h ks r h2⟩
end
abbrev KN (H : Hp) : List (NestedKey × V) → List (NestedKey × Addr × Value) → Prop := Paired fun p q => p.1 = q.1 ∧ (KeyAt H p.1 (.ref q.2.1) ∧ p.1.depth ≤ 8) ∧ RelV p.2 q.2.2
theorem KN.mono {H H' : Hp} (h : ∀ a vs, H a = some (.tup vs) → H' a = some (.tup vs)) {kvs : List (NestedKey × V)} {xs : List (NestedKey × Addr × Value)} (q : KN H kvs xs) : KN H' kvs xs := by
  induction q with
  | nil => exact .nil
  | cons a _ ih => exact .cons ⟨a.1, ⟨KeyAt.mono h _ _ a.2.1.1, a.2.1.2⟩, a.2.2⟩ ih
def rowN (w : World) (x : NestedKey × Addr × Value) : DictEntry := ⟨NestedKey.hash w x.1, .ref x.2.1, x.2.2⟩
def dnP (w : World) (a : Addr) (xs : List (NestedKey × Addr × Value)) : Heap → Prop := fun h => (xs.length ≤ sizeLine ∧ (a == sysModules) = false ∧ (xs.map (·.1)).Nodup) ∧
  ∃ o es ep, h.get? a = some o ∧ o.ExactDict ∧ o.data = Data.dict es ep ∧ es.toList = xs.map (rowN w)
def xName : Nat → Str
  | 0 => "ScribeError" | 1 => "NoWay" | 2 => "NoRoom" | 3 => "NotPlain" | 4 => "OtherSigns" | 5 => "TooMany" | 6 => "NoText" | 7 => "TwoWays" | 8 => "NeverPlain" | _ => "?"
structure KF where
  k : PySem.W.Frag
  w : World
instance : Coe KF PySem.W.Frag := ⟨KF.k⟩
abbrev _root_.L2.Cx.kw (X : L2.Cx) : KF := ⟨X.K, X.w⟩
theorem KF.backw {X : L2.Cx} {k : KF} (h : k = X.kw) : X.w = k.w := by rw [h]
theorem KF.back {X : L2.Cx} {k : KF} (h : k = X.kw) : X.K = k.k := by rw [h]
def caK (K : PySem.W.Frag) (c : Nat) : Addr := match PySem.W.nsIn K mainGlobals (xName c) with | some (some (.ref C)) => C | _ => 0
def excP (C : Addr) (d : Option Addr) (a : Addr) : Heap → Prop := fun h => ∃ oe vs, h.get? a = some oe ∧ Zc (.ref C) d oe ∧ oe.data = .fields vs
def fldName : Nat → Str
  | 0 => "ways" | 1 => "ones" | 2 => "others" | _ => "?"
def fldNames : Nat → List Str
  | 7 => ["ways"]
  | 8 => ["ones", "others"]
  | _ => []
def Flds (c : Nat) (vs : List V) (fs : List (Str × V)) : Prop := ∀ n j, fldIx c n = some j → fs.lookup (fldName n) = vs[j]?
mutual
def Rep (K : KF) (H : Hp) (F : Addr → Prop) : D → OT → V → List Addr → Prop
  | .non, _, v, fp => v = .non ∧ fp = []
  | .bl b, _, v, fp => v = .bl b ∧ fp = []
  | .int i, _, v, fp => v = .int i ∧ fp = []
  | .str s, _, v, fp => v = .str (toS s) ∧ fp = []
  | .tup ds, t, v, fp => ∃ a vs, v = .ref a ∧ H a = some (.tup vs) ∧ RepL K H F ds t.comps vs fp
  | .lst ds, t, v, fp => ∃ a vs fp', v = .ref a ∧ NodL H F t a vs fp fp' ∧ RepL K H F ds (fun _ => t.elem) vs fp'
  | .dct b es, t, v, fp => ∃ a fp', v = .ref a ∧ ((b = false ∧ ∃ kvs, NodD H F t a (.dK kvs) fp fp' ∧ RepM K H F es Key keyD t.elem kvs fp') ∨
      (b = true ∧ ∃ kvs, NodD H F t a (.dT kvs) fp fp' ∧ RepM K H F es (List Key) keyT t.elem kvs fp'))
  | .dcn es, t, v, fp => ∃ a fp' kvs xs, v = .ref a ∧ KN H kvs xs ∧ NodD H F t a (.ext (dnP K.w a xs)) fp fp' ∧ RepM K H F es NestedKey keyN t.elem kvs fp'
  | .exc c ps, _, v, fp => (∃ a d, v = .ref a ∧ (Rd H a (.ext (excP (caK K c) d a)) ∧ F a) ∧ ((ps = [] ∧ d = none) ∨ ∃ dx fs vs, d = some dx ∧ (Rd H dx (.xd fs) ∧ F dx) ∧ Flds c vs fs ∧ RepL K H F ps frs0 vs [])) ∧ fp = []
  | .scr ns, _, v, fp => (∃ a, v = .ref a ∧ ((∃ o, H a = some (.frz o (.lst (ns.map V.int)))) ∨ KLst K a (ns.map V.int))) ∧ fp = []
def RepL (K : KF) (H : Hp) (F : Addr → Prop) : List D → (Nat → OT) → List V → List Addr → Prop
  | [], _, vs, fp => vs = [] ∧ fp = []
  | d :: ds, f, vs, fp => ∃ v r f1 f2, vs = v :: r ∧ fp = f1 ++ f2 ∧ Rep K H F d (f 0) v f1 ∧ RepL K H F ds (fun n => f (n + 1)) r f2
def RepM (K : KF) (H : Hp) (F : Addr → Prop) : List D → (κ : Type) → (κ → D) → OT → List (κ × V) → List Addr → Prop
  | [], _, _, _, kvs, fp => kvs = [] ∧ fp = []
  | e :: es, κ, kf, t, kvs, fp => ∃ k v r f1 f2, kvs = (k, v) :: r ∧ fp = f1 ++ f2 ∧ RepN K H F e (kf k) t v f1 ∧ RepM K H F es κ kf t r f2
def RepN (K : KF) (H : Hp) (F : Addr → Prop) : D → D → OT → V → List Addr → Prop
  | .tup ds, kd, t, v, fp => RepN2 K H F ds kd t v fp
  | _, _, _, _, _ => False
def RepN2 (K : KF) (H : Hp) (F : Addr → Prop) : List D → D → OT → V → List Addr → Prop
  | [], _, _, _, _ => False
  | k :: ds, kd, t, v, fp => k = kd ∧ RepN3 K H F ds t v fp
def RepN3 (K : KF) (H : Hp) (F : Addr → Prop) : List D → OT → V → List Addr → Prop
  | [], _, _, _ => False
  | d :: ds, t, v, fp => ds = [] ∧ Rep K H F d t v fp
end

section
variable {K : KF}
def NF : HO → Prop
  | .frz _ _ => False
  | _ => True
structure Leaves (H H' : Hp) (F F' : Addr → Prop) (fp : List Addr) : Prop where
  own : ∀ a ∈ fp, ∀ o, H a = some o → H' a = some o
  frz : ∀ a u, NF u → Rd H a u → F a → Rd H' a u ∧ F' a
  lst : ∀ a vs, H a = some (.lst vs) → F a → H' a = some (.lst vs) ∧ F' a
  tup : ∀ a vs, H a = some (.tup vs) → H' a = some (.tup vs)
  scr : ∀ a o vs, H a = some (.frz o (.lst vs)) → H' a = some (.frz o (.lst vs))
theorem Leaves.sub {H H' : Hp} {F F' : Addr → Prop} {fp fq : List Addr} (l : Leaves H H' F F' fp) (h : ∀ a ∈ fq, a ∈ fp) : Leaves H H' F F' fq := ⟨fun a ha => l.own a (h a ha), l.frz, l.lst, l.tup, l.scr⟩

mutual
theorem Rep.leaves {H H' : Hp} {F F' : Addr → Prop} : ∀ (d : D) (t : OT) (v : V) (fp : List Addr), Leaves H H' F F' fp → Rep K H F d t v fp → Rep K H' F' d t v fp
  | .non, _, _, _, _, h => by simpa only [Rep] using h
  | .bl _, _, _, _, _, h => by simpa only [Rep] using h
  | .int _, _, _, _, _, h => by simpa only [Rep] using h
  | .str _, _, _, _, _, h => by simpa only [Rep] using h
  | .tup ds, t, v, fp, l, h => by
    simp only [Rep] at h ⊢
    obtain ⟨a, vs, e, h1, h2⟩ := h
    exact ⟨a, vs, e, l.tup a vs h1, RepL.leaves ds _ vs fp l h2⟩
  | .lst ds, t, v, fp, l, h => by
    simp only [Rep] at h ⊢
    obtain ⟨a, vs, fp', e, h1, h2⟩ := h
    cases t with
    | ow t =>
      obtain ⟨h1, rfl⟩ := h1
      exact ⟨a, vs, fp', e, ⟨l.own a List.mem_cons_self _ h1, rfl⟩, RepL.leaves ds _ vs fp' (l.sub fun b hb => List.mem_cons_of_mem _ hb) h2⟩
    | fr =>
      obtain ⟨h1, rfl⟩ := h1
      exact ⟨a, vs, fp, e, ⟨l.lst a _ h1.1 h1.2, rfl⟩, RepL.leaves ds _ vs fp l h2⟩
    | tp ts =>
      obtain ⟨h1, rfl⟩ := h1
      exact ⟨a, vs, fp, e, ⟨l.lst a _ h1.1 h1.2, rfl⟩, RepL.leaves ds _ vs fp l h2⟩
  | .dct b es, t, v, fp, l, h => by
    simp only [Rep] at h ⊢
    obtain ⟨a, fp', e, h⟩ := h
    refine ⟨a, fp', e, ?_⟩
    rcases h with ⟨eb, kvs, h1, h2⟩ | ⟨eb, kvs, h1, h2⟩
    · refine .inl ⟨eb, kvs, ?_⟩
      cases t with
      | ow t =>
        obtain ⟨h1, rfl⟩ := h1
        exact ⟨⟨l.own a List.mem_cons_self _ h1, rfl⟩, RepM.leaves es _ _ kvs fp' (l.sub fun b hb => List.mem_cons_of_mem _ hb) h2⟩
      | fr =>
        obtain ⟨h1, rfl⟩ := h1
        exact ⟨⟨l.frz a _ trivial h1.1 h1.2, rfl⟩, RepM.leaves es _ _ kvs fp l h2⟩
      | tp ts =>
        obtain ⟨h1, rfl⟩ := h1
        exact ⟨⟨l.frz a _ trivial h1.1 h1.2, rfl⟩, RepM.leaves es _ _ kvs fp l h2⟩
    · refine .inr ⟨eb, kvs, ?_⟩
      cases t with
      | ow t =>
        obtain ⟨h1, rfl⟩ := h1
        exact ⟨⟨l.own a List.mem_cons_self _ h1, rfl⟩, RepM.leaves es _ _ kvs fp' (l.sub fun b hb => List.mem_cons_of_mem _ hb) h2⟩
      | fr =>
        obtain ⟨h1, rfl⟩ := h1
        exact ⟨⟨l.frz a _ trivial h1.1 h1.2, rfl⟩, RepM.leaves es _ _ kvs fp l h2⟩
      | tp ts =>
        obtain ⟨h1, rfl⟩ := h1
        exact ⟨⟨l.frz a _ trivial h1.1 h1.2, rfl⟩, RepM.leaves es _ _ kvs fp l h2⟩
  | .dcn es, t, v, fp, l, h => by
    simp only [Rep] at h ⊢
    obtain ⟨a, fp', kvs, xs, e, hk, h1, h2⟩ := h
    refine ⟨a, fp', kvs, xs, e, hk.mono l.tup, ?_⟩
    cases t with
    | ow t =>
      obtain ⟨h1, rfl⟩ := h1
      exact ⟨⟨l.own a List.mem_cons_self _ h1, rfl⟩, RepM.leaves es _ _ kvs fp' (l.sub fun b hb => List.mem_cons_of_mem _ hb) h2⟩
    | fr =>
      obtain ⟨h1, rfl⟩ := h1
      exact ⟨⟨l.frz a _ trivial h1.1 h1.2, rfl⟩, RepM.leaves es _ _ kvs fp l h2⟩
    | tp ts =>
      obtain ⟨h1, rfl⟩ := h1
      exact ⟨⟨l.frz a _ trivial h1.1 h1.2, rfl⟩, RepM.leaves es _ _ kvs fp l h2⟩
  | .exc _ ps, _, _, _, l, h => by
    simp only [Rep] at h ⊢
    obtain ⟨⟨a, d, e, ⟨h1, h2⟩, h5⟩, h3⟩ := h
    refine ⟨⟨a, d, e, l.frz a _ trivial h1 h2, h5.imp id fun ⟨dx, fs, vs, e2, ⟨h6, h7⟩, h8, h9⟩ => ⟨dx, fs, vs, e2, l.frz dx _ trivial h6 h7, h8, RepL.leaves ps _ vs [] (l.sub fun _ z => nomatch z) h9⟩⟩, h3⟩
  | .scr _, _, _, _, l, h => by
    simp only [Rep] at h ⊢
    obtain ⟨⟨a, e, h1⟩, h2⟩ := h
    exact ⟨⟨a, e, h1.imp (fun ⟨o, q⟩ => ⟨o, l.scr a o _ q⟩) id⟩, h2⟩
theorem RepL.leaves {H H' : Hp} {F F' : Addr → Prop} : ∀ (ds : List D) (f : Nat → OT) (vs : List V) (fp : List Addr), Leaves H H' F F' fp → RepL K H F ds f vs fp → RepL K H' F' ds f vs fp
  | [], _, _, _, _, h => by simpa only [RepL] using h
  | d :: ds, f, vs, fp, l, h => by
    simp only [RepL] at h ⊢
    obtain ⟨v, r, f1, f2, e1, e2, h1, h2⟩ := h
    subst e2
    exact ⟨v, r, f1, f2, e1, rfl, Rep.leaves d _ v f1 (l.sub fun b hb => List.mem_append_left _ hb) h1, RepL.leaves ds _ r f2 (l.sub fun b hb => List.mem_append_right _ hb) h2⟩
theorem RepM.leaves {H H' : Hp} {F F' : Addr → Prop} : ∀ (es : List D) {κ : Type} (kf : κ → D) (t : OT) (kvs : List (κ × V)) (fp : List Addr), Leaves H H' F F' fp → RepM K H F es κ kf t kvs fp → RepM K H' F' es κ kf t kvs fp
  | [], _, _, _, _, _, _, h => by simpa only [RepM] using h
  | e :: es, _, kf, t, kvs, fp, l, h => by
    simp only [RepM] at h ⊢
    obtain ⟨k, v, r, f1, f2, e1, e2, h1, h2⟩ := h
    subst e2
    exact ⟨k, v, r, f1, f2, e1, rfl, RepN.leaves e _ _ v f1 (l.sub fun b hb => List.mem_append_left _ hb) h1, RepM.leaves es _ _ r f2 (l.sub fun b hb => List.mem_append_right _ hb) h2⟩
theorem RepN.leaves {H H' : Hp} {F F' : Addr → Prop} : ∀ (e : D) (kd : D) (t : OT) (v : V) (fp : List Addr), Leaves H H' F F' fp → RepN K H F e kd t v fp → RepN K H' F' e kd t v fp
  | .tup ds, kd, t, v, fp, l, h => by
    simp only [RepN] at h ⊢
    exact RepN2.leaves ds kd t v fp l h
  | .non, _, _, _, _, _, h => by simp only [RepN] at h
  | .bl _, _, _, _, _, _, h => by simp only [RepN] at h
  | .int _, _, _, _, _, _, h => by simp only [RepN] at h
  | .str _, _, _, _, _, _, h => by simp only [RepN] at h
  | .lst _, _, _, _, _, _, h => by simp only [RepN] at h
  | .dct _ _, _, _, _, _, _, h => by simp only [RepN] at h
  | .dcn _, _, _, _, _, _, h => by simp only [RepN] at h
  | .exc _ _, _, _, _, _, _, h => by simp only [RepN] at h
  | .scr _, _, _, _, _, _, h => by simp only [RepN] at h
theorem RepN2.leaves {H H' : Hp} {F F' : Addr → Prop} : ∀ (ds : List D) (kd : D) (t : OT) (v : V) (fp : List Addr), Leaves H H' F F' fp → RepN2 K H F ds kd t v fp → RepN2 K H' F' ds kd t v fp
  | [], _, _, _, _, _, h => by simp only [RepN2] at h
  | k :: ds, kd, t, v, fp, l, h => by
    simp only [RepN2] at h ⊢
    exact ⟨h.1, RepN3.leaves ds t v fp l h.2⟩
theorem RepN3.leaves {H H' : Hp} {F F' : Addr → Prop} : ∀ (ds : List D) (t : OT) (v : V) (fp : List Addr), Leaves H H' F F' fp → RepN3 K H F ds t v fp → RepN3 K H' F' ds t v fp
  | [], _, _, _, _, h => by simp only [RepN3] at h
  | d :: ds, t, v, fp, l, h => by
    simp only [RepN3] at h ⊢
    exact ⟨h.1, Rep.leaves d t v fp l h.2⟩
end

theorem rd_ne {H : Hp} {a : Addr} {u : HO} (h : Rd H a u) : H a ≠ none := by
  rcases h with h | ⟨o, h⟩ <;> (rw [h]; exact fun z => nomatch z)
theorem rdSame {H H' : Hp} {a : Addr} {u : HO} (s : Same H H') (h : Rd H a u) : Rd H' a u := by
  rcases h with h | ⟨o, h⟩
  · exact .inl (s _ _ h)
  · exact .inr ⟨o, s _ _ h⟩
theorem Leaves.same {H H' : Hp} {F F' : Addr → Prop} {fp : List Addr} (s : Same H H') (hF : ∀ a, H a ≠ none → F a → F' a) : Leaves H H' F F' fp :=
  ⟨fun a _ o e => s a o e, fun a u _ r f => ⟨rdSame s r, hF a (rd_ne r) f⟩, fun a vs e f => ⟨s _ _ e, hF a (by rw [e]; exact fun z => nomatch z) f⟩, fun a vs r => s _ _ r, fun a o vs r => s _ _ r⟩
theorem sameUpd {H H1 : Hp} {p : Addr} {o : HO} (s : Same H H1) (hp : H1 p = none) : Same H (upd H1 p o) := fun b u e => by
  have := s b u e
  rw [upd_ne (ne_of_none this hp)]
  exact this
mutual
theorem Rep.trk {H : Hp} {F : Addr → Prop} : ∀ (d : D) (t : OT) (v : V) (fp : List Addr), Rep K H F d t v fp → ∀ a ∈ fp, H a ≠ none
  | .non, _, _, _, h => by simp only [Rep] at h; rw [h.2]; intro a ha; cases ha
  | .bl _, _, _, _, h => by simp only [Rep] at h; rw [h.2]; intro a ha; cases ha
  | .int _, _, _, _, h => by simp only [Rep] at h; rw [h.2]; intro a ha; cases ha
  | .str _, _, _, _, h => by simp only [Rep] at h; rw [h.2]; intro a ha; cases ha
  | .tup ds, t, v, fp, h => by
    simp only [Rep] at h
    obtain ⟨a, vs, e, h1, h2⟩ := h
    exact RepL.trk ds _ vs fp h2
  | .lst ds, t, v, fp, h => by
    simp only [Rep] at h
    obtain ⟨a, vs, fp', e, h1, h2⟩ := h
    have q := RepL.trk ds _ vs fp' h2
    cases t with
    | ow t =>
      obtain ⟨h1, rfl⟩ := h1
      intro b hb
      rcases List.mem_cons.mp hb with rfl | hb
      · rw [h1]; exact fun z => nomatch z
      · exact q b hb
    | fr => obtain ⟨_, rfl⟩ := h1; exact q
    | tp ts => obtain ⟨_, rfl⟩ := h1; exact q
  | .dct b es, t, v, fp, h => by
    simp only [Rep] at h
    obtain ⟨a, fp', e, h⟩ := h
    rcases h with ⟨eb, kvs, h1, h2⟩ | ⟨eb, kvs, h1, h2⟩
    · have q := RepM.trk es _ _ kvs fp' h2
      cases t with
      | ow t =>
        obtain ⟨h1, rfl⟩ := h1
        intro b hb
        rcases List.mem_cons.mp hb with rfl | hb
        · rw [h1]; exact fun z => nomatch z
        · exact q b hb
      | fr => obtain ⟨_, rfl⟩ := h1; exact q
      | tp ts => obtain ⟨_, rfl⟩ := h1; exact q
    · have q := RepM.trk es _ _ kvs fp' h2
      cases t with
      | ow t =>
        obtain ⟨h1, rfl⟩ := h1
        intro b hb
        rcases List.mem_cons.mp hb with rfl | hb
        · rw [h1]; exact fun z => nomatch z
        · exact q b hb
      | fr => obtain ⟨_, rfl⟩ := h1; exact q
      | tp ts => obtain ⟨_, rfl⟩ := h1; exact q
  | .dcn es, t, v, fp, h => by
    simp only [Rep] at h
    obtain ⟨a, fp', kvs, xs, e, hk, h1, h2⟩ := h
    have q := RepM.trk es _ _ kvs fp' h2
    cases t with
    | ow t =>
      obtain ⟨h1, rfl⟩ := h1
      intro b hb
      rcases List.mem_cons.mp hb with rfl | hb
      · rw [h1]; exact fun z => nomatch z
      · exact q b hb
    | fr => obtain ⟨_, rfl⟩ := h1; exact q
    | tp ts => obtain ⟨_, rfl⟩ := h1; exact q
  | .exc _ _, _, _, _, h => by simp only [Rep] at h; rw [h.2]; intro a ha; cases ha
  | .scr _, _, _, _, h => by simp only [Rep] at h; rw [h.2]; intro a ha; cases ha
theorem RepL.trk {H : Hp} {F : Addr → Prop} : ∀ (ds : List D) (f : Nat → OT) (vs : List V) (fp : List Addr), RepL K H F ds f vs fp → ∀ a ∈ fp, H a ≠ none
  | [], _, _, _, h => by simp only [RepL] at h; rw [h.2]; intro a ha; cases ha
  | d :: ds, f, vs, fp, h => by
    simp only [RepL] at h
    obtain ⟨v, r, f1, f2, e1, e2, h1, h2⟩ := h
    subst e2
    intro a ha
    rcases List.mem_append.mp ha with z | z
    · exact Rep.trk d _ v f1 h1 a z
    · exact RepL.trk ds _ r f2 h2 a z
theorem RepM.trk {H : Hp} {F : Addr → Prop} : ∀ (es : List D) {κ : Type} (kf : κ → D) (t : OT) (kvs : List (κ × V)) (fp : List Addr), RepM K H F es κ kf t kvs fp → ∀ a ∈ fp, H a ≠ none
  | [], _, _, _, _, _, h => by simp only [RepM] at h; rw [h.2]; intro a ha; cases ha
  | e :: es, _, kf, t, kvs, fp, h => by
    simp only [RepM] at h
    obtain ⟨k, v, r, f1, f2, e1, e2, h1, h2⟩ := h
    subst e2
    intro a ha
    rcases List.mem_append.mp ha with z | z
    · exact RepN.trk e _ _ v f1 h1 a z
    · exact RepM.trk es _ _ r f2 h2 a z
theorem RepN.trk {H : Hp} {F : Addr → Prop} : ∀ (e : D) (kd : D) (t : OT) (v : V) (fp : List Addr), RepN K H F e kd t v fp → ∀ a ∈ fp, H a ≠ none
  | .tup ds, kd, t, v, fp, h => by
    simp only [RepN] at h
    exact RepN2.trk ds kd t v fp h
  | .non, _, _, _, _, h => by simp only [RepN] at h
  | .bl _, _, _, _, _, h => by simp only [RepN] at h
  | .int _, _, _, _, _, h => by simp only [RepN] at h
  | .str _, _, _, _, _, h => by simp only [RepN] at h
  | .lst _, _, _, _, _, h => by simp only [RepN] at h
  | .dct _ _, _, _, _, _, h => by simp only [RepN] at h
  | .dcn _, _, _, _, _, h => by simp only [RepN] at h
  | .exc _ _, _, _, _, _, h => by simp only [RepN] at h
  | .scr _, _, _, _, _, h => by simp only [RepN] at h
theorem RepN2.trk {H : Hp} {F : Addr → Prop} : ∀ (ds : List D) (kd : D) (t : OT) (v : V) (fp : List Addr), RepN2 K H F ds kd t v fp → ∀ a ∈ fp, H a ≠ none
  | [], _, _, _, _, h => by simp only [RepN2] at h
  | k :: ds, kd, t, v, fp, h => by
    simp only [RepN2] at h
    exact RepN3.trk ds t v fp h.2
theorem RepN3.trk {H : Hp} {F : Addr → Prop} : ∀ (ds : List D) (t : OT) (v : V) (fp : List Addr), RepN3 K H F ds t v fp → ∀ a ∈ fp, H a ≠ none
  | [], _, _, _, h => by simp only [RepN3] at h
  | d :: ds, t, v, fp, h => by
    simp only [RepN3] at h
    exact Rep.trk d t v fp h.2
end
mutual
theorem Rep.forget {H : Hp} {F F' : Addr → Prop} : ∀ (d : D) (t : OT) (v : V) (fp : List Addr), (∀ a, H a ≠ none → F a → F' a) → (∀ a ∈ fp, F' a) → Rep K H F d t v fp → Rep K H F' d .fr v []
  | .non, _, _, _, _, _, h => by simp only [Rep] at h ⊢; exact ⟨h.1, trivial⟩
  | .bl _, _, _, _, _, _, h => by simp only [Rep] at h ⊢; exact ⟨h.1, trivial⟩
  | .int _, _, _, _, _, _, h => by simp only [Rep] at h ⊢; exact ⟨h.1, trivial⟩
  | .str _, _, _, _, _, _, h => by simp only [Rep] at h ⊢; exact ⟨h.1, trivial⟩
  | .tup ds, t, v, fp, hF, hp, h => by
    simp only [Rep] at h ⊢
    obtain ⟨a, vs, e, h1, h2⟩ := h
    exact ⟨a, vs, e, h1, RepL.forget ds _ vs fp hF hp h2⟩
  | .lst ds, t, v, fp, hF, hp, h => by
    simp only [Rep] at h ⊢
    obtain ⟨a, vs, fp', e, h1, h2⟩ := h
    cases t with
    | ow t =>
      obtain ⟨h1, rfl⟩ := h1
      exact ⟨a, vs, [], e, ⟨⟨h1, hp a List.mem_cons_self⟩, rfl⟩, RepL.forget ds _ vs fp' hF (fun b hb => hp b (List.mem_cons_of_mem _ hb)) h2⟩
    | fr =>
      obtain ⟨h1, rfl⟩ := h1
      exact ⟨a, vs, [], e, ⟨⟨h1.1, hF a (by rw [h1.1]; exact fun z => nomatch z) h1.2⟩, rfl⟩, RepL.forget ds _ vs fp hF hp h2⟩
    | tp ts =>
      obtain ⟨h1, rfl⟩ := h1
      exact ⟨a, vs, [], e, ⟨⟨h1.1, hF a (by rw [h1.1]; exact fun z => nomatch z) h1.2⟩, rfl⟩, RepL.forget ds _ vs fp hF hp h2⟩
  | .dct b es, t, v, fp, hF, hp, h => by
    simp only [Rep] at h ⊢
    obtain ⟨a, fp', e, h⟩ := h
    refine ⟨a, [], e, ?_⟩
    rcases h with ⟨eb, kvs, h1, h2⟩ | ⟨eb, kvs, h1, h2⟩
    · refine .inl ⟨eb, kvs, ?_⟩
      cases t with
      | ow t =>
        obtain ⟨h1, rfl⟩ := h1
        exact ⟨⟨⟨.inl h1, hp a List.mem_cons_self⟩, rfl⟩, RepM.forget es _ _ kvs fp' hF (fun b hb => hp b (List.mem_cons_of_mem _ hb)) h2⟩
      | fr =>
        obtain ⟨h1, rfl⟩ := h1
        exact ⟨⟨⟨h1.1, hF a (rd_ne h1.1) h1.2⟩, rfl⟩, RepM.forget es _ _ kvs fp hF hp h2⟩
      | tp ts =>
        obtain ⟨h1, rfl⟩ := h1
        exact ⟨⟨⟨h1.1, hF a (rd_ne h1.1) h1.2⟩, rfl⟩, RepM.forget es _ _ kvs fp hF hp h2⟩
    · refine .inr ⟨eb, kvs, ?_⟩
      cases t with
      | ow t =>
        obtain ⟨h1, rfl⟩ := h1
        exact ⟨⟨⟨.inl h1, hp a List.mem_cons_self⟩, rfl⟩, RepM.forget es _ _ kvs fp' hF (fun b hb => hp b (List.mem_cons_of_mem _ hb)) h2⟩
      | fr =>
        obtain ⟨h1, rfl⟩ := h1
        exact ⟨⟨⟨h1.1, hF a (rd_ne h1.1) h1.2⟩, rfl⟩, RepM.forget es _ _ kvs fp hF hp h2⟩
      | tp ts =>
        obtain ⟨h1, rfl⟩ := h1
        exact ⟨⟨⟨h1.1, hF a (rd_ne h1.1) h1.2⟩, rfl⟩, RepM.forget es _ _ kvs fp hF hp h2⟩
  | .dcn es, t, v, fp, hF, hp, h => by
    simp only [Rep] at h ⊢
    obtain ⟨a, fp', kvs, xs, e, hk, h1, h2⟩ := h
    refine ⟨a, [], kvs, xs, e, hk, ?_⟩
    cases t with
    | ow t =>
      obtain ⟨h1, rfl⟩ := h1
      exact ⟨⟨⟨.inl h1, hp a List.mem_cons_self⟩, rfl⟩, RepM.forget es _ _ kvs fp' hF (fun b hb => hp b (List.mem_cons_of_mem _ hb)) h2⟩
    | fr =>
      obtain ⟨h1, rfl⟩ := h1
      exact ⟨⟨⟨h1.1, hF a (rd_ne h1.1) h1.2⟩, rfl⟩, RepM.forget es _ _ kvs fp hF hp h2⟩
    | tp ts =>
      obtain ⟨h1, rfl⟩ := h1
      exact ⟨⟨⟨h1.1, hF a (rd_ne h1.1) h1.2⟩, rfl⟩, RepM.forget es _ _ kvs fp hF hp h2⟩
  | .exc _ ps, _, _, _, hF, _, h => by
    simp only [Rep] at h ⊢
    obtain ⟨⟨a, d, e, ⟨h1, h2⟩, h5⟩, h3⟩ := h
    exact ⟨⟨a, d, e, ⟨h1, hF a (rd_ne h1) h2⟩, h5.imp id fun ⟨dx, fs, vs, e2, ⟨h6, h7⟩, h8, h9⟩ => ⟨dx, fs, vs, e2, ⟨h6, hF dx (rd_ne h6) h7⟩, h8, RepL.forget ps _ vs [] hF (fun _ z => nomatch z) h9⟩⟩, trivial⟩
  | .scr _, _, _, _, _, _, h => by simp only [Rep] at h ⊢; exact ⟨h.1, trivial⟩
theorem RepL.forget {H : Hp} {F F' : Addr → Prop} : ∀ (ds : List D) (f : Nat → OT) (vs : List V) (fp : List Addr), (∀ a, H a ≠ none → F a → F' a) → (∀ a ∈ fp, F' a) → RepL K H F ds f vs fp → RepL K H F' ds frs0 vs []
  | [], _, _, _, _, _, h => by simp only [RepL] at h ⊢; exact ⟨h.1, trivial⟩
  | d :: ds, f, vs, fp, hF, hp, h => by
    simp only [RepL] at h ⊢
    obtain ⟨v, r, f1, f2, e1, e2, h1, h2⟩ := h
    subst e2
    exact ⟨v, r, [], [], e1, rfl, Rep.forget d _ v f1 hF (fun b hb => hp b (List.mem_append_left _ hb)) h1, RepL.forget ds _ r f2 hF (fun b hb => hp b (List.mem_append_right _ hb)) h2⟩
theorem RepM.forget {H : Hp} {F F' : Addr → Prop} : ∀ (es : List D) {κ : Type} (kf : κ → D) (t : OT) (kvs : List (κ × V)) (fp : List Addr), (∀ a, H a ≠ none → F a → F' a) → (∀ a ∈ fp, F' a) → RepM K H F es κ kf t kvs fp → RepM K H F' es κ kf .fr kvs []
  | [], _, _, _, _, _, _, _, h => by simp only [RepM] at h ⊢; exact ⟨h.1, trivial⟩
  | e :: es, _, kf, t, kvs, fp, hF, hp, h => by
    simp only [RepM] at h ⊢
    obtain ⟨k, v, r, f1, f2, e1, e2, h1, h2⟩ := h
    subst e2
    exact ⟨k, v, r, [], [], e1, rfl, RepN.forget e _ _ v f1 hF (fun b hb => hp b (List.mem_append_left _ hb)) h1, RepM.forget es _ _ r f2 hF (fun b hb => hp b (List.mem_append_right _ hb)) h2⟩
theorem RepN.forget {H : Hp} {F F' : Addr → Prop} : ∀ (e : D) (kd : D) (t : OT) (v : V) (fp : List Addr), (∀ a, H a ≠ none → F a → F' a) → (∀ a ∈ fp, F' a) → RepN K H F e kd t v fp → RepN K H F' e kd .fr v []
  | .tup ds, kd, t, v, fp, hF, hp, h => by
    simp only [RepN] at h ⊢
    exact RepN2.forget ds kd t v fp hF hp h
  | .non, _, _, _, _, _, _, h => by simp only [RepN] at h
  | .bl _, _, _, _, _, _, _, h => by simp only [RepN] at h
  | .int _, _, _, _, _, _, _, h => by simp only [RepN] at h
  | .str _, _, _, _, _, _, _, h => by simp only [RepN] at h
  | .lst _, _, _, _, _, _, _, h => by simp only [RepN] at h
  | .dct _ _, _, _, _, _, _, _, h => by simp only [RepN] at h
  | .dcn _, _, _, _, _, _, _, h => by simp only [RepN] at h
  | .exc _ _, _, _, _, _, _, _, h => by simp only [RepN] at h
  | .scr _, _, _, _, _, _, _, h => by simp only [RepN] at h
theorem RepN2.forget {H : Hp} {F F' : Addr → Prop} : ∀ (ds : List D) (kd : D) (t : OT) (v : V) (fp : List Addr), (∀ a, H a ≠ none → F a → F' a) → (∀ a ∈ fp, F' a) → RepN2 K H F ds kd t v fp → RepN2 K H F' ds kd .fr v []
  | [], _, _, _, _, _, _, h => by simp only [RepN2] at h
  | k :: ds, kd, t, v, fp, hF, hp, h => by
    simp only [RepN2] at h ⊢
    exact ⟨h.1, RepN3.forget ds t v fp hF hp h.2⟩
theorem RepN3.forget {H : Hp} {F F' : Addr → Prop} : ∀ (ds : List D) (t : OT) (v : V) (fp : List Addr), (∀ a, H a ≠ none → F a → F' a) → (∀ a ∈ fp, F' a) → RepN3 K H F ds t v fp → RepN3 K H F' ds .fr v []
  | [], _, _, _, _, _, h => by simp only [RepN3] at h
  | d :: ds, t, v, fp, hF, hp, h => by
    simp only [RepN3] at h ⊢
    exact ⟨h.1, Rep.forget d t v fp hF hp h.2⟩
end
mutual
theorem Rep.flat {H : Hp} {F : Addr → Prop} : ∀ (d : D) (t : OT) (v : V) (fp : List Addr), d.noMut = true → Rep K H F d t v fp → fp = [] ∧ ∀ F' t', Rep K H F' d t' v []
  | .non, _, _, _, _, h => by simp only [Rep] at h ⊢; exact ⟨h.2, fun _ _ => ⟨h.1, trivial⟩⟩
  | .bl _, _, _, _, _, h => by simp only [Rep] at h ⊢; exact ⟨h.2, fun _ _ => ⟨h.1, trivial⟩⟩
  | .int _, _, _, _, _, h => by simp only [Rep] at h ⊢; exact ⟨h.2, fun _ _ => ⟨h.1, trivial⟩⟩
  | .str _, _, _, _, _, h => by simp only [Rep] at h ⊢; exact ⟨h.2, fun _ _ => ⟨h.1, trivial⟩⟩
  | .tup ds, t, v, fp, hm, h => by
    simp only [Rep] at h ⊢
    obtain ⟨a, vs, e, h1, h2⟩ := h
    obtain ⟨q1, q2⟩ := RepL.flat ds _ vs fp (by simpa only [D.noMut] using hm) h2
    exact ⟨q1, fun F' t' => ⟨a, vs, e, h1, q2 F' _⟩⟩
  | .lst ds, t, v, fp, hm, h => by simp only [D.noMut] at hm; cases hm
  | .dct b es, t, v, fp, hm, h => by simp only [D.noMut] at hm; cases hm
  | .dcn es, t, v, fp, hm, h => by simp only [D.noMut] at hm; cases hm
  | .exc _ _, _, _, _, hm, h => by simp only [D.noMut] at hm; cases hm
  | .scr _, _, _, _, _, h => by simp only [Rep] at h ⊢; exact ⟨h.2, fun _ _ => ⟨h.1, trivial⟩⟩
theorem RepL.flat {H : Hp} {F : Addr → Prop} : ∀ (ds : List D) (f : Nat → OT) (vs : List V) (fp : List Addr), noMutL ds = true → RepL K H F ds f vs fp → fp = [] ∧ ∀ F' f', RepL K H F' ds f' vs []
  | [], _, _, _, _, h => by simp only [RepL] at h ⊢; exact ⟨h.2, fun _ _ => ⟨h.1, trivial⟩⟩
  | d :: ds, f, vs, fp, hm, h => by
    simp only [RepL] at h ⊢
    obtain ⟨v, r, f1, f2, e1, e2, h1, h2⟩ := h
    simp only [noMutL, Bool.and_eq_true] at hm
    obtain ⟨q1, q2⟩ := Rep.flat d _ v f1 hm.1 h1
    obtain ⟨q3, q4⟩ := RepL.flat ds _ r f2 hm.2 h2
    exact ⟨by rw [e2, q1, q3]; rfl, fun F' f' => ⟨v, r, [], [], e1, rfl, q2 F' _, q4 F' _⟩⟩
end
theorem RepL.length {H : Hp} {F : Addr → Prop} : ∀ {ds : List D} {f : Nat → OT} {vs : List V} {fp : List Addr}, RepL K H F ds f vs fp → vs.length = ds.length
  | [], _, _, _, h => by simp only [RepL] at h; rw [h.1]; rfl
  | d :: ds, f, vs, fp, h => by
    simp only [RepL] at h
    obtain ⟨v, r, f1, f2, e1, e2, h1, h2⟩ := h
    rw [e1, List.length_cons, List.length_cons, RepL.length h2]
theorem RepL.nil {H : Hp} {F : Addr → Prop} {f : Nat → OT} : RepL K H F [] f [] [] := by simp only [RepL]; exact ⟨trivial, trivial⟩
theorem RepL.cons {H : Hp} {F : Addr → Prop} {d : D} {ds : List D} {f : Nat → OT} {v : V} {vs : List V} {f1 f2 : List Addr} (h1 : Rep K H F d (f 0) v f1) (h2 : RepL K H F ds (fun n => f (n + 1)) vs f2) : RepL K H F (d :: ds) f (v :: vs) (f1 ++ f2) := by
  simp only [RepL]
  exact ⟨v, vs, f1, f2, rfl, rfl, h1, h2⟩
theorem RepL.uncons {H : Hp} {F : Addr → Prop} {d : D} {ds : List D} {f : Nat → OT} {vs : List V} {fp : List Addr} (h : RepL K H F (d :: ds) f vs fp) : ∃ v r f1 f2, vs = v :: r ∧ fp = f1 ++ f2 ∧ Rep K H F d (f 0) v f1 ∧ RepL K H F ds (fun n => f (n + 1)) r f2 := by
  simpa only [RepL] using h
theorem RepL.nil_inv {H : Hp} {F : Addr → Prop} {f : Nat → OT} {vs : List V} {fp : List Addr} (h : RepL K H F [] f vs fp) : vs = [] ∧ fp = [] := by simpa only [RepL] using h
theorem Rep.fr_nil {H : Hp} {F : Addr → Prop} : ∀ {d : D} {v : V} {fp : List Addr}, Rep K H F d .fr v fp → fp = [] ∧ Rep K H F d .fr v []
  | d, v, fp, h => by
    have key : ∀ (d : D) (v : V) (fp : List Addr), Rep K H F d .fr v fp → fp = [] := by
      intro d v fp h
      exact (go d v fp h)
    have e := key d v fp h
    exact ⟨e, e ▸ h⟩
where
  go : ∀ (d : D) (v : V) (fp : List Addr), Rep K H F d .fr v fp → fp = []
    | .non, _, _, h => by simp only [Rep] at h; exact h.2
    | .bl _, _, _, h => by simp only [Rep] at h; exact h.2
    | .int _, _, _, h => by simp only [Rep] at h; exact h.2
    | .str _, _, _, h => by simp only [Rep] at h; exact h.2
    | .tup ds, v, fp, h => by
      simp only [Rep] at h
      obtain ⟨a, vs, e, h1, h2⟩ := h
      exact goL ds vs fp h2
    | .lst ds, v, fp, h => by
      simp only [Rep] at h
      obtain ⟨a, vs, fp', e, ⟨_, rfl⟩, h2⟩ := h
      exact goL ds vs fp h2
    | .dct b es, v, fp, h => by
      simp only [Rep] at h
      obtain ⟨a, fp', e, h⟩ := h
      rcases h with ⟨eb, kvs, ⟨_, rfl⟩, h2⟩ | ⟨eb, kvs, ⟨_, rfl⟩, h2⟩
      · exact goM es _ kvs fp h2
      · exact goM es _ kvs fp h2
    | .dcn es, v, fp, h => by
      simp only [Rep] at h
      obtain ⟨a, fp', kvs, xs, e, _, ⟨_, rfl⟩, h2⟩ := h
      exact goM es _ kvs fp h2
    | .exc _ _, _, _, h => by simp only [Rep] at h; exact h.2
    | .scr _, _, _, h => by simp only [Rep] at h; exact h.2
  goL : ∀ (ds : List D) (vs : List V) (fp : List Addr), RepL K H F ds frs0 vs fp → fp = []
    | [], _, _, h => by simp only [RepL] at h; exact h.2
    | d :: ds, vs, fp, h => by
      simp only [RepL] at h
      obtain ⟨v, r, f1, f2, e1, e2, h1, h2⟩ := h
      rw [e2, go d v f1 h1, goL ds r f2 h2]; rfl
  goM : ∀ (es : List D) {κ : Type} (kf : κ → D) (kvs : List (κ × V)) (fp : List Addr), RepM K H F es κ kf .fr kvs fp → fp = []
    | [], _, _, _, _, h => by simp only [RepM] at h; exact h.2
    | e :: es, _, kf, kvs, fp, h => by
      simp only [RepM] at h
      obtain ⟨k, v, r, f1, f2, e1, e2, h1, h2⟩ := h
      rw [e2, goN e _ v f1 h1, goM es _ r f2 h2]; rfl
  goN : ∀ (e : D) (kd : D) (v : V) (fp : List Addr), RepN K H F e kd .fr v fp → fp = []
    | .tup ds, kd, v, fp, h => by
      simp only [RepN] at h
      exact goN2 ds kd v fp h
    | .non, _, _, _, h => by simp only [RepN] at h
    | .bl _, _, _, _, h => by simp only [RepN] at h
    | .int _, _, _, _, h => by simp only [RepN] at h
    | .str _, _, _, _, h => by simp only [RepN] at h
    | .lst _, _, _, _, h => by simp only [RepN] at h
    | .dct _ _, _, _, _, h => by simp only [RepN] at h
    | .dcn _, _, _, _, h => by simp only [RepN] at h
    | .exc _ _, _, _, _, h => by simp only [RepN] at h
    | .scr _, _, _, _, h => by simp only [RepN] at h
  goN2 : ∀ (ds : List D) (kd : D) (v : V) (fp : List Addr), RepN2 K H F ds kd .fr v fp → fp = []
    | [], _, _, _, h => by simp only [RepN2] at h
    | k :: ds, kd, v, fp, h => by
      simp only [RepN2] at h
      exact goN3 ds v fp h.2
  goN3 : ∀ (ds : List D) (v : V) (fp : List Addr), RepN3 K H F ds .fr v fp → fp = []
    | [], _, _, h => by simp only [RepN3] at h
    | d :: ds, v, fp, h => by
      simp only [RepN3] at h
      exact go d v fp h.2
theorem RepL.fr_nil {H : Hp} {F : Addr → Prop} {ds : List D} {vs : List V} {fp : List Addr} (h : RepL K H F ds frs0 vs fp) : fp = [] ∧ RepL K H F ds frs0 vs [] := by
  have e : fp = [] := Rep.fr_nil.goL ds vs fp h
  exact ⟨e, e ▸ h⟩
theorem RepL.get {H : Hp} {F : Addr → Prop} : ∀ {ds : List D} {vs : List V} {j : Nat} {d : D}, RepL K H F ds frs0 vs [] → ds[j]? = some d → ∃ v, vs[j]? = some v ∧ Rep K H F d .fr v []
  | [], _, _, _, _, e => by simp at e
  | d :: ds, vs, j, x, h, e => by
    obtain ⟨v, r, f1, f2, e1, e2, h1, h2⟩ := RepL.uncons h
    have h1' := (Rep.fr_nil h1).2
    have h2' := (RepL.fr_nil h2).2
    cases j with
    | zero =>
      simp at e
      subst e
      exact ⟨v, by rw [e1]; rfl, h1'⟩
    | succ j =>
      obtain ⟨u, q1, q2⟩ := RepL.get (j := j) h2' (by simpa using e)
      exact ⟨u, by rw [e1]; simpa using q1, q2⟩
theorem RepL.app {H : Hp} {F : Addr → Prop} : ∀ {ds es : List D} {t : OT} {vs us : List V} {f1 f2 : List Addr}, RepL K H F ds (fun _ => t) vs f1 → RepL K H F es (fun _ => t) us f2 → RepL K H F (ds ++ es) (fun _ => t) (vs ++ us) (f1 ++ f2)
  | [], es, t, vs, us, f1, f2, h1, h2 => by
    obtain ⟨rfl, rfl⟩ := RepL.nil_inv h1
    exact h2
  | d :: ds, es, t, vs, us, f1, f2, h1, h2 => by
    obtain ⟨v, r, g1, g2, rfl, rfl, q1, q2⟩ := RepL.uncons h1
    have := RepL.cons (f := fun _ => t) q1 (RepL.app q2 h2)
    rw [List.append_assoc]
    exact this
end
end L2.Py

set_option maxRecDepth 100000
set_option maxHeartbeats 1000000
namespace L2.Py
open PySem PySem.Spec PyProof.Rows L2 TL

structure Fm where
  K : KF
  H0 : Hp
  Lt : List Addr
  B : Addr → Prop
  ot : Nat → OT
  ca : Nat → Addr
  io : Option (Nat × V × OT) := none
abbrev Fps := Nat → List Addr
def Fz (fm : Fm) (fps : Fps) (a : Addr) : Prop := (fm.B a ∨ fm.H0 a = none ∨ a ∈ fm.Lt) ∧ ∀ i, a ∉ fps i
structure ER (fm : Fm) (ρ : Rho) (σ : St) (H : Hp) (fps : Fps) : Prop where
  len : σ.length = ρ.length
  rep : ∀ i d, ρ[i]? = some (some d) → ∃ v, σ[i]? = some (some v) ∧ Rep fm.K H (Fz fm fps) d (fm.ot i) v (fps i)
  nil : ∀ i, i < ρ.length → fm.ot i = .fr → fps i = []
  nd : ∀ i, (fps i).Nodup
  dj : ∀ i j a, i ≠ j → a ∈ fps i → a ∉ fps j
  new : ∀ i a, a ∈ fps i → fm.H0 a = none ∨ a ∈ fm.Lt
  trk : ∀ i a, a ∈ fps i → H a ≠ none
  frame : ∀ a o, fm.H0 a = some o → a ∉ fm.Lt → H a = some o
  lent : ∀ a, a ∈ fm.Lt → H a ≠ none
  io : ∀ i a t, fm.io = some (i, a, t) → fm.ot i ≠ .fr → ∀ d, ρ[i]? = some (some d) → σ[i]? = some (some a)
theorem ER.ext {fm : Fm} {ρ : Rho} {σ : St} {H H' : Hp} {fps : Fps} (er : ER fm ρ σ H fps) (s : Same H H') : ER fm ρ σ H' fps where
  len := er.len
  rep := fun i d e => by
    obtain ⟨v, e1, r⟩ := er.rep i d e
    exact ⟨v, e1, Rep.leaves _ _ _ _ (Leaves.same s fun _ _ q => q) r⟩
  nil := er.nil
  nd := er.nd
  dj := er.dj
  new := er.new
  trk := fun i a h z => er.trk i a h (s.free z)
  frame := fun a o e n => s _ _ (er.frame a o e n)
  lent := fun a h z => er.lent a h (s.free z)
  io := er.io
theorem ER.h0 {fm : Fm} {ρ : Rho} {σ : St} {H : Hp} {fps : Fps} (er : ER fm ρ σ H fps) {a : Addr} (h : H a = none) : fm.H0 a = none := by
  cases e : fm.H0 a with
  | none => rfl
  | some o =>
    by_cases hl : a ∈ fm.Lt
    · exact absurd h (er.lent a hl)
    · have := er.frame a o e hl
      rw [h] at this; cases this
def addT (fps : Fps) (n : Nat) (fp : List Addr) : Fps := fun i => if i = n then fps i ++ fp else fps i
theorem mem_addT {fps : Fps} {n i : Nat} {fp : List Addr} {a : Addr} (h : a ∈ addT fps n fp i) : a ∈ fps i ∨ (i = n ∧ a ∈ fp) := by
  unfold addT at h
  split at h
  · rename_i e
    rcases List.mem_append.mp h with z | z
    · exact .inl z
    · exact .inr ⟨e, z⟩
  · exact .inl h
theorem ER.temp {fm : Fm} {ρ : Rho} {σ : St} {H H1 : Hp} {fps : Fps} {fp : List Addr} (er : ER fm ρ σ H fps) (s : Same H H1) (nd : fp.Nodup) (new : ∀ a ∈ fp, H a = none) (trk : ∀ a ∈ fp, H1 a ≠ none) : ER fm ρ σ H1 (addT fps ρ.length fp) where
  len := er.len
  rep := fun i d e => by
    obtain ⟨v, e1, r⟩ := er.rep i d e
    have hi : i < ρ.length := (List.getElem?_eq_some_iff.mp e).1
    refine ⟨v, e1, ?_⟩
    have ei : addT fps ρ.length fp i = fps i := by unfold addT; rw [if_neg (by omega)]
    rw [ei]
    refine Rep.leaves _ _ _ _ (Leaves.same s fun a ha q => ⟨q.1, fun j hj => ?_⟩) r
    rcases mem_addT hj with z | ⟨_, z⟩
    · exact q.2 j z
    · exact ha (new a z)
  nil := fun i hi e => by
    have ei : addT fps ρ.length fp i = fps i := by unfold addT; rw [if_neg (by omega)]
    rw [ei]
    exact er.nil i hi e
  nd := fun i => by
    unfold addT
    split
    · rename_i e
      rw [List.nodup_append]
      exact ⟨er.nd i, nd, fun a ha b hb e => er.trk i a ha (new a (e ▸ hb))⟩
    · exact er.nd i
  dj := fun i j a hij hi hj => by
    rcases mem_addT hi with z | ⟨e1, z⟩
    · rcases mem_addT hj with w | ⟨e2, w⟩
      · exact er.dj i j a hij z w
      · exact er.trk i a z (new a w)
    · rcases mem_addT hj with w | ⟨e2, w⟩
      · exact er.trk j a w (new a z)
      · exact hij (e1.trans e2.symm)
  new := fun i a h => by
    rcases mem_addT h with z | ⟨_, z⟩
    · exact er.new i a z
    · exact .inl (er.h0 (new a z))
  trk := fun i a h z => by
    rcases mem_addT h with w | ⟨_, w⟩
    · exact er.trk i a w (s.free z)
    · exact trk a w z
  frame := fun a o e n => s _ _ (er.frame a o e n)
  lent := fun a h z => er.lent a h (s.free z)
  io := er.io

def Fq (fm : Fm) (fps : Fps) (H : Hp) (al : Bool) (fp : List Addr) : Addr → Prop := fun a => al = true ∨ ((Fz fm fps a ∨ H a = none) ∧ a ∉ fp)
structure XR (fm : Fm) (fps : Fps) (H H' : Hp) (al : Bool) (d : D) (t : OT) (v : V) (fp : List Addr) : Prop where
  rep : Rep fm.K H' (Fq fm fps H al fp) d t v fp
  nd : fp.Nodup
  new : ∀ a ∈ fp, H a = none
structure XRL (fm : Fm) (fps : Fps) (H H' : Hp) (al : Bool) (ds : List D) (f : Nat → OT) (vs : List V) (fp : List Addr) : Prop where
  rep : RepL fm.K H' (Fq fm fps H al fp) ds f vs fp
  nd : fp.Nodup
  new : ∀ a ∈ fp, H a = none
def ExnC (ca : Nat → Addr) (K : KF) (F : Addr → Prop) (H : Hp) (c : Nat) (ps : List D) (cls : Value) (dx : Option Addr) : Prop :=
  cls = .ref (ca c) ∧ ((ps = [] ∧ dx = none) ∨ ∃ d fs vs, dx = some d ∧ (H d = some (.xd fs) ∧ F d) ∧ Flds c vs fs ∧ RepL K H F ps frs0 vs [])
theorem ExnC.mono {ca : Nat → Addr} {K : KF} {F F' : Addr → Prop} {H : Hp} {c : Nat} {ps : List D} {cls : Value} {dx : Option Addr} (h : ExnC ca K F H c ps cls dx) (hF : ∀ a, F a → F' a) : ExnC ca K F' H c ps cls dx :=
  ⟨h.1, h.2.imp id fun ⟨d, fs, vs, e, q, r, z⟩ => ⟨d, fs, vs, e, ⟨q.1, hF _ q.2⟩, r, RepL.leaves _ _ _ _ (Leaves.same (Same.refl _) fun a _ w => hF a w) z⟩⟩
abbrev ExnR (fm : Fm) (H : Hp) (c : Nat) (ps : List D) (cls : Value) (dx : Option Addr) : Prop := ExnC fm.ca fm.K (fun a => fm.H0 a = none) H c ps cls dx
section
variable {fm : Fm} {Wi : WX} {ρ : Rho} {σ : St} {H H1 H2 : Hp} {fps : Fps} {al al1 al2 : Bool}
theorem XR.lift {d : D} {v : V} {fp : List Addr} {t : OT} (x : XR fm fps H H1 al d t v fp) (s : Same H1 H2) : XR fm fps H H2 al d t v fp :=
  ⟨Rep.leaves _ _ _ _ (Leaves.same s fun _ _ q => q) x.rep, x.nd, x.new⟩
theorem XRL.lift {d : List D} {v : List V} {fp : List Addr} {t : Nat → OT} (x : XRL fm fps H H1 al d t v fp) (s : Same H1 H2) : XRL fm fps H H2 al d t v fp :=
  ⟨RepL.leaves _ _ _ _ (Leaves.same s fun _ _ q => q) x.rep, x.nd, x.new⟩
theorem XR.down {d : D} {v : V} {fp : List Addr} {t : OT} (s : Same H H1) (x : XR fm fps H1 H2 al d t v fp) : XR fm fps H H2 al d t v fp :=
  ⟨Rep.leaves _ _ _ _ (Leaves.same (Same.refl _) fun a _ q => q.imp id fun z => ⟨z.1.imp id fun w => s.free w, z.2⟩) x.rep, x.nd, fun a h => s.free (x.new a h)⟩
theorem XR.al_imp {d : D} {v : V} {fp : List Addr} {t : OT} (x : XR fm fps H H1 al d t v fp) (h : al = true → al1 = true) : XR fm fps H H1 al1 d t v fp :=
  ⟨Rep.leaves _ _ _ _ (Leaves.same (Same.refl _) fun a _ q => q.imp h id) x.rep, x.nd, x.new⟩
theorem XRL.al_imp {d : List D} {v : List V} {fp : List Addr} {t : Nat → OT} (x : XRL fm fps H H1 al d t v fp) (h : al = true → al1 = true) : XRL fm fps H H1 al1 d t v fp :=
  ⟨RepL.leaves _ _ _ _ (Leaves.same (Same.refl _) fun a _ q => q.imp h id) x.rep, x.nd, x.new⟩
abbrev RdR (fm : Fm) (H : Hp) (d : D) (v : V) : Prop := Rep fm.K H (fun _ => True) d .fr v []
abbrev RdL (fm : Fm) (H : Hp) (ds : List D) (vs : List V) : Prop := RepL fm.K H (fun _ => True) ds frs0 vs []
theorem XR.read {d : D} {v : V} {fp : List Addr} {t : OT} (x : XR fm fps H H1 al d t v fp) : RdR fm H1 d v := Rep.forget _ _ _ _ (fun _ _ _ => trivial) (fun _ _ => trivial) x.rep
theorem XRL.read {d : List D} {v : List V} {fp : List Addr} {t : Nat → OT} (x : XRL fm fps H H1 al d t v fp) : RdL fm H1 d v := RepL.forget _ _ _ _ (fun _ _ _ => trivial) (fun _ _ => trivial) x.rep
theorem XR.forget {d : D} {v : V} {fp : List Addr} {t : OT} (x : XR fm fps H H1 al d t v fp) : XR fm fps H H1 al d .fr v [] :=
  ⟨Rep.forget _ _ _ _ (fun a _ q => q.imp id fun z => ⟨z.1, by simp⟩) (fun a h => .inr ⟨.inr (x.new a h), by simp⟩) x.rep, List.nodup_nil, fun _ h => nomatch h⟩
theorem XR.fr {d : D} {v : V} {fp : List Addr} (x : XR fm fps H H1 al d .fr v fp) : fp = [] := (Rep.fr_nil x.rep).1
theorem XR.of_flat {d : D} {v : V} {t : OT} (h : RdR fm H1 d v) (m : d.noMut = true) : XR fm fps H H1 al d t v [] :=
  ⟨(Rep.flat _ _ _ _ m h).2 _ _, List.nodup_nil, fun _ h => nomatch h⟩
theorem XR.int {i : Int} {t : OT} : XR fm fps H H1 al (.int i) t (.int i) [] := .of_flat (by simp only [RdR, Rep]; exact ⟨trivial, trivial⟩) rfl
theorem XR.bl {i : Bool} {t : OT} : XR fm fps H H1 al (.bl i) t (.bl i) [] := .of_flat (by simp only [RdR, Rep]; exact ⟨trivial, trivial⟩) rfl
theorem XR.str {w : W} {t : OT} : XR fm fps H H1 al (.str w) t (.str (toS w)) [] := .of_flat (by simp only [RdR, Rep]; exact ⟨trivial, trivial⟩) rfl
theorem XR.non {t : OT} : XR fm fps H H1 al .non t .non [] := .of_flat (by simp only [RdR, Rep]; exact ⟨trivial, trivial⟩) rfl
theorem RdR.int {i : Int} {v : V} (h : RdR fm H (.int i) v) : v = .int i := by simp only [RdR, Rep] at h; exact h.1
theorem RdR.bl {i : Bool} {v : V} (h : RdR fm H (.bl i) v) : v = .bl i := by simp only [RdR, Rep] at h; exact h.1
theorem RdR.str {i : W} {v : V} (h : RdR fm H (.str i) v) : v = .str (toS i) := by simp only [RdR, Rep] at h; exact h.1
theorem RdR.non {v : V} (h : RdR fm H .non v) : v = .non := by simp only [RdR, Rep] at h; exact h.1
theorem Rep.lst_inv {K : KF} {F : Addr → Prop} {ds : List D} {v : V} (h : Rep K H F (.lst ds) .fr v []) : ∃ a vs, v = .ref a ∧ (H a = some (.lst vs) ∧ F a) ∧ RepL K H F ds frs0 vs [] := by
  simp only [Rep] at h
  obtain ⟨a, vs, fp', e, ⟨h1, rfl⟩, h2⟩ := h
  exact ⟨a, vs, e, h1, h2⟩
theorem Rep.tup_inv {K : KF} {F : Addr → Prop} {ds : List D} {v : V} (h : Rep K H F (.tup ds) .fr v []) : ∃ a vs, v = .ref a ∧ H a = some (.tup vs) ∧ RepL K H F ds frs0 vs [] := by
  simp only [Rep] at h
  obtain ⟨a, vs, e, h1, h2⟩ := h
  exact ⟨a, vs, e, h1, h2⟩
theorem XRL.newL {ds : List D} {t : OT} {vs : List V} {fp : List Addr} {p : Addr} (s : Same H H1) (hp : H1 p = none) (x : XRL fm fps H H1 al ds (fun _ => t.elem) vs fp) : ∃ fp', XR fm fps H (upd H1 p (.lst vs)) al (.lst ds) t (.ref p) fp' := by
  have s1 : Same H1 (upd H1 p (.lst vs)) := sameUpd (Same.refl _) hp
  have hpn : H p = none := s.free hp
  have npf : p ∉ fp := fun h => RepL.trk _ _ _ _ x.rep p h hp
  have x1 := x.lift s1
  have r1 : ∀ {F' : Addr → Prop}, (∀ a, upd H1 p (.lst vs) a ≠ none → Fq fm fps H al fp a → a ≠ p → F' a) → RepL fm.K (upd H1 p (.lst vs)) F' ds (fun _ => t.elem) vs fp := fun {F'} hF => by
    refine RepL.leaves _ _ _ _ ⟨fun a _ o e => s1 a o e, fun a u _ r q => ⟨rdSame s1 r, hF a (rd_ne (rdSame s1 r)) q (fun z => rd_ne r (z ▸ hp))⟩, fun a us r q => ⟨s1 _ _ r, hF a (by rw [s1 _ _ r]; exact fun z => nomatch z) q (fun z => by rw [z, hp] at r; cases r)⟩, fun a vs r => s1 _ _ r, fun a o vs r => s1 _ _ r⟩ x.rep
  cases t with
  | ow t =>
    refine ⟨p :: fp, ?_, List.nodup_cons.mpr ⟨npf, x.nd⟩, fun a h => ?_⟩
    · simp only [Rep]
      refine ⟨p, vs, fp, rfl, ⟨upd_same, rfl⟩, r1 fun a _ q ne => q.imp id fun z => ⟨z.1, fun h => ?_⟩⟩
      rcases List.mem_cons.mp h with h | h
      · exact ne h
      · exact z.2 h
    · rcases List.mem_cons.mp h with rfl | h
      · exact hpn
      · exact x.new a h
  | fr =>
    have e : fp = [] := (RepL.fr_nil x.rep).1
    subst e
    refine ⟨[], ?_, List.nodup_nil, fun a h => nomatch h⟩
    simp only [Rep]
    exact ⟨p, vs, [], rfl, ⟨⟨upd_same, .inr ⟨.inr hpn, by simp⟩⟩, rfl⟩, r1 fun a _ q ne => q⟩
  | tp ts =>
    have e : fp = [] := (RepL.fr_nil x.rep).1
    subst e
    refine ⟨[], ?_, List.nodup_nil, fun a h => nomatch h⟩
    simp only [Rep]
    exact ⟨p, vs, [], rfl, ⟨⟨upd_same, .inr ⟨.inr hpn, by simp⟩⟩, rfl⟩, r1 fun a _ q ne => q⟩
theorem XRL.newT {ds : List D} {t : OT} {vs : List V} {fp : List Addr} {p : Addr} (hp : H1 p = none) (x : XRL fm fps H H1 al ds t.comps vs fp) : XR fm fps H (upd H1 p (.tup vs)) al (.tup ds) t (.ref p) fp := by
  have s1 : Same H1 (upd H1 p (.tup vs)) := sameUpd (Same.refl _) hp
  refine ⟨?_, x.nd, x.new⟩
  simp only [Rep]
  exact ⟨p, vs, rfl, upd_same, (x.lift s1).rep⟩
theorem XRL.nil {f : Nat → OT} : XRL fm fps H H1 al [] f [] [] := ⟨RepL.nil, List.nodup_nil, fun _ h => nomatch h⟩
theorem XRL.cons {n : Nat} {d : D} {ds : List D} {f : Nat → OT} {v : V} {vs : List V} {f1 f2 : List Addr} (s : Same H H1) (x : XR fm fps H H1 al1 d (f 0) v f1) (s2 : Same H1 H2) (y : XRL fm (addT fps n f1) H1 H2 al2 ds (fun i => f (i + 1)) vs f2) :
    XRL fm fps H H2 (al1 || al2) (d :: ds) f (v :: vs) (f1 ++ f2) := by
  have t1 : ∀ a ∈ f1, H1 a ≠ none := Rep.trk _ _ _ _ x.rep
  have dj : ∀ a ∈ f1, a ∉ f2 := fun a h1 h2 => t1 a h1 (y.new a h2)
  refine ⟨RepL.cons ?_ ?_, List.nodup_append.mpr ⟨x.nd, y.nd, fun a ha b hb e => dj a ha (e ▸ hb)⟩, fun a h => ?_⟩
  · refine Rep.leaves _ _ _ _ (Leaves.same s2 fun a ha q => ?_) x.rep
    rcases q with q | ⟨q1, q2⟩
    · exact .inl (by simp [q])
    · refine .inr ⟨q1, fun h => ?_⟩
      rcases List.mem_append.mp h with h | h
      · exact q2 h
      · exact ha (y.new a h)
  · refine RepL.leaves _ _ _ _ (Leaves.same (Same.refl _) fun a ha q => ?_) y.rep
    rcases q with q | ⟨q1, q2⟩
    · exact .inl (by simp [q])
    · rcases q1 with q1 | q1
      · refine .inr ⟨.inl ⟨q1.1, fun i h => q1.2 i ?_⟩, fun h => ?_⟩
        · unfold addT
          split
          · exact List.mem_append_left _ h
          · exact h
        · rcases List.mem_append.mp h with h | h
          · refine q1.2 n ?_
            unfold addT
            rw [if_pos rfl]
            exact List.mem_append_right _ h
          · exact q2 h
      · refine .inr ⟨.inr (s.free q1), fun h => ?_⟩
        rcases List.mem_append.mp h with h | h
        · exact t1 a h q1
        · exact q2 h
  · rcases List.mem_append.mp h with h | h
    · exact x.new a h
    · exact s.free (y.new a h)

def OKE (fm : Fm) (Wi : WX) (al : Bool) (t : OT) (r : R D) (σ : St) (H : Hp) (fps : Fps) (Q : VK) : Prop :=
  match r with
  | .ok d => ∀ v H' fp, Same H H' → XR fm fps H H' al d t v fp → Q v H'
  | .exn c ps => ∀ cls dx H', Same H H' → ExnR fm H' c ps cls dx → Wi cls dx σ H'
  | .stk => False
def OKL (fm : Fm) (Wi : WX) (al : Bool) (f : Nat → OT) (r : R (List D)) (σ : St) (H : Hp) (fps : Fps) (Q : List V → Hp → Prop) : Prop :=
  match r with
  | .ok d => ∀ v H' fp, Same H H' → XRL fm fps H H' al d f v fp → Q v H'
  | .exn c ps => ∀ cls dx H', Same H H' → ExnR fm H' c ps cls dx → Wi cls dx σ H'
  | .stk => False
def tE (fm : Fm) (Wi : WX) (al : Bool) (t : OT) (f : Rho → R D) : TE := fun σ H Q => ∃ ρ fps, ER fm ρ σ H fps ∧ OKE fm Wi al t (f ρ) σ H fps Q
def tL (fm : Fm) (Wi : WX) (al : Bool) (t : Nat → OT) (f : Rho → R (List D)) : TA := fun σ H Q => ∃ ρ fps, ER fm ρ σ H fps ∧ OKL fm Wi al t (f ρ) σ H fps Q
theorem PE.imp {X : Cx} {e : Expr} {t t' : TE} (p : PE X e t) (h : ∀ σ H Q, t' σ H Q → t σ H Q) : PE X e t' := ⟨fun pins s σ H Q I q => p.run pins s σ H Q I (h σ H Q q)⟩
theorem PA.imp {X : Cx} {e : List Expr} {t t' : TA} (p : PA X e t) (h : ∀ σ H Q, t' σ H Q → t σ H Q) : PA X e t' := ⟨fun pos pins s σ H Q I q => p.run pos pins s σ H Q I (h σ H Q q)⟩
theorem PT.imp {X : Cx} {e : Expr} {t t' : TT} (p : PT X e t) (h : ∀ σ H Q, t' σ H Q → t σ H Q) : PT X e t' := ⟨fun pins s σ H Q I q => p.run pins s σ H Q I (h σ H Q q)⟩
theorem OKE.mono {r : R D} {Q Q' : VK} {t : OT} (h : OKE fm Wi al t r σ H fps Q) (hq : ∀ v H', Q v H' → Q' v H') : OKE fm Wi al t r σ H fps Q' := by
  cases r with
  | ok d => exact fun v H' fp s x => hq v H' (h v H' fp s x)
  | exn c ps => exact h
  | stk => exact h
theorem OKE.ext {r : R D} {Q : VK} {t : OT} (s : Same H H1) (h : OKE fm Wi al t r σ H fps Q) : OKE fm Wi al t r σ H1 fps Q := by
  cases r with
  | ok d => exact fun v H' fp s2 x => h v H' fp (s.trans s2) (x.down s)
  | exn c ps => exact fun cls dx H' s2 => h cls dx H' (s.trans s2)
  | stk => exact h
theorem OKE.seq {r : R D} {k : D → R D} {Q Q' : VK} {t t1 : OT} (h : OKE fm Wi al t (r >>= k) σ H fps Q)
    (hk : ∀ d v H1 fp, r = .ok d → Same H H1 → XR fm fps H H1 al1 d t1 v fp → Q' v H1) : OKE fm Wi al1 t1 r σ H fps Q' := by
  cases r with
  | ok d => exact fun v H' fp s x => hk d v H' fp rfl s x
  | exn c ps => exact h
  | stk => exact h
theorem OKL.seq {r : R (List D)} {k : List D → R D} {Q : VK} {Q' : List V → Hp → Prop} {t : OT} {t1 : Nat → OT} (h : OKE fm Wi al t (r >>= k) σ H fps Q)
    (hk : ∀ d v H1 fp, r = .ok d → Same H H1 → XRL fm fps H H1 al1 d t1 v fp → Q' v H1) : OKL fm Wi al1 t1 r σ H fps Q' := by
  cases r with
  | ok d => exact fun v H' fp s x => hk d v H' fp rfl s x
  | exn c ps => exact h
  | stk => exact h
theorem tE2 {f g : Rho → R D} {k : D → D → R D} {Q : VK} {t : OT} {R' : V → V → Hp → Prop} (er : ER fm ρ σ H fps) (h : OKE fm Wi al t (f ρ >>= fun x => g ρ >>= fun y => k x y) σ H fps Q)
    (hk : ∀ x y v u H2, Same H H2 → XR fm fps H H2 al1 x .fr v [] → XR fm fps H H2 al2 y .fr u [] → OKE fm Wi al t (k x y) σ H fps Q → R' v u H2) :
    tE fm Wi al1 .fr f σ H fun v H1 => tE fm Wi al2 .fr g σ H1 fun u H2 => R' v u H2 := by
  refine ⟨ρ, fps, er, OKE.seq h fun d v H1 fp e s x => ?_⟩
  obtain rfl := x.fr
  rw [e] at h
  have h1 : OKE fm Wi al t (g ρ >>= fun y => k d y) σ H1 fps Q := OKE.ext s h
  refine ⟨ρ, fps, er.ext s, OKE.seq h1 fun d2 u H2 fp2 e2 s2 x2 => ?_⟩
  obtain rfl := x2.fr
  refine hk d d2 v u H2 (s.trans s2) (x.lift s2) (x2.down s) ?_
  have h' : OKE fm Wi al t (g ρ >>= fun y => k d y) σ H fps Q := h
  rw [e2] at h'
  exact h'
end
end L2.Py

set_option maxRecDepth 100000
set_option maxHeartbeats 1000000
namespace L2.Py
open PySem PySem.Spec PyProof.Rows TL

def noStar : Expr → Bool
  | .Starred _ _ => false
  | _ => true
def noSl : Expr → Bool
  | .Slice _ _ _ _ => false
  | _ => true
def noComp : Expr → Bool
  | .ListComp _ _ _ _ => false
  | .SetComp _ _ _ _ => false
  | .DictComp _ _ _ _ _ => false
  | _ => true
def noSet : Expr → Bool
  | .Set _ _ _ => false
  | _ => true
def plainTruth : Expr → Bool
  | .UnaryOp _ _ _ => false
  | .BoolOp _ _ _ => false
  | .IfExp _ _ _ _ => false
  | .Compare _ _ _ _ => false
  | _ => true
def noSuper : Expr → Bool
  | .Call _ args _ _ => !args.isEmpty
  | _ => true
theorem star_of {e : Expr} {es : List Expr} {env : PySem.Env} (h : noStar e = true) : starEach (e :: es) env = (false, eval e env) :: starEach es env := by
  cases e <;> first | rfl | cases h
theorem back_of {pos : Pos} {env : PySem.Env} : ∀ {es : List Expr}, es.all noStar = true → (backTo pos (starEach es env)).any (·.1) = false
  | [], _ => rfl
  | e :: es, h => by
    simp only [List.all_cons, Bool.and_eq_true] at h
    rw [star_of h.1]
    show (false || (backTo pos (starEach es env)).any (·.1)) = false
    rw [back_of h.2]; rfl
theorem ix_of {e : Expr} (h : noSl e = true) : PlainIx e := fun o i => by cases e <;> first | rfl | cases h
theorem comp_of {e : Expr} {tg : Option Expr} {n : Nat} {env : PySem.Env} (h : noComp e = true) : swapsWith e tg n env = pure false := by
  cases e <;> first | rfl | cases h
theorem set_of {e : Expr} {env : PySem.Env} (h : noSet e = true) : ∀ x, foldedSetIterable e env x = pure x := fun x => by
  cases e <;> first | rfl | cases h
theorem truth_of {e : Expr} {env : PySem.Env} (h : plainTruth e = true) : ∀ whole, PySem.isTrue e env whole = (do let v ← whole; standAt e.pos; holding [v] (truthy v)) := fun whole => by
  cases e <;> first | rfl | cases h
theorem super_of {e : Expr} {m : Str} {env : PySem.Env} (h : noSuper e = true) : attributeBase e m env (eval e env) = eval e env := by
  cases e <;> first
    | rfl
    | (rename_i f args kw pos
       cases args with
       | nil => cases h
       | cons a r => cases f <;> rfl)

section
variable {X : Cx} {fm : Fm} {Wi : WX} {al al1 al2 : Bool} {t : OT} {f g : Rho → R D}
theorem de_slot {i : Nat} {x : Str} {pos : Pos} (hN : X.N[i]? = some x) (hv : Vis X.env.scope x) (hd : (x == ("__debug__" : Str)) = false) (hcd : (x == ("__classdict__" : Str)) = false) (hot : fm.ot i = .fr) :
    PE X (.Name x pos) (tE fm Wi al .fr fun ρ => ρ.get i) := by
  refine PE.imp (pe_var hN hv hd hcd) fun σ H Q ⟨ρ, fps, er, h⟩ => ?_
  dsimp only at h
  unfold Rho.get at h
  split at h
  · rename_i d e
    obtain ⟨v, e1, r⟩ := er.rep i d e
    rw [hot] at r
    obtain ⟨e2, r⟩ := Rep.fr_nil r
    refine ⟨v, e1, h v H [] (Same.refl _) ⟨Rep.leaves _ _ _ _ (Leaves.same (Same.refl _) fun a _ q => .inr ⟨.inl q, by simp⟩) r, List.nodup_nil, fun _ h => nomatch h⟩⟩
  · exact h.elim
theorem de_slotA {i : Nat} {x : Str} {pos : Pos} (hN : X.N[i]? = some x) (hv : Vis X.env.scope x) (hd : (x == ("__debug__" : Str)) = false) (hcd : (x == ("__classdict__" : Str)) = false) :
    PE X (.Name x pos) (tE fm Wi true .fr fun ρ => ρ.get i) := by
  refine PE.imp (pe_var hN hv hd hcd) fun σ H Q ⟨ρ, fps, er, h⟩ => ?_
  dsimp only at h
  unfold Rho.get at h
  split at h
  · rename_i d e
    obtain ⟨v, e1, r⟩ := er.rep i d e
    exact ⟨v, e1, h v H [] (Same.refl _) ⟨Rep.forget _ _ _ _ (fun _ _ _ => .inl rfl) (fun _ _ => .inl rfl) r, List.nodup_nil, fun _ h => nomatch h⟩⟩
  · exact h.elim
theorem de_int {i : Int} {j : Nat} {pos : Pos} : PE X (.Constant (.int i) j pos) (tE fm Wi al t fun _ => .ok (.int i)) :=
  PE.imp pe_int fun σ H Q ⟨ρ, fps, er, h⟩ => h _ H [] (Same.refl _) XR.int
theorem de_str {s : Str} {j : Nat} {pos : Pos} : PE X (.Constant (.str s) j pos) (tE fm Wi al t fun _ => .ok (.str (tl s))) :=
  PE.imp pe_str fun σ H Q ⟨ρ, fps, er, h⟩ => h _ H [] (Same.refl _) (by have := @XR.str fm H H fps al (tl s) t; rw [toS_tl] at this; exact this)
theorem de_bl {b : Bool} {j : Nat} {pos : Pos} : PE X (.Constant (.bool b) j pos) (tE fm Wi al t fun _ => .ok (.bl b)) :=
  PE.imp pe_bl fun σ H Q ⟨ρ, fps, er, h⟩ => h _ H [] (Same.refl _) XR.bl
theorem de_non {j : Nat} {pos : Pos} : PE X (.Constant .none j pos) (tE fm Wi al t fun _ => .ok .non) :=
  PE.imp pe_non fun σ H Q ⟨ρ, fps, er, h⟩ => h _ H [] (Same.refl _) XR.non

theorem dl_nil {ft : Nat → OT} : PA X [] (tL fm Wi al ft fun _ => .ok []) :=
  PA.imp pa_nil fun σ H Q ⟨ρ, fps, er, h⟩ => h [] H [] (Same.refl _) XRL.nil
theorem dl_cons {e : Expr} {es : List Expr} {ft : Nat → OT} {gs : Rho → R (List D)} (he : PE X e (tE fm Wi al1 (ft 0) f)) (hs : PA X es (tL fm Wi al2 (fun i => ft (i + 1)) gs)) (hst : noStar e = true) :
    PA X (e :: es) (tL fm Wi (al1 || al2) ft fun ρ => do let x ← f ρ; let xs ← gs ρ; pure (x :: xs)) := by
  refine PA.imp (pa_cons he hs (star_of hst)) fun σ H Q ⟨ρ, fps, er, h⟩ => ?_
  refine ⟨ρ, fps, er, ?_⟩
  dsimp only at h
  cases e1 : f ρ with
  | stk => rw [e1] at h; exact h
  | exn c ps => rw [e1] at h; exact h
  | ok d =>
    rw [e1] at h
    intro v H1 f1 s1 x1
    have t1 := Rep.trk _ _ _ _ x1.rep
    refine ⟨ρ, addT fps ρ.length f1, er.temp s1 x1.nd x1.new t1, ?_⟩
    cases e2 : gs ρ with
    | stk =>
      have h' : OKL fm Wi (al1 || al2) ft (gs ρ >>= fun xs => pure (d :: xs)) σ H fps Q := h
      rw [e2] at h'; exact h'
    | exn c ps =>
      have h' : OKL fm Wi (al1 || al2) ft (gs ρ >>= fun xs => pure (d :: xs)) σ H fps Q := h
      rw [e2] at h'
      exact fun cls dx H' s2 => h' cls dx H' (s1.trans s2)
    | ok ds =>
      have h' : OKL fm Wi (al1 || al2) ft (gs ρ >>= fun xs => pure (d :: xs)) σ H fps Q := h
      rw [e2] at h'
      intro vs H2 f2 s2 x2
      exact h' (v :: vs) H2 (f1 ++ f2) (s1.trans s2) (XRL.cons s1 x1 s2 x2)
theorem OKL.bind {r : R (List D)} {k : List D → R D} {σ : St} {H : Hp} {fps : Fps} {Q : VK} {Q' : List V → Hp → Prop} {ft : Nat → OT} (h : OKE fm Wi al t (r >>= k) σ H fps Q)
    (hk : ∀ d v H1 fp, r = .ok d → OKE fm Wi al t (k d) σ H fps Q → Same H H1 → XRL fm fps H H1 al1 d ft v fp → Q' v H1) : OKL fm Wi al1 ft r σ H fps Q' := by
  cases r with
  | ok d => exact fun v H' fp s x => hk d v H' fp rfl h s x
  | exn c ps => exact h
  | stk => exact h
theorem OKE.bind {r : R D} {k : D → R D} {σ : St} {H : Hp} {fps : Fps} {Q : VK} {Q' : VK} {t1 : OT} (h : OKE fm Wi al t (r >>= k) σ H fps Q)
    (hk : ∀ d v H1 fp, r = .ok d → OKE fm Wi al t (k d) σ H fps Q → Same H H1 → XR fm fps H H1 al1 d t1 v fp → Q' v H1) : OKE fm Wi al1 t1 r σ H fps Q' := by
  cases r with
  | ok d => exact fun v H' fp s x => hk d v H' fp rfl h s x
  | exn c ps => exact h
  | stk => exact h
theorem few_line {n : Nat} (h : n ≤ 1000) : n ≤ sizeLine := by rw [sizeLine_eq]; omega
theorem de_tup {es : List Expr} {k : Nat} {pos : Pos} {gs : Rho → R (List D)} (h : PA X es (tL fm Wi al t.comps gs)) (hn : ∀ ρ ds, gs ρ = .ok ds → ds.length ≤ 1000) :
    PE X (.Tuple es k pos) (tE fm Wi al t fun ρ => do let xs ← gs ρ; pure (.tup xs)) := by
  refine PE.imp (pe_tup h) fun σ H Q ⟨ρ, fps, er, q⟩ => ⟨ρ, fps, er, OKL.bind q fun ds vs H1 fp e q s x => ?_⟩
  exact ⟨few_line (by rw [RepL.length x.rep]; exact hn ρ ds e), fun p hp => q (.ref p) _ fp (sameUpd s hp) (XRL.newT hp x)⟩
theorem de_lst {es : List Expr} {pos : Pos} {gs : Rho → R (List D)} (h : PA X es (tL fm Wi al (fun _ => t.elem) gs)) (hn : ∀ ρ ds, gs ρ = .ok ds → ds.length ≤ 1000) :
    PE X (.List es pos) (tE fm Wi al t fun ρ => do let xs ← gs ρ; pure (.lst xs)) := by
  refine PE.imp (pe_lst h) fun σ H Q ⟨ρ, fps, er, q⟩ => ⟨ρ, fps, er, OKL.bind q fun ds vs H1 fp e q s x => ?_⟩
  refine ⟨few_line (by rw [RepL.length x.rep]; exact hn ρ ds e), fun p hp => ?_⟩
  obtain ⟨fp', x'⟩ := XRL.newL s hp x
  exact q (.ref p) _ fp' (sameUpd s hp) x'

theorem lim_line {n : Nat} : n ≤ lim ↔ n ≤ sizeLine := by rw [sizeLine_eq]; exact Iff.rfl
def bopA : Bop → Operator
  | .add => .Add | .sub => .Sub | .mul => .Mult | .fdiv => .FloorDiv | .mod => .Mod | .pow => .Pow | .shr => .RShift
theorem XR.lst {H H2 : Hp} {fps : Fps} {ds : List D} {v : V} (x : XR fm fps H H2 al (.lst ds) .fr v []) : ∃ a vs, v = .ref a ∧ H2 a = some (.lst vs) ∧ XRL fm fps H H2 al ds frs0 vs [] := by
  obtain ⟨a, vs, e, q, r⟩ := Rep.lst_inv x.rep
  exact ⟨a, vs, e, q.1, r, List.nodup_nil, fun _ h => nomatch h⟩
theorem XR.tup {H H2 : Hp} {fps : Fps} {ds : List D} {v : V} (x : XR fm fps H H2 al (.tup ds) .fr v []) : ∃ a vs, v = .ref a ∧ H2 a = some (.tup vs) ∧ XRL fm fps H H2 al ds frs0 vs [] := by
  obtain ⟨a, vs, e, q, r⟩ := Rep.tup_inv x.rep
  exact ⟨a, vs, e, q, r, List.nodup_nil, fun _ h => nomatch h⟩
theorem OKE.int {i : Int} {σ : St} {H H2 : Hp} {fps : Fps} {Q : VK} (h : OKE fm Wi al t (.ok (.int i)) σ H fps Q) (s : Same H H2) : Q (.int i) H2 := h _ _ [] s XR.int
theorem OKE.bl {i : Bool} {σ : St} {H H2 : Hp} {fps : Fps} {Q : VK} (h : OKE fm Wi al t (.ok (.bl i)) σ H fps Q) (s : Same H H2) : Q (.bl i) H2 := h _ _ [] s XR.bl
theorem OKE.str {i : W} {σ : St} {H H2 : Hp} {fps : Fps} {Q : VK} (h : OKE fm Wi al t (.ok (.str i)) σ H fps Q) (s : Same H H2) : Q (.str (toS i)) H2 := h _ _ [] s XR.str
end
end L2.Py

set_option maxRecDepth 100000
set_option maxHeartbeats 1000000
namespace L2.Py
open PySem PySem.Spec PyProof.Rows TL

theorem RepL.rep {K : KF} {H : Hp} {F : Addr → Prop} {ds : List D} {vs : List V} (h : RepL K H F ds frs0 vs []) : ∀ k : Nat, RepL K H F (List.replicate k ds).flatten frs0 (List.replicate k vs).flatten []
  | 0 => RepL.nil
  | k + 1 => by
    rw [List.replicate_succ, List.replicate_succ, List.flatten_cons, List.flatten_cons]
    exact RepL.app (f1 := []) (f2 := []) h (RepL.rep h k)
theorem foldl_cps (xs : Array Nat) : ∀ (n : Nat) (acc : Array Nat), ((List.replicate n xs).foldl (· ++ ·) acc).toList = acc.toList ++ (List.replicate n xs.toList).flatten
  | 0, acc => by simp
  | n + 1, acc => by
    rw [List.replicate_succ, List.foldl_cons, foldl_cps xs n, List.replicate_succ, List.flatten_cons, Array.toList_append, List.append_assoc]
theorem rep_toS (w : W) (n : Nat) : (⟨(List.replicate n (toS w).cps).foldl (· ++ ·) #[]⟩ : Str) = toS (List.replicate n w).flatten := by
  refine ext_tl ?_
  show ((List.replicate n (toS w).cps).foldl (· ++ ·) #[]).toList = (List.replicate n w).flatten
  rw [foldl_cps]
  rfl
def rStrRep : R2 := fun x y H Q => ∃ (a : Str) (k : Int), x = .str a ∧ y = .int k ∧ -(2 ^ 63) ≤ k ∧ k < 2 ^ 63 ∧ a.length * k.toNat ≤ sizeLine ∧ Q (.str ⟨(List.replicate k.toNat a.cps).foldl (· ++ ·) #[]⟩) H
theorem op_strRep {X : Cx} : OpR X (binaryOp .Mult) rStrRep := by
  intro pins s σ H x y v u Q I rx ry h
  obtain ⟨a, k, rfl, rfl, h1, h2, hz, q⟩ := h
  obtain ⟨t, rfl⟩ := rx
  obtain ⟨t', rfl⟩ := ry
  have hsz : sizeLine ≤ 16777216 := by decide
  refine PySem.P.mul_str (by rw [decide_eq_false (Int.not_lt.mpr h1), decide_eq_false (Int.not_le.mpr h2)]; rfl) (fun h3 h4 => ?_) (fun _ _ => by unfold Builtin.Str.tooLong; rw [decide_eq_false (Nat.not_lt.mpr hz)]) ?_
  · rw [Bool.or_eq_false_iff, beq_eq_false_iff_ne, beq_eq_false_iff_ne] at h4
    have hk : (k.toNat : Int) = k := Int.toNat_of_nonneg (by omega)
    have h5 : (a.length : Int) * k ≤ 16777216 := by
      rw [← hk]
      have h7 : a.length * k.toNat ≤ 16777216 := Nat.le_trans hz hsz
      rw [← Int.natCast_mul]
      exact Int.ofNat_le.mpr h7
    have h6 : (a.length : Int) ≤ (2 ^ 63 - 1) / k := by
      rw [Int.le_ediv_iff_mul_le (by omega)]
      omega
    omega
  · split
    · rename_i h3
      have e : k.toNat = 0 := by omega
      rw [e] at q
      exact ⟨by decide, .str ⟨#[]⟩, H, I.tok _, ⟨_, rfl⟩, q⟩
    · split
      · rename_i h3 h4
        rw [Bool.or_eq_true, beq_iff_eq, beq_iff_eq] at h4
        have e : (⟨(List.replicate k.toNat a.cps).foldl (· ++ ·) #[]⟩ : Str) = a := by
          refine ext_tl ?_
          show ((List.replicate k.toNat a.cps).foldl (· ++ ·) #[]).toList = a.cps.toList
          rw [foldl_cps]
          rcases h4 with h4 | h4
          · subst h4
            simp
          · have : a.cps.toList = [] := List.eq_nil_of_length_eq_zero (by rw [Array.length_toList]; exact h4)
            rw [this]
            simp
        rw [e] at q
        exact ⟨.str a, H, I, ⟨t, rfl⟩, q⟩
      · refine ⟨?_, .str _, H, I.tok _, ⟨_, rfl⟩, q⟩
        show ((List.replicate k.toNat a.cps).foldl (· ++ ·) #[]).size ≤ _
        rw [← Array.length_toList, foldl_cps, List.nil_append, List.length_flatten, List.map_replicate, List.sum_replicate_nat, Array.length_toList]
        have e : k.toNat * a.cps.size = a.length * k.toNat := Nat.mul_comm _ _
        show k.toNat * a.cps.size ≤ _
        rw [e]
        exact hz
section
variable {X : Cx} {fm : Fm} {Wi : WX} {al al1 al2 : Bool} {t : OT} {f g : Rho → R D}
theorem XRL.app {H H2 : Hp} {fps : Fps} {xs ys : List D} {vs us : List V} (x : XRL fm fps H H2 al1 xs frs0 vs []) (y : XRL fm fps H H2 al2 ys frs0 us []) : XRL fm fps H H2 (al1 || al2) (xs ++ ys) frs0 (vs ++ us) [] :=
  ⟨RepL.app (f1 := []) (f2 := []) (x.al_imp (al1 := al1 || al2) (by intro h; simp [h])).rep (y.al_imp (al1 := al1 || al2) (by intro h; simp [h])).rep, List.nodup_nil, fun _ h => nomatch h⟩
theorem OKE.newL {σ : St} {H H2 : Hp} {fps : Fps} {Q : VK} {ds : List D} {vs : List V} (ht : t.elem = .fr) (h : OKE fm Wi al t (.ok (.lst ds)) σ H fps Q) (s : Same H H2) (x : XRL fm fps H H2 al ds frs0 vs []) :
    ∀ p, H2 p = none → Q (.ref p) (upd H2 p (.lst vs)) := fun p hp => by
  obtain ⟨fp, x'⟩ := XRL.newL (t := t) s hp (by rw [ht]; exact x)
  exact h _ _ fp (sameUpd s hp) x'
theorem de_bin {op : Bop} {a b : Expr} {pos : Pos} (ht : t.elem = .fr) (ha : PE X a (tE fm Wi al1 .fr f)) (hb : PE X b (tE fm Wi al2 .fr g)) :
    PE X (.BinOp a (bopA op) b pos) (tE fm Wi (al1 || al2) t fun ρ => do let x ← f ρ; let y ← g ρ; binD op x y) := by
  refine ⟨fun pins s σ H Q I ⟨ρ, fps, er, h⟩ => ?_⟩
  cases op with
  | add =>
    refine (pe_op (op_add.or (op_add_str.or op_cat)) ha hb).run pins s σ H Q I (tE2 er h fun x y v u H2 s2 xx xy hk => ?_)
    unfold binD at hk
    split at hk
    · obtain rfl := xx.read.int
      obtain rfl := xy.read.int
      exact .inl ⟨_, _, rfl, rfl, hk.int s2⟩
    · split at hk
      · rename_i hz
        obtain rfl := xx.read.str
        obtain rfl := xy.read.str
        refine .inr (.inl ⟨_, _, rfl, rfl, by rw [toS_len, toS_len, ← lim_line]; exact hz, ?_⟩)
        rw [toS_app]
        exact hk.str s2
      · exact hk.elim
    · split at hk
      · rename_i hz
        obtain ⟨a1, vs, rfl, e1, x1⟩ := xx.lst
        obtain ⟨a2, us, rfl, e2, x2⟩ := xy.lst
        refine .inr (.inr ⟨_, _, _, _, rfl, rfl, e1, e2, by rw [RepL.length x1.rep, RepL.length x2.rep, ← lim_line]; exact hz, ?_⟩)
        exact hk.newL ht s2 (XRL.app x1 x2)
      · exact hk.elim
    all_goals first | exact hk.elim | contradiction
  | sub =>
    refine (pe_op op_sub ha hb).run pins s σ H Q I (tE2 er h fun x y v u H2 s2 xx xy hk => ?_)
    unfold binD at hk
    split at hk
    all_goals first
      | contradiction
      | exact hk.elim
      | (obtain rfl := xx.read.int
         obtain rfl := xy.read.int
         exact ⟨_, _, rfl, rfl, hk.int s2⟩)
  | mul =>
    refine (pe_op (op_mul.or (op_rep.or op_strRep)) ha hb).run pins s σ H Q I (tE2 er h fun x y v u H2 s2 xx xy hk => ?_)
    unfold binD at hk
    split at hk
    all_goals first
      | contradiction
      | exact hk.elim
      | (split at hk
         · rename_i hz
           first
             | (obtain rfl := xx.read.int
                obtain rfl := xy.read.int
                refine .inl ⟨_, _, rfl, rfl, ?_, hk.int s2⟩
                simp only [smallF, Bool.or_eq_true, Bool.and_eq_true, decide_eq_true_eq] at hz
                exact hz)
             | (obtain ⟨a1, vs, rfl, e1, x1⟩ := xx.lst
                obtain rfl := xy.read.int
                simp only [Bool.and_eq_true, decide_eq_true_eq] at hz
                refine .inr (.inl ⟨_, _, _, rfl, rfl, e1, hz.1.1, hz.1.2, by rw [RepL.length x1.rep, ← lim_line]; exact hz.2, ?_⟩)
                exact hk.newL ht s2 ⟨RepL.rep (x1.al_imp (al1 := al1 || al2) (by intro h; simp [h])).rep _, List.nodup_nil, fun _ h => nomatch h⟩)
             | (obtain rfl := xx.read.str
                obtain rfl := xy.read.int
                simp only [Bool.and_eq_true, decide_eq_true_eq] at hz
                refine .inr (.inr ⟨_, _, rfl, rfl, hz.1.1, hz.1.2, by rw [toS_len, ← lim_line]; exact hz.2, ?_⟩)
                rw [rep_toS]
                exact hk.str s2)
         · exact hk.elim)
  | fdiv =>
    refine (pe_op op_fdiv ha hb).run pins s σ H Q I (tE2 er h fun x y v u H2 s2 xx xy hk => ?_)
    unfold binD at hk
    split at hk
    all_goals first
      | contradiction
      | exact hk.elim
      | (split at hk
         · rename_i hz
           obtain rfl := xx.read.int
           obtain rfl := xy.read.int
           simp only [Bool.and_eq_true, decide_eq_true_eq] at hz
           exact ⟨_, _, rfl, rfl, hz, hk.int s2⟩
         · exact hk.elim)
  | mod =>
    refine (pe_op op_mod ha hb).run pins s σ H Q I (tE2 er h fun x y v u H2 s2 xx xy hk => ?_)
    unfold binD at hk
    split at hk
    all_goals first
      | contradiction
      | exact hk.elim
      | (split at hk
         · rename_i hz
           obtain rfl := xx.read.int
           obtain rfl := xy.read.int
           exact ⟨_, _, rfl, rfl, hz, hk.int s2⟩
         · exact hk.elim)
  | pow =>
    refine (pe_op op_pow ha hb).run pins s σ H Q I (tE2 er h fun x y v u H2 s2 xx xy hk => ?_)
    unfold binD at hk
    split at hk
    all_goals first
      | contradiction
      | exact hk.elim
      | (split at hk
         · rename_i hz
           obtain rfl := xx.read.int
           obtain rfl := xy.read.int
           simp only [Bool.and_eq_true, decide_eq_true_eq] at hz
           exact ⟨_, _, rfl, rfl, ⟨hz.1.1, hz.1.2, hz.2⟩, hk.int s2⟩
         · exact hk.elim)
  | shr =>
    refine (pe_op op_shr ha hb).run pins s σ H Q I (tE2 er h fun x y v u H2 s2 xx xy hk => ?_)
    unfold binD at hk
    split at hk
    all_goals first
      | contradiction
      | exact hk.elim
      | (split at hk
         · rename_i hz
           obtain rfl := xx.read.int
           obtain rfl := xy.read.int
           exact ⟨_, _, rfl, rfl, hz, hk.int s2⟩
         · exact hk.elim)
theorem de_neg {a : Expr} {pos : Pos} (ha : PE X a (tE fm Wi al1 .fr f)) :
    PE X (.UnaryOp .USub a pos) (tE fm Wi al t fun ρ => do let x ← f ρ; (match x with | .int i => .ok (.int (-i)) | _ => .stk)) := by
  refine PE.imp (pe_un un_neg ha) fun σ H Q ⟨ρ, fps, er, h⟩ => ⟨ρ, fps, er, OKE.bind h fun d v H1 fp e hk s x => ?_⟩
  split at hk
  · obtain rfl := x.read.int
    exact ⟨_, rfl, hk.int s⟩
  · exact hk.elim

mutual
def toPy : D → PyData
  | .non => .none
  | .bl b => .bool b
  | .int i => .int i
  | .str s => .str (toS s)
  | .tup xs => .tuple (toPyL xs)
  | .lst xs => .list (toPyL xs)
  | .dct _ _ => .none
  | .dcn _ => .none
  | .exc _ _ => .none
  | .scr _ => .none
def toPyL : List D → List PyData
  | [] => []
  | d :: ds => toPy d :: toPyL ds
end
mutual
theorem dp_of {H : Hp} : ∀ (d : D) (v : V) (n : Nat), d.plainN n = true → RdR fm H d v → Dp fm.K H v (toPy d) ∧ (toPy d).plain = true ∧ (toPy d).depth ≤ n
  | .non, v, n, hp, h => by obtain rfl := h.non; simp only [toPy]; exact ⟨.non, rfl, Nat.zero_le _⟩
  | .bl b, v, n, hp, h => by obtain rfl := h.bl; simp only [toPy]; exact ⟨.bl b, rfl, Nat.zero_le _⟩
  | .int i, v, n, hp, h => by obtain rfl := h.int; simp only [toPy]; exact ⟨.int i, rfl, Nat.zero_le _⟩
  | .str s, v, n, hp, h => by obtain rfl := h.str; simp only [toPy]; exact ⟨.str _, rfl, Nat.zero_le _⟩
  | .tup xs, v, n, hp, h => by
    obtain ⟨a, vs, rfl, e, r⟩ := Rep.tup_inv h
    cases n with
    | zero => simp only [D.plainN] at hp; cases hp
    | succ n =>
      obtain ⟨q1, q2, q3⟩ := dpL_of xs vs n (by simpa only [D.plainN] using hp) r
      simp only [toPy, PyData.plain, PyData.depth]
      exact ⟨.tup (SqT.of e) q1, q2, by omega⟩
  | .lst xs, v, n, hp, h => by
    obtain ⟨a, vs, rfl, e, r⟩ := Rep.lst_inv h
    cases n with
    | zero => simp only [D.plainN] at hp; cases hp
    | succ n =>
      obtain ⟨q1, q2, q3⟩ := dpL_of xs vs n (by simpa only [D.plainN] using hp) r
      simp only [toPy, PyData.plain, PyData.depth]
      exact ⟨.lst (SqL.of e.1) q1, q2, by omega⟩
  | .dct _ _, v, n, hp, h => by simp only [D.plainN] at hp; cases hp
  | .dcn _, v, n, hp, h => by simp only [D.plainN] at hp; cases hp
  | .exc _ _, v, n, hp, h => by simp only [D.plainN] at hp; cases hp
  | .scr _, v, n, hp, h => by simp only [D.plainN] at hp; cases hp
theorem dpL_of {H : Hp} : ∀ (ds : List D) (vs : List V) (n : Nat), plainLN ds n = true → RdL fm H ds vs → DpAll fm.K H vs (toPyL ds) ∧ PyData.plainAll (toPyL ds) = true ∧ PyData.depthAll (toPyL ds) ≤ n
  | [], vs, n, hp, h => by
    obtain ⟨rfl, _⟩ := RepL.nil_inv h
    simp only [toPyL]
    exact ⟨.nil, rfl, Nat.zero_le _⟩
  | d :: ds, vs, n, hp, h => by
    obtain ⟨v, r, f1, f2, rfl, e2, h1, h2⟩ := RepL.uncons h
    simp only [plainLN, Bool.and_eq_true] at hp
    obtain ⟨q1, q2, q3⟩ := dp_of d v n hp.1 (Rep.fr_nil h1).2
    obtain ⟨p1, p2, p3⟩ := dpL_of ds r n hp.2 (RepL.fr_nil h2).2
    simp only [toPyL, PyData.plainAll, PyData.depthAll, Bool.and_eq_true]
    exact ⟨.cons q1 p1, ⟨q2, p2⟩, by omega⟩
end
mutual
theorem eqv_py : ∀ (a b : D) (n m : Nat), a.plainN n = true → b.plainN m = true → PyData.eqv (toPy a) (toPy b) = a.eqv b
  | .non, b, n, m, ha, hb => by cases b <;> first | rfl | (simp only [D.plainN] at hb; cases hb)
  | .bl x, b, n, m, ha, hb => by cases b <;> first | rfl | (simp only [D.plainN] at hb; cases hb)
  | .int x, b, n, m, ha, hb => by cases b <;> first | rfl | (simp only [D.plainN] at hb; cases hb)
  | .str x, b, n, m, ha, hb => by
    cases b with
    | str y =>
      show (toS x == toS y) = (x == y)
      by_cases e : x = y
      · subst e; simp
      · have e' : toS x ≠ toS y := fun q => e (toS_inj q)
        rw [beq_eq_false_iff_ne.mpr e, beq_eq_false_iff_ne.mpr e']
    | _ => first | rfl | (simp only [D.plainN] at hb; cases hb)
  | .tup xs, b, n, m, ha, hb => by
    cases n with
    | zero => simp only [D.plainN] at ha; cases ha
    | succ n =>
      cases b with
      | tup ys =>
        cases m with
        | zero => simp only [D.plainN] at hb; cases hb
        | succ m =>
          simp only [toPy, PyData.eqv, D.eqv]
          exact eqvL_py xs ys n m (by simpa only [D.plainN] using ha) (by simpa only [D.plainN] using hb)
      | _ => first | rfl | (simp only [D.plainN] at hb; cases hb)
  | .lst xs, b, n, m, ha, hb => by
    cases n with
    | zero => simp only [D.plainN] at ha; cases ha
    | succ n =>
      cases b with
      | lst ys =>
        cases m with
        | zero => simp only [D.plainN] at hb; cases hb
        | succ m =>
          simp only [toPy, PyData.eqv, D.eqv]
          exact eqvL_py xs ys n m (by simpa only [D.plainN] using ha) (by simpa only [D.plainN] using hb)
      | _ => first | rfl | (simp only [D.plainN] at hb; cases hb)
  | .dct _ _, b, n, m, ha, hb => by simp only [D.plainN] at ha; cases ha
  | .dcn _, b, n, m, ha, hb => by simp only [D.plainN] at ha; cases ha
  | .exc _ _, b, n, m, ha, hb => by simp only [D.plainN] at ha; cases ha
  | .scr _, b, n, m, ha, hb => by simp only [D.plainN] at ha; cases ha
theorem eqvL_py : ∀ (a b : List D) (n m : Nat), plainLN a n = true → plainLN b m = true → PyData.eqvAll (toPyL a) (toPyL b) = eqvL a b
  | [], b, n, m, ha, hb => by cases b <;> rfl
  | x :: xs, b, n, m, ha, hb => by
    cases b with
    | nil => rfl
    | cons y ys =>
      simp only [plainLN, Bool.and_eq_true] at ha hb
      simp only [toPyL, PyData.eqvAll, eqvL]
      rw [eqv_py x y n m ha.1 hb.1, eqvL_py xs ys n m ha.2 hb.2]
end
end
end L2.Py

set_option maxRecDepth 100000
set_option maxHeartbeats 1000000
namespace L2.Py
open PySem PySem.Spec PyProof.Rows TL L2
theorem tl_eqv (x y : Str) : (tl x == tl y) = decide (x = y) := by
  by_cases h : x = y
  · rw [h, decide_eq_true rfl, beq_self_eq_true]
  · rw [decide_eq_false h]
    exact beq_eq_false_iff_ne.mpr fun e => h (by rw [← toS_tl x, e, toS_tl])
mutual
theorem keyN_eqv : ∀ a b : NestedKey, (keyN a).eqv (keyN b) = decide (a = b)
  | .none, b => by cases b <;> simp [keyN, D.eqv]
  | .num i, b => by cases b <;> simp [keyN, D.eqv, Bool.beq_eq_decide_eq]
  | .text x, b => by
    cases b with
    | text y =>
      simp only [keyN, D.eqv, tl_eqv]
      by_cases h : x = y <;> simp [h]
    | _ => simp [keyN, D.eqv]
  | .tup ks, b => by
    cases b with
    | tup ls =>
      simp only [keyN, D.eqv, keyNL_eqv ks ls]
      by_cases h : ks = ls <;> simp [h]
    | _ => simp [keyN, D.eqv]
theorem keyNL_eqv : ∀ as bs : List NestedKey, eqvL (keyNL as) (keyNL bs) = decide (as = bs)
  | [], bs => by cases bs <;> simp [keyNL, eqvL]
  | a :: as, bs => by
    cases bs with
    | nil => simp [keyNL, eqvL]
    | cons b bs =>
      simp only [keyNL, eqvL, keyN_eqv a b, keyNL_eqv as bs]
      by_cases h1 : a = b <;> by_cases h2 : as = bs <;> simp [h1, h2]
end
mutual
theorem kn_at {K : KF} {H : Hp} {F : Addr → Prop} : ∀ (d : D) (n : Nat) (v : V), isKN d n = true → Rep K H F d .fr v [] → ∃ k, d = keyN k ∧ KeyAt H k v ∧ k.depth ≤ n
  | .int i, n, v, _, r => ⟨.num i, by simp [keyN], by simp only [Rep] at r; simp only [KeyAt]; exact r.1, by simp [NestedKey.depth]⟩
  | .str s, n, v, _, r => ⟨.text (toS s), by simp [keyN, tl_toS], by simp only [Rep] at r; simp only [KeyAt]; exact r.1, by simp [NestedKey.depth]⟩
  | .tup ds, 0, v, h, _ => by simp [isKN] at h
  | .tup ds, n + 1, v, h, r => by
    simp only [Rep] at r
    obtain ⟨a, vs, e, h1, h2⟩ := r
    have h2 : RepL K H F ds frs0 vs [] := h2
    obtain ⟨ks, e2, h3, h4⟩ := knl_at ds n vs (by simpa only [isKN] using h) h2
    refine ⟨.tup ks, by rw [keyN, e2], ?_, by simp only [NestedKey.depth]; omega⟩
    simp only [KeyAt]
    exact ⟨a, vs, e, h1, h3⟩
  | .non, n, v, h, _ => by simp [isKN] at h
  | .bl _, n, v, h, _ => by simp [isKN] at h
  | .lst _, n, v, h, _ => by simp [isKN] at h
  | .dct _ _, n, v, h, _ => by simp [isKN] at h
  | .dcn _, n, v, h, _ => by simp [isKN] at h
  | .exc _ _, n, v, h, _ => by simp [isKN] at h
  | .scr _, n, v, h, _ => by simp [isKN] at h
theorem knl_at {K : KF} {H : Hp} {F : Addr → Prop} : ∀ (ds : List D) (n : Nat) (vs : List V), isKNL ds n = true → RepL K H F ds frs0 vs [] → ∃ ks, ds = keyNL ks ∧ KeyAtL H ks vs ∧ NestedKey.depthAll ks ≤ n
  | [], n, vs, _, r => ⟨[], by simp [keyNL], by simp only [KeyAtL]; exact r.nil_inv.1, by simp [NestedKey.depthAll]⟩
  | d :: ds, n, vs, h, r => by
    obtain ⟨v, q, f1, f2, e1, e2, h1, h2⟩ := r.uncons
    obtain rfl : f1 = [] := by
      have := congrArg List.length e2
      rw [List.length_append, List.length_nil] at this
      exact List.eq_nil_of_length_eq_zero (by omega)
    obtain rfl : f2 = [] := by simpa using e2
    simp only [isKNL, Bool.and_eq_true] at h
    obtain ⟨k, ek, a1, a2⟩ := kn_at d n v h.1 h1
    obtain ⟨ks, eks, b1, b2⟩ := knl_at ds n q h.2 h2
    refine ⟨k :: ks, by rw [ek, eks, keyNL], ?_, by simp only [NestedKey.depthAll]; omega⟩
    simp only [KeyAtL]
    exact ⟨v, q, e1, a1, b1⟩
end
theorem keyN_of {K : KF} {H : Hp} {F : Addr → Prop} {d : D} {v : V} (h : keyNOk d = true) (r : Rep K H F d .fr v []) : ∃ k b, d = keyN k ∧ v = .ref b ∧ KeyAt H k (.ref b) ∧ k.depth ≤ 8 := by
  cases d with
  | tup ds =>
    have h8 : isKN (.tup ds) 8 = true := by simpa only [isKN, keyNOk] using h
    obtain ⟨k, e, a1, a2⟩ := kn_at (.tup ds) 8 v h8 r
    simp only [Rep] at r
    obtain ⟨b, vs, rfl, _⟩ := r
    exact ⟨k, b, e, rfl, a1, a2⟩
  | _ => simp [keyNOk] at h
mutual
theorem nested_is {P : Program} {w : World} {H : Hp} {h : Heap} (ok : HOk P w H h) : ∀ (k : NestedKey) (v : V) (u : Value), KeyAt H k v → RelV v u → NestedIs h k u
  | .none, v, u, a, r => by
    simp only [KeyAt] at a
    subst a
    obtain rfl : u = Value.none := r
    exact .none
  | .num i, v, u, a, r => by
    simp only [KeyAt] at a
    subst a
    obtain ⟨t, rfl⟩ : ∃ t, u = Value.int i t := r
    exact .int i t
  | .text x, v, u, a, r => by
    simp only [KeyAt] at a
    subst a
    obtain ⟨t, rfl⟩ : ∃ t, u = Value.str x t := r
    exact .text x t
  | .tup ks, v, u, a, r => by
    simp only [KeyAt] at a
    obtain ⟨b, vs, rfl, e, h1⟩ := a
    obtain rfl : u = Value.ref b := r
    have o := ok b _ e
    obtain ⟨_, its, rel, ob, g1, g2, n, g3⟩ := (show _ ∧ ∃ its, Vals vs its ∧ IsTup h b its.toArray from o)
    exact .tup g1 g2 g3 (nested_all ok ks vs its h1 rel)
theorem nested_all {P : Program} {w : World} {H : Hp} {h : Heap} (ok : HOk P w H h) : ∀ (ks : List NestedKey) (vs : List V) (us : List Value), KeyAtL H ks vs → Vals vs us → NestedAll h ks us
  | [], vs, us, a, r => by
    simp only [KeyAtL] at a
    subst a
    cases r
    exact .nil
  | k :: ks, vs, us, a, r => by
    simp only [KeyAtL] at a
    obtain ⟨v, q, rfl, h1, h2⟩ := a
    cases r with
    | cons r1 r2 => exact .cons (nested_is ok k v _ h1 r1) (nested_all ok ks q _ h2 r2)
end
section
variable {P : Program} {w : World} {H : Hp} {h : Heap} {a : Addr} {kvs : List (NestedKey × V)} {xs : List (NestedKey × Addr × Value)}
theorem KN.is (ok : HOk P w H h) (q : KN H kvs xs) : ∀ x ∈ xs, (nestedKind P w).is h x.1 x.2.1 := by
  induction q with
  | nil => intro x hx; cases hx
  | @cons p q ps qs r _ ih =>
    intro x hx
    rcases List.mem_cons.mp hx with rfl | hx
    · exact ⟨nested_is ok x.1 (.ref x.2.1) (.ref x.2.1) (r.1 ▸ r.2.1.1) rfl, r.1 ▸ r.2.1.2⟩
    · exact ih x hx
theorem dn_of (ok : HOk P w H h) (r : Rd H a (.ext (dnP w a xs))) (q : KN H kvs xs) : xs.length ≤ sizeLine ∧ (a == sysModules) = false ∧ Heap.DictOfH (nestedKind P w) h a xs := by
  obtain ⟨⟨⟨h1, h2, h3⟩, o, es, ep, g1, g2, g3, g4⟩, _⟩ := (show dnP w a xs h ∧ _ from r.ok ok)
  exact ⟨h1, h2, o, es, ep, g1, g2, g3, g4, q.is ok, h3⟩
theorem KN.val (q : KN H kvs xs) (k : NestedKey) : RelO (valV kvs k) ((atKey xs k).map (·.2)) := by
  induction q with
  | nil => exact True.intro
  | @cons p q ps qs r _ ih =>
    unfold valV atKey at ih ⊢
    rw [List.find?_cons, List.find?_cons]
    by_cases e : p.1 = k
    · have e2 : q.1 = k := r.1 ▸ e
      rw [decide_eq_true e, decide_eq_true e2]
      exact r.2.2
    · have e2 : q.1 ≠ k := r.1 ▸ e
      rw [decide_eq_false e, decide_eq_false e2]
      exact ih
theorem KN.some (q : KN H kvs xs) (k : NestedKey) : (atKey xs k).isSome = kvs.any fun kv => decide (kv.1 = k) := by
  induction q with
  | nil => rfl
  | @cons p q ps qs r _ ih =>
    unfold atKey at ih ⊢
    rw [List.find?_cons, List.any_cons]
    by_cases e : p.1 = k
    · have e2 : q.1 = k := r.1 ▸ e
      rw [decide_eq_true e, decide_eq_true e2]
      rfl
    · have e2 : q.1 ≠ k := r.1 ▸ e
      rw [decide_eq_false e, decide_eq_false e2, Bool.false_or]
      exact ih
theorem KN.map (q : KN H kvs xs) (k : NestedKey) {y : V} {u : Value} (ry : RelV y u) : KN H (kvs.map fun kv => if kv.1 = k then (kv.1, y) else kv) (xs.map (putAt k u)) := by
  induction q with
  | nil => exact .nil
  | @cons p q ps qs r _ ih =>
    rw [List.map_cons, List.map_cons]
    refine .cons ?_ ih
    unfold putAt
    by_cases e : p.1 = k
    · have e2 : q.1 = k := r.1 ▸ e
      rw [if_pos e, if_pos e2]
      exact ⟨r.1, r.2.1, ry⟩
    · have e2 : q.1 ≠ k := r.1 ▸ e
      rw [if_neg e, if_neg e2]
      exact r
theorem KN.snoc (q : KN H kvs xs) (k : NestedKey) {b : Addr} {y : V} {u : Value} (hk : KeyAt H k (.ref b)) (hd : k.depth ≤ 8) (ry : RelV y u) : KN H (kvs ++ [(k, y)]) (xs ++ [(k, b, u)]) := by
  induction q with
  | nil => exact .cons ⟨rfl, ⟨hk, hd⟩, ry⟩ .nil
  | @cons p q ps qs r _ ih => exact .cons r ih
theorem KN.put (q : KN H kvs xs) (k : NestedKey) {b : Addr} {y : V} {u : Value} (hk : KeyAt H k (.ref b)) (hd : k.depth ≤ 8) (ry : RelV y u) : KN H (putK kvs k y) (storedH xs k b u) := by
  unfold putK storedH
  rw [q.some k]
  split
  · exact q.map k ry
  · exact q.snoc k hk hd ry
theorem KN.vsome (q : KN H kvs xs) (k : NestedKey) : (atKey xs k).isSome = (valV kvs k).isSome := by
  have := q.val k
  cases h1 : valV kvs k with
  | none =>
    rw [h1] at this
    cases h2 : atKey xs k with
    | none => rfl
    | some p => rw [h2] at this; exact (show False from this).elim
  | some v =>
    rw [h1] at this
    cases h2 : atKey xs k with
    | none => rw [h2] at this; exact (show False from this).elim
    | some p => rfl
end
section
variable {X : Cx}
def rNIn (w : World) (neg : Bool) : R2 := fun x y H Q => ∃ a b kvs xs k, x = .ref b ∧ y = .ref a ∧ Rd H a (.ext (dnP w a xs)) ∧ KN H kvs xs ∧ KeyAt H k (.ref b) ∧ k.depth ≤ 8 ∧ Q (.bl (if neg then !(valV kvs k).isSome else (valV kvs k).isSome)) H
theorem room_n (hu : X.A.units + 64 < cLine) : (nestedKind X.prog X.w).room X.A.in1 := by
  show X.A.units + 1 + 8 < cLine
  omega
theorem op_nIn (hu : X.A.units + 64 < cLine) : OpR X (compareOp .In) (rNIn X.w false) := by
  intro pins s σ H x y v u Q I rx ry h
  obtain ⟨a, b, kvs, xs, k, rfl, rfl, ra, kn, ka, kd, q⟩ := h
  obtain rfl : v = Value.ref b := rx
  obtain rfl : u = Value.ref a := ry
  obtain ⟨_, hd, dd⟩ := dn_of I.hok ra kn
  refine wpAny_in_heap (knd := nestedKind X.prog X.w) (room_n hu) ⟨nested_is I.hok k _ _ ka rfl, kd⟩ hd dd ⟨.bl _, H, I.tok _, rfl, ?_⟩
  rw [kn.vsome k]
  exact q
theorem op_nNin (hu : X.A.units + 64 < cLine) : OpR X (compareOp .NotIn) (rNIn X.w true) := by
  intro pins s σ H x y v u Q I rx ry h
  obtain ⟨a, b, kvs, xs, k, rfl, rfl, ra, kn, ka, kd, q⟩ := h
  obtain rfl : v = Value.ref b := rx
  obtain rfl : u = Value.ref a := ry
  obtain ⟨_, hd, dd⟩ := dn_of I.hok ra kn
  refine wpAny_notIn_heap (knd := nestedKind X.prog X.w) (room_n hu) ⟨nested_is I.hok k _ _ ka rfl, kd⟩ hd dd ⟨.bl _, H, I.tok _, rfl, ?_⟩
  rw [kn.vsome k]
  exact q
def rNIx (w : World) : R2 := fun x y H Q => ∃ a b kvs xs k v, x = .ref a ∧ y = .ref b ∧ Rd H a (.ext (dnP w a xs)) ∧ KN H kvs xs ∧ KeyAt H k (.ref b) ∧ k.depth ≤ 8 ∧ valV kvs k = some v ∧ Q v H
theorem ix_nest (hu : X.A.units + 64 < cLine) : IxR X (rNIx X.w) := by
  intro value slice pins s σ H x y v u Q I rx ry h hs
  obtain ⟨a, b, kvs, xs, k, v', rfl, rfl, ra, kn, ka, kd, hv, q⟩ := h
  obtain rfl : v = Value.ref a := rx
  obtain rfl : u = Value.ref b := ry
  obtain ⟨_, hd, dd⟩ := dn_of I.hok ra kn
  have hT : s.TypeIs (.ref a) "dict" := by
    obtain ⟨o, es, ep, g1, g2, g3, _⟩ := dd
    exact ⟨o, g1, g2.1⟩
  have hr := kn.val k
  rw [hv] at hr
  obtain ⟨p, hp, rp⟩ : ∃ p, atKey xs k = some p ∧ RelV v' p.2 := by
    cases h2 : atKey xs k with
    | none => rw [h2] at hr; exact (show False from hr).elim
    | some p => rw [h2] at hr; exact ⟨p, rfl, hr⟩
  unfold subscriptTail
  refine wpAny_bind ?_
  rw [getitemInPython_of_ne hT.not_modules]
  refine wpAny_bind (wpAny_specialOf hT PySem.F.slot_dict_getitem.lookup ?_)
  have fin : wpAny (model X.prog X.w) X.A (subscripted slice false (.ref a) (.ref b)) (fun r s₃ => wpAny (model X.prog X.w) X.A (letTemporaryGo value (.ref a) r >>= fun _ => pure r) (EP X pins σ Q) X.xe s₃) X.xe s := by
    rw [hs]
    exact wpAny_operating (wpAny_getItem_heap (knd := nestedKind X.prog X.w) (room_n hu) ⟨nested_is I.hok k _ _ ka rfl, kd⟩ dd hp (wpAny_bind (wpAny_letTemporaryGo (wpAny_pure ⟨v', H, I.tok _, rp, q⟩))))
  first
    | exact wpAny_pure (wpAny_bind fin)
    | exact wpAny_bind (wpAny_pure (wpAny_bind fin))
    | exact wpAny_bind fin
def rNSet (w : World) : TSet := fun o i v H Q => ∃ a b kvs xs k, o = .ref a ∧ i = .ref b ∧ H a = some (.ext (dnP w a xs)) ∧ KN H kvs xs ∧ KeyAt H k (.ref b) ∧ k.depth ≤ 8 ∧ xs.length < sizeLine ∧
  ∀ xs', KN H (putK kvs k v) xs' → Q (upd H a (.ext (dnP w a xs')))
theorem set_nest (hu : X.A.units + 64 < cLine) : PSet X (rNSet X.w) := by
  intro pins s σ H o i v ov iv uv Q I ro ri rv h
  obtain ⟨a, b, kvs, xs, k, rfl, rfl, ra, kn, ka, kd, hl, q⟩ := h
  obtain rfl : ov = Value.ref a := ro
  obtain rfl : iv = Value.ref b := ri
  obtain ⟨hz, hd, dd⟩ := dn_of I.hok (.inl ra) kn
  refine wpAny_setItem_heap (knd := nestedKind X.prog X.w) (xs := xs) (room_n hu) ⟨nested_is I.hok k _ _ ka rfl, kd⟩ dd (fun h' dd' hs => ?_) hz
  obtain ⟨o', es, ep, g1, g2, g3, g4, _, g6⟩ := dd'
  have kn' := kn.put k ka kd rv
  refine ⟨_, d_write (ob := .ext (dnP X.w a (storedH xs k b uv))) I (by rw [ra]; exact True.intro) hs ⟨o', g1⟩ ⟨⟨⟨?_, hd, g6⟩, o', es, ep, g1, g2, g3, g4⟩, ⟨o', g1⟩, ?_⟩, q _ kn'⟩
  · unfold storedH
    split
    · rw [List.length_map]; omega
    · rw [List.length_append, List.length_cons, List.length_nil]; omega
  · intro h1 h2 p e
    obtain ⟨p1, oo, es1, ep1, p2, p3⟩ := p
    exact ⟨p1, oo, es1, ep1, e oo p2, p3⟩
end
end L2.Py

set_option maxRecDepth 100000
set_option maxHeartbeats 1000000
namespace L2.Py
open PySem PySem.Spec PyProof.Rows TL L2
theorem keyD_eqv (a b : Key) : (keyD a).eqv (keyD b) = decide (a = b) := by
  cases a with
  | inl i =>
    cases b with
    | inl j =>
      show (i == j) = _
      by_cases e : i = j
      · subst e; simp
      · rw [beq_eq_false_iff_ne.mpr e, decide_eq_false (fun q => e (Sum.inl.inj q))]
    | inr y => rw [decide_eq_false (fun q => nomatch q)]; rfl
  | inr x =>
    cases b with
    | inl j => rw [decide_eq_false (fun q => nomatch q)]; rfl
    | inr y =>
      show (tl x == tl y) = _
      by_cases e : x = y
      · subst e; simp
      · have e' : tl x ≠ tl y := fun q => e (ext_tl q)
        rw [beq_eq_false_iff_ne.mpr e', decide_eq_false (fun q => e (Sum.inr.inj q))]
def look : List (Key × Key) → Key → Option Key
  | [], _ => none
  | p :: ps, k => if p.1 = k then some p.2 else look ps k
def samK (ks ls : List (Key × Key)) : Bool := ks.length == ls.length && ks.all fun p => match look ls p.1 with | some u => decide (p.2 = u) | none => false
abbrev kvK (ks : List (Key × Key)) : List (Key × V) := ks.map fun p => (p.1, kV p.2)
abbrev kvD (ks : List (Key × Key)) : List D := ks.map fun p => .tup [keyD p.1, keyD p.2]
theorem look_val (k : Key) : ∀ ls : List (Key × Key), valV (kvK ls) k = (look ls k).map kV
  | [] => rfl
  | p :: ls => by
    by_cases h : p.1 = k
    · show valV ((p.1, kV p.2) :: kvK ls) k = _
      rw [valV_pos h, look, if_pos h]
      rfl
    · show valV ((p.1, kV p.2) :: kvK ls) k = _
      rw [valV_neg h, look, if_neg h]
      exact look_val k ls
theorem look_D (k : Key) : ∀ ls : List (Key × Key), dlook (kvD ls) (keyD k) = (look ls k).map keyD
  | [] => rfl
  | p :: ls => by
    show (if (keyD p.1).eqv (keyD k) = true then some (keyD p.2) else dlook (kvD ls) (keyD k)) = _
    rw [keyD_eqv, look]
    by_cases h : p.1 = k
    · rw [if_pos (decide_eq_true h), if_pos h]
      rfl
    · rw [decide_eq_false h, if_neg Bool.false_ne_true, if_neg h]
      exact look_D k ls
theorem dsame_K (ks ls : List (Key × Key)) : dsame (kvD ks) (kvD ls) = samK ks ls := by
  unfold dsame samK
  rw [List.length_map, List.length_map]
  congr 1
  rw [List.all_map]
  congr 1
  funext p
  show (match dlook (kvD ls) (keyD p.1) with | some u => (keyD p.2).eqv u | none => false) = _
  rw [look_D]
  cases look ls p.1 with
  | none => rfl
  | some u => exact keyD_eqv p.2 u
section
variable {X : Cx} {fm : Fm} {pins : List (Addr × Obj)} {σ : St} {H : Hp} {s : Shared}
theorem keyV_eq {A : Around} (hK : fm.K = X.kw) (hu : A.in1.units + 32 < cLine) (I : Inv X pins σ H s) (k l : Key) {v u : Value} (rv : RelV (kV k) v) (ru : RelV (kV l) u) : SeqAt.EqAt A.in1 s v u (decide (k = l)) := by
  have rd : ∀ k : Key, RdR fm H (keyD k) (kV k) := fun k => by
    cases k with
    | inl i => simp [RdR, Rep, keyD, kV]
    | inr x =>
      simp only [RdR, Rep, keyD, kV, and_true]
      exact congrArg V.str (ext_tl rfl)
  have pl : ∀ k : Key, (keyD k).plainN 20 = true := fun k => by cases k <;> rfl
  obtain ⟨p1, p2, p3⟩ := dp_of (keyD k) (kV k) 20 (pl k) (rd k)
  obtain ⟨q1, q2, q3⟩ := dp_of (keyD l) (kV l) 20 (pl l) (rd l)
  rw [hK] at p1 q1
  obtain ⟨as, r1⟩ := Dp.reads I _ _ v p1 rv
  obtain ⟨bs, r2⟩ := Dp.reads I _ _ u q1 ru
  have := SeqAt.eqAt_plain _ _ A.in1 s v u as bs r1 r2 p2 q2 (by have := Nat.min_le_left (toPy (keyD k)).depth (toPy (keyD l)).depth; omega)
  rw [eqv_py (keyD k) (keyD l) 20 20 (pl k) (pl l), keyD_eqv] at this
  exact this
theorem hitsK {A : Around} (hK : fm.K = X.kw) (hu : A.in1.units + 32 < cLine) (I : Inv X pins σ H s) {ls : List (Key × Key)} {vb : List (Key × Value)} (rb : KV (kvK ls) vb) : ∀ (ks : List (Key × Key)) (va : List (Key × Value)), KV (kvK ks) va →
    PySem.W.KeqHits A.in1 s vb va (ks.all fun p => match look ls p.1 with | some u => decide (p.2 = u) | none => false)
  | [], va, ra => by
    unfold KV at ra
    cases ra
    exact .nil
  | p :: ks, va, ra => by
    unfold KV at ra
    have ra : Paired _ ((p.1, kV p.2) :: kvK ks) va := ra
    cases ra with
    | @cons _ q _ qs h t =>
      obtain ⟨h1, h2⟩ := h
      obtain ⟨key, v⟩ := q
      have h1 : p.1 = key := h1
      have h2 : RelV (kV p.2) v := h2
      have rr : RelO (valV (kvK ls) p.1) (valueAt vb p.1) := rb.val p.1
      rw [look_val] at rr
      rw [List.all_cons]
      have ih := hitsK (A := A) hK hu I rb ks qs t
      subst h1
      cases hl : look ls p.1 with
      | none =>
        rw [hl] at rr
        rw [Bool.false_and]
        exact .miss rr.none_of
      | some u =>
        rw [hl] at rr
        obtain ⟨y, hy, ry⟩ := rr.some_of
        exact .hit hy (keyV_eq hK hu I p.2 u h2 ry) ih
def rDEq (neg : Bool) : R2 := fun x y H Q => ∃ a b ks ls, x = .ref a ∧ y = .ref b ∧ Rd H a (.dK (kvK ks)) ∧ Rd H b (.dK (kvK ls)) ∧ Q (.bl (if neg then !samK ks ls else samK ks ls)) H
theorem op_dEq (fm : Fm) (hK : fm.K = X.kw) (hu : X.A.units + 64 < cLine) : OpR X (compareOp .Eq) (rDEq false) := by
  intro pins s σ H x y v u Q I rx ry h
  obtain ⟨a, b, ks, ls, rfl, rfl, ha, hb, q⟩ := h
  cases (show v = Value.ref a from rx)
  cases (show u = Value.ref b from ry)
  obtain ⟨_, ya, va, ra, da⟩ := (show ObjOk X.prog X.w H s.heap a (.dK (kvK ks)) from ha.ok I.hok)
  obtain ⟨_, yb, vb, rb, db⟩ := (show ObjOk X.prog X.w H s.heap b (.dK (kvK ls)) from hb.ok I.hok)
  refine PySem.W.keq_eq (knd := mixKind X.prog X.w) ya yb da db (by omega) (fun _ => hitsK hK (by show X.A.units + 1 + 32 < cLine; omega) I rb ks va ra) ?_
  refine ⟨.bl _, H, I, rfl, ?_⟩
  have e : (va.length == vb.length) = (ks.length == ls.length) := by rw [← ra.length, ← rb.length, List.length_map, List.length_map]
  rw [e]
  exact q
theorem op_dNe (fm : Fm) (hK : fm.K = X.kw) (hu : X.A.units + 64 < cLine) : OpR X (compareOp .NotEq) (rDEq true) := by
  intro pins s σ H x y v u Q I rx ry h
  obtain ⟨a, b, ks, ls, rfl, rfl, ha, hb, q⟩ := h
  cases (show v = Value.ref a from rx)
  cases (show u = Value.ref b from ry)
  obtain ⟨_, ya, va, ra, da⟩ := (show ObjOk X.prog X.w H s.heap a (.dK (kvK ks)) from ha.ok I.hok)
  obtain ⟨_, yb, vb, rb, db⟩ := (show ObjOk X.prog X.w H s.heap b (.dK (kvK ls)) from hb.ok I.hok)
  refine PySem.W.keq_ne (knd := mixKind X.prog X.w) ya yb da db (by omega) (fun _ => hitsK hK (by show X.A.units + 1 + 32 < cLine; omega) I rb ks va ra) ?_
  refine ⟨.bl _, H, I, rfl, ?_⟩
  have e : (va.length == vb.length) = (ks.length == ls.length) := by rw [← ra.length, ← rb.length, List.length_map, List.length_map]
  rw [e]
  exact q
end
end L2.Py

set_option maxRecDepth 100000
set_option maxHeartbeats 1000000
namespace L2.Py
open PySem PySem.Spec PyProof.Rows TL
section
variable {X : Cx} {fm : Fm} {Wi : WX} {al al1 al2 : Bool} {t : OT} {f g : Rho → R D}

def rEqP (K : PySem.W.Frag) (neg : Bool) : R2 := fun x y H Q => ∃ d e, Dp K H x d ∧ Dp K H y e ∧ d.plain = true ∧ e.plain = true ∧ d.depth ≤ 20 ∧ Q (.bl (if neg then !PyData.eqv d e else PyData.eqv d e)) H
theorem op_eqP (hu : X.A.units + 64 < cLine) : OpR X (compareOp .Eq) (rEqP X.K false) := by
  intro pins s σ H x y v u Q I rx ry h
  obtain ⟨d, e, hd, he, sd, se, dd, q⟩ := h
  obtain ⟨as, r1⟩ := Dp.reads I d x v hd rx
  obtain ⟨bs, r2⟩ := Dp.reads I e y u he ry
  exact SeqAt.eq_plain r1 r2 sd se (by have := Nat.min_le_left d.depth e.depth; omega) ⟨.bl _, H, I, rfl, q⟩
theorem op_neP (hu : X.A.units + 64 < cLine) : OpR X (compareOp .NotEq) (rEqP X.K true) := by
  intro pins s σ H x y v u Q I rx ry h
  obtain ⟨d, e, hd, he, sd, se, dd, q⟩ := h
  obtain ⟨as, r1⟩ := Dp.reads I d x v hd rx
  obtain ⟨bs, r2⟩ := Dp.reads I e y u he ry
  exact SeqAt.ne_plain r1 r2 sd se (by have := Nat.min_le_left d.depth e.depth; omega) ⟨.bl _, H, I, rfl, q⟩
def rInP (K : PySem.W.Frag) (neg : Bool) : R2 := fun x y H Q => ∃ d es, Dp K H x d ∧ (Dp K H y (.list es) ∨ Dp K H y (.tuple es)) ∧ d.plain = true ∧ PyData.plainAll es = true ∧ d.depth ≤ 20 ∧
  Q (.bl (if neg then !es.any (fun y => PyData.eqv y d) else es.any fun y => PyData.eqv y d)) H
theorem op_inP (hu : X.A.units + 64 < cLine) : OpR X (compareOp .In) (rInP X.K false) := by
  intro pins s σ H x y v u Q I rx ry h
  obtain ⟨d, es, hd, he, sd, se, dd, q⟩ := h
  obtain ⟨as, r1⟩ := Dp.reads I d x v hd rx
  have hm : X.A.units + 1 + min (PyData.depthAll es) d.depth < cLine := by have := Nat.min_le_right (PyData.depthAll es) d.depth; omega
  rcases he with he | he
  · obtain ⟨bs, r2⟩ := Dp.reads I _ y u he ry
    exact SeqAt.in_list_data r2 r1 se sd hm ⟨.bl _, H, I, rfl, q⟩
  · obtain ⟨bs, r2⟩ := Dp.reads I _ y u he ry
    exact SeqAt.in_tuple_data r2 r1 se sd hm ⟨.bl _, H, I, rfl, q⟩
theorem op_ninP (hu : X.A.units + 64 < cLine) : OpR X (compareOp .NotIn) (rInP X.K true) := by
  intro pins s σ H x y v u Q I rx ry h
  obtain ⟨d, es, hd, he, sd, se, dd, q⟩ := h
  obtain ⟨as, r1⟩ := Dp.reads I d x v hd rx
  have hm : X.A.units + 1 + min (PyData.depthAll es) d.depth < cLine := by have := Nat.min_le_right (PyData.depthAll es) d.depth; omega
  rcases he with he | he
  · obtain ⟨bs, r2⟩ := Dp.reads I _ y u he ry
    exact SeqAt.notIn_list_data r2 r1 se sd hm ⟨.bl _, H, I, rfl, q⟩
  · obtain ⟨bs, r2⟩ := Dp.reads I _ y u he ry
    exact SeqAt.notIn_tuple_data r2 r1 se sd hm ⟨.bl _, H, I, rfl, q⟩
def rDIn (neg : Bool) : R2 := fun x y H Q => ∃ a o, y = .ref a ∧ DGet H a x o ∧ Q (.bl (if neg then !o.isSome else o.isSome)) H
theorem op_dIn (hu : X.A.units + 1 < cLine) : OpR X (compareOp .In) (rDIn false) := by
  intro pins s σ H x y v u Q I rx ry h
  obtain ⟨a, o, rfl, g, q⟩ := h
  obtain rfl : u = Value.ref a := ry
  exact d_in hu I g rx fun s3 I3 => ⟨.bl o.isSome, H, I3, rfl, q⟩
theorem op_dNin (hu : X.A.units + 1 < cLine) : OpR X (compareOp .NotIn) (rDIn true) := by
  intro pins s σ H x y v u Q I rx ry h
  obtain ⟨a, o, rfl, g, q⟩ := h
  obtain rfl : u = Value.ref a := ry
  exact d_notIn hu I g rx fun s3 I3 => ⟨.bl (!o.isSome), H, I3, rfl, q⟩

theorem keysD_eqv : ∀ (a b : List Key), eqvL (a.map keyD) (b.map keyD) = decide (a = b)
  | [], [] => rfl
  | [], b :: bs => by rw [decide_eq_false (fun q => nomatch q)]; rfl
  | a :: as, [] => by rw [decide_eq_false (fun q => nomatch q)]; rfl
  | a :: as, b :: bs => by
    show ((keyD a).eqv (keyD b) && eqvL (as.map keyD) (bs.map keyD)) = _
    rw [keyD_eqv, keysD_eqv as bs]
    by_cases e1 : a = b
    · subst e1
      by_cases e2 : as = bs
      · subst e2; simp
      · simp [e2]
    · simp [e1]
theorem keyT_eqv (a b : List Key) : (keyT a).eqv (keyT b) = decide (a = b) := by
  show eqvL (a.map keyD) (b.map keyD) = _
  exact keysD_eqv a b
theorem RepN.inv {K : KF} {H : Hp} {F : Addr → Prop} {e kd : D} {t : OT} {v : V} {fp : List Addr} (h : RepN K H F e kd t v fp) : ∃ d, e = .tup [kd, d] ∧ Rep K H F d t v fp := by
  cases e with
  | tup ds =>
    simp only [RepN] at h
    cases ds with
    | nil => simp only [RepN2] at h
    | cons k ds =>
      simp only [RepN2] at h
      obtain ⟨rfl, h⟩ := h
      cases ds with
      | nil => simp only [RepN3] at h
      | cons d ds =>
        simp only [RepN3] at h
        obtain ⟨rfl, h⟩ := h
        exact ⟨d, rfl, h⟩
  | _ => simp only [RepN] at h
theorem RepN.mk {K : KF} {H : Hp} {F : Addr → Prop} {d kd : D} {t : OT} {v : V} {fp : List Addr} (h : Rep K H F d t v fp) : RepN K H F (.tup [kd, d]) kd t v fp := by
  simp only [RepN, RepN2, RepN3]
  exact ⟨trivial, trivial, h⟩
theorem RepM.uncons {K : KF} {H : Hp} {F : Addr → Prop} {e : D} {es : List D} {κ : Type} {kf : κ → D} {t : OT} {kvs : List (κ × V)} {fp : List Addr} (h : RepM K H F (e :: es) κ kf t kvs fp) :
    ∃ k v r f1 f2 d, kvs = (k, v) :: r ∧ fp = f1 ++ f2 ∧ e = .tup [kf k, d] ∧ Rep K H F d t v f1 ∧ RepM K H F es κ kf t r f2 := by
  simp only [RepM] at h
  obtain ⟨k, v, r, f1, f2, e1, e2, h1, h2⟩ := h
  obtain ⟨d, e3, h1⟩ := h1.inv
  exact ⟨k, v, r, f1, f2, d, e1, e2, e3, h1, h2⟩
theorem RepM.nil_inv {K : KF} {H : Hp} {F : Addr → Prop} {κ : Type} {kf : κ → D} {t : OT} {kvs : List (κ × V)} {fp : List Addr} (h : RepM K H F [] κ kf t kvs fp) : kvs = [] ∧ fp = [] := by
  simpa only [RepM] using h
theorem RepM.cons {K : KF} {H : Hp} {F : Addr → Prop} {d : D} {es : List D} {κ : Type} {kf : κ → D} {t : OT} {k : κ} {v : V} {r : List (κ × V)} {f1 f2 : List Addr} (h1 : Rep K H F d t v f1) (h2 : RepM K H F es κ kf t r f2) :
    RepM K H F (.tup [kf k, d] :: es) κ kf t ((k, v) :: r) (f1 ++ f2) := by
  simp only [RepM]
  exact ⟨k, v, r, f1, f2, rfl, rfl, RepN.mk h1, h2⟩
theorem RepM.length {K : KF} {H : Hp} {F : Addr → Prop} {κ : Type} {kf : κ → D} {t : OT} : ∀ {es : List D} {kvs : List (κ × V)} {fp : List Addr}, RepM K H F es κ kf t kvs fp → kvs.length = es.length
  | [], _, _, h => by rw [h.nil_inv.1]; rfl
  | e :: es, _, _, h => by
    obtain ⟨k, v, r, f1, f2, d, rfl, _, _, _, h2⟩ := h.uncons
    rw [List.length_cons, List.length_cons, RepM.length h2]
theorem RepM.look {K : KF} {H : Hp} {F : Addr → Prop} {κ : Type} [DecidableEq κ] {kf : κ → D} (hk : ∀ a b, (kf a).eqv (kf b) = decide (a = b)) : ∀ {es : List D} {kvs : List (κ × V)} (k : κ), RepM K H F es κ kf .fr kvs [] →
    (dlook es (kf k) = none ∧ valV kvs k = none) ∨ ∃ d v, dlook es (kf k) = some d ∧ valV kvs k = some v ∧ Rep K H F d .fr v []
  | [], kvs, k, h => by
    obtain ⟨rfl, _⟩ := h.nil_inv
    exact .inl ⟨rfl, rfl⟩
  | e :: es, kvs, k, h => by
    obtain ⟨k', v, r, f1, f2, d, rfl, e2, rfl, h1, h2⟩ := h.uncons
    obtain ⟨rfl, h1⟩ := Rep.fr_nil h1
    obtain rfl : f2 = [] := by simpa using e2
    by_cases e : k' = k
    · subst e
      refine .inr ⟨d, v, ?_, valV_pos rfl, h1⟩
      show (if (kf k').eqv (kf k') = true then _ else _) = _
      rw [hk, decide_eq_true rfl, if_pos rfl]
    · have q := RepM.look hk (es := es) (kvs := r) k h2
      have e1 : dlook (.tup [kf k', d] :: es) (kf k) = dlook es (kf k) := by
        show (if (kf k').eqv (kf k) = true then _ else _) = _
        rw [hk, decide_eq_false e, if_neg (by simp)]
      have e2 : valV ((k', v) :: r) k = valV r k := valV_neg e
      rw [e1, e2]
      exact q
theorem leaf_key {d : D} {v : V} {H : Hp} (h : isLeaf d = true) (r : RdR fm H d v) : ∃ k : Key, d = keyD k ∧ v = kV k := by
  cases d with
  | int i => exact ⟨.inl i, rfl, r.int⟩
  | str s => exact ⟨.inr (toS s), rfl, r.str⟩
  | _ => cases h
theorem leaves_keys {H : Hp} : ∀ {ds : List D} {vs : List V}, ds.all isLeaf = true → RdL fm H ds vs → ∃ ks : List Key, ds = ks.map keyD ∧ vs = ks.map kV
  | [], vs, _, r => by
    obtain ⟨rfl, _⟩ := r.nil_inv
    exact ⟨[], rfl, rfl⟩
  | d :: ds, vs, h, r => by
    obtain ⟨v, q, f1, f2, rfl, e2, h1, h2⟩ := r.uncons
    simp only [List.all_cons, Bool.and_eq_true] at h
    obtain ⟨k, rfl, rfl⟩ := leaf_key h.1 (Rep.fr_nil h1).2
    obtain ⟨ks, rfl, rfl⟩ := leaves_keys h.2 (RepL.fr_nil h2).2
    exact ⟨k :: ks, rfl, rfl⟩
theorem tup_key {d : D} {v : V} {H : Hp} (h : isKeyT d = true) (r : RdR fm H d v) : ∃ (ks : List Key) (a : Addr), d = keyT ks ∧ v = .ref a ∧ H a = some (.tup (ks.map kV)) := by
  cases d with
  | tup ds =>
    obtain ⟨a, vs, rfl, e, r'⟩ := Rep.tup_inv r
    obtain ⟨ks, rfl, rfl⟩ := leaves_keys (show ds.all isLeaf = true from h) r'
    exact ⟨ks, a, rfl, rfl, e⟩
  | _ => cases h
theorem dget_of {b : Bool} {es : List D} {k : D} {x y : V} {H : Hp} {F : Addr → Prop} (hk : keyOk b k = true) (rd : Rep fm.K H F (.dct b es) .fr x []) (rk : RdR fm H k y) :
    ∃ a o, x = .ref a ∧ DGet H a y o ∧ IsD H a ∧ ((dlook es k = none ∧ o = none) ∨ ∃ d v, dlook es k = some d ∧ o = some v ∧ Rep fm.K H F d .fr v []) := by
  simp only [Rep] at rd
  obtain ⟨a, fp', rfl, rd⟩ := rd
  rcases rd with ⟨rfl, kvs, ⟨⟨q1, _⟩, rfl⟩, q2⟩ | ⟨rfl, kvs, ⟨⟨q1, _⟩, rfl⟩, q2⟩
  · obtain ⟨k', rfl, rfl⟩ := leaf_key (show isLeaf k = true from hk) rk
    refine ⟨a, valV kvs k', rfl, .inl ⟨kvs, k', q1, rfl, rfl⟩, .inl ⟨kvs, q1⟩, ?_⟩
    rcases RepM.look keyD_eqv k' q2 with ⟨z1, z2⟩ | ⟨d, v, z1, z2, z3⟩
    · exact .inl ⟨z1, z2⟩
    · exact .inr ⟨d, v, z1, z2, z3⟩
  · obtain ⟨ks, p, rfl, rfl, e⟩ := tup_key (show isKeyT k = true from hk) rk
    refine ⟨a, valV kvs ks, rfl, .inr ⟨kvs, ks, p, q1, rfl, e, rfl⟩, .inr ⟨kvs, q1⟩, ?_⟩
    rcases RepM.look keyT_eqv ks q2 with ⟨z1, z2⟩ | ⟨d, v, z1, z2, z3⟩
    · exact .inl ⟨z1, z2⟩
    · exact .inr ⟨d, v, z1, z2, z3⟩
theorem nget_of {es : List D} {k : D} {x y : V} {H : Hp} {F : Addr → Prop} (hk : keyNOk k = true) (rd : Rep fm.K H F (.dcn es) .fr x []) (rk : RdR fm H k y) :
    ∃ a b kvs xs k', x = .ref a ∧ y = .ref b ∧ Rd H a (.ext (dnP fm.K.w a xs)) ∧ KN H kvs xs ∧ KeyAt H k' (.ref b) ∧ k'.depth ≤ 8 ∧ ((dlook es k = none ∧ valV kvs k' = none) ∨ ∃ d v, dlook es k = some d ∧ valV kvs k' = some v ∧ Rep fm.K H F d .fr v []) := by
  simp only [Rep] at rd
  obtain ⟨a, fp', kvs, xs, rfl, kn, ⟨⟨q1, _⟩, rfl⟩, q2⟩ := rd
  obtain ⟨k', b, rfl, rfl, h1, h2⟩ := keyN_of hk rk
  refine ⟨a, b, kvs, xs, k', rfl, rfl, q1, kn, h1, h2, ?_⟩
  rcases RepM.look keyN_eqv k' q2 with ⟨z1, z2⟩ | ⟨d, v, z1, z2, z3⟩
  · exact .inl ⟨z1, z2⟩
  · exact .inr ⟨d, v, z1, z2, z3⟩
theorem nget_ow {es : List D} {k : D} {x y : V} {H : Hp} {F : Addr → Prop} {fp : List Addr} (hk : keyNOk k = true) (rd : Rep fm.K H F (.dcn es) (.ow .fr) x fp) (rk : RdR fm H k y) :
    ∃ a b kvs xs k', x = .ref a ∧ y = .ref b ∧ Rd H a (.ext (dnP fm.K.w a xs)) ∧ KN H kvs xs ∧ KeyAt H k' (.ref b) ∧ k'.depth ≤ 8 ∧ ((dlook es k = none ∧ valV kvs k' = none) ∨ ∃ d v, dlook es k = some d ∧ valV kvs k' = some v ∧ Rep fm.K H F d .fr v []) := by
  simp only [Rep] at rd
  obtain ⟨a, fp', kvs, xs, rfl, kn, ⟨q0, _⟩, q2⟩ := rd
  have e := Rep.fr_nil.goM _ _ _ _ q2
  subst e
  obtain ⟨k', b, rfl, rfl, h1, h2⟩ := keyN_of hk rk
  refine ⟨a, b, kvs, xs, k', rfl, rfl, .inl q0, kn, h1, h2, ?_⟩
  rcases RepM.look keyN_eqv k' q2 with ⟨z1, z2⟩ | ⟨d, v, z1, z2, z3⟩
  · exact .inl ⟨z1, z2⟩
  · exact .inr ⟨d, v, z1, z2, z3⟩

def copA : Cop → CmpOp
  | .eq => .Eq | .ne => .NotEq | .lt => .Lt | .le => .LtE | .gt => .Gt | .ge => .GtE | .isN => .Is | .notN => .IsNot | .isin => .In | .notin => .NotIn | .eqd => .Eq | .ned => .NotEq
theorem eqD_run {x y : D} {v u : V} {H : Hp} {r : Bool} (h : eqD x y = .ok r) (rx : RdR fm H x v) (ry : RdR fm H y u) : ∃ d e, Dp fm.K H v d ∧ Dp fm.K H u e ∧ d.plain = true ∧ e.plain = true ∧ d.depth ≤ 20 ∧ PyData.eqv d e = r := by
  unfold eqD at h
  split at h
  · rename_i hp
    simp only [Bool.and_eq_true] at hp
    injection h with h
    obtain ⟨p1, p2, p3⟩ := dp_of x v 20 hp.1 rx
    obtain ⟨q1, q2, q3⟩ := dp_of y u 20 hp.2 ry
    exact ⟨_, _, p1, q1, p2, q2, p3, by rw [eqv_py x y 20 20 hp.1 hp.2]; exact h⟩
  · cases h
theorem any_py (d : D) (hd : d.plain = true) : ∀ (xs : List D) (n : Nat), plainLN xs n = true → (toPyL xs).any (fun y => PyData.eqv y (toPy d)) = xs.any fun y => y.eqv d
  | [], _, _ => rfl
  | x :: xs, n, h => by
    simp only [plainLN, Bool.and_eq_true] at h
    simp only [toPyL, List.any_cons]
    rw [eqv_py x d n 20 h.1 hd, any_py d hd xs n h.2]
def rInAny (K : KF) (neg : Bool) : R2 := fun x y H Q => rInP K.k neg x y H Q ∨ rDIn neg x y H Q ∨ (∃ (c : Nat) (z : Str), x = .str ⟨#[c]⟩ ∧ y = .str z ∧ Q (.bl (if neg then !decide (c ∈ z.cps.toList) else decide (c ∈ z.cps.toList))) H) ∨ rNIn K.w neg x y H Q
theorem op_inAny (hu : X.A.units + 64 < cLine) : OpR X (compareOp .In) (rInAny X.kw false) := (op_inP hu).or ((op_dIn (by omega)).or (op_in_sign.or (op_nIn hu)))
theorem op_ninAny (hu : X.A.units + 64 < cLine) : OpR X (compareOp .NotIn) (rInAny X.kw true) := (op_ninP hu).or ((op_dNin (by omega)).or (op_notIn_sign.or (op_nNin hu)))
theorem inD_run {x y : D} {v u : V} {H : Hp} {r neg : Bool} {Q : VK} (h : inD x y = .ok r) (rx : RdR fm H x v) (ry : RdR fm H y u) (q : Q (.bl (if neg then !r else r)) H) : rInAny fm.K neg v u H Q := by
  unfold inD at h
  split at h
  · split at h
    · rename_i b es hk
      injection h with h
      obtain ⟨a, o, rfl, g, _, z⟩ := dget_of hk ry rx
      refine .inr (.inl ⟨a, o, rfl, g, ?_⟩)
      have e : o.isSome = r := by
        rcases z with ⟨z1, z2⟩ | ⟨d, v, z1, z2, _⟩
        · rw [z1] at h; rw [z2]; exact h
        · rw [z1] at h; rw [z2]; exact h
      rw [e]; exact q
    · cases h
  · split at h
    · rename_i es hk
      injection h with h
      obtain ⟨a, b, kvs, xs, k', rfl, rfl, g1, g2, g3, g4, z⟩ := nget_of hk ry rx
      refine .inr (.inr (.inr ⟨a, b, kvs, xs, k', rfl, rfl, g1, g2, g3, g4, ?_⟩))
      have e : (valV kvs k').isSome = r := by
        rcases z with ⟨z1, z2⟩ | ⟨d, v, z1, z2, _⟩
        · rw [z1] at h; rw [z2]; exact h
        · rw [z1] at h; rw [z2]; exact h
      rw [e]; exact q
    · cases h
  · split at h
    · rename_i xs hp
      simp only [Bool.and_eq_true] at hp
      injection h with h
      obtain ⟨p1, p2, p3⟩ := dp_of x v 20 hp.1 rx
      have hp2 : (D.lst xs).plainN 21 = true := hp.2
      obtain ⟨q1, q2, q3⟩ := dp_of (.lst xs) u 21 hp2 ry
      simp only [toPy] at q1 q2
      refine .inl ⟨_, _, p1, .inl q1, p2, q2, p3, ?_⟩
      rw [any_py x hp.1 xs 20 hp.2, h]; exact q
    · cases h
  · split at h
    · rename_i xs hp
      simp only [Bool.and_eq_true] at hp
      injection h with h
      obtain ⟨p1, p2, p3⟩ := dp_of x v 20 hp.1 rx
      have hp2 : (D.tup xs).plainN 21 = true := hp.2
      obtain ⟨q1, q2, q3⟩ := dp_of (.tup xs) u 21 hp2 ry
      simp only [toPy] at q1 q2
      refine .inl ⟨_, _, p1, .inr q1, p2, q2, p3, ?_⟩
      rw [any_py x hp.1 xs 20 hp.2, h]; exact q
    · cases h
  · split at h
    · rename_i ts _ c
      injection h with h
      obtain rfl := rx.str
      obtain rfl := ry.str
      refine .inr (.inr (.inl ⟨c, toS ts, rfl, rfl, ?_⟩))
      have e : decide (c ∈ (toS ts).cps.toList) = r := by rw [← h]; exact (List.contains_eq_mem ..).symm
      rw [e]; exact q
    · cases h
  · cases h
theorem isN_run {x : D} {v : V} {H : Hp} (rx : RdR fm H x v) : decide (v = .non) = isNon x := by
  cases x with
  | non => obtain rfl := rx.non; rfl
  | bl b => obtain rfl := rx.bl; rfl
  | int b => obtain rfl := rx.int; rfl
  | str b => obtain rfl := rx.str; rfl
  | tup xs => obtain ⟨a, vs, rfl, _⟩ := Rep.tup_inv rx; rfl
  | lst xs => obtain ⟨a, vs, rfl, _⟩ := Rep.lst_inv rx; rfl
  | dct b xs => simp only [RdR, Rep] at rx; obtain ⟨a, fp', rfl, _⟩ := rx; rfl
  | dcn xs => simp only [RdR, Rep] at rx; obtain ⟨a, fp', kvs, xs, rfl, _⟩ := rx; rfl
  | exc c ps => simp only [RdR, Rep] at rx; obtain ⟨⟨a, d, rfl, _⟩, _⟩ := rx; rfl
  | scr ns => simp only [RdR, Rep] at rx; obtain ⟨⟨a, rfl, _⟩, _⟩ := rx; rfl
def rCop (K : KF) : Cop → R2
  | .eq => rEqP K false
  | .ne => rEqP K true
  | .lt => rI0 fun i j => .bl (decide (i < j))
  | .le => rI0 fun i j => .bl (decide (i ≤ j))
  | .gt => rI0 fun i j => .bl (decide (j < i))
  | .ge => rI0 fun i j => .bl (decide (j ≤ i))
  | .isN => fun x y H Q => y = .non ∧ Q (.bl (decide (x = .non))) H
  | .notN => fun x y H Q => y = .non ∧ Q (.bl (!decide (x = .non))) H
  | .isin => rInAny K false
  | .notin => rInAny K true
  | .eqd => rDEq false
  | .ned => rDEq true
theorem op_cop (fm : Fm) (hK : fm.K = X.kw) (hu : X.A.units + 64 < cLine) : ∀ op, OpR X (compareOp (copA op)) (rCop X.kw op)
  | .eq => op_eqP hu
  | .ne => op_neP hu
  | .lt => op_lt
  | .le => op_le
  | .gt => op_gt
  | .ge => op_ge
  | .isN => op_isN
  | .notN => op_notN
  | .isin => op_inAny hu
  | .notin => op_ninAny hu
  | .eqd => op_dEq fm hK hu
  | .ned => op_dNe fm hK hu
theorem leafK {K : KF} {H : Hp} {F : Addr → Prop} : ∀ {es : List D} {kvs : List (Key × V)} {fp : List Addr}, leafV es = true → RepM K H F es Key keyD .fr kvs fp → ∃ ks, kvs = kvK ks ∧ es = kvD ks
  | [], kvs, fp, _, h => by
    obtain ⟨rfl, _⟩ := h.nil_inv
    exact ⟨[], rfl, rfl⟩
  | e :: es, kvs, fp, hl, h => by
    obtain ⟨k, v, r, f1, f2, d, rfl, _, rfl, h1, h2⟩ := h.uncons
    unfold leafV at hl
    rw [List.all_cons, Bool.and_eq_true] at hl
    obtain ⟨ks, rfl, rfl⟩ := leafK (es := es) hl.2 h2
    obtain ⟨k2, e1, e2⟩ : ∃ k2 : Key, d = keyD k2 ∧ v = kV k2 := by
      have hd : isLeaf d = true := hl.1
      cases d with
      | int i => simp only [Rep] at h1; exact ⟨.inl i, rfl, h1.1⟩
      | str s => simp only [Rep] at h1; exact ⟨.inr (toS s), rfl, h1.1⟩
      | _ => cases hd
    subst e1 e2
    exact ⟨(k, k2) :: ks, rfl, rfl⟩
theorem dct_read {es : List D} {v : V} {H : Hp} (hl : leafV es = true) (rx : RdR fm H (.dct false es) v) : ∃ a ks, v = .ref a ∧ Rd H a (.dK (kvK ks)) ∧ es = kvD ks := by
  simp only [RdR, Rep] at rx
  obtain ⟨a, fp', rfl, rd⟩ := rx
  rcases rd with ⟨_, kvs, ⟨⟨q1, _⟩, rfl⟩, q2⟩ | ⟨z, _⟩
  · obtain ⟨ks, rfl, rfl⟩ := leafK hl q2
    exact ⟨a, ks, rfl, q1, rfl⟩
  · cases z
theorem rd_cop {op : Cop} {ρ : Rho} {σ : St} {H : Hp} {fps : Fps} {Q : VK} (er : ER fm ρ σ H fps) (h : OKE fm Wi al t (f ρ >>= fun x => g ρ >>= fun y => cmpD op x y) σ H fps Q) :
    tOp (rCop fm.K op) (tE fm Wi al1 .fr f) (tE fm Wi al2 .fr g) σ H Q := by
  cases op with
  | eq =>
    refine tE2 er h fun x y v u H2 s2 xx xy hk => ?_
    cases e : eqD x y with
    | ok r =>
      rw [show cmpD .eq x y = .ok (.bl r) by show (eqD x y >>= _) = _; rw [e]; rfl] at hk
      obtain ⟨d1, d2, p1, p2, p3, p4, p5, p6⟩ := eqD_run e xx.read xy.read
      exact ⟨d1, d2, p1, p2, p3, p4, p5, by rw [p6]; exact hk.bl s2⟩
    | exn c ps => exfalso; unfold eqD at e; split at e <;> cases e
    | stk => rw [show cmpD .eq x y = .stk by show (eqD x y >>= _) = _; rw [e]; rfl] at hk; exact hk.elim
  | ne =>
    refine tE2 er h fun x y v u H2 s2 xx xy hk => ?_
    cases e : eqD x y with
    | ok r =>
      rw [show cmpD .ne x y = .ok (.bl (!r)) by show (eqD x y >>= _) = _; rw [e]; rfl] at hk
      obtain ⟨d1, d2, p1, p2, p3, p4, p5, p6⟩ := eqD_run e xx.read xy.read
      exact ⟨d1, d2, p1, p2, p3, p4, p5, by rw [p6]; exact hk.bl s2⟩
    | exn c ps => exfalso; unfold eqD at e; split at e <;> cases e
    | stk => rw [show cmpD .ne x y = .stk by show (eqD x y >>= _) = _; rw [e]; rfl] at hk; exact hk.elim
  | lt =>
    refine tE2 er h fun x y v u H2 s2 xx xy hk => ?_
    unfold cmpD at hk
    split at hk <;> first
      | contradiction
      | exact hk.elim
      | (obtain rfl := xx.read.int
         obtain rfl := xy.read.int
         exact ⟨_, _, rfl, rfl, hk.bl s2⟩)
  | le =>
    refine tE2 er h fun x y v u H2 s2 xx xy hk => ?_
    unfold cmpD at hk
    split at hk <;> first
      | contradiction
      | exact hk.elim
      | (obtain rfl := xx.read.int
         obtain rfl := xy.read.int
         exact ⟨_, _, rfl, rfl, hk.bl s2⟩)
  | gt =>
    refine tE2 er h fun x y v u H2 s2 xx xy hk => ?_
    unfold cmpD at hk
    split at hk <;> first
      | contradiction
      | exact hk.elim
      | (obtain rfl := xx.read.int
         obtain rfl := xy.read.int
         exact ⟨_, _, rfl, rfl, hk.bl s2⟩)
  | ge =>
    refine tE2 er h fun x y v u H2 s2 xx xy hk => ?_
    unfold cmpD at hk
    split at hk <;> first
      | contradiction
      | exact hk.elim
      | (obtain rfl := xx.read.int
         obtain rfl := xy.read.int
         exact ⟨_, _, rfl, rfl, hk.bl s2⟩)
  | isN =>
    refine tE2 er h fun x y v u H2 s2 xx xy hk => ?_
    unfold cmpD at hk
    split at hk <;> first
      | contradiction
      | exact hk.elim
      | (obtain rfl := xy.read.non
         refine ⟨rfl, ?_⟩
         rw [isN_run xx.read]
         exact hk.bl s2)
  | notN =>
    refine tE2 er h fun x y v u H2 s2 xx xy hk => ?_
    unfold cmpD at hk
    split at hk <;> first
      | contradiction
      | exact hk.elim
      | (obtain rfl := xy.read.non
         refine ⟨rfl, ?_⟩
         rw [isN_run xx.read]
         exact hk.bl s2)
  | isin =>
    refine tE2 er h fun x y v u H2 s2 xx xy hk => ?_
    cases e : inD x y with
    | ok r =>
      rw [show cmpD .isin x y = .ok (.bl r) by show (inD x y >>= _) = _; rw [e]; rfl] at hk
      exact inD_run e xx.read xy.read (hk.bl s2)
    | exn c ps => exfalso; unfold inD at e; repeat' (split at e <;> try cases e)
    | stk => rw [show cmpD .isin x y = .stk by show (inD x y >>= _) = _; rw [e]; rfl] at hk; exact hk.elim
  | notin =>
    refine tE2 er h fun x y v u H2 s2 xx xy hk => ?_
    cases e : inD x y with
    | ok r =>
      rw [show cmpD .notin x y = .ok (.bl (!r)) by show (inD x y >>= _) = _; rw [e]; rfl] at hk
      exact inD_run e xx.read xy.read (hk.bl s2)
    | exn c ps => exfalso; unfold inD at e; repeat' (split at e <;> try cases e)
    | stk => rw [show cmpD .notin x y = .stk by show (inD x y >>= _) = _; rw [e]; rfl] at hk; exact hk.elim
  | eqd =>
    refine tE2 er h fun x y v u H2 s2 xx xy hk => ?_
    unfold cmpD at hk
    split at hk <;> first
      | contradiction
      | exact hk.elim
      | skip
    split at hk
    · rename_i hl
      rw [Bool.and_eq_true] at hl
      obtain ⟨a, ks, rfl, ra, rfl⟩ := dct_read hl.1 xx.read
      obtain ⟨b, ls, rfl, rb, rfl⟩ := dct_read hl.2 xy.read
      rw [dsame_K] at hk
      exact ⟨a, b, ks, ls, rfl, rfl, ra, rb, hk.bl s2⟩
    · exact hk.elim
  | ned =>
    refine tE2 er h fun x y v u H2 s2 xx xy hk => ?_
    unfold cmpD at hk
    split at hk <;> first
      | contradiction
      | exact hk.elim
      | skip
    split at hk
    · rename_i hl
      rw [Bool.and_eq_true] at hl
      obtain ⟨a, ks, rfl, ra, rfl⟩ := dct_read hl.1 xx.read
      obtain ⟨b, ls, rfl, rb, rfl⟩ := dct_read hl.2 xy.read
      rw [dsame_K] at hk
      exact ⟨a, b, ks, ls, rfl, rfl, ra, rb, hk.bl s2⟩
    · exact hk.elim
theorem de_cmp {op : Cop} {a b : Expr} {pos : Pos} (hK : fm.K = X.kw) (hu : X.A.units + 64 < cLine) (hm : behindInMarks (copA op) b = false) (ha : PE X a (tE fm Wi al1 .fr f)) (hb : PE X b (tE fm Wi al2 .fr g)) :
    PE X (.Compare a [copA op] [b] pos) (tE fm Wi al t fun ρ => do let x ← f ρ; let y ← g ρ; cmpD op x y) := by
  refine PE.imp (pe_cmpR (op_cop fm hK hu op) ha hb hm) fun σ H Q ⟨ρ, fps, er, h⟩ => ?_
  have := rd_cop (al1 := al1) (al2 := al2) er h
  rw [hK] at this
  exact this

def OKB (fm : Fm) (Wi : WX) (r : R Bool) (σ : St) (H : Hp) (Q : Bool → Hp → Prop) : Prop :=
  match r with
  | .ok b => ∀ H', Same H H' → Q b H'
  | .exn c ps => ∀ cls dx H', Same H H' → ExnR fm H' c ps cls dx → Wi cls dx σ H'
  | .stk => False
def tTT (fm : Fm) (Wi : WX) (f : Rho → R Bool) : TT := fun σ H Q => ∃ ρ fps, ER fm ρ σ H fps ∧ OKB fm Wi (f ρ) σ H Q
theorem OKB.ext {r : R Bool} {σ : St} {H H1 : Hp} {Q : Bool → Hp → Prop} (s : Same H H1) (h : OKB fm Wi r σ H Q) : OKB fm Wi r σ H1 Q := by
  cases r with
  | ok d => exact fun H' s2 => h H' (s.trans s2)
  | exn c ps => exact fun cls dx H' s2 => h cls dx H' (s.trans s2)
  | stk => exact h
theorem OKB.val {r : R D} {σ : St} {H : Hp} {fps : Fps} {Q : Bool → Hp → Prop} (h : OKB fm Wi (r >>= isTrueD) σ H Q) : OKE fm Wi al t r σ H fps (fun v H' => ∃ k, v = .bl k ∧ Q k H') := by
  cases r with
  | ok d =>
    intro v H' fp s x
    cases d with
    | bl b => exact ⟨b, x.read.bl, h H' s⟩
    | _ => exact h.elim
  | exn c ps => exact h
  | stk => exact h
theorem dt_val {a : Expr} (hp : plainTruth a = true) (ha : PE X a (tE fm Wi al .fr f)) : PT X a (tTT fm Wi fun ρ => f ρ >>= isTrueD) :=
  PT.imp (pt_val ha (truth_of hp)) fun σ H Q ⟨ρ, fps, er, h⟩ => ⟨ρ, fps, er, OKB.val h⟩
theorem dt_cmp {op : Cop} {a b : Expr} {pos : Pos} (hK : fm.K = X.kw) (hu : X.A.units + 64 < cLine) (hm : behindInMarks (copA op) b = false) (ha : PE X a (tE fm Wi al1 .fr f)) (hb : PE X b (tE fm Wi al2 .fr g)) :
    PT X (.Compare a [copA op] [b] pos) (tTT fm Wi fun ρ => (do let x ← f ρ; let y ← g ρ; cmpD op x y) >>= isTrueD) := by
  refine PT.imp (pt_cmpR (op_cop fm hK hu op) ha hb hm) fun σ H Q ⟨ρ, fps, er, h⟩ => ?_
  have := rd_cop (al1 := al1) (al2 := al2) (al := false) (t := .fr) (fps := fps) er (OKB.val h)
  rw [hK] at this
  exact this
theorem ev_and {x y : R D} : ((do let a ← x; let c ← isTrueD a; if c then (do let b ← y; let d ← isTrueD b; pure (.bl d)) else pure (.bl false) : R D) >>= isTrueD) = ((x >>= isTrueD) >>= fun c => if c then y >>= isTrueD else .ok false) := by
  cases x with
  | ok a =>
    cases a with
    | bl c =>
      cases c with
      | true => cases y with
        | ok b => cases b <;> rfl
        | exn c ps => rfl
        | stk => rfl
      | false => rfl
    | _ => rfl
  | exn c ps => rfl
  | stk => rfl
theorem ev_or {x y : R D} : ((do let a ← x; let c ← isTrueD a; if c then pure (.bl true) else (do let b ← y; let d ← isTrueD b; pure (.bl d)) : R D) >>= isTrueD) = ((x >>= isTrueD) >>= fun c => if c then .ok true else y >>= isTrueD) := by
  cases x with
  | ok a =>
    cases a with
    | bl c =>
      cases c with
      | false => cases y with
        | ok b => cases b <;> rfl
        | exn c ps => rfl
        | stk => rfl
      | true => rfl
    | _ => rfl
  | exn c ps => rfl
  | stk => rfl
theorem ev_not {x : R D} : ((do let a ← x; let b ← isTrueD a; pure (.bl (!b)) : R D) >>= isTrueD) = ((x >>= isTrueD) >>= fun c => .ok (!c)) := by
  cases x with
  | ok a => cases a <;> rfl
  | exn c ps => rfl
  | stk => rfl
variable {p q : Rho → R Bool}
theorem dw_and1 {a : Expr} {pos : Pos} (ha : PT X a (tTT fm Wi p)) : PW X (.BoolOp .And [a] pos) (tTT fm Wi p) := pw_and1 ha
theorem dw_or1 {a : Expr} {pos : Pos} (ha : PT X a (tTT fm Wi p)) : PW X (.BoolOp .Or [a] pos) (tTT fm Wi p) := pw_or1 ha
theorem PW.imp {e : Expr} {t t' : TT} (h : PW X e t) (i : ∀ σ H Q, t' σ H Q → t σ H Q) : PW X e t' := ⟨fun wh pins s σ H Q I q => h.run wh pins s σ H Q I (i σ H Q q)⟩
theorem dw_and {a b : Expr} {rest : List Expr} {pos : Pos} (ha : PT X a (tTT fm Wi p)) (hb : PW X (.BoolOp .And (b :: rest) pos) (tTT fm Wi q)) :
    PW X (.BoolOp .And (a :: b :: rest) pos) (tTT fm Wi fun ρ => p ρ >>= fun c => if c then q ρ else .ok false) := by
  refine PW.imp (pw_and ha hb) fun σ H Q ⟨ρ, fps, er, h⟩ => ⟨ρ, fps, er, ?_⟩
  dsimp only at h
  cases e : p ρ with
  | ok c =>
    rw [e] at h
    intro H1 s1
    cases c with
    | true => exact iteT ⟨ρ, fps, er.ext s1, OKB.ext s1 h⟩
    | false => exact iteF (h H1 s1)
  | exn c ps => rw [e] at h; exact h
  | stk => rw [e] at h; exact h
theorem dw_or {a b : Expr} {rest : List Expr} {pos : Pos} (ha : PT X a (tTT fm Wi p)) (hb : PW X (.BoolOp .Or (b :: rest) pos) (tTT fm Wi q)) :
    PW X (.BoolOp .Or (a :: b :: rest) pos) (tTT fm Wi fun ρ => p ρ >>= fun c => if c then .ok true else q ρ) := by
  refine PW.imp (pw_or ha hb) fun σ H Q ⟨ρ, fps, er, h⟩ => ⟨ρ, fps, er, ?_⟩
  dsimp only at h
  cases e : p ρ with
  | ok c =>
    rw [e] at h
    intro H1 s1
    cases c with
    | false => exact iteF ⟨ρ, fps, er.ext s1, OKB.ext s1 h⟩
    | true => exact iteT (h H1 s1)
  | exn c ps => rw [e] at h; exact h
  | stk => rw [e] at h; exact h
theorem dt_not {a : Expr} {pos : Pos} (ha : PT X a (tTT fm Wi p)) : PT X (.UnaryOp .Not a pos) (tTT fm Wi fun ρ => p ρ >>= fun c => .ok (!c)) := by
  refine PT.imp (pt_not ha) fun σ H Q ⟨ρ, fps, er, h⟩ => ⟨ρ, fps, er, ?_⟩
  dsimp only at h
  cases e : p ρ with
  | ok c => rw [e] at h; exact h
  | exn c ps => rw [e] at h; exact h
  | stk => rw [e] at h; exact h
theorem de_not {a : Expr} {pos : Pos} (ha : PE X a (tE fm Wi al1 .fr f)) : PE X (.UnaryOp .Not a pos) (tE fm Wi al t fun ρ => do let x ← f ρ; let b ← isTrueD x; pure (.bl (!b))) := by
  refine PE.imp (pe_not ha) fun σ H Q ⟨ρ, fps, er, h⟩ => ⟨ρ, fps, er, OKE.bind h fun d v H1 fp e hk s x => ?_⟩
  cases d with
  | bl b => exact ⟨b, x.read.bl, hk.bl s⟩
  | _ => exact hk.elim
def bv (r : R D) : R D := do let b ← r; let d ← isTrueD b; pure (.bl d)
theorem de_one {op : BoolOp} {a : Expr} {pos : Pos} (ha : PE X a (tE fm Wi al1 .fr f)) : PE X (.BoolOp op [a] pos) (tE fm Wi al t fun ρ => bv (f ρ)) := by
  refine PE.imp (pe_one ha) fun σ H Q ⟨ρ, fps, er, h⟩ => ⟨ρ, fps, er, OKE.bind h fun d v H1 fp e hk s x => ?_⟩
  cases d with
  | bl b => obtain rfl := x.read.bl; exact hk.bl s
  | _ => exact hk.elim
theorem de_and {a b : Expr} {rest : List Expr} {pos : Pos} (ha : PE X a (tE fm Wi al1 .fr f)) (hb : PE X (.BoolOp .And (b :: rest) pos) (tE fm Wi al2 .fr fun ρ => bv (g ρ))) :
    PE X (.BoolOp .And (a :: b :: rest) pos) (tE fm Wi al t fun ρ => do let a ← f ρ; let c ← isTrueD a; if c then bv (g ρ) else pure (.bl false)) := by
  refine PE.imp (pe_and ha hb) fun σ H Q ⟨ρ, fps, er, h⟩ => ⟨ρ, fps, er, OKE.bind h fun d v H1 fp e hk s x => ?_⟩
  cases d with
  | bl c =>
    refine ⟨c, x.read.bl, ?_⟩
    cases c with
    | true =>
      have hk' : OKE fm Wi al t (bv (g ρ)) σ H fps Q := hk
      refine iteT ⟨ρ, fps, er.ext s, ?_⟩
      have h2 := OKE.ext s hk'
      show OKE fm Wi al2 .fr (bv (g ρ)) σ H1 fps Q
      cases e2 : bv (g ρ) with
      | ok d =>
        rw [e2] at h2
        intro v H2 fp s2 x2
        unfold bv at e2
        cases e3 : g ρ with
        | ok d3 =>
          rw [e3] at e2
          cases d3 with
          | bl b3 =>
            injection e2 with e2
            subst e2
            obtain rfl := x2.read.bl
            exact h2.bl s2
          | _ => cases e2
        | exn c ps => rw [e3] at e2; cases e2
        | stk => rw [e3] at e2; cases e2
      | exn c ps => rw [e2] at h2; exact h2
      | stk => rw [e2] at h2; exact h2
    | false => exact iteF (hk.bl s)
  | _ => exact hk.elim
theorem de_or {a b : Expr} {rest : List Expr} {pos : Pos} (ha : PE X a (tE fm Wi al1 .fr f)) (hb : PE X (.BoolOp .Or (b :: rest) pos) (tE fm Wi al2 .fr fun ρ => bv (g ρ))) :
    PE X (.BoolOp .Or (a :: b :: rest) pos) (tE fm Wi al t fun ρ => do let a ← f ρ; let c ← isTrueD a; if c then pure (.bl true) else bv (g ρ)) := by
  refine PE.imp (pe_or ha hb) fun σ H Q ⟨ρ, fps, er, h⟩ => ⟨ρ, fps, er, OKE.bind h fun d v H1 fp e hk s x => ?_⟩
  cases d with
  | bl c =>
    refine ⟨c, x.read.bl, ?_⟩
    cases c with
    | false =>
      have hk' : OKE fm Wi al t (bv (g ρ)) σ H fps Q := hk
      refine iteF ⟨ρ, fps, er.ext s, ?_⟩
      have h2 := OKE.ext s hk'
      show OKE fm Wi al2 .fr (bv (g ρ)) σ H1 fps Q
      cases e2 : bv (g ρ) with
      | ok d =>
        rw [e2] at h2
        intro v H2 fp s2 x2
        unfold bv at e2
        cases e3 : g ρ with
        | ok d3 =>
          rw [e3] at e2
          cases d3 with
          | bl b3 =>
            injection e2 with e2
            subst e2
            obtain rfl := x2.read.bl
            exact h2.bl s2
          | _ => cases e2
        | exn c ps => rw [e3] at e2; cases e2
        | stk => rw [e3] at e2; cases e2
      | exn c ps => rw [e2] at h2; exact h2
      | stk => rw [e2] at h2; exact h2
    | true => exact iteT (hk.bl s)
  | _ => exact hk.elim
theorem de_flat {a : Expr} (ha : PE X a (tE fm Wi al1 .fr f)) : PE X a (tE fm Wi al t fun ρ => do let x ← f ρ; if x.noMut then pure x else .stk) := by
  refine PE.imp ha fun σ H Q ⟨ρ, fps, er, h⟩ => ⟨ρ, fps, er, OKE.bind h fun d v H1 fp e hk s x => ?_⟩
  by_cases m : d.noMut = true
  · rw [if_pos m] at hk
    exact hk v H1 [] s (XR.of_flat x.read m)
  · rw [if_neg m] at hk
    exact hk.elim
end
end L2.Py

set_option maxRecDepth 100000
set_option maxHeartbeats 1000000
namespace L2.Py
open PySem PySem.Spec PyProof.Rows TL
section
variable {X : Cx} {fm : Fm} {Wi : WX} {al al1 al2 : Bool} {t : OT} {f g : Rho → R D}
theorem ix_dict (hu : X.A.units + 1 < cLine) : IxR X (fun x y H Q => ∃ a v, x = .ref a ∧ DGet H a y (some v) ∧ Q v H) := by
  intro value slice pins s σ H x y v u Q I rx ry h hs
  obtain ⟨a, v', rfl, g, q⟩ := h
  obtain rfl : v = Value.ref a := rx
  have hT := dict_typeIs I g
  unfold subscriptTail
  refine wpAny_bind ?_
  rw [getitemInPython_of_ne hT.not_modules]
  refine wpAny_bind (wpAny_specialOf hT PySem.F.slot_dict_getitem.lookup ?_)
  have fin : wpAny (model X.prog X.w) X.A (subscripted slice false (.ref a) u) (fun r s₃ => wpAny (model X.prog X.w) X.A (letTemporaryGo value (.ref a) r >>= fun _ => pure r) (EP X pins σ Q) X.xe s₃) X.xe s := by
    rw [hs]
    exact wpAny_operating (d_getItem hu I g ry fun w' s3 I3 rw' => wpAny_bind (wpAny_letTemporaryGo (wpAny_pure ⟨v', H, I3, rw', q⟩)))
  first
    | exact wpAny_pure (wpAny_bind fin)
    | exact wpAny_bind (wpAny_pure (wpAny_bind fin))
    | exact wpAny_bind fin
theorem ixAt {α β : Type} {xs : List α} {ys : List β} {i : Int} {x : α} (h : atD xs i = .ok x) (hl : ys.length = xs.length) : ∃ j : Nat, xs[j]? = some x ∧ ∀ y, ys[j]? = some y → atI ys i = some y := by
  unfold atD ofOpt at h
  cases e : (ixOf xs.length i) with
  | none => rw [e] at h; cases h
  | some j =>
    rw [e] at h
    cases e2 : xs[j]? with
    | none => simp only [Option.bind_some, e2] at h; cases h
    | some z =>
      simp only [Option.bind_some, e2] at h
      injection h with h
      subst h
      refine ⟨j, e2, fun y hy => ?_⟩
      have e' : ixN ys.length i = some j := by rw [hl]; exact e
      unfold atI
      rw [e', Option.bind_some]
      exact hy
theorem scr_sq {H : Hp} {ns : List Int} {v : V} (h : RdR fm H (.scr ns) v) : ∃ a, v = .ref a ∧ SqL fm.K H a (ns.map V.int) := by
  simp only [RdR, Rep] at h
  obtain ⟨⟨a, rfl, h⟩, _⟩ := h
  refine ⟨a, rfl, ?_⟩
  rcases h with ⟨o, h⟩ | h
  · exact .inl (.inr ⟨o, h⟩)
  · exact .inr h
theorem de_idx {a b : Expr} {pos : Pos} (hK : fm.K = X.kw) (hu : X.A.units + 64 < cLine) (hb' : noSl b = true) (ha : PE X a (tE fm Wi al1 .fr f)) (hb : PE X b (tE fm Wi al2 .fr g)) :
    PE X (.Subscript a b pos) (tE fm Wi al1 .fr fun ρ => do let x ← f ρ; let y ← g ρ; idxD x y) := by
  refine PE.imp (pe_ix (ix_seq.or ((ix_dict (by omega)).or (ix_nest hu))) ha hb (ix_of hb')) fun σ H Q ⟨ρ, fps, er, h⟩ => ?_
  rw [KF.back hK, KF.backw hK]
  refine tE2 er h fun x y v u H2 s2 xx xy hk => ?_
  unfold idxD at hk
  split at hk
  · split at hk
    · obtain ⟨p, vs, rfl, e1, x1⟩ := xx.lst
      obtain rfl := xy.read.int
      rename_i xs _ k
      cases e : atD xs k with
      | ok d =>
        rw [e] at hk
        obtain ⟨j, hj, hv⟩ := ixAt e (RepL.length x1.rep)
        obtain ⟨v', hv', r⟩ := RepL.get x1.rep hj
        exact .inl (.inl ⟨p, vs, k, v', rfl, rfl, SqL.of e1, hv v' hv', hk v' H2 [] s2 ⟨r, List.nodup_nil, fun _ h => nomatch h⟩⟩)
      | exn c ps => exfalso; unfold atD ofOpt at e; split at e <;> cases e
      | stk => rw [e] at hk; exact hk.elim
    · exact hk.elim
  · split at hk
    · obtain ⟨p, vs, rfl, e1, x1⟩ := xx.tup
      obtain rfl := xy.read.int
      rename_i xs _ k
      cases e : atD xs k with
      | ok d =>
        rw [e] at hk
        obtain ⟨j, hj, hv⟩ := ixAt e (RepL.length x1.rep)
        obtain ⟨v', hv', r⟩ := RepL.get x1.rep hj
        exact .inl (.inr (.inl ⟨p, vs, k, v', rfl, rfl, SqT.of e1, hv v' hv', hk v' H2 [] s2 ⟨r, List.nodup_nil, fun _ h => nomatch h⟩⟩))
      | exn c ps => exfalso; unfold atD ofOpt at e; split at e <;> cases e
      | stk => rw [e] at hk; exact hk.elim
    · exact hk.elim
  · split at hk
    · split at hk
      · rename_i s _ k hl
        obtain rfl := xx.read.str
        obtain rfl := xy.read.int
        cases e : atD s k with
        | ok d =>
          rw [e] at hk
          obtain ⟨j, hj, hv⟩ := ixAt (ys := (toS s).cps.toList) e rfl
          refine .inl (.inr (.inr ⟨toS s, k, d, rfl, rfl, by rw [toS_len, ← lim_line]; exact hl, hv d hj, ?_⟩))
          exact OKE.str (show OKE fm Wi al1 .fr (.ok (.str [d])) σ H fps Q from hk) s2
        | exn c ps => exfalso; unfold atD ofOpt at e; split at e <;> cases e
        | stk => rw [e] at hk; exact hk.elim
      · exact hk.elim
    · exact hk.elim
  · split at hk
    · rename_i b es hko
      obtain ⟨p, o, rfl, g, _, z⟩ := dget_of hko xx.rep xy.read
      rcases z with ⟨z1, z2⟩ | ⟨d, v', z1, z2, z3⟩
      · rw [z1] at hk; exact hk.elim
      · rw [z1] at hk
        subst z2
        exact .inr (.inl ⟨p, v', rfl, g, hk v' H2 [] s2 ⟨z3, List.nodup_nil, fun _ h => nomatch h⟩⟩)
    · exact hk.elim
  · split at hk
    · rename_i es hko
      obtain ⟨p, b, kvs, zs, k', rfl, rfl, g1, g2, g3, g4, z⟩ := nget_of hko xx.rep xy.read
      rcases z with ⟨z1, z2⟩ | ⟨d, v', z1, z2, z3⟩
      · rw [z1] at hk; exact hk.elim
      · rw [z1] at hk
        exact .inr (.inr ⟨p, b, kvs, zs, k', v', rfl, rfl, g1, g2, g3, g4, z2, hk v' H2 [] s2 ⟨z3, List.nodup_nil, fun _ h => nomatch h⟩⟩)
    · exact hk.elim
  · split at hk
    · rename_i ns _ k
      obtain ⟨p, rfl, e1⟩ := scr_sq xx.read
      obtain rfl := xy.read.int
      cases e : atD ns k with
      | ok d =>
        rw [e] at hk
        obtain ⟨j, hj, hv⟩ := ixAt (ys := ns.map V.int) e (by simp)
        exact .inl (.inl ⟨p, _, k, .int d, rfl, rfl, e1, hv _ (by simp [hj]), OKE.int (show OKE fm Wi al1 .fr (.ok (.int d)) σ H fps Q from hk) s2⟩)
      | exn c ps => exfalso; unfold atD ofOpt at e; split at e <;> cases e
      | stk => rw [e] at hk; exact hk.elim
    · exact hk.elim
  · exact hk.elim

def OKO (fm : Fm) (Wi : WX) (r : R (Option Int)) (σ : St) (H : Hp) (Q : Option Int → Hp → Prop) : Prop :=
  match r with
  | .ok b => ∀ H', Same H H' → Q b H'
  | .exn c ps => ∀ cls dx H', Same H H' → ExnR fm H' c ps cls dx → Wi cls dx σ H'
  | .stk => False
def tOo (fm : Fm) (Wi : WX) (f : Rho → R (Option Int)) : TO := fun σ H Q => ∃ ρ fps, ER fm ρ σ H fps ∧ OKO fm Wi (f ρ) σ H Q
theorem PO.imp {e : Option Expr} {t t' : TO} (p : PO X e t) (h : ∀ σ H Q, t' σ H Q → t σ H Q) : PO X e t' := ⟨fun pins s σ H Q I q => p.run pins s σ H Q I (h σ H Q q)⟩
theorem do_none : PO X none (tOo fm Wi fun _ => .ok none) := PO.imp po_none fun σ H Q ⟨ρ, fps, er, h⟩ => h H (Same.refl _)
theorem do_some {e : Expr} (he : PE X e (tE fm Wi al .fr f)) : PO X (some e) (tOo fm Wi fun ρ => f ρ >>= oneI) :=
  PO.imp (po_some he) fun σ H Q ⟨ρ, fps, er, h⟩ => ⟨ρ, fps, er, by
    dsimp only at h
    cases e : f ρ with
    | ok d =>
      rw [e] at h
      intro v H' fp s x
      cases d with
      | int i => exact ⟨i, x.read.int, h H' s⟩
      | _ => exact h.elim
    | exn c ps => rw [e] at h; exact h
    | stk => rw [e] at h; exact h⟩
theorem RepL.sub {K : KF} {H : Hp} {F : Addr → Prop} : ∀ {ds : List D} {vs : List V}, RepL K H F ds frs0 vs [] → ∀ n, RepL K H F (ds.drop n) frs0 (vs.drop n) [] ∧ RepL K H F (ds.take n) frs0 (vs.take n) []
  | [], vs, h, n => by
    obtain ⟨rfl, _⟩ := h.nil_inv
    simp only [List.drop_nil, List.take_nil]
    exact ⟨RepL.nil, RepL.nil⟩
  | d :: ds, vs, h, n => by
    obtain ⟨v, r, f1, f2, rfl, e2, h1, h2⟩ := h.uncons
    have h1' := (Rep.fr_nil h1).2
    have h2' := (RepL.fr_nil h2).2
    cases n with
    | zero => exact ⟨RepL.cons (f1 := []) (f2 := []) h1' h2', RepL.nil⟩
    | succ n =>
      obtain ⟨q1, q2⟩ := RepL.sub h2' n
      exact ⟨q1, RepL.cons (f1 := []) (f2 := []) h1' q2⟩
theorem XRL.cut {H H2 : Hp} {fps : Fps} {ds : List D} {vs : List V} (x : XRL fm fps H H2 al ds frs0 vs []) (lo hi : Option Int) : XRL fm fps H H2 al (cutL ds lo hi) frs0 (cutV vs lo hi) [] := by
  have hl := RepL.length x.rep
  refine ⟨?_, List.nodup_nil, fun _ h => nomatch h⟩
  unfold cutL cutV
  rw [hl]
  exact (RepL.sub (RepL.sub x.rep _).1 _).2
theorem XRL.ints {H H2 : Hp} {fps : Fps} : ∀ ns : List Int, XRL fm fps H H2 al (ns.map .int) frs0 (ns.map V.int) []
  | [] => XRL.nil
  | n :: ns => ⟨RepL.cons (f1 := []) (f2 := []) (by simp only [Rep]; exact ⟨trivial, trivial⟩) (XRL.ints ns).rep, List.nodup_nil, fun _ h => nomatch h⟩
theorem map_cut {α β : Type} (f : α → β) (xs : List α) (lo hi : Option Int) : (cutL xs lo hi).map f = cutL (xs.map f) lo hi := by
  unfold cutL
  rw [List.map_take, List.map_drop, List.length_map]
def rSlAny (K : PySem.W.Frag) : V → Option Int → Option Int → Hp → VK → Prop := fun x lo hi H Q => rSlL K x lo hi H Q ∨ rSlS x lo hi H Q ∨ rSlT K x lo hi H Q
theorem sl_any : SlR X (rSlAny X.K) := sl_list.or (sl_str.or sl_tup)
theorem de_slc {a : Expr} {lo hi : Option Expr} {p2 pos : Pos} {fl fh : Rho → R (Option Int)} (hK : fm.K = X.kw) (ht : t.elem = .fr ∧ (∀ i, t.comps i = .fr)) (ha : PE X a (tE fm Wi al1 .fr f)) (hl : PO X lo (tOo fm Wi fl)) (hh : PO X hi (tOo fm Wi fh)) :
    PE X (.Subscript a (.Slice lo hi none p2) pos) (tE fm Wi al1 t fun ρ => do let x ← f ρ; let l ← fl ρ; let h ← fh ρ; slcD x l h) := by
  refine PE.imp (pe_slice sl_any ha hl hh) fun σ H Q ⟨ρ, fps, er, h⟩ => ⟨ρ, fps, er, OKE.bind h fun d v H1 fp e hk s x => ?_⟩
  obtain rfl := x.fr
  refine ⟨ρ, fps, er.ext s, ?_⟩
  cases e1 : fl ρ with
  | exn c ps => rw [e1] at hk; exact fun cls dx H' s2 => hk cls dx H' (s.trans s2)
  | stk => rw [e1] at hk; exact hk
  | ok l =>
    rw [e1] at hk
    intro H2 s2
    refine ⟨ρ, fps, er.ext (s.trans s2), ?_⟩
    cases e2 : fh ρ with
    | exn c ps =>
      have hk' : OKE fm Wi al1 t (fh ρ >>= fun h => slcD d l h) σ H fps Q := hk
      rw [e2] at hk'
      exact fun cls dx H' s3 => hk' cls dx H' ((s.trans s2).trans s3)
    | stk =>
      have hk' : OKE fm Wi al1 t (fh ρ >>= fun h => slcD d l h) σ H fps Q := hk
      rw [e2] at hk'
      exact hk'
    | ok u =>
      have hk' : OKE fm Wi al1 t (fh ρ >>= fun h => slcD d l h) σ H fps Q := hk
      rw [e2] at hk'
      intro H3 s3
      have x3 := x.lift (s2.trans s3)
      have s13 := (s.trans s2).trans s3
      have hk2 : OKE fm Wi al1 t (slcD d l u) σ H fps Q := hk'
      unfold slcD at hk2
      rw [KF.back hK]
      split at hk2
      · obtain ⟨p, vs, rfl, q1, x1⟩ := x3.lst
        exact .inl ⟨p, vs, rfl, SqL.of q1, hk2.newL ht.1 s13 (x1.cut l u)⟩
      · split at hk2
        · exact hk2.elim
        · rename_i xs hw
          obtain ⟨p, vs, rfl, q1, x1⟩ := x3.tup
          have hlen := RepL.length x1.rep
          refine .inr (.inr ⟨p, vs, rfl, SqT.of q1, by rw [hlen]; exact hw, fun p hp => ?_⟩)
          have y := x1.cut l u
          have y' : XRL fm fps H H3 al1 (cutL xs l u) t.comps (cutV vs l u) [] := by
            have e : t.comps = frs0 := funext ht.2
            rw [e]; exact y
          exact hk2 _ _ [] (sameUpd s13 hp) (XRL.newT hp y')
      · rename_i ns
        obtain ⟨p, rfl, q1⟩ := scr_sq x3.read
        refine .inl ⟨p, _, rfl, q1, ?_⟩
        have y := (XRL.ints (fm := fm) (fps := fps) (H := H) (H2 := H3) (al := al1) ns).cut l u
        rw [← map_cut] at y
        exact hk2.newL ht.1 s13 y
      · split at hk2
        · rename_i z hz
          obtain rfl := x3.read.str
          refine .inr (.inl ⟨toS z, rfl, by rw [toS_len, ← lim_line]; exact hz, ?_⟩)
          have e : cutS (toS z) l u = toS (cutL z l u) := by unfold cutS cutL toS; rfl
          rw [e]
          exact hk2.str s13
        · exact hk2.elim
      · exact hk2.elim
end
end L2.Py

set_option maxRecDepth 100000
set_option maxHeartbeats 1000000
namespace L2.Py
open PySem PySem.Spec PyProof.Rows TL

section
variable {prog : Program} {w : World} {A : Around} {E : Value → Shared → Prop} {s : Shared} {l : Addr}
end
section
variable {X : Cx} {fm : Fm} {Wi : WX} {al al1 al2 : Bool} {t : OT} {f g : Rho → R D}
end
end L2.Py

set_option maxRecDepth 100000
set_option maxHeartbeats 1000000
namespace L2.Py
open PySem PySem.Spec PyProof.Rows TL
section
variable {X : Cx} {fm : Fm} {Wi : WX} {al al1 al2 : Bool} {t : OT} {f g : Rho → R D}
def Does (fm : Fm) (Wi : WX) (al1 al : Bool) (t : OT) (k : List D → R D) (r : List V → Hp → VK → Prop) : Prop :=
  ∀ {ds : List D} {vs : List V} {σ : St} {H H2 : Hp} {fps : Fps} {Q : VK}, Same H H2 → XRL fm fps H H2 al1 ds frs0 vs [] → OKE fm Wi al t (k ds) σ H fps Q → r vs H2 Q
theorem de_callB {id : String} {x : Str} {p pos : Pos} {e : Expr} {es : List Expr} {gs : Rho → R (List D)} {k : List D → R D} {r : List V → Hp → VK → Prop} (hc : CallR X (.builtin id) r) (hg : Gl X x) (hm : X.mg x = none) (hv : bootBuiltins x = some (.builtin id))
    (hn : x ≠ "__name__") (hd : (x == ("__debug__" : Str)) = false) (hs : (e :: es).all noStar = true) (ha : PA X (e :: es) (tL fm Wi al1 frs0 gs)) (hr : Does fm Wi al1 al t k r) :
    PE X (.Call (.Name x p) (e :: es) [] pos) (tE fm Wi al t fun ρ => do let xs ← gs ρ; k xs) := by
  simp only [List.all_cons, Bool.and_eq_true] at hs
  refine PE.imp (pe_callB hc hg hm hv ha hn hd (star_of hs.1) (back_of hs.2)) fun σ H Q ⟨ρ, fps, er, h⟩ => ⟨ρ, fps, er, OKL.bind h fun ds vs H1 fp e hk s x => ?_⟩
  obtain rfl := (RepL.fr_nil x.rep).1
  exact hr s x hk
theorem de_callTy {id : String} {x : Str} {p pos : Pos} {e : Expr} {es : List Expr} {gs : Rho → R (List D)} {k : List D → R D} {r : List V → Hp → VK → Prop} (hc : CallR X (.type id) r) (hg : Gl X x) (hm : X.mg x = none) (hv : bootBuiltins x = some (.type id))
    (hn : x ≠ "__name__") (hd : (x == ("__debug__" : Str)) = false) (hs : (e :: es).all noStar = true) (ha : PA X (e :: es) (tL fm Wi al1 frs0 gs)) (hr : Does fm Wi al1 al t k r) :
    PE X (.Call (.Name x p) (e :: es) [] pos) (tE fm Wi al t fun ρ => do let xs ← gs ρ; k xs) := by
  simp only [List.all_cons, Bool.and_eq_true] at hs
  refine PE.imp (pe_callTy hc hg hm hv ha hn hd (star_of hs.1) (back_of hs.2)) fun σ H Q ⟨ρ, fps, er, h⟩ => ⟨ρ, fps, er, OKL.bind h fun ds vs H1 fp e hk s x => ?_⟩
  obtain rfl := (RepL.fr_nil x.rep).1
  exact hr s x hk
theorem XRL.one {H H2 : Hp} {fps : Fps} {d : D} {vs : List V} (x : XRL fm fps H H2 al [d] frs0 vs []) : ∃ v, vs = [v] ∧ XR fm fps H H2 al d .fr v [] := by
  obtain ⟨v, r, f1, f2, rfl, e, h1, h2⟩ := x.rep.uncons
  obtain ⟨rfl, _⟩ := h2.nil_inv
  exact ⟨v, rfl, (Rep.fr_nil h1).2, List.nodup_nil, fun _ h => nomatch h⟩
theorem XRL.two {H H2 : Hp} {fps : Fps} {d e : D} {vs : List V} (x : XRL fm fps H H2 al [d, e] frs0 vs []) : ∃ v u, vs = [v, u] ∧ XR fm fps H H2 al d .fr v [] ∧ XR fm fps H H2 al e .fr u [] := by
  obtain ⟨v, r, f1, f2, rfl, e, h1, h2⟩ := x.rep.uncons
  obtain ⟨u, r, f3, f4, rfl, e, h3, h4⟩ := h2.uncons
  obtain ⟨rfl, _⟩ := h4.nil_inv
  exact ⟨v, u, rfl, ⟨(Rep.fr_nil h1).2, List.nodup_nil, fun _ h => nomatch h⟩, ⟨(Rep.fr_nil h3).2, List.nodup_nil, fun _ h => nomatch h⟩⟩
theorem XR.dct {H H2 : Hp} {fps : Fps} {b : Bool} {es : List D} {v : V} (x : XR fm fps H H2 al (.dct b es) .fr v []) :
    ∃ a, v = .ref a ∧ ((b = false ∧ ∃ kvs, Rd H2 a (.dK kvs) ∧ RepM fm.K H2 (Fq fm fps H al []) es Key keyD .fr kvs []) ∨ (b = true ∧ ∃ kvs, Rd H2 a (.dT kvs) ∧ RepM fm.K H2 (Fq fm fps H al []) es (List Key) keyT .fr kvs [])) := by
  have h := x.rep
  simp only [Rep] at h
  obtain ⟨a, fp', rfl, h⟩ := h
  refine ⟨a, rfl, ?_⟩
  rcases h with ⟨rfl, kvs, ⟨⟨q1, _⟩, rfl⟩, q2⟩ | ⟨rfl, kvs, ⟨⟨q1, _⟩, rfl⟩, q2⟩
  · exact .inl ⟨rfl, kvs, q1, q2⟩
  · exact .inr ⟨rfl, kvs, q1, q2⟩

def rLenD : List V → Hp → VK → Prop := fun xs H Q => ∃ a, xs = [.ref a] ∧ ((∃ kvs, Rd H a (.dK kvs) ∧ Q (.int kvs.length) H) ∨ ∃ kvs, Rd H a (.dT kvs) ∧ Q (.int kvs.length) H)
theorem call_lenDict : CallR X (.builtin "len") rLenD := by
  intro pins s σ H xs us Q I r h
  obtain ⟨a, rfl, h⟩ := h
  obtain ⟨u, rfl, rx⟩ := vals1 r
  obtain rfl : u = .ref a := rx
  rcases h with ⟨kvs, h, q⟩ | ⟨kvs, h, q⟩
  · exact d_len I h fun t s' I' => ⟨.int kvs.length, H, I', ⟨t, rfl⟩, q⟩
  · obtain ⟨z, hd, ys, rel, dd⟩ := dt_rd I.hok h
    have hl : kvs.length = ys.length := Paired.length rel
    rw [sizeLine_eq] at z
    refine call_len_dictH hd dd (by omega) ⟨.int kvs.length, H, I.tok _, ⟨s.toks + 1, ?_⟩, q⟩
    rw [hl]
theorem call_lenAny : CallR X (.builtin "len") (fun xs H Q => (∃ x n, xs = [x] ∧ LenV X.K x H n ∧ Q (.int n) H) ∨ rLenD xs H Q) := call_len.or call_lenDict
theorem do_len {sub : Sub} (hK : fm.K = X.kw) : Does fm Wi al1 al t (bltD sub .len) (fun xs H Q => (∃ x n, xs = [x] ∧ LenV X.K x H n ∧ Q (.int n) H) ∨ rLenD xs H Q) := by
  intro ds vs σ H H2 fps Q s x h
  rw [KF.back hK]
  unfold bltD at h
  split at h <;> first | contradiction | exact h.elim | skip
  · split at h
    · rename_i z hz
      obtain ⟨v, rfl, y⟩ := x.one
      obtain rfl := y.read.str
      exact .inl ⟨_, _, rfl, ⟨by rw [toS_len, ← lim_line]; exact hz, rfl⟩, by rw [toS_len]; exact h.int s⟩
    · exact h.elim
  · obtain ⟨v, rfl, y⟩ := x.one
    obtain ⟨a, us, rfl, e, y'⟩ := y.lst
    refine .inl ⟨_, us.length, rfl, .inl ⟨us, SqL.of e, rfl⟩, ?_⟩
    rw [RepL.length y'.rep]; exact h.int s
  · obtain ⟨v, rfl, y⟩ := x.one
    obtain ⟨a, us, rfl, e, y'⟩ := y.tup
    refine .inl ⟨_, us.length, rfl, .inr ⟨us, SqT.of e, rfl⟩, ?_⟩
    rw [RepL.length y'.rep]; exact h.int s
  · obtain ⟨v, rfl, y⟩ := x.one
    obtain ⟨a, rfl, yd⟩ := y.dct
    refine .inr ⟨a, rfl, ?_⟩
    rcases yd with ⟨rfl, kvs, q1, q2⟩ | ⟨rfl, kvs, q1, q2⟩
    · exact .inl ⟨kvs, q1, by rw [q2.length]; exact h.int s⟩
    · exact .inr ⟨kvs, q1, by rw [q2.length]; exact h.int s⟩
  · obtain ⟨v, rfl, y⟩ := x.one
    rename_i ns _
    obtain ⟨a, rfl, e⟩ := scr_sq y.read
    refine .inl ⟨_, (ns.map V.int).length, rfl, .inl ⟨_, e, rfl⟩, ?_⟩
    rw [List.length_map]; exact h.int s
theorem do_min2 {sub : Sub} : Does fm Wi al1 al t (bltD sub .min2) (fun xs H Q => ∃ i j, xs = [.int i, .int j] ∧ Q (.int (if j < i then j else i)) H) := by
  intro ds vs σ H H2 fps Q s x h
  unfold bltD at h
  split at h <;> first | contradiction | exact h.elim | skip
  obtain ⟨v, u, rfl, y, z⟩ := x.two
  obtain rfl := y.read.int
  obtain rfl := z.read.int
  exact ⟨_, _, rfl, h.int s⟩
theorem do_max2 {sub : Sub} : Does fm Wi al1 al t (bltD sub .max2) (fun xs H Q => ∃ i j, xs = [.int i, .int j] ∧ Q (.int (if j > i then j else i)) H) := by
  intro ds vs σ H H2 fps Q s x h
  unfold bltD at h
  split at h <;> first | contradiction | exact h.elim | skip
  obtain ⟨v, u, rfl, y, z⟩ := x.two
  obtain rfl := y.read.int
  obtain rfl := z.read.int
  exact ⟨_, _, rfl, h.int s⟩
theorem RepM.keysK {K : KF} {H : Hp} {F F' : Addr → Prop} : ∀ {es : List D} {kvs : List (Key × V)}, RepM K H F es Key keyD .fr kvs [] → RepL K H F' (dkeys es) frs0 (kvs.map fun kv => kV kv.1) []
  | [], kvs, h => by
    obtain ⟨rfl, _⟩ := h.nil_inv
    exact RepL.nil
  | e :: es, kvs, h => by
    obtain ⟨k, v, r, f1, f2, d, rfl, e2, rfl, h1, h2⟩ := h.uncons
    obtain ⟨rfl, h1⟩ := Rep.fr_nil h1
    obtain rfl : f2 = [] := by simpa using e2
    refine RepL.cons (f1 := []) (f2 := []) ?_ (RepM.keysK h2)
    cases k with
    | inl i => simp only [keyD, kV, Rep]; exact ⟨trivial, trivial⟩
    | inr x => simp only [keyD, kV, Rep]; exact ⟨by rw [toS_tl], trivial⟩
theorem RepL.keys1 {K : KF} {H : Hp} {F : Addr → Prop} : ∀ (ks : List Key), RepL K H F (ks.map keyD) frs0 (ks.map kV) []
  | [] => RepL.nil
  | k :: ks => by
    refine RepL.cons (f1 := []) (f2 := []) ?_ (RepL.keys1 ks)
    cases k with
    | inl i => simp only [keyD, kV, Rep]; exact ⟨trivial, trivial⟩
    | inr x => simp only [keyD, kV, Rep]; exact ⟨by rw [toS_tl], trivial⟩
theorem RepM.keysT {K : KF} {H : Hp} {F F' : Addr → Prop} : ∀ {es : List D} {kvs : List (List Key × V)} {bs : List Addr}, RepM K H F es (List Key) keyT .fr kvs [] → IsKeys H kvs bs → RepL K H F' (dkeys es) frs0 (bs.map V.ref) []
  | [], kvs, bs, h, hb => by
    obtain ⟨rfl, _⟩ := h.nil_inv
    cases hb
    exact RepL.nil
  | e :: es, kvs, bs, h, hb => by
    obtain ⟨k, v, r, f1, f2, d, rfl, e2, rfl, h1, h2⟩ := h.uncons
    obtain ⟨rfl, h1⟩ := Rep.fr_nil h1
    obtain rfl : f2 = [] := by simpa using e2
    cases hb with
    | cons q1 q2 =>
      refine RepL.cons (f1 := []) (f2 := []) ?_ (RepM.keysT h2 q2)
      simp only [keyT, Rep]
      exact ⟨_, _, rfl, q1, RepL.keys1 k⟩
def rListK : List V → Hp → VK → Prop := fun xs H Q => ∃ p kvs, xs = [.ref p] ∧ Rd H p (.dK kvs) ∧ ∀ q, H q = none → Q (.ref q) (upd H q (.lst (kvs.map fun kv => kV kv.1)))
theorem call_listK (hc : X.calm = true) : CallR X (.type "list") rListK := by
  intro pins s σ H xs us Q I r h
  obtain ⟨p, kvs, rfl, hk, q⟩ := h
  obtain ⟨u, rfl, rx⟩ := vals1 r
  obtain rfl : u = Value.ref p := rx
  obtain ⟨z, lo, vs, rk, hd⟩ := dk_rd I.hok hk
  obtain ⟨ep, hat⟩ := hd.dictAt
  have hl : kvs.length = vs.length := Paired.length rk
  have hf := I.hok.fresh (Nat.le_refl _)
  refine PySem.W.kdl_call (PySem.W.kdl_dict (knd := mixKind X.prog X.w) (kvs := vs) (ep := ep) lo) (I.ok.hd hc) hat (hl ▸ z) fun h' tk acc c keep new items => ?_
  have rv : Vals (kvs.map fun kv => kV kv.1) acc.toList := by
    have el : acc.toList.length = acc.size := Array.length_toList
    refine vals_of_at ?_ fun j x w h1 h2 => ?_
    · rw [List.length_map, el, items.1, hl]
    · rw [Array.getElem?_toList] at h2
      obtain ⟨k, y, hky, hi⟩ := items.2 j w h2
      rw [List.getElem?_map, Option.map_eq_some_iff] at h1
      obtain ⟨kv, hkv, rfl⟩ := h1
      obtain ⟨u, hu, _⟩ := kv_get rk (k := kv.1) (v := kv.2) hkv
      rw [hky] at hu
      injection hu with hu
      rw [← (Prod.mk.inj hu).1]
      exact keyIs_rel hi
  have nw : ObjOk X.prog X.w (upd H s.heap.objs.size (.lst (kvs.map fun kv => kV kv.1))) h' s.heap.objs.size (.lst (kvs.map fun kv => kV kv.1)) :=
    ⟨by rw [List.length_map]; exact z, acc.toList, c, rv, by rw [Array.toArray_toList]; exact new⟩
  exact ⟨.ref _, _, I.laid keep (Nat.le_refl _) nw, rfl, q _ hf⟩
def rListAny (K : PySem.W.Frag) : List V → Hp → VK → Prop := fun vs H Q => (∃ p ys, vs = [.ref p] ∧ (SqL K H p ys ∨ SqT K H p ys) ∧ ∀ l, H l = none → Q (.ref l) (upd H l (.lst ys))) ∨ rListK vs H Q ∨
  ∃ d kvs, vs = [V.ref d] ∧ Rd H d (.dT kvs) ∧ ∀ p bs, H p = none → IsKeys H kvs bs → Q (.ref p) (upd H p (.lst (bs.map V.ref)))
theorem call_listAny (hc : X.calm = true) : CallR X (.type "list") (rListAny X.K) := call_list_of.or ((call_listK hc).or (call_list_dT hc))
theorem do_list {sub : Sub} (hK : fm.K = X.kw) (ht : t.elem = .fr) (ha : al1 = true → al = true) : Does fm Wi al1 al t (bltD sub .list) (rListAny X.K) := by
  intro ds vs σ H H2 fps Q s x h
  rw [KF.back hK]
  unfold bltD at h
  split at h <;> first | contradiction | exact h.elim | skip
  · obtain ⟨v, rfl, y⟩ := x.one
    obtain ⟨a, us, rfl, e, y'⟩ := y.lst
    exact .inl ⟨a, us, rfl, .inl (SqL.of e), h.newL ht s (y'.al_imp ha)⟩
  · obtain ⟨v, rfl, y⟩ := x.one
    obtain ⟨a, us, rfl, e, y'⟩ := y.tup
    exact .inl ⟨a, us, rfl, .inr (SqT.of e), h.newL ht s (y'.al_imp ha)⟩
  · obtain ⟨v, rfl, y⟩ := x.one
    obtain ⟨a, rfl, yd⟩ := y.dct
    rcases yd with ⟨rfl, kvs, q1, q2⟩ | ⟨rfl, kvs, q1, q2⟩
    · exact .inr (.inl ⟨a, kvs, rfl, q1, h.newL ht s ⟨q2.keysK, List.nodup_nil, fun _ h => nomatch h⟩⟩)
    · exact .inr (.inr ⟨a, kvs, rfl, q1, fun p bs hp hb => h.newL ht s ⟨q2.keysT hb, List.nodup_nil, fun _ h => nomatch h⟩ p hp⟩)
abbrev rIntA : List V → Hp → VK → Prop := fun xs H Q => ((∃ i, xs = [.int i] ∧ Q (.int i) H) ∨ ∃ k, xs = [.bl k] ∧ Q (.int (if k then 1 else 0)) H) ∨ ∃ a n, xs = [.str a] ∧ PySem.intText? a = some n ∧ a.length ≤ 640 ∧ Q (.int n) H
theorem do_int {sub : Sub} : Does fm Wi al1 al t (bltD sub .toInt) rIntA := by
  intro ds vs σ H H2 fps Q s x h
  unfold bltD at h
  split at h <;> first | contradiction | exact h.elim | skip
  · obtain ⟨v, rfl, y⟩ := x.one
    obtain rfl := y.read.int
    exact .inl (.inl ⟨_, rfl, h.int s⟩)
  · obtain ⟨v, rfl, y⟩ := x.one
    obtain rfl := y.read.bl
    exact .inl (.inr ⟨_, rfl, h.int s⟩)
  · split at h
    · rename_i w _ hz
      simp only [Bool.and_eq_true, List.all_eq_true, decide_eq_true_eq, Bool.not_eq_true', List.isEmpty_eq_false_iff] at hz
      obtain ⟨⟨h1, h2⟩, h3⟩ := hz
      obtain ⟨v, rfl, y⟩ := x.one
      obtain rfl := y.read.str
      refine .inr ⟨_, _, rfl, PySem.intText_digits (x := toS w) (fun c hc => h1 c (by simpa [toS] using hc)) (by simpa [toS] using h2) (by rw [toS_len]; omega), by rw [toS_len]; exact h3, ?_⟩
      have e : (toS w).cps.toList = w := by simp [toS]
      rw [e]
      exact h.int s
    · exact h.elim
theorem getInts_eq : ∀ {ds : List D} {ns : List Int}, getInts ds = some ns → ds = ns.map .int
  | [], ns, h => by cases h; rfl
  | d :: ds, ns, h => by
    cases d with
    | int i =>
      unfold getInts at h
      obtain ⟨ms, h1, rfl⟩ := Option.map_eq_some_iff.mp h
      rw [getInts_eq h1]; rfl
    | _ => cases h
def clsT : Cls → Option String
  | .int => some "int" | .str => some "str" | .bool => some "bool" | .list => some "list" | .tuple => some "tuple" | _ => none
def dTy : D → String
  | .non => "NoneType" | .bl _ => "bool" | .int _ => "int" | .str _ => "str" | .tup _ => "tuple" | .lst _ => "list" | _ => "?"
theorem ty_of {H : Hp} {d : D} {v : V} (h : RdR fm H d v) (ho : isiOk d = true) : TyX fm.K H v (.type (dTy d)) := by
  cases d with
  | non => obtain rfl := h.non; exact .base .non
  | bl b => obtain rfl := h.bl; exact .base (.bl b)
  | int b => obtain rfl := h.int; exact .base (.int b)
  | str b => obtain rfl := h.str; exact .base (.str _)
  | tup xs => obtain ⟨a, vs, rfl, e, _⟩ := Rep.tup_inv h; exact .base (.tup e)
  | lst xs => obtain ⟨a, vs, rfl, e, _⟩ := Rep.lst_inv h; exact .base (.lst e.1)
  | _ => cases ho
theorem kit_all : ∀ a ∈ ["NoneType", "bool", "int", "str", "tuple", "list"], ∀ c ∈ [Cls.int, .str, .bool, .list, .tuple], kitB a ((clsT c).getD "") = some (match a, c with
    | "bool", .int => true | "bool", .bool => true | "int", .int => true | "str", .str => true | "tuple", .tuple => true | "list", .list => true | _, _ => false) := by decide +kernel
theorem isi_kit {K : PySem.W.Frag} {sub : Sub} {d : D} {c : Cls} {n : String} (ho : isiOk d = true) (hc : clsT c = some n) : PySem.W.kitOne K (.type (dTy d)) (.type n) = some (isiD sub d c) := by
  have key : ∀ a ∈ ["NoneType", "bool", "int", "str", "tuple", "list"], ∀ c ∈ [Cls.int, .str, .bool, .list, .tuple], kitB a ((clsT c).getD "") = some _ := kit_all
  have hm : c ∈ [Cls.int, .str, .bool, .list, .tuple] := by cases c <;> first | (simp; done) | cases hc
  have en : n = (clsT c).getD "" := by rw [hc]; rfl
  rw [en]
  refine kit_ty ?_
  cases d with
  | non => rw [kit_all _ (by simp [dTy]) c hm]; cases c <;> rfl
  | bl b => rw [kit_all _ (by simp [dTy]) c hm]; cases c <;> rfl
  | int b => rw [kit_all _ (by simp [dTy]) c hm]; cases c <;> rfl
  | str b => rw [kit_all _ (by simp [dTy]) c hm]; cases c <;> rfl
  | tup b => rw [kit_all _ (by simp [dTy]) c hm]; cases c <;> rfl
  | lst b => rw [kit_all _ (by simp [dTy]) c hm]; cases c <;> rfl
  | _ => cases ho
end
section
variable {sub : Sub} {G : Gam}
theorem evc_one {e : E} {ρ : Rho} : evc sub G [e] ρ = (ev sub G e ρ >>= isTrueD) := by
  rw [evc]
  cases ev sub G e ρ with
  | ok d =>
    rw [ok_bind, ok_bind]
    cases isTrueD d with
    | ok b => cases b <;> (rw [ok_bind]; first | rfl | (rw [if_pos rfl]; rw [evc]))
    | exn c ps => rfl
    | stk => rfl
  | exn c ps => rfl
  | stk => rfl
end
end L2.Py

set_option maxRecDepth 100000
set_option maxHeartbeats 1000000
namespace L2.Py
open PySem PySem.Spec PyProof.Rows TL
section
variable {X : Cx} {fm : Fm} {Wi : WX} {al al1 al2 : Bool} {t : OT} {f g : Rho → R D} {sub : Sub}
def clsN : Cls → Option (Str × String)
  | .int => some ("int", "int") | .str => some ("str", "str") | .bool => some ("bool", "bool") | .list => some ("list", "list") | .tuple => some ("tuple", "tuple") | _ => none
theorem clsN_boot : ∀ c x n, clsN c = some (x, n) → clsT c = some n ∧ bootBuiltins x = some (.type n) ∧ x ≠ "__name__" ∧ (x == ("__debug__" : Str)) = false := by
  intro c x n h
  cases c <;> first
    | (injection h with h
       injection h with h1 h2
       subst h1 h2
       exact ⟨rfl, by decide +kernel, by decide +kernel, by decide +kernel⟩)
    | cases h
theorem boot_isi : bootBuiltins "isinstance" = some (.builtin "isinstance") := by decide +kernel
theorem de_isi1 {e : Expr} {c : Cls} {x : Str} {n : String} {p pc pos : Pos} (hK : fm.K = X.kw) (hc : clsN c = some (x, n)) (hg : Gl X "isinstance") (hm : X.mg "isinstance" = none) (hgc : Gl X x) (hmc : X.mg x = none) (hs : noStar e = true) (he : PE X e (tE fm Wi al1 .fr f)) :
    PE X (.Call (.Name "isinstance" p) [e, .Name x pc] [] pos) (tE fm Wi al t fun ρ => do let y ← f ρ; bltD sub (.isi [c]) [y]) := by
  obtain ⟨h1, h2, h3, h4⟩ := clsN_boot c x n hc
  have hp : PE X (.Name x pc) (tC (.ty n)) := pe_bltn hgc hmc h2 rfl h3 h4
  refine PE.imp (pe_callB call_isi hg hm boot_isi (pa_cons he (pa_cons hp pa_nil) (star_of hs)) (by decide +kernel) (by decide +kernel) (star_of hs) rfl) fun σ H Q ⟨ρ, fps, er, h⟩ => ⟨ρ, fps, er, OKE.bind h fun d v H1 fp e hk s x => ?_⟩
  unfold bltD at hk
  dsimp only at hk
  split at hk
  · rename_i ho
    refine ⟨v, .ty n, .type (dTy d), .type n, isiD sub d c, rfl, .ty n, KF.back hK ▸ ty_of x.read ho, isi_kit ho h1, ?_⟩
    have e : ([c].any (isiD sub d)) = isiD sub d c := by simp
    rw [e] at hk
    exact hk.bl s
  · exact hk.elim
theorem kit_any {K : PySem.W.Frag} {d : D} (ho : isiOk d = true) : ∀ (cs : List Cls) (ns : List String), cs.map clsT = ns.map some → PySem.W.kitAny K (.type (dTy d)) (ns.map Value.type) = some (cs.any (isiD sub d))
  | [], ns, h => by
    cases ns with
    | nil => exact kitAny_nil
    | cons n ns => cases h
  | c :: cs, ns, h => by
    cases ns with
    | nil => cases h
    | cons n ns =>
      injection h with h1 h2
      refine kitAny_cons (isi_kit (sub := sub) ho h1) (fun hb => ?_) fun hb => ?_
      · rw [List.any_cons, hb, Bool.false_or]; exact kit_any ho cs ns h2
      · rw [List.any_cons, hb, Bool.true_or]
theorem de_isi2 {e : Expr} {c1 c2 : Cls} {x1 x2 : Str} {n1 n2 : String} {p p1 p2 p3 pos : Pos} {k : Nat} (hK : fm.K = X.kw) (hc1 : clsN c1 = some (x1, n1)) (hc2 : clsN c2 = some (x2, n2)) (hg : Gl X "isinstance") (hm : X.mg "isinstance" = none) (hg1 : Gl X x1) (hm1 : X.mg x1 = none)
    (hg2 : Gl X x2) (hm2 : X.mg x2 = none) (hs : noStar e = true) (he : PE X e (tE fm Wi al1 .fr f)) :
    PE X (.Call (.Name "isinstance" p) [e, .Tuple [.Name x1 p1, .Name x2 p2] k p3] [] pos) (tE fm Wi al t fun ρ => do let y ← f ρ; bltD sub (.isi [c1, c2]) [y]) := by
  obtain ⟨a1, a2, a3, a4⟩ := clsN_boot c1 x1 n1 hc1
  obtain ⟨b1, b2, b3, b4⟩ := clsN_boot c2 x2 n2 hc2
  have q1 : PE X (.Name x1 p1) (tC (.ty n1)) := pe_bltn hg1 hm1 a2 rfl a3 a4
  have q2 : PE X (.Name x2 p2) (tC (.ty n2)) := pe_bltn hg2 hm2 b2 rfl b3 b4
  refine PE.imp (pe_callB call_isiT hg hm boot_isi (pa_cons he (pa_cons (pe_tup (pa_cons q1 (pa_cons q2 pa_nil))) pa_nil) (star_of hs)) (by decide +kernel) (by decide +kernel) (star_of hs) rfl) fun σ H Q ⟨ρ, fps, er, h⟩ => ⟨ρ, fps, er, OKE.bind h fun d v H1 fp e hk s x => ?_⟩
  refine ⟨few_line (by show 2 ≤ 1000; decide), fun q hq => ?_⟩
  unfold bltD at hk
  dsimp only at hk
  split at hk
  · rename_i ho
    have s2 : Same H1 (upd H1 q (.tup [.ty n1, .ty n2])) := sameUpd (Same.refl _) hq
    refine ⟨v, q, _, .type (dTy d), [.type n1, .type n2], _, rfl, upd_same, .cons (.ty n1) (.cons (.ty n2) .nil), KF.back hK ▸ ty_of (x.lift s2).read ho, kit_any (sub := sub) ho [c1, c2] [n1, n2] ?_, hk.bl (s.trans s2)⟩
    show [clsT c1, clsT c2] = [some n1, some n2]
    rw [a1, b1]
  · exact hk.elim

def spD (K : KF) (ca : Nat → Addr) (g : List D → R (D × List D)) (n : Nat) (res : OT) : Sp := fun vs H Q E => ∃ (ds : List D) (B : Addr → Prop), RepL K H B ds frs0 vs [] ∧ ds.length = n ∧
  match g ds with
  | .ok r => ∀ v H' fp, Same H H' → fp.Nodup → (∀ a ∈ fp, H a = none) → Rep K H' (fun a => (B a ∨ H a = none) ∧ a ∉ fp) r.1 res v fp → Q v H'
  | .exn c ps => ∀ cls dx H', Same H H' → ExnC ca K (fun a => H a = none) H' c ps cls dx → E cls dx H'
  | .stk => False
theorem de_call {fa : Addr} {fd : FuncData} {ps : List Str} {k n : Nat} {res : OT} {G : List D → R (D × List D)} {x : Str} {p pos : Pos} {e : Expr} {es : List Expr} {gs : Rho → R (List D)} (hK : fm.K = X.kw)
    (F : FnOk X.prog X.w X.K X.mg X.base (L2.CX X.prog X.w) k fa fd ps (spD X.kw fm.ca G n res)) (hr : Room k X.A) (hg : Gl X x) (hm : X.mg x = some (.ref fa)) (hk : PySem.W.keepIn X.K (.ref fa) = true) (hb : Binds X.K fd ps [])
    (hx : ∀ σ, PassesAt (L2.CX X.prog X.w) X σ (WE Wi σ)) (hd : (x == ("__debug__" : Str)) = false) (hs : (e :: es).all noStar = true) (ha : PA X (e :: es) (tL fm Wi al1 frs0 gs)) (hn : ∀ ρ ds, gs ρ = .ok ds → ds.length = n) (ht : t = .fr ∨ t = res) (hal : al1 = true → al = true) :
    PE X (.Call (.Name x p) (e :: es) [] pos) (tE fm Wi al t fun ρ => do let xs ← gs ρ; let r ← G xs; pure r.1) := by
  simp only [List.all_cons, Bool.and_eq_true] at hs
  refine PE.imp (pe_callS F hr hg hm hk hb hx ha hd (star_of hs.1) (back_of hs.2)) fun σ H Q ⟨ρ, fps, er, h⟩ => ⟨ρ, fps, er, OKL.bind h fun ds vs H1 fp e1 hk s x => ?_⟩
  obtain rfl := (RepL.fr_nil x.rep).1
  refine ⟨ds, Fq fm fps H al1 [], hK ▸ x.rep, hn ρ ds e1, ?_⟩
  cases e2 : G ds with
  | ok r =>
    rw [e2] at hk
    intro v H' fp s2 nd new rep
    have y : XR fm fps H H' al r.1 res v fp := by
      refine ⟨Rep.leaves _ _ _ _ (Leaves.same (Same.refl _) fun a _ q => ?_) (hK ▸ rep), nd, fun a h => s.free (new a h)⟩
      rcases q with ⟨q1 | q1, q2⟩
      · rcases q1 with q1 | q1
        · exact .inl (hal q1)
        · exact .inr ⟨q1.1, q2⟩
      · exact .inr ⟨.inr (s.free q1), q2⟩
    rcases ht with rfl | rfl
    · exact hk v H' [] (s.trans s2) y.forget
    · exact hk v H' fp (s.trans s2) y
  | exn c ps =>
    rw [e2] at hk
    exact fun cls dx H' s2 ex => hk cls dx H' (s.trans s2) (by rw [ExnR, hK]; exact ex.mono fun a z => er.h0 (s.free z))
  | stk => rw [e2] at hk; exact hk
end
end L2.Py

set_option maxRecDepth 100000
set_option maxHeartbeats 1000000
namespace L2.Py
open PySem PySem.Spec PyProof.Rows TL
def Wk (K : KF) (J : It) (H1 : Hp) (F1 : Addr → Prop) (ds : List D) : Prop :=
  ∀ i H' F', Leaves H1 H' F1 F' [] → (∀ d, ds[i]? = some d → J.go i H' ∧ ∀ x H'', J.yld i H' x H'' → Same H' H'' ∧ Rep K H'' F' d .fr x []) ∧ (ds.length ≤ i → J.stop i H')
def OKI (fm : Fm) (Wi : WX) (al : Bool) (r : R (List D)) (σ : St) (H : Hp) (fps : Fps) (Q : It → Hp → Prop) : Prop :=
  match r with
  | .ok ds => ∀ J H1, Same H H1 → Wk fm.K J H1 (Fq fm fps H al []) ds → Q J H1
  | .exn c ps => ∀ cls dx H', Same H H' → ExnR fm H' c ps cls dx → Wi cls dx σ H'
  | .stk => False
def tI (fm : Fm) (Wi : WX) (al : Bool) (f : Rho → R (List D)) : TI := fun σ H Q => ∃ ρ fps, ER fm ρ σ H fps ∧ OKI fm Wi al (f ρ) σ H fps Q
theorem PI.imp {X : Cx} {tg e : Expr} {t t' : TI} (p : PI X tg e t) (h : ∀ σ H Q, t' σ H Q → t σ H Q) : PI X tg e t' := ⟨fun pins s σ H Q I q => p.run pins s σ H Q I (h σ H Q q)⟩
theorem PI.or {X : Cx} {tg e : Expr} {t t' : TI} (p : PI X tg e t) (p' : PI X tg e t') : PI X tg e (fun σ H Q => t σ H Q ∨ t' σ H Q) :=
  ⟨fun pins s σ H Q I q => q.elim (p.run pins s σ H Q I) (p'.run pins s σ H Q I)⟩
section
variable {X : Cx} {fm : Fm} {Wi : WX} {al al1 al2 : Bool} {t : OT} {f g : Rho → R D} {K : KF} {H1 : Hp} {F1 : Addr → Prop}
theorem wk_list {a : Addr} {vs : List V} {ds : List D} (e : H1 a = some (.lst vs)) (hF : F1 a) (r : RepL K H1 F1 ds frs0 vs []) : Wk K (Itl K a) H1 F1 ds := fun i H' F' l => by
  have e' := (l.lst a vs e hF).1
  refine ⟨fun d hd => ?_, fun hi => ⟨vs, SqL.of e', by rw [RepL.length r]; exact hi⟩⟩
  obtain ⟨v, hv, rv⟩ := RepL.get r hd
  refine ⟨⟨vs, v, SqL.of e', hv⟩, fun x H'' ⟨e2, hy⟩ => ?_⟩
  subst e2
  have q := hy vs (SqL.of e')
  rw [hv] at q
  injection q with q
  subst q
  exact ⟨Same.refl _, Rep.leaves _ _ _ _ l rv⟩
theorem wk_tup {a : Addr} {vs : List V} {ds : List D} (e : H1 a = some (.tup vs)) (r : RepL K H1 F1 ds frs0 vs []) : Wk K (Itt K a) H1 F1 ds := fun i H' F' l => by
  have e' := l.tup a vs e
  refine ⟨fun d hd => ?_, fun hi => ⟨vs, SqT.of e', by rw [RepL.length r]; exact hi⟩⟩
  obtain ⟨v, hv, rv⟩ := RepL.get r hd
  refine ⟨⟨vs, v, SqT.of e', hv⟩, fun x H'' ⟨e2, hy⟩ => ?_⟩
  subst e2
  have q := hy vs (SqT.of e')
  rw [hv] at q
  injection q with q
  subst q
  exact ⟨Same.refl _, Rep.leaves _ _ _ _ l rv⟩
theorem wk_str {s : W} : Wk K (Its (toS s)) H1 F1 (s.map fun c => .str [c]) := fun i H' F' l => by
  have hz : (toS s).cps.size = s.length := rfl
  refine ⟨fun d hd => ?_, fun hi => by rw [List.length_map] at hi; exact hi⟩
  rw [List.getElem?_map, Option.map_eq_some_iff] at hd
  obtain ⟨c, hc, rfl⟩ := hd
  have hl : i < s.length := (List.getElem?_eq_some_iff.mp hc).1
  refine ⟨hl, fun x H'' ⟨e2, c', hc', ex⟩ => ?_⟩
  subst e2 ex
  have q : s.toArray[i]? = some c' := hc'
  rw [List.getElem?_toArray, hc] at q
  injection q with q
  subst q
  refine ⟨Same.refl _, ?_⟩
  simp only [Rep]
  exact ⟨rfl, trivial⟩
theorem upto_get : ∀ (n : Nat) (lo : Int) (i : Nat), (upto lo n)[i]? = if i < n then some (.int (lo + i)) else none
  | 0, lo, i => by simp [upto]
  | n + 1, lo, i => by
    cases i with
    | zero => simp [upto]
    | succ i =>
      rw [upto, List.getElem?_cons_succ, upto_get n (lo + 1) i]
      by_cases h : i < n
      · rw [if_pos h, if_pos (by omega)]
        congr 2
        omega
      · rw [if_neg h, if_neg (by omega)]
theorem upto_length : ∀ (n : Nat) (lo : Int), (upto lo n).length = n
  | 0, _ => rfl
  | n + 1, lo => by rw [upto, List.length_cons, upto_length n]
theorem rep_int {H : Hp} {F : Addr → Prop} {i : Int} {t : OT} : Rep K H F (.int i) t (.int i) [] := by simp [Rep]
theorem wk_range {lo : Int} {n : Nat} : Wk K (Itr lo n) H1 F1 (upto lo n) := fun i H' F' l => by
  refine ⟨fun d hd => ?_, fun hi => by rw [upto_length] at hi; exact hi⟩
  rw [upto_get] at hd
  split at hd
  · rename_i hi
    injection hd with hd
    subst hd
    refine ⟨hi, fun x H'' ⟨e2, ex⟩ => ?_⟩
    subst e2 ex
    exact ⟨Same.refl _, rep_int⟩
  · cases hd
theorem rep_pair {H : Hp} {F : Addr → Prop} {x y : D} {v u : V} {T : Addr} (hT : H T = none) (h1 : Rep K H F x .fr v []) (h2 : Rep K H F y .fr u []) : Rep K (upd H T (.tup [v, u])) F (.tup [x, y]) .fr (.ref T) [] := by
  have s : Same H (upd H T (.tup [v, u])) := sameUpd (Same.refl _) hT
  have l : Leaves H (upd H T (.tup [v, u])) F F [] := Leaves.same s fun _ _ q => q
  simp only [Rep]
  refine ⟨T, _, rfl, upd_same, ?_⟩
  exact RepL.cons (f1 := []) (f2 := []) (Rep.leaves _ _ _ _ l h1) (RepL.cons (f1 := []) (f2 := []) (Rep.leaves _ _ _ _ l h2) RepL.nil)
def itV (d : D) : R (List D) := itD .val [d]
theorem di_val {tg e : Expr} (he : PE X e (tE fm Wi al .fr f)) (hK : fm.K = X.kw) : PI X tg e (tI fm Wi al fun ρ => f ρ >>= itV) := by
  refine PI.imp (PI.or (pi_list he) (PI.or (pi_tup he) (pi_str he))) fun σ H Q ⟨ρ, fps, er, h⟩ => ?_
  rw [KF.back hK]
  dsimp only at h
  cases e : f ρ with
  | stk => rw [e] at h; exact h.elim
  | exn c ps =>
    rw [e] at h
    refine .inl ⟨ρ, fps, er, ?_⟩
    rw [e]
    exact h
  | ok d =>
    rw [e] at h
    have h : OKI fm Wi al (itD .val [d]) σ H fps Q := h
    cases d with
    | lst xs =>
      refine .inl ⟨ρ, fps, er, ?_⟩
      rw [e]
      intro v H' fp s x
      obtain rfl := x.fr
      obtain ⟨a, vs, rfl, e2, x2⟩ := Rep.lst_inv x.rep
      exact ⟨a, rfl, ⟨vs, SqL.of e2.1⟩, h _ H' s (wk_list e2.1 e2.2 x2)⟩
    | tup xs =>
      refine .inr (.inl ⟨ρ, fps, er, ?_⟩)
      rw [e]
      intro v H' fp s x
      obtain rfl := x.fr
      obtain ⟨a, vs, rfl, e2, x2⟩ := Rep.tup_inv x.rep
      exact ⟨a, rfl, ⟨vs, SqT.of e2⟩, h _ H' s (wk_tup e2 x2)⟩
    | str w =>
      refine .inr (.inr ⟨ρ, fps, er, ?_⟩)
      rw [e]
      intro v H' fp s x
      obtain rfl := x.read.str
      exact ⟨_, rfl, h _ H' s wk_str⟩
    | _ => exact h.elim
theorem OKI.seq {r : R (List D)} {k : List D → R (List D)} {σ : St} {H : Hp} {fps : Fps} {Q : It → Hp → Prop} {Q' : List V → Hp → Prop} {ft : Nat → OT} (h : OKI fm Wi al (r >>= k) σ H fps Q)
    (hk : ∀ d v H1 fp, r = .ok d → OKI fm Wi al (k d) σ H fps Q → Same H H1 → XRL fm fps H H1 al1 d ft v fp → Q' v H1) : OKL fm Wi al1 ft r σ H fps Q' := by
  cases r with
  | ok d => exact fun v H' fp s x => hk d v H' fp rfl h s x
  | exn c ps => exact h
  | stk => exact h
theorem small_of {i : Int} (h : small62 i = true) : -(2 ^ 62) ≤ i ∧ i < 2 ^ 62 := by
  unfold small62 at h
  simpa only [Bool.and_eq_true, decide_eq_true_eq] using h
theorem di_range1 {tg a : Expr} {p pos : Pos} {gs : Rho → R (List D)} (hg : Gl X "range") (hm : X.mg "range" = none) (ha : PA X [a] (tL fm Wi al1 frs0 gs)) (hs : noStar a = true) :
    PI X tg (.Call (.Name "range" p) [a] [] pos) (tI fm Wi al fun ρ => gs ρ >>= itD .range1) := by
  refine PI.imp (pi_range1 hg hm ha (star_of hs)) fun σ H Q ⟨ρ, fps, er, h⟩ => ⟨ρ, fps, er, OKI.seq h fun ds vs H1 fp e hk s x => ?_⟩
  obtain rfl := (RepL.fr_nil x.rep).1
  unfold itD at hk
  split at hk <;> first | contradiction | exact hk.elim | skip
  split at hk
  · rename_i hz
    obtain ⟨v, rfl, y⟩ := x.one
    obtain rfl := y.read.int
    exact ⟨_, rfl, (small_of hz).1, (small_of hz).2, hk _ _ s wk_range⟩
  · exact hk.elim
theorem di_range2 {tg a b : Expr} {p pos : Pos} {gs : Rho → R (List D)} (hg : Gl X "range") (hm : X.mg "range" = none) (ha : PA X [a, b] (tL fm Wi al1 frs0 gs)) (hs : noStar a = true) (hs2 : noStar b = true) :
    PI X tg (.Call (.Name "range" p) [a, b] [] pos) (tI fm Wi al fun ρ => gs ρ >>= itD .range2) := by
  refine PI.imp (pi_range2 hg hm ha (by rw [star_of hs, star_of hs2]; rfl) (star_of hs2)) fun σ H Q ⟨ρ, fps, er, h⟩ => ⟨ρ, fps, er, OKI.seq h fun ds vs H1 fp e hk s x => ?_⟩
  obtain rfl := (RepL.fr_nil x.rep).1
  unfold itD at hk
  split at hk <;> first | contradiction | exact hk.elim | skip
  split at hk
  · rename_i hz
    simp only [Bool.and_eq_true] at hz
    obtain ⟨v, u, rfl, y, z⟩ := x.two
    obtain rfl := y.read.int
    obtain rfl := z.read.int
    exact ⟨_, _, rfl, ⟨(small_of hz.1).1, (small_of hz.1).2, (small_of hz.2).1, (small_of hz.2).2⟩, hk _ _ s wk_range⟩
  · exact hk.elim
end
end L2.Py

set_option maxRecDepth 100000
set_option maxHeartbeats 1000000
namespace L2.Py
open PySem PySem.Spec PyProof.Rows TL
section
variable {X : Cx} {fm : Fm} {Wi : WX} {al al1 al2 : Bool} {t : OT} {f g : Rho → R D}
def tG (fm : Fm) (is : List Nat) (bd : D → Rho → R Rho) : TG := fun v σ H Q => ∃ d ρ fps ρ', ER fm ρ σ H fps ∧ Rep fm.K H (Fz fm fps) d .fr v [] ∧ bd d ρ = .ok ρ' ∧
  ∀ σ', ER fm ρ' σ' H fps → σ'.length = σ.length → (∀ j, j ∉ is → σ'[j]? = σ[j]?) → Q σ' H
theorem PG.imp {e : Expr} {t t' : TG} (p : PG X e t) (h : ∀ v σ H Q, t' v σ H Q → t v σ H Q) : PG X e t' := ⟨fun pins s σ H v u Q I r q => p.run pins s σ H v u Q I r (h v σ H Q q)⟩
theorem PGs.imp {e : List Expr} {t t' : TGs} (p : PGs X e t) (h : ∀ v σ H Q, t' v σ H Q → t v σ H Q) : PGs X e t' := ⟨fun pins s σ H v u Q I r q => p.run pins s σ H v u Q I r (h v σ H Q q)⟩
theorem ER.bind {ρ : Rho} {σ : St} {H : Hp} {fps : Fps} {i : Nat} {d : D} {v : V} (er : ER fm ρ σ H fps) (ho : fm.ot i = .fr) (r : Rep fm.K H (Fz fm fps) d .fr v []) : ER fm (ρ.put i d) (σ.set i (some v)) H fps where
  len := by rw [List.length_set, Rho.put, List.length_set]; exact er.len
  rep := fun j x e => by
    unfold Rho.put at e
    rw [List.getElem?_set] at e
    rw [List.getElem?_set]
    by_cases hij : i = j
    · subst hij
      rw [if_pos rfl] at e ⊢
      by_cases hl : i < ρ.length
      · rw [if_pos hl] at e
        injection e with e
        injection e with e
        subst e
        rw [if_pos (by rw [er.len]; exact hl)]
        refine ⟨v, rfl, ?_⟩
        rw [ho, er.nil i hl ho]
        exact r
      · rw [if_neg hl] at e; cases e
    · rw [if_neg hij] at e ⊢
      exact er.rep j x e
  nil := fun j hj e => er.nil j (by rw [Rho.put, List.length_set] at hj; exact hj) e
  nd := er.nd
  dj := er.dj
  new := er.new
  trk := er.trk
  frame := er.frame
  lent := er.lent
  io := fun j a t e hj x ex => by
    unfold Rho.put at ex
    rw [List.getElem?_set] at ex
    by_cases hij : i = j
    · rw [← hij] at hj; exact absurd ho hj
    · rw [if_neg hij] at ex
      rw [List.getElem?_set_ne hij]
      exact er.io j a t e hj x ex
structure Tg1 (X : Cx) (fm : Fm) (i : Nat) (e : Expr) : Prop where
  is : ∃ x pos, e = .Name x pos ∧ X.N[i]? = some x ∧ Loc X.env.scope x ∧ (X.fn x = true ∨ X.env.scope.names.lookup x = some .local)
  fr : fm.ot i = .fr
theorem dg_name (hN : X.N.Nodup) {i : Nat} {e : Expr} (h : Tg1 X fm i e) : PG X e (tG fm [i] (bindTg false [i])) := by
  obtain ⟨x, pos, rfl, h1, h2, h3⟩ := h.is
  refine PG.imp (pg_name hN h1 h2 h3) fun v σ H Q ⟨d, ρ, fps, ρ', er, r, e, q⟩ => ?_
  unfold bindTg at e
  rw [if_neg Bool.false_ne_true] at e
  injection e with e
  subst e
  exact q _ (er.bind h.fr r) (List.length_set ..) fun j hj => List.getElem?_set_ne (fun z => hj (by simp [z]))
def tGs (fm : Fm) (is : List Nat) : TGs := fun vs σ H Q => ∃ ds ρ fps ρ', ER fm ρ σ H fps ∧ RepL fm.K H (Fz fm fps) ds frs0 vs [] ∧ putAll ρ is ds = .ok ρ' ∧
  ∀ σ', ER fm ρ' σ' H fps → σ'.length = σ.length → (∀ j, j ∉ is → σ'[j]? = σ[j]?) → Q σ' H
inductive TgL (X : Cx) (fm : Fm) : List Nat → List Expr → Prop
  | nil : TgL X fm [] []
  | cons {i is e es} : Tg1 X fm i e → TgL X fm is es → TgL X fm (i :: is) (e :: es)
theorem dgs (hN : X.N.Nodup) : ∀ {is : List Nat} {es : List Expr}, TgL X fm is es → PGs X es (tGs fm is)
  | _, _, .nil => PGs.imp pgs_nil fun vs σ H Q ⟨ds, ρ, fps, ρ', er, r, e, q⟩ => by
    cases ds with
    | nil =>
      unfold putAll at e
      injection e with e
      subst e
      exact ⟨r.nil_inv.1, q _ er rfl fun _ _ => rfl⟩
    | cons d ds => unfold putAll at e; cases e
  | i :: is, e :: es, .cons h hs => by
    have hst : (assignEach (e :: es) X.env).map (·.2) = assign e X.env :: (assignEach es X.env).map (·.2) := by
      obtain ⟨x, pos, rfl, _⟩ := h.is
      rfl
    refine PGs.imp (pgs_cons (dg_name hN h) (dgs hN hs) hst) fun vs σ H Q ⟨ds, ρ, fps, ρ', er, r, e, q⟩ => ?_
    cases ds with
    | nil => unfold putAll at e; cases e
    | cons d ds =>
      unfold putAll at e
      obtain ⟨v, vr, f1, f2, rfl, e2, h1, h2⟩ := r.uncons
      have h1' := (Rep.fr_nil h1).2
      have h2' := (RepL.fr_nil h2).2
      refine ⟨v, vr, rfl, d, ρ, fps, _, er, h1', by unfold bindTg; rfl, fun σ1 er1 l1 k1 => ?_⟩
      refine ⟨ds, _, fps, ρ', er1, h2', e, fun σ2 er2 l2 k2 => ?_⟩
      refine q σ2 er2 (l2.trans l1) fun j hj => ?_
      simp only [List.mem_cons, not_or] at hj
      rw [k2 j hj.2, k1 j (by simp [hj.1])]
theorem tgL_len : ∀ {is : List Nat} {es : List Expr}, TgL X fm is es → ∀ env : PySem.Env, (assignEach es env).length = is.length ∧ (assignEach es env).findIdx? (·.1) = none
  | _, _, .nil, env => ⟨rfl, rfl⟩
  | i :: is, e :: es, .cons h hs, env => by
    obtain ⟨x, pos, rfl, _⟩ := h.is
    obtain ⟨h1, h2⟩ := tgL_len hs env
    refine ⟨?_, ?_⟩
    · show (assignEach es env).length + 1 = _
      rw [h1]; rfl
    · show List.findIdx? (·.1) ((false, assign (.Name x pos) env) :: assignEach es env) = none
      rw [List.findIdx?_cons]
      simp [h2]
theorem putAll_len : ∀ {is : List Nat} {ds : List D} {ρ ρ' : Rho}, putAll ρ is ds = .ok ρ' → ds.length = is.length
  | [], [], _, _, _ => rfl
  | [], _ :: _, _, _, h => by unfold putAll at h; cases h
  | _ :: _, [], _, _, h => by unfold putAll at h; cases h
  | _ :: is, _ :: ds, _, _, h => by
    unfold putAll at h
    rw [List.length_cons, List.length_cons, putAll_len h]
theorem PG.or {e : Expr} {t t' : TG} (p : PG X e t) (p' : PG X e t') : PG X e (fun v σ H Q => t v σ H Q ∨ t' v σ H Q) :=
  ⟨fun pins s σ H v u Q I r q => q.elim (p.run pins s σ H v u Q I r) (p'.run pins s σ H v u Q I r)⟩
theorem dg_tup (hK : fm.K = X.kw) (hN : X.N.Nodup) (hc : X.calm = true) {is : List Nat} {es : List Expr} {k : Nat} {pos : Pos} (h : TgL X fm is es) : PG X (.Tuple es k pos) (tG fm is (bindTg true is)) := by
  refine PG.imp (PG.or (pg_tup hc (dgs hN h) (tgL_len h X.env).1 (tgL_len h X.env).2) (pg_unl hc (dgs hN h) (tgL_len h X.env).1 (tgL_len h X.env).2)) fun v σ H Q ⟨d, ρ, fps, ρ', er, r, e, q⟩ => ?_
  unfold bindTg at e
  rw [if_pos rfl] at e
  cases d with
  | tup ds =>
    obtain ⟨a, vs, rfl, e2, r2⟩ := Rep.tup_inv r
    exact .inl ⟨a, vs, rfl, KF.back hK ▸ SqT.of e2, by rw [RepL.length r2]; exact putAll_len e, ds, ρ, fps, ρ', er, r2, e, q⟩
  | lst ds =>
    obtain ⟨a, vs, rfl, e2, r2⟩ := Rep.lst_inv r
    exact .inr ⟨a, vs, rfl, KF.back hK ▸ SqL.of e2.1, by rw [RepL.length r2]; exact putAll_len e, ds, ρ, fps, ρ', er, r2, e, q⟩
  | _ => cases e
end
end L2.Py

set_option maxRecDepth 100000
set_option maxHeartbeats 1000000
namespace L2.Py
open PySem PySem.Spec PyProof.Rows TL
section
variable {X : Cx} {fm : Fm} {Wi : WX} {al al1 al2 : Bool} {t : OT} {f g : Rho → R D}
theorem wipe_get {σ : St} : ∀ {vs : List Nat} {i : Nat}, i ∉ vs → (wipe σ vs)[i]? = σ[i]?
  | [], i, _ => rfl
  | v :: vs, i, h => by
    simp only [List.mem_cons, not_or] at h
    unfold wipe
    rw [List.getElem?_set_ne (Ne.symm h.1), wipe_get h.2]
theorem wipe_in {σ : St} : ∀ {vs : List Nat} {i : Nat}, i ∈ vs → (wipe σ vs)[i]? = if i < σ.length then some none else none
  | v :: vs, i, h => by
    unfold wipe
    rw [List.getElem?_set, wipe_length]
    by_cases e : v = i
    · rw [if_pos e, e]
    · rw [if_neg e]
      exact wipe_in ((List.mem_cons.mp h).resolve_left (Ne.symm e))
theorem wipeE_length (ρ : Rho) : ∀ vs : List Nat, (wipeE ρ vs).length = ρ.length
  | [] => rfl
  | v :: vs => by unfold wipeE; rw [List.length_set, wipeE_length ρ vs]
theorem wipeE_some {ρ : Rho} {i : Nat} {x : D} : ∀ {vs : List Nat}, (wipeE ρ vs)[i]? = some (some x) → ρ[i]? = some (some x) ∧ i ∉ vs
  | [], h => ⟨h, by simp⟩
  | v :: vs, h => by
    unfold wipeE at h
    rw [List.getElem?_set] at h
    by_cases e : v = i
    · rw [if_pos e] at h
      split at h <;> cases h
    · rw [if_neg e] at h
      obtain ⟨h1, h2⟩ := wipeE_some h
      exact ⟨h1, by simp only [List.mem_cons, not_or]; exact ⟨fun z => e z.symm, h2⟩⟩
theorem ER.wipe {ρ : Rho} {σ : St} {H : Hp} {fps : Fps} {vs : List Nat} (er : ER fm ρ σ H fps) : ER fm (wipeE ρ vs) (L2.wipe σ vs) H fps where
  len := by rw [wipe_length, wipeE_length]; exact er.len
  rep := fun i d e => by
    obtain ⟨h1, h2⟩ := wipeE_some e
    rw [wipe_get h2]
    exact er.rep i d h1
  nil := fun i hi e => er.nil i (by rw [wipeE_length] at hi; exact hi) e
  nd := er.nd
  dj := er.dj
  new := er.new
  trk := er.trk
  frame := er.frame
  lent := er.lent
  io := fun j a t e hj x ex => by
    obtain ⟨h1, h2⟩ := wipeE_some ex
    rw [wipe_get h2]
    exact er.io j a t e hj x h1
theorem wipe_same {σ σ2 : St} {vs : List Nat} (hl : σ2.length = (wipe σ vs).length) (h : ∀ j, j ∉ vs → σ2[j]? = (wipe σ vs)[j]?) : wipe σ2 vs = wipe σ vs := by
  apply List.ext_getElem?
  intro j
  rw [wipe_length] at hl
  by_cases hj : j ∈ vs
  · rw [wipe_in hj, wipe_in hj, hl]
  · rw [wipe_get hj, h j hj]
theorem compL_cons {h : Rho → R D} {p : Rho → R Bool} {bd : D → R Rho} {d : D} {ds rest : List D} (e : compL h p bd (d :: ds) = .ok rest) :
    ∃ ρ' b, bd d = .ok ρ' ∧ p ρ' = .ok b ∧ (b = true → ∃ y ys, h ρ' = .ok y ∧ compL h p bd ds = .ok ys ∧ rest = y :: ys) ∧ (b = false → compL h p bd ds = .ok rest) := by
  unfold compL at e
  cases h1 : bd d with
  | stk => rw [h1] at e; cases e
  | exn c ps => rw [h1] at e; cases e
  | ok ρ' =>
    rw [h1] at e
    rw [ok_bind] at e
    cases h2 : p ρ' with
    | stk => rw [h2] at e; cases e
    | exn c ps => rw [h2] at e; cases e
    | ok b =>
      rw [h2] at e
      rw [ok_bind] at e
      cases b with
      | false =>
        rw [if_neg Bool.false_ne_true] at e
        exact ⟨ρ', false, rfl, h2, (fun z => nomatch z), fun _ => e⟩
      | true =>
        rw [if_pos rfl] at e
        cases h3 : h ρ' with
        | stk => rw [h3] at e; cases e
        | exn c ps => rw [h3] at e; cases e
        | ok y =>
          rw [h3, ok_bind] at e
          cases h4 : compL h p bd ds with
          | stk => rw [h4] at e; cases e
          | exn c ps => rw [h4] at e; cases e
          | ok ys =>
            rw [h4] at e
            injection e with e
            exact ⟨ρ', true, rfl, h2, fun _ => ⟨y, ys, h3, rfl, e.symm⟩, fun z => nomatch z⟩
theorem bindFl_of {fl tt : Bool} {vs : List Nat} {d : D} {ρ ρ' : Rho} (h : bindFl fl tt vs d ρ = .ok ρ') : bindTg tt vs d ρ = .ok ρ' ∧ (fl = true → d.noMut = true) := by
  unfold bindFl at h
  split at h
  · cases h
  · rename_i hz
    refine ⟨h, fun e => ?_⟩
    subst e
    simpa using hz
def W0 : WX := fun _ _ _ _ => False
def Fc (fm : Fm) (fps : Fps) (H1 : Hp) (p : Addr) (fp : List Addr) : Addr → Prop := fun a => (Fz fm fps a ∨ H1 a = none) ∧ a ≠ p ∧ a ∉ fp
theorem fz_addT {fps : Fps} {n : Nat} {fp : List Addr} {a : Addr} (h : Fz fm (addT fps n fp) a) : Fz fm fps a ∧ a ∉ fp := by
  refine ⟨⟨h.1, fun i hi => h.2 i ?_⟩, fun hf => h.2 n ?_⟩
  · unfold addT
    split
    · exact List.mem_append_left _ hi
    · exact hi
  · unfold addT
    rw [if_pos rfl]
    exact List.mem_append_right _ hf
def WkS (K : KF) (J : It) (H1 : Hp) (F1 : Addr → Prop) (ds : List D) : Prop :=
  ∀ i H' F', Same H1 H' → Leaves H1 H' F1 F' [] → (∀ d, ds[i]? = some d → J.go i H' ∧ ∀ x H'', J.yld i H' x H'' → Same H' H'' ∧ Rep K H'' F' d .fr x []) ∧ (ds.length ≤ i → J.stop i H')
theorem Wk.s {K : KF} {J : It} {H1 : Hp} {F1 : Addr → Prop} {ds : List D} (w : Wk K J H1 F1 ds) : WkS K J H1 F1 ds := fun i H' F' _ l => w i H' F' l
theorem lc_go {vs : List Nat} {fl tt : Bool} {p : Rho → R Bool} {h : Rho → R D} {ds : List D} {J : It} {H H1 : Hp} {ρ : Rho} {fps : Fps} (hfl : al1 = true → fl = true) {σ : St} {Q : VK} (er : ER fm ρ σ H fps) (s1 : Same H H1) (wk : WkS fm.K J H1 (Fq fm fps H al1 []) ds)
    {g : TG} {tq : TT} {te : TE} (hG : ∀ v σ H Q, tG fm vs (bindTg tt vs) v σ H Q → g v σ H Q) (hT : ∀ σ H Q, tTT fm W0 p σ H Q → tq σ H Q) (hE : ∀ σ H Q, tE fm W0 false t.elem h σ H Q → te σ H Q)
    (q : OKE fm Wi false t (do
      let ys ← noExn (compL h p (fun d => bindFl fl tt vs d (wipeE ρ vs)) ds)
      if ys.length ≤ lim then pure (.lst ys) else .stk) σ H fps Q) :
    tLc (fun σ H R => R J H1) g tq te vs σ H Q := by
  cases e2 : compL h p (fun d => bindFl fl tt vs d (wipeE ρ vs)) ds with
  | stk => rw [e2] at q; exact q.elim
  | exn c ps => rw [e2] at q; exact q.elim
  | ok yall =>
    rw [e2] at q
    have q : OKE fm Wi false t (if yall.length ≤ lim then pure (.lst yall) else .stk) σ H fps Q := q
    by_cases hlim' : ¬ yall.length ≤ lim
    · rw [if_neg hlim'] at q; exact q.elim
    have hlim := Decidable.not_not.mp hlim'
    rw [if_pos hlim] at q
    unfold tLc
    intro Dn hDn
    have er1 := er.ext s1
    have hD0 : H Dn = none := s1.free hDn
    refine ⟨fun i m H' => m = ds.length - i ∧ i ≤ ds.length ∧ ∃ ys rest acc fp, compL h p (fun d => bindFl fl tt vs d (wipeE ρ vs)) (ds.drop i) = .ok rest ∧ ys ++ rest = yall ∧ Same H1 H' ∧ H' Dn = some (.lst acc) ∧
      RepL fm.K H' (Fc fm fps H1 Dn fp) ys (fun _ => t.elem) acc fp ∧ fp.Nodup ∧ Dn ∉ fp ∧ ∀ a ∈ fp, H1 a = none, ⟨ds.length, by simp, Nat.zero_le _, [], yall, [], [], e2, rfl, sameUpd (Same.refl _) hDn, upd_same, RepL.nil, List.nodup_nil, by simp, fun a h => nomatch h⟩, ?_⟩
    rintro i m H' ⟨rfl, hi, ys, rest, acc, fp, hrest, hall, s2, hD, rp, nd, nD, new⟩
    have hDtrk : ∀ a ∈ Dn :: fp, H' a ≠ none := fun a ha => by
      rcases List.mem_cons.mp ha with rfl | ha
      · rw [hD]; exact fun z => nomatch z
      · exact RepL.trk _ _ _ _ rp a ha
    by_cases hlt : i < ds.length
    · have hdrop : ds.drop i = ds[i] :: ds.drop (i + 1) := List.drop_eq_getElem_cons hlt
      rw [hdrop] at hrest
      obtain ⟨ρ', b, hb, hp, h1, h2⟩ := compL_cons hrest
      obtain ⟨hb1, hb2⟩ := bindFl_of hb
      have lv : Leaves H1 H' (Fq fm fps H al1 []) (Fq fm fps H al1 []) [] := Leaves.same s2 fun _ _ z => z
      obtain ⟨hgo, hyl⟩ := (wk i H' _ s2 lv).1 ds[i] (by simp [hlt])
      refine .inr ⟨hgo, fun H2 => ∃ m', m' < ds.length - i ∧ (m' = ds.length - (i + 1) ∧ i + 1 ≤ ds.length ∧ ∃ ys rest acc fp, compL h p (fun d => bindFl fl tt vs d (wipeE ρ vs)) (ds.drop (i + 1)) = .ok rest ∧ ys ++ rest = yall ∧ Same H1 H2 ∧ H2 Dn = some (.lst acc) ∧
        RepL fm.K H2 (Fc fm fps H1 Dn fp) ys (fun _ => t.elem) acc fp ∧ fp.Nodup ∧ Dn ∉ fp ∧ ∀ a ∈ fp, H1 a = none), fun _ z => z, fun x H2 hy => ?_⟩
      obtain ⟨s3, rx⟩ := hyl x H2 hy
      have s12 := s2.trans s3
      -- the frame inside the block
      have er2 : ER fm (wipeE ρ vs) (wipe σ vs) H2 (addT fps ρ.length (Dn :: fp)) := by
        have := (er1.temp s12 (fp := Dn :: fp) (List.nodup_cons.mpr ⟨nD, nd⟩) (fun a ha => by
          rcases List.mem_cons.mp ha with rfl | ha
          · exact hDn
          · exact new a ha) (fun a ha z => hDtrk a ha (s3.free z)))
        exact this.wipe
      have rp2 : RepL fm.K H2 (Fc fm fps H1 Dn fp) ys (fun _ => t.elem) acc fp := RepL.leaves _ _ _ _ (Leaves.same s3 fun _ _ z => z) rp
      have hD2 := s3 _ _ hD
      have rxz : Rep fm.K H2 (Fz fm (addT fps ρ.length (Dn :: fp))) ds[i] .fr x [] := by
        cases hal : al1 with
        | true => exact (Rep.flat _ _ _ _ (hb2 (hfl hal)) rx).2 _ _
        | false =>
          rw [hal] at rx
          have nmem : ∀ a, H a = none → H1 a ≠ none → ∀ i, a ∉ fps i := fun a hn _ i hm => er.trk i a hm hn
          by_cases hz : True
          · rw [hal] at lv
            -- the item is read at H1, then carried on
            have lv' : Leaves H1 H' (Fq fm fps H al1 []) (fun a => H1 a ≠ none ∧ Fq fm fps H al1 [] a) [] := by
              refine ⟨(fun a ha => nomatch ha), fun a u _ r z => ⟨rdSame s2 r, rd_ne r, z⟩, fun a vs e z => ⟨s2 _ _ e, by rw [e]; exact (fun z => nomatch z), z⟩, fun a vs e => s2 _ _ e, fun a o vs e => s2 _ _ e⟩
            obtain ⟨_, hyl'⟩ := (wk i H' _ s2 lv').1 ds[i] (by simp [hlt])
            obtain ⟨_, rx'⟩ := hyl' x H2 hy
            refine Rep.leaves _ _ _ _ (Leaves.same (Same.refl _) fun a ha z => ?_) rx'
            obtain ⟨z1, z2⟩ := z
            rw [hal] at z2
            rcases z2 with z2 | ⟨z2, _⟩
            · cases z2
            · have zz : (fm.B a ∨ fm.H0 a = none ∨ a ∈ fm.Lt) ∧ ∀ i, a ∉ fps i := by
                rcases z2 with z2 | z2
                · exact z2
                · exact ⟨.inr (.inl (er.h0 z2)), nmem a z2 z1⟩
              refine ⟨zz.1, fun j hj => ?_⟩
              rcases mem_addT hj with w | ⟨_, w⟩
              · exact zz.2 j w
              · rcases List.mem_cons.mp w with rfl | w
                · exact z1 hDn
                · exact z1 (new a w)
          · exact absurd trivial hz
      refine hG _ _ _ _ ⟨ds[i], wipeE ρ vs, _, ρ', er2, rxz, hb1, fun σ2 er3 l3 k3 => ⟨wipe_same l3 k3, hT _ _ _ ⟨ρ', _, er3, ?_⟩⟩⟩
      rw [hp]
      intro H3 s4
      have s13 := s12.trans s4
      cases b with
      | false =>
        simp only [if_neg Bool.false_ne_true]
        exact ⟨ds.length - (i + 1), by omega, rfl, by omega, ys, rest, acc, fp, h2 rfl, hall, s13, s4 _ _ hD2, RepL.leaves _ _ _ _ (Leaves.same s4 fun _ _ z => z) rp2, nd, nD, new⟩
      | true =>
        simp only [if_true]
        obtain ⟨y, ysr, hh, hc, rfl⟩ := h1 rfl
        refine hE _ _ _ ⟨ρ', _, er3.ext s4, ?_⟩
        rw [hh]
        intro v H4 fp2 s5 x5
        have s14 := s13.trans s5
        have s24 := s4.trans s5
        have hD4 := s24 _ _ hD2
        have accl : acc.length < sizeLine := by
          have e := RepL.length rp
          rw [e]
          have : ys.length < yall.length := by rw [← hall, List.length_append, List.length_cons]; omega
          rw [sizeLine_eq]
          have := hlim
          unfold lim at this
          omega
        refine ⟨acc, hD4, accl, ds.length - (i + 1), by omega, rfl, by omega, ys ++ [y], ysr, acc ++ [v], fp ++ fp2, hc, by rw [← hall]; simp, ?_, upd_same, ?_, ?_, ?_, ?_⟩
        · intro a o e
          have := s14 a o e
          rw [upd_ne (fun z => by rw [z, hDn] at e; cases e)]
          exact this
        · have t3 : ∀ a ∈ fp, H3 a ≠ none := fun a ha z => hDtrk a (List.mem_cons_of_mem _ ha) (s3.free (s4.free z))
          have lvA : ∀ {F : Addr → Prop} {fq : List Addr}, (∀ a, F a → a ≠ Dn) → Dn ∉ fq → Leaves H4 (upd H4 Dn (.lst (acc ++ [v]))) F F fq := fun {F fq} hF hq => by
            refine ⟨fun a ha o e => ?_, fun a u nf r z => ⟨?_, z⟩, fun a us e z => ⟨?_, z⟩, fun a us e => ?_, fun a o us e => ?_⟩
            · rw [upd_ne (fun z => hq (by rw [← z]; exact ha))]; exact e
            · rcases r with r | ⟨o, r⟩
              · exact .inl (by rw [upd_ne (hF a z)]; exact r)
              · exact .inr ⟨o, by rw [upd_ne (hF a z)]; exact r⟩
            · rw [upd_ne (hF a z)]; exact e
            · rw [upd_ne (fun z => by rw [z, hD4] at e; cases e)]; exact e
            · rw [upd_ne (fun z => by rw [z, hD4] at e; cases e)]; exact e
          have nD2 : Dn ∉ fp2 := fun hm => by
            have := x5.new _ hm
            rw [s4 _ _ hD2] at this
            cases this
          have r1 : RepL fm.K H4 (Fc fm fps H1 Dn (fp ++ fp2)) ys (fun _ => t.elem) acc fp := RepL.leaves _ _ _ _ (Leaves.same s24 fun a ha z => ⟨z.1, z.2.1, fun hm => by
            rcases List.mem_append.mp hm with hm | hm
            · exact z.2.2 hm
            · exact ha (s4.free (x5.new a hm))⟩) rp2
          have r2 : RepL fm.K H4 (Fc fm fps H1 Dn (fp ++ fp2)) [y] (fun _ => t.elem) [v] fp2 := by
            have := RepL.cons (f := fun _ => t.elem) (Rep.leaves _ _ _ _ (Leaves.same (Same.refl _) fun a ha z => ?_) x5.rep) (RepL.nil (K := fm.K) (H := H4) (F := Fc fm fps H1 Dn (fp ++ fp2)))
            · rw [List.append_nil] at this; exact this
            · rcases z with z | ⟨z1, z2⟩
              · cases z
              · rcases z1 with z1 | z1
                · obtain ⟨w1, w2⟩ := fz_addT z1
                  simp only [List.mem_cons, not_or] at w2
                  exact ⟨.inl w1, w2.1, fun hm => (List.mem_append.mp hm).elim w2.2 z2⟩
                · refine ⟨.inr (s13.free z1), fun z => ?_, fun hm => (List.mem_append.mp hm).elim (fun w => t3 a w z1) z2⟩
                  rw [z, s4 _ _ hD2] at z1; cases z1
          refine RepL.leaves _ _ _ _ (lvA (fun a z => z.2.1) fun hm => ?_) (RepL.app r1 r2)
          exact (List.mem_append.mp hm).elim nD nD2
        · exact List.nodup_append.mpr ⟨nd, x5.nd, fun a ha b hb e => by
            subst e
            exact hDtrk a (List.mem_cons_of_mem _ ha) (s3.free (s4.free (x5.new a hb)))⟩
        · intro hm
          rcases List.mem_append.mp hm with hm | hm
          · exact nD hm
          · have := x5.new _ hm
            rw [s4 _ _ hD2] at this
            cases this
        · intro a ha
          rcases List.mem_append.mp ha with ha | ha
          · exact new a ha
          · exact s13.free (x5.new a ha)
    · have ei : i = ds.length := by omega
      subst ei
      have lv : Leaves H1 H' (Fq fm fps H al1 []) (Fq fm fps H al1 []) [] := Leaves.same s2 fun _ _ z => z
      refine .inl ⟨(wk ds.length H' _ s2 lv).2 (Nat.le_refl _), ?_⟩
      rw [List.drop_length] at hrest
      have er0 : rest = [] := by unfold compL at hrest; injection hrest with z; exact z.symm
      subst er0
      rw [List.append_nil] at hall
      subst hall
      have sH := s1.trans s2
      have fin : ∃ fp', XR fm fps H H' false (.lst ys) t (.ref Dn) fp' := by
        cases t with
        | ow t =>
          refine ⟨Dn :: fp, ?_, List.nodup_cons.mpr ⟨nD, nd⟩, fun a ha => ?_⟩
          · simp only [Rep]
            refine ⟨Dn, acc, fp, rfl, ⟨hD, rfl⟩, RepL.leaves _ _ _ _ (Leaves.same (Same.refl _) fun a ha z => .inr ⟨z.1.imp id fun w => s1.free w, fun hm => ?_⟩) rp⟩
            rcases List.mem_cons.mp hm with hm | hm
            · exact z.2.1 hm
            · exact z.2.2 hm
          · rcases List.mem_cons.mp ha with rfl | ha
            · exact hD0
            · exact s1.free (new a ha)
        | fr =>
          have e : fp = [] := (RepL.fr_nil rp).1
          subst e
          refine ⟨[], ?_, List.nodup_nil, fun a ha => nomatch ha⟩
          simp only [Rep]
          exact ⟨Dn, acc, [], rfl, ⟨⟨hD, .inr ⟨.inr hD0, by simp⟩⟩, rfl⟩, RepL.leaves _ _ _ _ (Leaves.same (Same.refl _) fun a ha z => .inr ⟨z.1.imp id fun w => s1.free w, by simp⟩) rp⟩
        | tp ts =>
          have e : fp = [] := (RepL.fr_nil rp).1
          subst e
          refine ⟨[], ?_, List.nodup_nil, fun a ha => nomatch ha⟩
          simp only [Rep]
          exact ⟨Dn, acc, [], rfl, ⟨⟨hD, .inr ⟨.inr hD0, by simp⟩⟩, rfl⟩, RepL.leaves _ _ _ _ (Leaves.same (Same.refl _) fun a ha z => .inr ⟨z.1.imp id fun w => s1.free w, by simp⟩) rp⟩
      obtain ⟨fp', x'⟩ := fin
      exact q _ H' fp' sH x'
theorem lc_read {vs : List Nat} {fl tt : Bool} {gs : Rho → R (List D)} {p : Rho → R Bool} {h : Rho → R D} (hfl : al1 = true → fl = true) {σ : St} {H : Hp} {Q : VK}
    (q : tE fm Wi false t (fun ρ => do
      let ds ← gs ρ
      let ys ← noExn (compL h p (fun d => bindFl fl tt vs d (wipeE ρ vs)) ds)
      if ys.length ≤ lim then pure (.lst ys) else .stk) σ H Q) :
    tLc (tI fm Wi al1 gs) (tG fm vs (bindTg tt vs)) (tTT fm W0 p) (tE fm W0 false t.elem h) vs σ H Q := by
  obtain ⟨ρ, fps, er, q⟩ := q
  refine ⟨ρ, fps, er, ?_⟩
  dsimp only at q
  cases e1 : gs ρ with
  | stk => rw [e1] at q; exact q.elim
  | exn c ps => rw [e1] at q; exact q
  | ok ds =>
    rw [e1, ok_bind] at q
    exact fun J H1 s1 wk => lc_go hfl er s1 wk.s (fun _ _ _ _ z => z) (fun _ _ _ z => z) (fun _ _ _ z => z) q
theorem PTs.imp {e : List Expr} {t t' : TT} (p : PTs X e t) (h : ∀ σ H Q, t' σ H Q → t σ H Q) : PTs X e t' := ⟨fun pins s σ H Q I q => p.run pins s σ H Q I (h σ H Q q)⟩
theorem dts_nil : PTs X [] (tTT fm Wi fun _ => .ok true) := PTs.imp pts_nil fun σ H Q ⟨ρ, fps, er, h⟩ => h H (Same.refl _)
theorem de_comp {elt tg iter : Expr} {ifs : List Expr} {scope : Scope} {own : List (Str × Nat)} {pos : Pos} {vs : List Nat} {fl tt : Bool} {gs : Rho → R (List D)} {p : Rho → R Bool} {h : Rho → R D} (hc : X.calm = true) (hN : X.N.Nodup)
    (hi : PI X tg iter (tI fm Wi al1 gs)) (ok : BlkOk X.N X.env.scope scope own) (how : own.map (·.2) = vs)
    (hg : ∀ (s : Shared) (H : Hp) (C : Addr) (cl : List (Str × Addr)) (fp : List Addr), PG (X.blk s H scope (compEnvC scope cl C X.env) fp) tg (tG fm vs (bindTg tt vs)))
    (ht : ∀ (s : Shared) (H : Hp) (C : Addr) (cl : List (Str × Addr)) (fp : List Addr), PTs (X.blk s H scope (compEnvC scope cl C X.env) fp) ifs (tTT fm W0 p))
    (he : ∀ (s : Shared) (H : Hp) (C : Addr) (cl : List (Str × Addr)) (fp : List Addr), PE (X.blk s H scope (compEnvC scope cl C X.env) fp) elt (tE fm W0 false t.elem h)) (hfl : al1 = true → fl = true) (hs : noSet iter = true) :
    PE X (.ListComp elt [⟨tg, iter, ifs, 0⟩] scope pos) (tE fm Wi false t fun ρ => do
      let ds ← gs ρ
      let ys ← noExn (compL h p (fun d => bindFl fl tt vs d (wipeE ρ vs)) ds)
      if ys.length ≤ lim then pure (.lst ys) else .stk) := by
  subst how
  exact PE.imp (pe_lc hc hN hi ok hg ht he (set_of hs)) fun σ H Q q => lc_read hfl q
end
end L2.Py

set_option maxRecDepth 100000
set_option maxHeartbeats 1000000
namespace L2.Py
open PySem PySem.Spec PyProof.Rows TL
abbrev Fm.w (fm : Fm) (ot : Nat → OT) : Fm := { fm with ot := ot }
def nof : Fps := fun _ => []
def setF (fps : Fps) (i : Nat) (fp : List Addr) : Fps := fun j => if j = i then fp else fps j
def otSet (ot : Nat → OT) (i : Nat) (t : OT) : Nat → OT := fun j => if j = i then t else ot j
theorem setF_same {fps : Fps} {i : Nat} {fp : List Addr} : setF fps i fp i = fp := if_pos rfl
theorem setF_ne {fps : Fps} {i j : Nat} {fp : List Addr} (h : j ≠ i) : setF fps i fp j = fps j := if_neg h
theorem mem_setF {fps : Fps} {i j : Nat} {fp : List Addr} {a : Addr} (h : a ∈ setF fps i fp j) : (j = i ∧ a ∈ fp) ∨ (j ≠ i ∧ a ∈ fps j) := by
  unfold setF at h
  split at h
  · rename_i e; exact .inl ⟨e, h⟩
  · rename_i e; exact .inr ⟨e, h⟩
def IoR (fm : Fm) (ρ : Rho) (H' : Hp) (fp fq : List Addr) : Prop := match fm.io with
  | none => fq = []
  | some (i, a, t) => fq.Nodup ∧ (∀ b ∈ fq, b ∉ fp ∧ (fm.H0 b = none ∨ b ∈ fm.Lt)) ∧ ∀ x, ρ[i]? = some (some x) → Rep fm.K H' (fun b => (fm.B b ∨ fm.H0 b = none ∨ b ∈ fm.Lt) ∧ b ∉ fp ∧ b ∉ fq) x t a fq
def RetR (fm : Fm) (res : OT) (ρ : Rho) (d : D) (v : V) (H' : Hp) : Prop :=
  ∃ fp fq, (∀ a o, fm.H0 a = some o → a ∉ fm.Lt → H' a = some o) ∧ (∀ a ∈ fm.Lt, H' a ≠ none) ∧ fp.Nodup ∧ (∀ a ∈ fp, fm.H0 a = none ∨ a ∈ fm.Lt) ∧ IoR fm ρ H' fp fq ∧ Rep fm.K H' (fun a => (fm.B a ∨ fm.H0 a = none ∨ a ∈ fm.Lt) ∧ a ∉ fp ∧ a ∉ fq) d res v fp
def OKS (fm : Fm) (Wi : WX) (res : OT) (ot' : Nat → OT) (o : Out) (H : Hp) (fps : Fps) (D : Ends) : Prop :=
  match o with
  | .next ρ' => ∀ σ' H' fps', ER (fm.w ot') ρ' σ' H' fps' → Leaves H H' (Fz fm fps) (Fz fm fps') [] → D.nx σ' H'
  | .ret d ρ' => ∀ v H', RetR fm res ρ' d v H' → D.rt v H'
  | .exn c ps ρ' => ∀ cls dx σ' H', ER (fm.w frs0) ρ' σ' H' nof → Leaves H H' (Fz fm fps) (Fz fm nof) [] → ExnR fm H' c ps cls dx → Wi cls dx σ' H'
  | .stk => False
def tB (fm : Fm) (Wi : WX) (res : OT) (ot ot' : Nat → OT) (f : Rho → Out) : TS := fun D σ H => ∃ ρ fps, ER (fm.w ot) ρ σ H fps ∧ OKS fm Wi res ot' (f ρ) H fps D
theorem PS.imp {X : Cx} {e : Stmt} {t t' : TS} (p : PS X e t) (h : ∀ D σ H, t' D σ H → t D σ H) : PS X e t' := ⟨fun pins s σ H D I q => p.run pins s σ H D I (h D σ H q)⟩
theorem PSs.imp {X : Cx} {e : List Stmt} {t t' : TS} (p : PSs X e t) (h : ∀ D σ H, t' D σ H → t D σ H) : PSs X e t' := ⟨fun pins s σ H D I q => p.run pins s σ H D I (h D σ H q)⟩
theorem Leaves.trans {H H' H'' : Hp} {F F' F'' : Addr → Prop} (l : Leaves H H' F F' []) (m : Leaves H' H'' F' F'' []) : Leaves H H'' F F'' [] :=
  ⟨(fun a ha => nomatch ha), fun a u nf r z => let ⟨r', z'⟩ := l.frz a u nf r z; m.frz a u nf r' z', fun a vs e z => let ⟨e', z'⟩ := l.lst a vs e z; m.lst a vs e' z', fun a vs e => m.tup a vs (l.tup a vs e), fun a o vs e => m.scr a o vs (l.scr a o vs e)⟩
section
variable {X : Cx} {fm : Fm} {Wi : WX} {al al1 al2 : Bool} {t res : OT} {f g : Rho → R D} {ot ot' ot'' : Nat → OT} {ρ : Rho} {σ : St} {H H1 H2 : Hp} {fps fps1 : Fps} {D1 D2 : Ends}
theorem fz_nof {a : Addr} (h : Fz fm fps a) : Fz fm nof a := ⟨h.1, fun i h => nomatch h⟩
theorem ER.freeze (er : ER (fm.w ot) ρ σ H fps) : ER (fm.w frs0) ρ σ H nof where
  len := er.len
  rep := fun i d e => by
    obtain ⟨v, e1, r⟩ := er.rep i d e
    exact ⟨v, e1, Rep.forget _ _ _ _ (fun a _ q => fz_nof q) (fun a ha => ⟨.inr (er.new i a ha), fun j h => nomatch h⟩) r⟩
  nil := fun _ _ _ => rfl
  nd := fun _ => List.nodup_nil
  dj := fun i j a _ h => nomatch h
  new := fun i a h => nomatch h
  trk := fun i a h => nomatch h
  frame := er.frame
  lent := er.lent
  io := fun i a t _ hj => absurd rfl hj
theorem ER.frz1 (i : Nat) (er : ER (fm.w ot) ρ σ H fps) : ER (fm.w (otSet ot i .fr)) ρ σ H (setF fps i []) where
  len := er.len
  rep := fun j d e => by
    obtain ⟨v, e1, r⟩ := er.rep j d e
    refine ⟨v, e1, ?_⟩
    have hF : ∀ a, H a ≠ none → Fz (fm.w ot) fps a → Fz (fm.w (otSet ot i .fr)) (setF fps i []) a := fun a _ q => ⟨q.1, fun k hk => by
      rcases mem_setF hk with ⟨_, z⟩ | ⟨_, z⟩
      · cases z
      · exact q.2 k z⟩
    by_cases hj : j = i
    · subst hj
      have eo : (fm.w (otSet ot j .fr)).ot j = .fr := if_pos rfl
      rw [eo, setF_same]
      refine Rep.forget _ _ _ _ hF (fun a ha => ⟨.inr (er.new j a ha), fun k hk => ?_⟩) r
      rcases mem_setF hk with ⟨_, z⟩ | ⟨ne, z⟩
      · cases z
      · exact er.dj j k a (Ne.symm ne) ha z
    · have eo : (fm.w (otSet ot i .fr)).ot j = ot j := if_neg hj
      rw [eo, setF_ne hj]
      exact Rep.leaves _ _ _ _ (Leaves.same (Same.refl _) hF) r
  nil := fun j hj e => by
    by_cases hji : j = i
    · rw [hji, setF_same]
    · have eo : otSet ot i .fr j = ot j := if_neg hji
      rw [setF_ne hji]
      exact er.nil j hj (eo.symm.trans e)
  nd := fun j => by
    unfold setF
    split
    · exact List.nodup_nil
    · exact er.nd j
  dj := fun j k a hjk h1 h2 => by
    rcases mem_setF h1 with ⟨_, z⟩ | ⟨_, z⟩
    · cases z
    · rcases mem_setF h2 with ⟨_, w⟩ | ⟨_, w⟩
      · cases w
      · exact er.dj j k a hjk z w
  new := fun j a h => by
    rcases mem_setF h with ⟨_, z⟩ | ⟨_, z⟩
    · cases z
    · exact er.new j a z
  trk := fun j a h => by
    rcases mem_setF h with ⟨_, z⟩ | ⟨_, z⟩
    · cases z
    · exact er.trk j a z
  frame := er.frame
  lent := er.lent
  io := fun j a u e hj => by
    by_cases hji : j = i
    · exact absurd (if_pos hji) hj
    · have eo : (fm.w (otSet ot i .fr)).ot j = ot j := if_neg hji
      rw [eo] at hj
      exact er.io j a u e hj
def Nio (fm : Fm) (ρ : Rho) (i : Nat) (t : OT) : Prop := t = .fr ∨ (∀ a u, fm.io ≠ some (i, a, u)) ∨ ρ.length ≤ i
def NioS (fm : Fm) (i : Nat) (t : OT) : Prop := t = .fr ∨ ∀ a u, fm.io ≠ some (i, a, u)
theorem NioS.n {fm : Fm} {ρ : Rho} {i : Nat} {t : OT} (h : NioS fm i t) : Nio fm ρ i t := h.imp id .inl
def IoT (fm : Fm) (ot : Nat → OT) : Prop := ∀ i a t, fm.io = some (i, a, t) → ot i = t ∧ t ≠ .fr
theorem ER.put {i : Nat} {d : D} {v : V} {fp : List Addr} (er : ER (fm.w ot) ρ σ H fps) (s : Same H H1) (x : XR (fm.w ot) fps H H1 false d t v fp) (hio : Nio fm ρ i t) :
    ER (fm.w (otSet ot i t)) (ρ.put i d) (σ.set i (some v)) H1 (setF fps i fp) ∧ Leaves H H1 (Fz fm fps) (Fz fm (setF fps i fp)) [] := by
  have hF : ∀ a, H a ≠ none → Fz fm fps a → Fz fm (setF fps i fp) a := fun a ha q => ⟨q.1, fun k hk => by
    rcases mem_setF hk with ⟨_, z⟩ | ⟨_, z⟩
    · exact ha (x.new a z)
    · exact q.2 k z⟩
  refine ⟨⟨?_, ?_, ?_, ?_, ?_, ?_, ?_, ?_, ?_, ?_⟩, Leaves.same s hF⟩
  · rw [List.length_set, Rho.put, List.length_set]; exact er.len
  · intro j y e
    unfold Rho.put at e
    rw [List.getElem?_set] at e
    rw [List.getElem?_set]
    by_cases hij : i = j
    · subst hij
      rw [if_pos rfl] at e ⊢
      by_cases hl : i < ρ.length
      · rw [if_pos hl] at e
        injection e with e
        injection e with e
        subst e
        rw [if_pos (by rw [er.len]; exact hl)]
        have eo : (fm.w (otSet ot i t)).ot i = t := if_pos rfl
        rw [eo, setF_same]
        refine ⟨v, rfl, Rep.leaves _ _ _ _ (Leaves.same (Same.refl _) fun a ha q => ?_) x.rep⟩
        rcases q with q | ⟨q1, q2⟩
        · cases q
        · rcases q1 with q1 | q1
          · refine ⟨q1.1, fun k hk => ?_⟩
            rcases mem_setF hk with ⟨_, z⟩ | ⟨_, z⟩
            · exact q2 z
            · exact q1.2 k z
          · refine ⟨.inr (.inl (er.h0 q1)), fun k hk => ?_⟩
            rcases mem_setF hk with ⟨_, z⟩ | ⟨_, z⟩
            · exact q2 z
            · exact er.trk k a z q1
      · rw [if_neg hl] at e; cases e
    · rw [if_neg hij] at e ⊢
      obtain ⟨u, e1, r⟩ := er.rep j y e
      have eo : (fm.w (otSet ot i t)).ot j = ot j := if_neg (Ne.symm hij)
      rw [eo, setF_ne (Ne.symm hij)]
      exact ⟨u, e1, Rep.leaves _ _ _ _ (Leaves.same s hF) r⟩
  · intro j hj e
    rw [Rho.put, List.length_set] at hj
    by_cases hji : j = i
    · subst hji
      have eo : otSet ot j t j = t := if_pos rfl
      have e : otSet ot j t j = .fr := e
      rw [eo] at e
      subst e
      rw [setF_same]
      exact x.fr
    · have eo : otSet ot i t j = ot j := if_neg hji
      rw [setF_ne hji]
      exact er.nil j hj (eo.symm.trans e)
  · intro j
    unfold setF
    split
    · exact x.nd
    · exact er.nd j
  · intro j k a hjk h1 h2
    rcases mem_setF h1 with ⟨e1, z⟩ | ⟨e1, z⟩
    · rcases mem_setF h2 with ⟨e2, w⟩ | ⟨e2, w⟩
      · exact hjk (e1.trans e2.symm)
      · exact er.trk k a w (x.new a z)
    · rcases mem_setF h2 with ⟨e2, w⟩ | ⟨e2, w⟩
      · exact er.trk j a z (x.new a w)
      · exact er.dj j k a hjk z w
  · intro j a h
    rcases mem_setF h with ⟨_, z⟩ | ⟨_, z⟩
    · exact .inl (er.h0 (x.new a z))
    · exact er.new j a z
  · intro j a h z
    rcases mem_setF h with ⟨_, w⟩ | ⟨_, w⟩
    · exact Rep.trk _ _ _ _ x.rep a w z
    · exact er.trk j a w (s.free z)
  · exact fun a o e n => s _ _ (er.frame a o e n)
  · exact fun a h z => er.lent a h (s.free z)
  · intro j a u e hj y ey
    unfold Rho.put at ey
    rw [List.getElem?_set] at ey
    by_cases hij : i = j
    · subst hij
      rw [if_pos rfl] at ey
      have eo : (fm.w (otSet ot i t)).ot i = t := if_pos rfl
      rw [eo] at hj
      rcases hio with z | z | z
      · exact absurd z hj
      · exact absurd e (z a u)
      · rw [if_neg (by omega)] at ey; cases ey
    · rw [if_neg hij] at ey
      have eo : (fm.w (otSet ot i t)).ot j = ot j := if_neg (Ne.symm hij)
      rw [eo] at hj
      rw [List.getElem?_set_ne hij]
      exact er.io j a u e hj y ey

theorem OKS.from {o : Out} (l : Leaves H H1 (Fz fm fps) (Fz fm fps1) []) (h : OKS fm Wi res ot' o H fps D1) : OKS fm Wi res ot' o H1 fps1 D1 := by
  cases o with
  | next ρ' => exact fun σ' H' fps' er m => h σ' H' fps' er (l.trans m)
  | ret d ρ' => exact h
  | exn c ps ρ' => exact fun cls dx σ' H' er m => h cls dx σ' H' er (l.trans m)
  | stk => exact h
theorem OKS.ofR {r : R D} {k : D → Out} {Q : VK} (er : ER (fm.w ot) ρ σ H fps) (h : OKS fm Wi res ot' (Out.ofR ρ r k) H fps D1)
    (hk : ∀ d v H1 fp, r = .ok d → OKS fm Wi res ot' (k d) H fps D1 → Same H H1 → XR (fm.w ot) fps H H1 al d t v fp → Q v H1) : OKE (fm.w ot) Wi al t r σ H fps Q := by
  cases r with
  | ok d => exact fun v H' fp s x => hk d v H' fp rfl h s x
  | exn c ps => exact fun cls dx H' s e => h cls dx σ H' (er.ext s).freeze (Leaves.same s fun _ _ z => fz_nof z) e
  | stk => exact h
theorem OKS.ofL {r : R (List D)} {k : List D → Out} {Q : List V → Hp → Prop} {ft : Nat → OT} (er : ER (fm.w ot) ρ σ H fps) (h : OKS fm Wi res ot' (Out.ofR ρ r k) H fps D1)
    (hk : ∀ d v H1 fp, r = .ok d → OKS fm Wi res ot' (k d) H fps D1 → Same H H1 → XRL (fm.w ot) fps H H1 al d ft v fp → Q v H1) : OKL (fm.w ot) Wi al ft r σ H fps Q := by
  cases r with
  | ok d => exact fun v H' fp s x => hk d v H' fp rfl h s x
  | exn c ps => exact fun cls dx H' s e => h cls dx σ H' (er.ext s).freeze (Leaves.same s fun _ _ z => fz_nof z) e
  | stk => exact h
theorem OKS.ofB {r : R Bool} {k : Bool → Out} {Q : Bool → Hp → Prop} (er : ER (fm.w ot) ρ σ H fps) (h : OKS fm Wi res ot' (Out.ofR ρ r k) H fps D1)
    (hk : ∀ d H1, r = .ok d → OKS fm Wi res ot' (k d) H fps D1 → Same H H1 → Q d H1) : OKB (fm.w ot) Wi r σ H Q := by
  cases r with
  | ok d => exact fun H' s => hk d H' rfl h s
  | exn c ps => exact fun cls dx H' s e => h cls dx σ H' (er.ext s).freeze (Leaves.same s fun _ _ z => fz_nof z) e
  | stk => exact h
theorem OKS.ofI {r : R (List D)} {k : List D → Out} {Q : It → Hp → Prop} (er : ER (fm.w ot) ρ σ H fps) (h : OKS fm Wi res ot' (Out.ofR ρ r k) H fps D1)
    (hk : ∀ ds J H1, r = .ok ds → OKS fm Wi res ot' (k ds) H fps D1 → Same H H1 → Wk fm.K J H1 (Fq (fm.w ot) fps H al []) ds → Q J H1) : OKI (fm.w ot) Wi al r σ H fps Q := by
  cases r with
  | ok d => exact fun J H' s x => hk d J H' rfl h s x
  | exn c ps => exact fun cls dx H' s e => h cls dx σ H' (er.ext s).freeze (Leaves.same s fun _ _ z => fz_nof z) e
  | stk => exact h
theorem OKS.same {o : Out} (s : Same H H1) (h : OKS fm Wi res ot' o H fps D1) : OKS fm Wi res ot' o H1 fps D1 := h.from (Leaves.same s fun _ _ z => z)

theorem dS_nil : PSs X [] (tB fm Wi res ot ot Out.next) := PSs.imp pss_nil fun En σ H ⟨ρ, fps, er, h⟩ => h σ H fps er (Leaves.same (Same.refl _) fun _ _ z => z)
theorem dS_cons {st : Stmt} {sts : List Stmt} {a b : Rho → Out} (h1 : PS X st (tB fm Wi res ot ot' a)) (h2 : PSs X sts (tB fm Wi res ot' ot'' b)) :
    PSs X (st :: sts) (tB fm Wi res ot ot'' fun ρ => match a ρ with | .next ρ' => b ρ' | o => o) := by
  refine PSs.imp (pss_cons h1 h2) fun En σ H ⟨ρ, fps, er, h⟩ => ⟨ρ, fps, er, ?_⟩
  dsimp only at h
  cases e : a ρ with
  | next ρ' =>
    rw [e] at h
    exact fun σ' H' fps' er' l => ⟨ρ', fps', er', OKS.from l h⟩
  | ret d ρ' => rw [e] at h; exact h
  | exn c ps ρ' => rw [e] at h; exact h
  | stk => rw [e] at h; exact h
theorem dS_frz {sts : List Stmt} {b : Rho → Out} (i : Nat) (h : PSs X sts (tB fm Wi res (otSet ot i .fr) ot' b)) : PSs X sts (tB fm Wi res ot ot' b) :=
  PSs.imp h fun En σ H ⟨ρ, fps, er, h⟩ => ⟨ρ, _, er.frz1 i, OKS.from (Leaves.same (Same.refl _) fun a _ z => ⟨z.1, fun k hk => by
    rcases mem_setF hk with ⟨_, w⟩ | ⟨_, w⟩
    · cases w
    · exact z.2 k w⟩) h⟩
structure Nm (X : Cx) (i : Nat) (x : Str) : Prop where
  ix : X.N[i]? = some x
  loc : Loc X.env.scope x
  fn : X.fn x = true ∨ X.env.scope.names.lookup x = some .local
theorem d_set {i : Nat} {x : Str} {e : Expr} {pos pos' : Pos} (hN : X.N.Nodup) (n : Nm X i x) (he : PE X e (tE (fm.w ot) Wi false t f)) (hc : noComp e = true) (hio : NioS fm i t) :
    PS X (.Assign [.Name x pos'] e pos) (tB fm Wi res ot (otSet ot i t) fun ρ => .ofR ρ (f ρ) fun d => .next (ρ.put i d)) := by
  refine PS.imp (ps_set hN n.ix n.loc he (comp_of hc) n.fn) fun En σ H ⟨ρ, fps, er, h⟩ => ⟨ρ, fps, er, OKS.ofR er h fun d v H1 fp e1 hk s x => ?_⟩
  obtain ⟨q1, q2⟩ := er.put (i := i) s x hio.n
  exact hk _ H1 _ q1 q2
theorem swSole {tg : Expr} {e : Expr} {l : Nat} {env : PySem.Env} (hc : noComp e = true) : swapsWithSole [tg] e l env = pure false := by
  show swapsWith e (some tg) l env = pure false
  exact comp_of hc
def noTup : Expr → Bool
  | .Tuple _ _ _ => false
  | _ => true
theorem swNone {tg : Expr} {e : Expr} {env : PySem.Env} (h : noTup e = true) : swappedStores [tg] e env = pure none := by
  cases e <;> first
    | (cases h; done)
    | (cases tg <;> rfl)
theorem d_asgT {is : List Nat} {es : List Expr} {e : Expr} {pos pt : Pos} {k : Nat} (hK : fm.K = X.kw) (hN : X.N.Nodup) (hcm : X.calm = true) (n : TgL X (fm.w ot) is es) (he : PE X e (tE (fm.w ot) Wi false .fr f)) (hc : noComp e = true) (ht : noTup e = true) :
    PS X (.Assign [.Tuple es k pt] e pos) (tB fm Wi res ot ot fun ρ => .ofR ρ (f ρ) fun d => match d with | .tup ds => .ofR ρ (putAll ρ is ds) .next | .lst ds => .ofR ρ (putAll ρ is ds) .next | _ => .stk) := by
  refine PS.imp (ps_asg he (dg_tup (fm := fm.w ot) hK hN hcm n) (swSole hc) (swNone ht)) fun En σ H ⟨ρ, fps, er, h⟩ => ⟨ρ, fps, er, OKS.ofR er h fun d v H1 fp e1 hk s x => ?_⟩
  obtain rfl := x.fr
  have key : ∀ (is : List Nat) (ds : List D) (ρ : Rho) c ps, putAll ρ is ds ≠ .exn c ps := by
    intro is
    induction is with
    | nil => intro ds ρ c ps h; cases ds <;> (unfold putAll at h; cases h)
    | cons i is ih =>
      intro ds ρ c ps h
      cases ds with
      | nil => unfold putAll at h; cases h
      | cons d ds => unfold putAll at h; exact ih _ _ _ _ h
  have go : ∀ ds, (∀ ρ', putAll ρ is ds = .ok ρ' → bindTg true is d ρ = .ok ρ') → OKS fm Wi res ot (.ofR ρ (putAll ρ is ds) .next) H fps En → tG (fm.w ot) is (bindTg true is) v σ H1 En.nx := fun ds hb hk => by
    cases e2 : putAll ρ is ds with
    | ok ρ' =>
      rw [e2] at hk
      refine ⟨d, ρ, fps, ρ', er.ext s, ?_, hb ρ' e2, fun σ' er' _ _ => hk σ' H1 fps er' (Leaves.same s fun _ _ z => z)⟩
      refine Rep.leaves _ _ _ _ (Leaves.same (Same.refl _) fun a ha z => ?_) x.rep
      rcases z with z | ⟨z, _⟩
      · cases z
      · rcases z with z | z
        · exact z
        · exact ⟨.inr (.inl (er.h0 z)), fun j hj => er.trk j a hj z⟩
    | exn c ps => exact absurd e2 (key is ds ρ c ps)
    | stk => rw [e2] at hk; exact hk.elim
  cases d with
  | tup ds => exact go ds (fun ρ' e => by unfold bindTg; exact e) hk
  | lst ds => exact go ds (fun ρ' e => by unfold bindTg; exact e) hk
  | _ => exact hk.elim
theorem d_if {c : Expr} {a b : List Stmt} {pos : Pos} {fa fb : Rho → Out} (hc : PT X c (tTT (fm.w ot) Wi fun ρ => f ρ >>= isTrueD)) (ha : PSs X a (tB fm Wi res ot ot' fa)) (hb : PSs X b (tB fm Wi res ot ot' fb)) :
    PS X (.If c a b pos) (tB fm Wi res ot ot' fun ρ => .ofR ρ (f ρ) fun x => .ofR ρ (isTrueD x) fun t => if t then fa ρ else fb ρ) := by
  refine PS.imp (ps_if hc ha hb) fun En σ H ⟨ρ, fps, er, h⟩ => ⟨ρ, fps, er, ?_⟩
  have e : (Out.ofR ρ (f ρ) fun x => .ofR ρ (isTrueD x) fun t => if t then fa ρ else fb ρ) = Out.ofR ρ (f ρ >>= isTrueD) fun t => if t then fa ρ else fb ρ := by
    cases f ρ <;> rfl
  dsimp only at h
  rw [e] at h
  refine OKS.ofB er h fun d H1 e1 hk s => ?_
  cases d with
  | true => exact ⟨ρ, fps, er.ext s, OKS.same s hk⟩
  | false => exact ⟨ρ, fps, er.ext s, OKS.same s hk⟩
theorem walk_keep {al : Bool} (er : ER (fm.w ot) ρ σ H fps) (ha : al = false) : ∀ a, H1 a ≠ none → Fq (fm.w ot) fps H al [] a → Fz fm fps a := fun a _ z => by
  rcases z with z | ⟨z, _⟩
  · rw [ha] at z; cases z
  · rcases z with z | z
    · exact z
    · exact ⟨.inr (.inl (er.h0 z)), fun j hj => er.trk j a hj z⟩
theorem d_for {tg iter : Expr} {b : List Stmt} {pos : Pos} {fl tt : Bool} {vs : List Nat} {gs : Rho → R (List D)} {fb : Rho → Out} (hp : PassesOwn (model X.prog X.w) X.A X.env X.xe) (hcm : X.calm = true) (hi : PI X tg iter (tI (fm.w ot) Wi false gs)) (hg : PG X tg (tG (fm.w ot) vs (bindTg tt vs)))
    (hb : PSs X b (tB fm Wi res ot ot fb)) (hs : noSet iter = true) :
    PS X (.For tg iter b [] pos) (tB fm Wi res ot ot fun ρ => .ofR ρ (gs ρ) fun ds => forR (fun d r => bindFl fl tt vs d r) fb ds ρ) := by
  refine PS.imp (ps_for hp hcm hi hg hb (set_of hs)) fun En σ H ⟨ρ, fps, er, h⟩ => ⟨ρ, fps, er, OKS.ofI er h fun ds J H1 e1 hk s wk => ?_⟩
  refine ⟨fun i m σ' H' => m = ds.length - i ∧ i ≤ ds.length ∧ ∃ ρ' fps', ER (fm.w ot) ρ' σ' H' fps' ∧ Leaves H1 H' (Fq (fm.w ot) fps H false []) (Fz fm fps') [] ∧ OKS fm Wi res ot (forR (fun d r => bindFl fl tt vs d r) fb (ds.drop i) ρ') H' fps' En,
    ⟨ds.length, rfl, Nat.zero_le _, ρ, fps, er.ext s, Leaves.same (Same.refl _) (walk_keep er rfl), OKS.same s hk⟩, ?_⟩
  rintro i m σ' H' ⟨rfl, hle, ρ', fps', er', lv, h'⟩
  by_cases hlt : i < ds.length
  · have hdrop : ds.drop i = ds[i] :: ds.drop (i + 1) := List.drop_eq_getElem_cons hlt
    rw [hdrop] at h'
    unfold forR at h'
    obtain ⟨hgo, hyl⟩ := (wk i H' _ lv).1 ds[i] (by simp [hlt])
    cases e2 : bindFl fl tt vs ds[i] ρ' with
    | ok ρ1 =>
      rw [e2] at h'
      obtain ⟨hb1, _⟩ := bindFl_of e2
      refine .inr ⟨hgo, fun σ2 H2 => ∃ m', m' < ds.length - i ∧ (m' = ds.length - (i + 1) ∧ i + 1 ≤ ds.length ∧ ∃ ρ' fps', ER (fm.w ot) ρ' σ2 H2 fps' ∧ Leaves H1 H2 (Fq (fm.w ot) fps H false []) (Fz fm fps') [] ∧ OKS fm Wi res ot (forR (fun d r => bindFl fl tt vs d r) fb (ds.drop (i + 1)) ρ') H2 fps' En),
        fun _ _ z => z, fun x H2 hy => ?_⟩
      obtain ⟨s2, rx⟩ := hyl x H2 hy
      refine ⟨ds[i], ρ', fps', ρ1, er'.ext s2, rx, hb1, fun σ2 er2 _ _ => ⟨ρ1, fps', er2, ?_⟩⟩
      have h2 := OKS.same s2 h'
      have h2 : OKS fm Wi res ot (match fb ρ1 with | .next ρ2 => forR (fun d r => bindFl fl tt vs d r) fb (ds.drop (i + 1)) ρ2 | o => o) H2 fps' En := h2
      cases eb : fb ρ1 with
      | next ρ2 =>
        rw [eb] at h2
        exact fun σ3 H3 fps3 er3 l => ⟨ds.length - (i + 1), by omega, rfl, by omega, ρ2, fps3, er3, lv.trans ((Leaves.same s2 fun _ _ z => z : Leaves H' H2 (Fz fm fps') (Fz fm fps') []).trans l), OKS.from l h2⟩
      | ret d ρ2 => rw [eb] at h2; exact h2
      | exn c ps ρ2 => rw [eb] at h2; exact h2
      | stk => rw [eb] at h2; exact h2
    | exn c ps =>
      exfalso
      unfold bindFl bindTg at e2
      split at e2
      · cases e2
      · have key : ∀ (is : List Nat) (ds : List D) (ρ : Rho), putAll ρ is ds ≠ .exn c ps := by
          intro is
          induction is with
          | nil => intro ds ρ h; cases ds <;> (unfold putAll at h; cases h)
          | cons i is ih =>
            intro ds ρ h
            cases ds with
            | nil => unfold putAll at h; cases h
            | cons d ds => unfold putAll at h; exact ih _ _ h
        split at e2
        · split at e2
          · exact key _ _ _ e2
          · exact key _ _ _ e2
          · cases e2
        · split at e2 <;> cases e2
    | stk => rw [e2] at h'; exact h'.elim
  · have ei : i = ds.length := by omega
    subst ei
    rw [List.drop_length] at h'
    exact .inl ⟨(wk ds.length H' _ lv).2 (Nat.le_refl _), h' σ' H' fps' er' (Leaves.same (Same.refl _) fun _ _ z => z)⟩
theorem RetR.of {d : D} {v : V} {fp : List Addr} (er : ER (fm.w ot) ρ σ H fps) (s : Same H H1) (x : XR (fm.w ot) fps H H1 false d res v fp) (hl : IoT fm ot) : RetR fm res ρ d v H1 := by
  have h1 : ∀ a o, fm.H0 a = some o → a ∉ fm.Lt → H1 a = some o := fun a o e n => s _ _ (er.frame a o e n)
  have h2 : ∀ a ∈ fp, fm.H0 a = none ∨ a ∈ fm.Lt := fun a ha => .inl (er.h0 (x.new a ha))
  have h3 : ∀ a ∈ fm.Lt, H1 a ≠ none := fun a ha z => er.lent a ha (s.free z)
  cases e : fm.io with
  | none =>
    refine ⟨fp, [], h1, h3, x.nd, h2, by unfold IoR; rw [e], Rep.leaves _ _ _ _ (Leaves.same (Same.refl _) fun a _ z => ?_) x.rep⟩
    rcases z with z | ⟨z, z2⟩
    · cases z
    · refine ⟨?_, z2, fun h => nomatch h⟩
      rcases z with z | z
      · exact z.1
      · exact .inr (.inl (er.h0 z))
  | some p =>
    obtain ⟨i, a, t⟩ := p
    obtain ⟨ho, ht⟩ := hl i a t e
    have tr : ∀ b ∈ fps i, b ∉ fp := fun b hb z => er.trk i b hb (x.new b z)
    refine ⟨fp, fps i, h1, h3, x.nd, h2, ?_, Rep.leaves _ _ _ _ (Leaves.same (Same.refl _) fun b _ z => ?_) x.rep⟩
    · unfold IoR
      rw [e]
      refine ⟨er.nd i, fun b hb => ⟨tr b hb, er.new i b hb⟩, fun y ey => ?_⟩
      obtain ⟨v0, s0, r⟩ := er.rep i y ey
      have r : Rep fm.K H (Fz fm fps) y (ot i) v0 (fps i) := r
      rw [er.io i a t e (by show ot i ≠ .fr; rw [ho]; exact ht) y ey] at s0
      injection s0 with s0
      injection s0 with s0
      rw [← s0, ho] at r
      exact Rep.leaves _ _ _ _ (Leaves.same s fun b hb q => ⟨q.1, fun z => hb (x.new b z), q.2 i⟩) r
    · rcases z with z | ⟨z, z2⟩
      · cases z
      · rcases z with z | z
        · exact ⟨z.1, z2, z.2 i⟩
        · exact ⟨.inr (.inl (er.h0 z)), z2, fun h => er.trk i b h z⟩
theorem d_ret {e : Expr} {pos : Pos} (he : PE X e (tE (fm.w ot) Wi false res f)) (hl : IoT fm ot) : PS X (.Return (some e) pos) (tB fm Wi res ot ot' fun ρ => .ofR ρ (f ρ) fun d => .ret d ρ) :=
  PS.imp (ps_ret he) fun En σ H ⟨ρ, fps, er, h⟩ => ⟨ρ, fps, er, OKS.ofR er h fun d v H1 fp e1 hk s x => hk v H1 (RetR.of er s x hl)⟩
theorem IoT.none {ot : Nat → OT} (h : fm.io = .none) : IoT fm ot := fun i a t e => by rw [h] at e; cases e
theorem d_retF {e : Expr} {pos : Pos} (he : PE X e (tE (fm.w frs0) Wi false .fr f)) (hl : fm.io = none) : PS X (.Return (some e) pos) (tB fm Wi .fr ot ot' fun ρ => .ofR ρ (f ρ) fun d => .ret d ρ) :=
  PS.imp (ps_ret he) fun En σ H ⟨ρ, fps, er, h⟩ => ⟨ρ, nof, er.freeze, OKS.ofR er.freeze (OKS.from (Leaves.same (Same.refl _) fun _ _ z => fz_nof z) h) fun d v H1 fp e1 hk s x => hk v H1 (RetR.of er.freeze s x (IoT.none hl))⟩
theorem d_retM {i : Nat} {x : Str} {pos pos' : Pos} (hN : X.N[i]? = some x) (hv : Vis X.env.scope x) (hd : (x == ("__debug__" : Str)) = false) (hcd : (x == ("__classdict__" : Str)) = false) (ho : ot i = res) (hl : IoT fm ot) (hi : ∀ a t, fm.io ≠ some (i, a, t)) :
    PS X (.Return (some (.Name x pos')) pos) (tB fm Wi res ot ot' fun ρ => .ofR ρ (ρ.get i) fun d => .ret d ρ) :=
  PS.imp (ps_ret (pe_var hN hv hd hcd)) fun En σ H ⟨ρ, fps, er, h⟩ => by
    dsimp only at h
    unfold Rho.get at h
    split at h
    · rename_i d e
      obtain ⟨v, e1, r⟩ := er.rep i d e
      have r : Rep fm.K H (Fz fm fps) d (ot i) v (fps i) := r
      rw [ho] at r
      refine ⟨v, e1, h v H ?_⟩
      cases ei : fm.io with
      | none => exact ⟨fps i, [], er.frame, er.lent, er.nd i, er.new i, by unfold IoR; rw [ei], Rep.leaves _ _ _ _ (Leaves.same (Same.refl _) fun a _ z => ⟨z.1, z.2 i, fun h => nomatch h⟩) r⟩
      | some p =>
        obtain ⟨j, a, t⟩ := p
        obtain ⟨ho2, ht⟩ := hl j a t ei
        have hji : j ≠ i := fun z => hi a t (by rw [ei, z])
        refine ⟨fps i, fps j, er.frame, er.lent, er.nd i, er.new i, ?_, Rep.leaves _ _ _ _ (Leaves.same (Same.refl _) fun a _ z => ⟨z.1, z.2 i, z.2 j⟩) r⟩
        unfold IoR
        rw [ei]
        refine ⟨er.nd j, fun b hb => ⟨er.dj j i b hji hb, er.new j b hb⟩, fun y ey => ?_⟩
        obtain ⟨v0, s0, r2⟩ := er.rep j y ey
        have r2 : Rep fm.K H (Fz fm fps) y (ot j) v0 (fps j) := r2
        rw [er.io j a t ei (by show ot j ≠ .fr; rw [ho2]; exact ht) y ey] at s0
        injection s0 with s0
        injection s0 with s0
        rw [← s0, ho2] at r2
        exact Rep.leaves _ _ _ _ (Leaves.same (Same.refl _) fun b hb q => ⟨q.1, q.2 i, q.2 j⟩) r2
    · exact h.elim
theorem d_setLc {i : Nat} {y : Str} {py : Pos} {elt tg iter : Expr} {ifs : List Expr} {scope : Scope} {own : List (Str × Nat)} {pos spos : Pos} {vs : List Nat} {fl tt : Bool} {gs : Rho → R (List D)} {p : Rho → R Bool} {h : Rho → R D} (hc : X.calm = true) (hN : X.N.Nodup) (hy : X.N[i]? = some y) (hyl : X.env.scope.names.lookup y = some .local)
    (hsw : swapsWith (.ListComp elt [⟨tg, iter, ifs, 0⟩] scope pos) (some (.Name y py)) spos.line X.env = pure true)
    (hi : PI X tg iter (tI (fm.w ot) Wi al1 gs)) (ok : BlkOk X.N X.env.scope scope own) (how : own.map (·.2) = vs)
    (hg : ∀ (s : Shared) (H : Hp) (C : Addr) (cl : List (Str × Addr)) (fp : List Addr), PG (X.blk s H scope (compEnvC scope cl C X.env) fp) tg (tG (fm.w ot) vs (bindTg tt vs)))
    (ht : ∀ (s : Shared) (H : Hp) (C : Addr) (cl : List (Str × Addr)) (fp : List Addr), PTs (X.blk s H scope (compEnvC scope cl C X.env) fp) ifs (tTT (fm.w ot) W0 p))
    (he : ∀ (s : Shared) (H : Hp) (C : Addr) (cl : List (Str × Addr)) (fp : List Addr), PE (X.blk s H scope (compEnvC scope cl C X.env) fp) elt (tE (fm.w ot) W0 false t.elem h)) (hfl : al1 = true → fl = true) (hs : noSet iter = true) (hio : NioS fm i t) :
    PS X (.Assign [.Name y py] (.ListComp elt [⟨tg, iter, ifs, 0⟩] scope pos) spos) (tB fm Wi res ot (otSet ot i t) fun ρ => .ofR ρ (do
      let ds ← gs ρ
      let ys ← noExn (compL h p (fun d => bindFl fl tt vs d (wipeE ρ vs)) ds)
      if ys.length ≤ lim then pure (.lst ys) else .stk) fun d => .next (ρ.put i d)) := by
  subst how
  refine PS.imp (ps_setLc hc hN hy hyl hsw hi ok hg ht he (set_of hs)) fun En σ H ⟨ρ, fps, er, h⟩ => lc_read (Wi := Wi) (t := t) hfl ⟨ρ, fps, er, OKS.ofR er h fun d v H1 fp e1 hk s x => ?_⟩
  obtain ⟨q1, q2⟩ := er.put (i := i) s x hio.n
  exact hk _ H1 _ q1 q2
end
end L2.Py

set_option maxRecDepth 100000
set_option maxHeartbeats 1000000
namespace L2.Py
open PySem PySem.Spec PyProof.Rows TL
section
variable {X : Cx} {fm : Fm} {Wi : WX} {al al1 al2 : Bool} {t res : OT} {f g : Rho → R D} {ot ot' ot'' : Nat → OT} {ρ : Rho} {σ : St} {H H1 H2 : Hp} {fps fps1 : Fps}
theorem ER.chg {i : Nat} {d d' : D} {v : V} {a : Addr} {o : HO} {fp : List Addr} (er : ER (fm.w ot) ρ σ H fps) (s : Same H H2) (ha : a ∈ fps i) (nt : ∀ vs, H2 a ≠ some (.tup vs)) (nf : ∀ o vs, H2 a ≠ some (.frz o (.lst vs)))
    (hv : σ[i]? = some (some v)) (nd : fp.Nodup) (new : ∀ b ∈ fp, b ∈ fps i ∨ H b = none) (rep : Rep fm.K (upd H2 a o) (Fz fm (setF fps i fp)) d' (ot i) v fp) (hnil : ot i = .fr → fp = []) (hb : ∃ d0, ρ[i]? = some (some d0)) :
    ER (fm.w ot) (ρ.put i d') σ (upd H2 a o) (setF fps i fp) ∧ Leaves H (upd H2 a o) (Fz fm fps) (Fz fm (setF fps i fp)) [] := by
  have hF : ∀ b, H b ≠ none → Fz fm fps b → Fz fm (setF fps i fp) b := fun b hb q => ⟨q.1, fun k hk => by
    rcases mem_setF hk with ⟨_, z⟩ | ⟨_, z⟩
    · rcases new b z with w | w
      · exact q.2 i w
      · exact hb w
    · exact q.2 k z⟩
  have nea : ∀ b, (∀ k, b ∉ fps k) → b ≠ a := fun b hb z => hb i (by rw [z]; exact ha)
  have lv : ∀ {fq : List Addr}, (a ∉ fq) → Leaves H (upd H2 a o) (Fz fm fps) (Fz fm (setF fps i fp)) fq := fun {fq} hq =>
    ⟨fun b hb u e => by rw [upd_ne (fun z => hq (by rw [← z]; exact hb))]; exact s _ _ e,
      fun b u _ r z => ⟨by
        have := rdSame s r
        rcases this with r | ⟨o', r⟩
        · exact .inl (by rw [upd_ne (nea b z.2)]; exact r)
        · exact .inr ⟨o', by rw [upd_ne (nea b z.2)]; exact r⟩, hF b (rd_ne r) z⟩,
      fun b vs e z => ⟨by rw [upd_ne (nea b z.2)]; exact s _ _ e, hF b (by rw [e]; exact (fun z => nomatch z)) z⟩,
      fun b vs e => by rw [upd_ne (fun z => nt vs (by rw [← z]; exact s _ _ e))]; exact s _ _ e,
      fun b o' vs e => by rw [upd_ne (fun z => nf o' vs (by rw [← z]; exact s _ _ e))]; exact s _ _ e⟩
  have h2ne : ∀ b, H2 b ≠ none → upd H2 a o b ≠ none := fun b hb => by
    by_cases z : b = a
    · rw [z, upd_same]; exact (fun z => nomatch z)
    · rw [upd_ne z]; exact hb
  refine ⟨⟨?_, ?_, ?_, ?_, ?_, ?_, ?_, ?_, ?_, ?_⟩, lv (by simp)⟩
  · rw [Rho.put, List.length_set]; exact er.len
  · intro j y e
    unfold Rho.put at e
    rw [List.getElem?_set] at e
    by_cases hij : i = j
    · subst hij
      rw [if_pos rfl] at e
      by_cases hl : i < ρ.length
      · rw [if_pos hl] at e
        injection e with e
        injection e with e
        subst e
        rw [setF_same]
        exact ⟨v, hv, rep⟩
      · rw [if_neg hl] at e; cases e
    · rw [if_neg hij] at e
      obtain ⟨u, e1, r⟩ := er.rep j y e
      rw [setF_ne (Ne.symm hij)]
      exact ⟨u, e1, Rep.leaves _ _ _ _ (lv fun z => er.dj i j a hij ha z) r⟩
  · intro j hj e
    rw [Rho.put, List.length_set] at hj
    by_cases hji : j = i
    · subst hji
      rw [setF_same]
      exact hnil e
    · rw [setF_ne hji]
      exact er.nil j hj e
  · intro j
    unfold setF
    split
    · exact nd
    · exact er.nd j
  · intro j k b hjk h1 h2
    rcases mem_setF h1 with ⟨e1, z⟩ | ⟨e1, z⟩
    · rcases mem_setF h2 with ⟨e2, w⟩ | ⟨e2, w⟩
      · exact hjk (e1.trans e2.symm)
      · rcases new b z with q | q
        · exact er.dj i k b (by rw [← e1]; exact hjk) q w
        · exact er.trk k b w q
    · rcases mem_setF h2 with ⟨e2, w⟩ | ⟨e2, w⟩
      · rcases new b w with q | q
        · exact er.dj j i b e1 z q
        · exact er.trk j b z q
      · exact er.dj j k b hjk z w
  · intro j b h
    rcases mem_setF h with ⟨_, z⟩ | ⟨_, z⟩
    · rcases new b z with q | q
      · exact er.new i b q
      · exact .inl (er.h0 q)
    · exact er.new j b z
  · intro j b h
    rcases mem_setF h with ⟨_, w⟩ | ⟨_, w⟩
    · exact Rep.trk _ _ _ _ rep b w
    · exact h2ne b fun z => er.trk j b w (s.free z)
  · intro b u e n
    have hb : b ≠ a := fun z => by
      rcases er.new i a ha with q | q
      · rw [z] at e
        have e : fm.H0 a = some u := e
        have q : fm.H0 a = none := q
        rw [q] at e; cases e
      · exact n (by rw [z]; exact q)
    rw [upd_ne hb]
    exact s _ _ (er.frame b u e n)
  · exact fun b h => h2ne b fun z => er.lent b h (s.free z)
  · intro j b u e hj y ey
    unfold Rho.put at ey
    rw [List.getElem?_set] at ey
    by_cases hij : i = j
    · obtain ⟨d0, h0⟩ := hb
      exact er.io j b u e hj d0 (hij ▸ h0)
    · rw [if_neg hij] at ey
      exact er.io j b u e hj y ey
theorem evs_one {sub : Sub} {G : Gam} {e : E} {ρ : Rho} : evs sub G [e] ρ = (do let x ← ev sub G e ρ; R.ok [x]) := by
  rw [evs]
  cases ev sub G e ρ <;> rfl
theorem d_append {i : Nat} {x : Str} {e : Expr} {p apos cpos pos : Pos} {t : OT} (hK : fm.K = X.kw) (n : Nm X i x) (hd : (x == ("__debug__" : Str)) = false) (hcd : (x == ("__classdict__" : Str)) = false) (ho : ot i = .ow t) (he : PE X e (tE (fm.w ot) Wi false t f)) (hs : noStar e = true) (hl : (apos.endLine == cpos.line) = true) :
    PS X (.Expr (.Call (.Attribute (.Name x p) "append" apos) [e] [] cpos) pos) (tB fm Wi res ot ot fun ρ => .ofR ρ (ρ.get i) fun x => match x with | .lst xs => .ofR ρ (f ρ) fun y => (if xs.length < lim then .next (ρ.put i (.lst (xs ++ [y]))) else .stk) | _ => .stk) := by
  have hv : Vis X.env.scope x := by rcases n.loc with k | k; exact .inl k; exact .inr (.inl k)
  have pe := pe_bm (r := rAppend) (cpos := cpos) (apos := apos) F.plainAttrs_list F.slot_list_append F.type_list_append mt_append (pe_var (pos := p) n.ix hv hd hcd) (pa_cons he pa_nil (star_of hs)) rfl (by rw [star_of hs]; rfl) hl (star_of hs) rfl
  refine PS.imp (ps_expr pe rfl) fun En σ H ⟨ρ, fps, er, h⟩ => ?_
  dsimp only at h
  unfold Rho.get at h
  split at h
  · rename_i d e
    rw [ofR_ok] at h
    obtain ⟨v, e1, r⟩ := er.rep i d e
    have r : Rep fm.K H (Fz fm fps) d (ot i) v (fps i) := r
    cases d with
    | lst xs =>
      rw [ho] at r
      simp only [Rep] at r
      obtain ⟨a, vs, fp', rfl, ⟨r1, r2⟩, r3⟩ := r
      have r3 : RepL fm.K H (Fz fm fps) xs (fun _ => t) vs fp' := r3
      have hai : a ∈ fps i := by rw [r2]; exact List.mem_cons_self
      refine ⟨.ref a, e1, .inl ⟨rfl, vs, SqL.of r1⟩, ρ, fps, er, OKS.ofR er h fun y u H1 fp2 e2 hk s x => ?_⟩
      split at hk
      · rename_i hz
        have r1' := s _ _ r1
        refine ⟨a, vs, u, rfl, rfl, r1', by rw [RepL.length r3, sizeLine_eq]; exact hz, ?_⟩
        have hnd := er.nd i
        rw [r2] at hnd
        obtain ⟨hna, hnd'⟩ := List.nodup_cons.mp hnd
        have t1 : ∀ b ∈ fp', H b ≠ none := RepL.trk _ _ _ _ r3
        have dj2 : ∀ b ∈ fp', b ∉ fp2 := fun b hb hb2 => t1 b hb (x.new b hb2)
        have na2 : a ∉ fp2 := fun z => by
          have := x.new a z
          rw [r1] at this; cases this
        have hnn : (a :: (fp' ++ fp2)).Nodup := List.nodup_cons.mpr ⟨fun z => (List.mem_append.mp z).elim hna na2, List.nodup_append.mpr ⟨hnd', x.nd, fun b hb c hc e => dj2 b hb (e ▸ hc)⟩⟩
        have hF : ∀ b, H b ≠ none → Fz fm fps b → Fz fm (setF fps i (a :: (fp' ++ fp2))) b := fun b hb q => ⟨q.1, fun k hk => by
          rcases mem_setF hk with ⟨_, z⟩ | ⟨_, z⟩
          · rcases List.mem_cons.mp z with z | z
            · exact q.2 i (by rw [z]; exact hai)
            · rcases List.mem_append.mp z with z | z
              · exact q.2 i (by rw [r2]; exact List.mem_cons_of_mem _ z)
              · exact hb (x.new b z)
          · exact q.2 k z⟩
        have nea : ∀ b, (∀ k, b ∉ fps k) → b ≠ a := fun b hb z => hb i (by rw [z]; exact hai)
        have key : Rep fm.K (upd H1 a (.lst (vs ++ [u]))) (Fz fm (setF fps i (a :: (fp' ++ fp2)))) (.lst (xs ++ [y])) (ot i) (.ref a) (a :: (fp' ++ fp2)) := by
          rw [ho]
          simp only [Rep]
          refine ⟨a, vs ++ [u], fp' ++ fp2, rfl, ⟨upd_same, rfl⟩, ?_⟩
          have lvx : ∀ {fq : List Addr} {F : Addr → Prop}, a ∉ fq → (∀ b, H1 b ≠ none → F b → b ≠ a) → (∀ b, H1 b ≠ none → F b → Fz fm (setF fps i (a :: (fp' ++ fp2))) b) → Leaves H1 (upd H1 a (.lst (vs ++ [u]))) F (Fz fm (setF fps i (a :: (fp' ++ fp2)))) fq := fun {fq F} hq hne hF =>
            ⟨fun b hb u e => by rw [upd_ne (fun z => hq (by rw [← z]; exact hb))]; exact e,
              fun b u _ rr z => ⟨by
                have hb := hne b (rd_ne rr) z
                rcases rr with r' | ⟨o', r'⟩
                · exact .inl (by rw [upd_ne hb]; exact r')
                · exact .inr ⟨o', by rw [upd_ne hb]; exact r'⟩, hF b (rd_ne rr) z⟩,
              fun b vs e z => ⟨by rw [upd_ne (hne b (by rw [e]; exact (fun z => nomatch z)) z)]; exact e, hF b (by rw [e]; exact (fun z => nomatch z)) z⟩,
              fun b vs e => by rw [upd_ne (fun z => by rw [z, r1'] at e; cases e)]; exact e,
              fun b o' vs e => by rw [upd_ne (fun z => by rw [z, r1'] at e; cases e)]; exact e⟩
          have rA : RepL fm.K (upd H1 a (.lst (vs ++ [u]))) (Fz fm (setF fps i (a :: (fp' ++ fp2)))) xs (fun _ => t) vs fp' := by
            have r4 : RepL fm.K H1 (fun b => H b ≠ none ∧ Fz fm fps b) xs (fun _ => t) vs fp' := RepL.leaves _ _ _ _ (Leaves.same s fun b hb z => ⟨hb, z⟩) r3
            exact RepL.leaves _ _ _ _ (lvx hna (fun b _ z => nea b z.2.2) fun b _ z => hF b z.1 z.2) r4
          have rB : Rep fm.K (upd H1 a (.lst (vs ++ [u]))) (Fz fm (setF fps i (a :: (fp' ++ fp2)))) y t u fp2 := by
            refine Rep.leaves _ _ _ _ (lvx na2 (fun b _ z => ?_) fun b hb z => ?_) x.rep
            · rcases z with z | ⟨z, _⟩
              · cases z
              · rcases z with z | z
                · exact nea b z.2
                · intro w; rw [w, r1] at z; cases z
            · rcases z with z | ⟨z, z2⟩
              · cases z
              · by_cases hbn : H b = none
                · refine ⟨.inr (.inl (er.h0 hbn)), fun k hk => ?_⟩
                  rcases mem_setF hk with ⟨_, w⟩ | ⟨_, w⟩
                  · rcases List.mem_cons.mp w with w | w
                    · rw [w, r1] at hbn; cases hbn
                    · rcases List.mem_append.mp w with w | w
                      · exact t1 b w hbn
                      · exact z2 w
                  · exact er.trk k b w hbn
                · exact hF b hbn (z.resolve_right hbn)
          have := RepL.app rA (RepL.cons (f := fun _ => t) rB RepL.nil)
          rw [List.append_nil] at this
          exact this
        obtain ⟨q1, q2⟩ := er.chg (d := .lst xs) (d' := .lst (xs ++ [y])) (o := .lst (vs ++ [u])) (fp := a :: (fp' ++ fp2)) s hai (fun vs z => by rw [r1'] at z; cases z) (fun o vs z => by rw [r1'] at z; cases z) e1 hnn (fun b hb => by
          rcases List.mem_cons.mp hb with z | z
          · exact .inl (by rw [z]; exact hai)
          · rcases List.mem_append.mp z with z | z
            · exact .inl (by rw [r2]; exact List.mem_cons_of_mem _ z)
            · exact .inr (x.new b z)) key (fun z => by rw [ho] at z; cases z) ⟨_, e⟩
        exact hk σ _ _ q1 q2
      · exact hk.elim
    | _ => exact h.elim
  · exact h.elim
end
end L2.Py

set_option maxRecDepth 100000
set_option maxHeartbeats 1000000
namespace L2.Py
open PySem PySem.Spec PyProof.Rows TL
def owN : Nat → OT → OT
  | 0, t => t
  | n + 1, t => .ow (owN n t)
def StepV (H : Hp) (v : V) (k : D) (u : V) : Prop := ∃ (a : Addr) (vs : List V) (i : Int), v = .ref a ∧ k = .int i ∧ (H a = some (.lst vs) ∨ H a = some (.tup vs)) ∧ atI vs i = some u
def AtV (H : Hp) : V → List D → V → Prop
  | v, [], u => v = u
  | v, k :: ks, u => ∃ x, StepV H v k x ∧ AtV H x ks u
theorem StepV.same {H H' : Hp} {v u : V} {k : D} (s : Same H H') (h : StepV H v k u) : StepV H' v k u := by
  obtain ⟨a, vs, i, h1, h2, h3, h4⟩ := h
  exact ⟨a, vs, i, h1, h2, h3.imp (s _ _) (s _ _), h4⟩
theorem AtV.same {H H' : Hp} (s : Same H H') : ∀ {ps : List D} {v u : V}, AtV H v ps u → AtV H' v ps u
  | [], _, _, h => h
  | k :: ks, _, _, ⟨x, h1, h2⟩ => ⟨x, h1.same s, AtV.same s h2⟩
theorem StepV.det {H : Hp} {v u u' : V} {k : D} (h : StepV H v k u) (h' : StepV H v k u') : u = u' := by
  obtain ⟨a, vs, i, rfl, rfl, h3, h4⟩ := h
  obtain ⟨b, ws, j, e1, e2, h5, h6⟩ := h'
  injection e1 with e1
  injection e2 with e2
  subst e1 e2
  have : vs = ws := by
    rcases h3 with h3 | h3 <;> rcases h5 with h5 | h5 <;> (rw [h3] at h5; injection h5 with h5; first | (injection h5) | cases h5)
  subst this
  rw [h4] at h6
  exact Option.some.inj h6
theorem AtV.det {H : Hp} : ∀ {ps : List D} {v u u' : V}, AtV H v ps u → AtV H v ps u' → u = u'
  | [], _, _, _, h, h' => h.symm.trans h'
  | k :: ks, _, _, _, ⟨x, h1, h2⟩, ⟨y, h3, h4⟩ => by
    obtain rfl := h1.det h3
    exact AtV.det h2 h4
theorem AtV.snoc {H : Hp} {k : D} : ∀ {ps : List D} {v u x : V}, AtV H v ps u → StepV H u k x → AtV H v (ps ++ [k]) x
  | [], _, _, _, h, h' => by
    have h : _ = _ := h
    subst h
    exact ⟨_, h', rfl⟩
  | k :: ks, _, _, _, ⟨y, h1, h2⟩, h' => ⟨y, h1, AtV.snoc h2 h'⟩
theorem atPath_snoc {k : D} : ∀ {ps : List D} {d y : D}, atPath (ps ++ [k]) d = .ok y → ∃ z, atPath ps d = .ok z ∧ stepD z k = .ok y
  | [], d, y, h => by
    refine ⟨d, rfl, ?_⟩
    have h : (stepD d k >>= fun x => atPath [] x) = .ok y := h
    cases e : stepD d k with
    | ok z => rw [e] at h; exact h
    | exn c ps => rw [e] at h; cases h
    | stk => rw [e] at h; cases h
  | k' :: ks, d, y, h => by
    have h : (stepD d k' >>= fun x => atPath (ks ++ [k]) x) = .ok y := h
    cases e : stepD d k' with
    | ok z =>
      rw [e] at h
      obtain ⟨x, h1, h2⟩ := atPath_snoc (d := z) h
      exact ⟨x, by show (stepD d k' >>= fun x => atPath ks x) = _; rw [e]; exact h1, h2⟩
    | exn c ps => rw [e] at h; cases h
    | stk => rw [e] at h; cases h
section
variable {X : Cx} {fm : Fm} {Wi : WX} {al al1 al2 : Bool} {t res : OT} {f g : Rho → R D} {ot ot' ot'' : Nat → OT} {ρ : Rho} {σ : St} {H H1 H2 : Hp} {fps fps1 : Fps}
theorem RdR.step {z k y : D} {v : V} (h : RdR fm H z v) (e : stepD z k = .ok y) : ∃ a vs i j u, z = z ∧ k = .int i ∧ v = .ref a ∧ (H a = some (.lst vs) ∨ H a = some (.tup vs)) ∧ atI vs i = some u ∧ (ixOf vs.length i = some j ∧ vs[j]? = some u) ∧ RdR fm H y u := by
  have go : ∀ {xs : List D} {vs : List V} {i : Int}, RepL fm.K H (fun _ => True) xs frs0 vs [] → atD xs i = .ok y → ∃ j u, atI vs i = some u ∧ (ixOf vs.length i = some j ∧ vs[j]? = some u) ∧ RdR fm H y u := fun {xs vs i} r e => by
    have hl := RepL.length r
    have e' := e
    unfold atD ofOpt at e'
    cases e1 : ixOf xs.length i with
    | none => rw [e1] at e'; cases e'
    | some j =>
      rw [e1] at e'
      cases e2 : xs[j]? with
      | none => simp only [Option.bind_some, e2] at e'; cases e'
      | some z =>
        simp only [Option.bind_some, e2] at e'
        injection e' with e'
        subst e'
        obtain ⟨u, hu, ru⟩ := RepL.get r e2
        refine ⟨j, u, ?_, ⟨by rw [hl]; exact e1, hu⟩, ru⟩
        have e1' : ixN vs.length i = some j := by rw [hl]; exact e1
        unfold atI
        rw [e1', Option.bind_some]
        exact hu
  unfold stepD at e
  split at e
  · obtain ⟨a, vs, rfl, h1, r⟩ := Rep.lst_inv h
    obtain ⟨j, u, q1, q2, q3⟩ := go r e
    exact ⟨a, vs, _, j, u, rfl, rfl, rfl, .inl h1.1, q1, q2, q3⟩
  · obtain ⟨a, vs, rfl, h1, r⟩ := Rep.tup_inv h
    obtain ⟨j, u, q1, q2, q3⟩ := go r e
    exact ⟨a, vs, _, j, u, rfl, rfl, rfl, .inr h1, q1, q2, q3⟩
  · cases e
def tP (fm : Fm) (i : Nat) (g : Rho → R (List D)) : TE := fun σ H Q => ∃ ρ fps x v0 ps y, ER fm ρ σ H fps ∧ ρ[i]? = some (some x) ∧ σ[i]? = some (some v0) ∧ g ρ = .ok ps ∧ atPath ps x = .ok y ∧
  ∀ v' H', Same H H' → AtV H' v0 ps v' → RdR fm H' y v' → Q v' H'
theorem dp_name {i : Nat} {x : Str} {pos : Pos} (hN : X.N[i]? = some x) (hv : Vis X.env.scope x) (hd : (x == ("__debug__" : Str)) = false) (hcd : (x == ("__classdict__" : Str)) = false) : PE X (.Name x pos) (tP fm i fun _ => .ok []) := by
  refine PE.imp (pe_var hN hv hd hcd) fun σ H Q ⟨ρ, fps, x, v0, ps, y, er, h1, h2, h3, h4, h⟩ => ⟨v0, h2, ?_⟩
  injection h3 with h3
  subst h3
  injection h4 with h4
  subst h4
  obtain ⟨v, e1, r⟩ := er.rep i x h1
  rw [h2] at e1
  injection e1 with e1
  injection e1 with e1
  subst e1
  exact h v0 H (Same.refl _) rfl (Rep.forget _ _ _ _ (fun _ _ _ => trivial) (fun _ _ => trivial) r)
theorem bind_okL {α β : Type} {r : R α} {k : α → R β} {y : β} (h : (r >>= k) = .ok y) : ∃ x, r = .ok x ∧ k x = .ok y := by
  cases r with
  | ok x => exact ⟨x, rfl, h⟩
  | exn c ps => cases h
  | stk => cases h
theorem dp_idx {i : Nat} {a b : Expr} {pos : Pos} {gs : Rho → R (List D)} (hK : fm.K = X.kw) (hb' : noSl b = true) (ha : PE X a (tP fm i gs)) (hb : PE X b (tE fm Wi true .fr g)) :
    PE X (.Subscript a b pos) (tP fm i fun ρ => do let ps ← gs ρ; let k ← g ρ; R.ok (ps ++ [k])) := by
  refine PE.imp (pe_ix ix_seq ha hb (ix_of hb')) fun σ H Q ⟨ρ, fps, x, v0, ps, y, er, h1, h2, h3, h4, h⟩ => ?_
  rw [KF.back hK]
  obtain ⟨qs, e1, h3⟩ := bind_okL h3
  obtain ⟨k, e2, h3⟩ := bind_okL h3
  injection h3 with h3
  subst h3
  obtain ⟨z, e3, e4⟩ := atPath_snoc h4
  refine ⟨ρ, fps, x, v0, qs, z, er, h1, h2, e1, e3, fun v' H' s av rd => ⟨ρ, fps, er.ext s, ?_⟩⟩
  rw [e2]
  intro u H2 fp s2 xk
  have rd2 : RdR fm H2 z v' := Rep.leaves _ _ _ _ (Leaves.same s2 fun _ _ q => q) rd
  obtain ⟨a, vs, i, j, u', _, rfl, rfl, hh, q1, q2, q3⟩ := rd2.step e4
  obtain rfl := xk.read.int
  have fin := h u' H2 (s.trans s2) ((av.same s2).snoc ⟨a, vs, i, rfl, rfl, hh, q1⟩) q3
  rcases hh with hh | hh
  · exact .inl ⟨a, vs, i, u', rfl, rfl, SqL.of hh, q1, fin⟩
  · exact .inr (.inl ⟨a, vs, i, u', rfl, rfl, SqT.of hh, q1, fin⟩)

theorem RepL.split {K : KF} {F : Addr → Prop} {t : OT} : ∀ {xs : List D} {vs : List V} {fp : List Addr} {j : Nat} {x : D}, RepL K H F xs (fun _ => t) vs fp → xs[j]? = some x →
    ∃ u fa fb fx, vs[j]? = some u ∧ fp = fa ++ (fx ++ fb) ∧ Rep K H F x t u fx ∧ ∀ {H' : Hp} {F' : Addr → Prop} {x' : D} {fx' : List Addr}, Leaves H H' F F' (fa ++ fb) → Rep K H' F' x' t u fx' → RepL K H' F' (xs.set j x') (fun _ => t) vs (fa ++ (fx' ++ fb))
  | [], vs, fp, j, x, h, e => by simp at e
  | d :: ds, vs, fp, 0, x, h, e => by
    obtain ⟨v, r, f1, f2, rfl, rfl, h1, h2⟩ := h.uncons
    have e : some d = some x := e
    injection e with e
    subst e
    refine ⟨v, [], f2, f1, rfl, rfl, h1, fun {H' F' x' fx'} l r' => ?_⟩
    show RepL K H' F' (x' :: ds) (fun _ => t) (v :: r) (fx' ++ f2)
    exact RepL.cons (f := fun _ => t) r' (RepL.leaves _ _ _ _ l h2)
  | d :: ds, vs, fp, j + 1, x, h, e => by
    obtain ⟨v, r, f1, f2, rfl, rfl, h1, h2⟩ := h.uncons
    obtain ⟨u, fa, fb, fx, q1, rfl, q3, q4⟩ := RepL.split h2 (show ds[j]? = some x from e)
    refine ⟨u, f1 ++ fa, fb, fx, q1, by rw [List.append_assoc], q3, fun {H' F' x' fx'} l r' => ?_⟩
    have := RepL.cons (f := fun _ => t) (Rep.leaves _ _ _ _ (l.sub fun b hb => List.mem_append_left _ (List.mem_append_left _ hb)) h1) (q4 (l.sub fun b hb => by
      rcases List.mem_append.mp hb with z | z
      · exact List.mem_append_left _ (List.mem_append_right _ z)
      · exact List.mem_append_right _ z) r')
    rw [List.append_assoc]
    exact this
theorem RepL.comps {K : KF} {F : Addr → Prop} {t : OT} : ∀ {xs : List D} {f : Nat → OT} {vs : List V} {fp : List Addr}, (∀ i, f i = t) → RepL K H F xs f vs fp → RepL K H F xs (fun _ => t) vs fp := fun {xs f vs fp} h r => by
  have e : f = fun _ => t := funext h
  rw [e] at r; exact r
theorem ixD_of {α : Type} {xs : List α} {n : Nat} {i : Int} {x : α} {j : Nat} (hn : xs.length = n) (h : ixOf n i = some j) (h2 : xs[j]? = some x) : atI xs i = some x := by
  have e1 : ixN xs.length i = some j := by rw [hn]; exact h
  unfold atI
  rw [e1, Option.bind_some]
  exact h2
theorem Rep.focus {K : KF} {F : Addr → Prop} {t : OT} {fn : D → R D} : ∀ {ps : List D} {d d' : D} {v : V} {fp : List Addr}, Rep K H F d (owN ps.length t) v fp → updAt fn ps d = .ok d' →
    ∃ x x' u fa fb fx, fp = fa ++ (fx ++ fb) ∧ AtV H v ps u ∧ Rep K H F x t u fx ∧ fn x = .ok x' ∧
      ∀ {H' : Hp} {F' : Addr → Prop} {fx' : List Addr}, Leaves H H' F F' (fa ++ fb) → Rep K H' F' x' t u fx' → Rep K H' F' d' (owN ps.length t) v (fa ++ (fx' ++ fb))
  | [], d, d', v, fp, h, e => by
    refine ⟨d, d', v, [], [], fp, (List.append_nil _).symm, rfl, h, e, fun {H' F' fx'} l r => ?_⟩
    rw [List.nil_append, List.append_nil]
    exact r
  | k :: ks, d, d', v, fp, h, e => by
    unfold updAt at e
    split at e
    · split at e
      · split at e
        · split at e
          · rename_i xs _ i _ j hj _ x hx
            obtain ⟨y, e1, e2⟩ := bind_okL e
            injection e2 with e2
            subst e2
            have h' : Rep K H F (.lst xs) (.ow (owN ks.length t)) v fp := h
            simp only [Rep] at h'
            obtain ⟨a, vs, fp', rfl, ⟨h1, rfl⟩, h2⟩ := h'
            have h2 : RepL K H F xs (fun _ => owN ks.length t) vs fp' := h2
            obtain ⟨u, fa, fb, fx, q1, rfl, q3, q4⟩ := RepL.split h2 hx
            obtain ⟨x0, x0', u0, ga, gb, gx, rfl, w1, w2, w3, w4⟩ := Rep.focus q3 e1
            refine ⟨x0, x0', u0, a :: (fa ++ ga), gb ++ fb, gx, by simp [List.append_assoc], ⟨u, ⟨a, vs, i, rfl, rfl, .inl h1, ixD_of (RepL.length h2) hj q1⟩, w1⟩, w2, w3, fun {H' F' fx'} l r => ?_⟩
            show Rep K H' F' (.lst (xs.set j y)) (.ow (owN ks.length t)) _ _
            simp only [Rep]
            have r1 := w4 (l.sub fun b hb => by
              rcases List.mem_append.mp hb with z | z
              · exact List.mem_append_left _ (List.mem_cons_of_mem _ (List.mem_append_right _ z))
              · exact List.mem_append_right _ (List.mem_append_left _ z)) r
            have r2 := q4 (l.sub fun b hb => by
              rcases List.mem_append.mp hb with z | z
              · exact List.mem_append_left _ (List.mem_cons_of_mem _ (List.mem_append_left _ z))
              · exact List.mem_append_right _ (List.mem_append_right _ z)) r1
            refine ⟨a, vs, _, rfl, ⟨l.own a (by simp) _ h1, ?_⟩, r2⟩
            simp [List.append_assoc]
          · cases e
        · cases e
      · cases e
    · split at e
      · split at e
        · split at e
          · rename_i xs _ i _ j hj _ x hx
            obtain ⟨y, e1, e2⟩ := bind_okL e
            injection e2 with e2
            subst e2
            have h' : Rep K H F (.tup xs) (.ow (owN ks.length t)) v fp := h
            simp only [Rep] at h'
            obtain ⟨a, vs, rfl, h1, h2⟩ := h'
            have h2 : RepL K H F xs (fun _ => owN ks.length t) vs fp := RepL.comps (fun _ => rfl) h2
            obtain ⟨u, fa, fb, fx, q1, rfl, q3, q4⟩ := RepL.split h2 hx
            obtain ⟨x0, x0', u0, ga, gb, gx, rfl, w1, w2, w3, w4⟩ := Rep.focus q3 e1
            refine ⟨x0, x0', u0, fa ++ ga, gb ++ fb, gx, by simp [List.append_assoc], ⟨u, ⟨a, vs, i, rfl, rfl, .inr h1, ixD_of (RepL.length h2) hj q1⟩, w1⟩, w2, w3, fun {H' F' fx'} l r => ?_⟩
            show Rep K H' F' (.tup (xs.set j y)) (.ow (owN ks.length t)) _ _
            simp only [Rep]
            have r1 := w4 (l.sub fun b hb => by
              rcases List.mem_append.mp hb with z | z
              · exact List.mem_append_left _ (List.mem_append_right _ z)
              · exact List.mem_append_right _ (List.mem_append_left _ z)) r
            have r2 := q4 (l.sub fun b hb => by
              rcases List.mem_append.mp hb with z | z
              · exact List.mem_append_left _ (List.mem_append_left _ z)
              · exact List.mem_append_right _ (List.mem_append_right _ z)) r1
            refine ⟨a, vs, rfl, l.tup a _ h1, ?_⟩
            have e : fa ++ ga ++ (fx' ++ (gb ++ fb)) = fa ++ (ga ++ (fx' ++ gb) ++ fb) := by simp [List.append_assoc]
            rw [e]
            exact r2
          · cases e
        · cases e
      · cases e
    · cases e
theorem ER.mutate {i : Nat} {d d' : D} {ps : List D} {fn : List D → R (List D)} {as : List D} {ft : Nat → OT} {us : List V} {fpa : List Addr} {P : List V → List V → Prop} (er : ER (fm.w ot) ρ σ H fps) (s : Same H H2) (hd : ρ[i]? = some (some d)) (hot : ot i = owN ps.length (.ow t))
    (xr : XRL (fm.w ot) fps H H2 false as ft us fpa) (hu : updAt (fun x => match x with | .lst xs => fn xs >>= fun ys => .ok (.lst ys) | _ => .stk) ps d = .ok d')
    (hop : ∀ {xs ys : List D} {vs : List V} {fp1 : List Addr} {F : Addr → Prop}, fn xs = .ok ys → RepL fm.K H2 F xs (fun _ => t) vs fp1 → RepL fm.K H2 F as ft us fpa → (fp1 ++ fpa).Nodup →
      ∃ ws fp2, RepL fm.K H2 F ys (fun _ => t) ws fp2 ∧ fp2.Nodup ∧ (∀ b ∈ fp2, b ∈ fp1 ∨ b ∈ fpa) ∧ P vs ws) :
    ∃ v0 a vs ws fp', σ[i]? = some (some v0) ∧ AtV H2 v0 ps (.ref a) ∧ H2 a = some (.lst vs) ∧ P vs ws ∧
      ER (fm.w ot) (ρ.put i d') σ (upd H2 a (.lst ws)) (setF fps i fp') ∧ Leaves H (upd H2 a (.lst ws)) (Fz fm fps) (Fz fm (setF fps i fp')) [] := by
  obtain ⟨v0, e1, r⟩ := er.rep i d hd
  have r : Rep fm.K H (Fz fm fps) d (ot i) v0 (fps i) := r
  rw [hot] at r
  -- all at H2, within one set
  have F2 : Rep fm.K H2 (fun b => b ∉ fpa ∧ (Fz fm fps b ∨ H b = none)) d (owN ps.length (.ow t)) v0 (fps i) :=
    Rep.leaves _ _ _ _ (Leaves.same s fun b hb z => ⟨fun w => hb (xr.new b w), .inl z⟩) r
  have A2 : RepL fm.K H2 (fun b => b ∉ fpa ∧ (Fz fm fps b ∨ H b = none)) as ft us fpa := RepL.leaves _ _ _ _ (Leaves.same (Same.refl _) fun b hb z => by
    rcases z with z | ⟨z, w⟩
    · cases z
    · exact ⟨w, z⟩) xr.rep
  obtain ⟨x, x', u, fa, fb, fx, hfp, av, rx, hx, back⟩ := Rep.focus F2 hu
  cases x with
  | lst xs =>
    obtain ⟨ys, h1, h2⟩ := bind_okL (show (fn xs >>= fun ys => R.ok (D.lst ys)) = .ok x' from hx)
    injection h2 with h2
    subst h2
    simp only [Rep] at rx
    obtain ⟨a, vs, fp1, rfl, ⟨ha, rfl⟩, rl⟩ := rx
    have rl : RepL fm.K H2 _ xs (fun _ => t) vs fp1 := rl
    have nd := er.nd i
    rw [hfp] at nd
    have memi : ∀ b, b ∈ fa ++ (a :: fp1 ++ fb) → b ∈ fps i := fun b hb => by rw [hfp]; exact hb
    have hai : a ∈ fps i := memi a (by simp)
    have nd2 := List.nodup_append.mp nd
    have nd3 : (a :: (fp1 ++ fb)).Nodup := nd2.2.1
    obtain ⟨na, nd4⟩ := List.nodup_cons.mp nd3
    have nd5 := List.nodup_append.mp nd4
    have hnew : ∀ b ∈ fpa, b ∉ fps i := fun b hb z => er.trk i b z (xr.new b hb)
    obtain ⟨ws, fp2, rw2, nw, sub, hP⟩ := hop h1 rl A2 (List.nodup_append.mpr ⟨nd5.1, xr.nd, fun b hb c hc e => hnew c hc (e ▸ memi b (by simp [hb]))⟩)
    have na2 : a ∉ fp2 := fun z => by
      rcases sub a z with z | z
      · exact na (List.mem_append_left _ z)
      · exact hnew a z hai
    have hFa : a ∉ fa := fun z => nd2.2.2 a z a (by simp) rfl
    have hFb : a ∉ fb := fun z => na (List.mem_append_right _ z)
    have newF : ∀ b, b ∈ fa ++ (a :: fp2 ++ fb) → b ∈ fps i ∨ b ∈ fpa := fun b hb => by
      rcases List.mem_append.mp hb with z | z
      · exact .inl (memi b (List.mem_append_left _ z))
      · rcases List.mem_cons.mp z with z | z
        · exact .inl (by rw [z]; exact hai)
        · rcases List.mem_append.mp z with z | z
          · exact (sub b z).imp (fun w => memi b (by simp [w])) id
          · exact .inl (memi b (by simp [z]))
    have lv : ∀ {fq : List Addr}, a ∉ fq → Leaves H2 (upd H2 a (.lst ws)) (fun b => b ∉ fpa ∧ (Fz fm fps b ∨ H b = none)) (Fz fm (setF fps i (fa ++ (a :: fp2 ++ fb)))) fq := fun {fq} hq => by
      have ne : ∀ b, (b ∉ fpa ∧ (Fz fm fps b ∨ H b = none)) → b ≠ a := fun b z w => by
        rw [w] at z
        rcases z.2 with z | z
        · exact z.2 i hai
        · exact er.trk i a hai z
      have hF : ∀ b, (b ∉ fpa ∧ (Fz fm fps b ∨ H b = none)) → Fz fm (setF fps i (fa ++ (a :: fp2 ++ fb))) b := fun b z => by
        have nt : ∀ k, b ∉ fps k := fun k hk => by
          rcases z.2 with w | w
          · exact w.2 k hk
          · exact er.trk k b hk w
        refine ⟨?_, fun k hk => ?_⟩
        · rcases z.2 with w | w
          · exact w.1
          · exact .inr (.inl (er.h0 w))
        · rcases mem_setF hk with ⟨_, w⟩ | ⟨_, w⟩
          · rcases newF b w with w | w
            · exact nt i w
            · exact z.1 w
          · exact nt k w
      exact ⟨fun b hb u e => by rw [upd_ne (fun z => hq (by rw [← z]; exact hb))]; exact e,
        fun b u _ rr z => ⟨by
          rcases rr with r' | ⟨o', r'⟩
          · exact .inl (by rw [upd_ne (ne b z)]; exact r')
          · exact .inr ⟨o', by rw [upd_ne (ne b z)]; exact r'⟩, hF b z⟩,
        fun b vs e z => ⟨by rw [upd_ne (ne b z)]; exact e, hF b z⟩,
        fun b vs e => by rw [upd_ne (fun z => by rw [z, ha] at e; cases e)]; exact e,
        fun b o' vs e => by rw [upd_ne (fun z => by rw [z, ha] at e; cases e)]; exact e⟩
    have rnew : Rep fm.K (upd H2 a (.lst ws)) (Fz fm (setF fps i (fa ++ (a :: fp2 ++ fb)))) (.lst ys) (.ow t) (.ref a) (a :: fp2) := by
      simp only [Rep]
      exact ⟨a, ws, fp2, rfl, ⟨upd_same, rfl⟩, RepL.leaves _ _ _ _ (lv na2) rw2⟩
    have rd := back (lv fun z => by
      rcases List.mem_append.mp z with z | z
      · exact hFa z
      · exact hFb z) rnew
    rw [← hot] at rd
    have hdis : ∀ b ∈ fp2, b ∉ fa ∧ b ∉ fb := fun b hb => by
      rcases sub b hb with z | z
      · exact ⟨fun w => nd2.2.2 b w b (by simp [z]) rfl, fun w => nd5.2.2 b z b w rfl⟩
      · exact ⟨fun w => hnew b z (memi b (by simp [w])), fun w => hnew b z (memi b (by simp [w]))⟩
    obtain ⟨q1, q2⟩ := er.chg (d := d) (d' := d') (o := .lst ws) (fp := fa ++ (a :: fp2 ++ fb)) s hai (fun vs z => by rw [ha] at z; cases z) (fun o vs z => by rw [ha] at z; cases z) e1 (by
      rw [List.nodup_append]
      refine ⟨nd2.1, List.nodup_cons.mpr ⟨fun z => (List.mem_append.mp z).elim na2 hFb, List.nodup_append.mpr ⟨nw, nd5.2.1, fun b hb c hc e => (hdis b hb).2 (e ▸ hc)⟩⟩, fun b hb c hc e => ?_⟩
      rcases List.mem_cons.mp hc with z | z
      · exact hFa (by rw [← z, ← e]; exact hb)
      · rcases List.mem_append.mp z with z | z
        · exact (hdis c z).1 (e ▸ hb)
        · exact nd2.2.2 b hb c (by simp [z]) e) (fun b hb => (newF b hb).imp id (xr.new b)) rd (fun z => by
          rw [hot] at z
          cases ps <;> cases z) ⟨_, hd⟩
    exact ⟨v0, a, vs, ws, _, e1, av, ha, hP, q1, q2⟩
  | _ => cases hx
end
end L2.Py

set_option maxRecDepth 100000
set_option maxHeartbeats 1000000
namespace L2.Py
open PySem PySem.Spec PyProof.Rows TL
def NoX {α : Type} (r : R α) : Prop := ∀ c ps, r ≠ .exn c ps
theorem NoX.ok {α : Type} {a : α} : NoX (R.ok a) := fun _ _ h => nomatch h
theorem NoX.stk {α : Type} : NoX (R.stk : R α) := fun _ _ h => nomatch h
theorem NoX.bind {α β : Type} {r : R α} {k : α → R β} (h : NoX r) (hk : ∀ a, NoX (k a)) : NoX (r >>= k) := by
  cases r with
  | ok a => exact hk a
  | exn c ps => exact absurd rfl (h c ps)
  | stk => exact NoX.stk
theorem NoX.ite {α : Type} {b : Prop} [Decidable b] {x y : R α} (h1 : NoX x) (h2 : NoX y) : NoX (if b then x else y) := by
  split
  · exact h1
  · exact h2
theorem ofOpt_noX {α : Type} (o : Option α) : NoX (ofOpt o) := by cases o <;> first | exact NoX.ok | exact NoX.stk
theorem atD_noX {α : Type} (xs : List α) (i : Int) : NoX (atD xs i) := ofOpt_noX _
theorem binD_noX (op : Bop) (x y : D) : NoX (binD op x y) := by
  intro c ps h
  unfold binD at h
  split at h <;> first | cases h | (split at h <;> cases h)
theorem idxD_noX (x y : D) : NoX (idxD x y) := by
  cases x <;> cases y <;> first
    | exact NoX.stk
    | exact atD_noX _ _
    | exact NoX.ite (ofOpt_noX _) NoX.stk
    | exact NoX.ite (NoX.bind (atD_noX _ _) fun _ => NoX.ok) NoX.stk
    | exact NoX.bind (atD_noX _ _) fun _ => NoX.ok
theorem slcD_noX (x : D) (l h : Option Int) : NoX (slcD x l h) := by
  cases x <;> first
    | exact NoX.stk
    | exact NoX.ok
    | exact NoX.ite NoX.stk NoX.ok
    | exact NoX.ite NoX.ok NoX.stk
theorem oneI_noX (x : D) : NoX (oneI x) := by cases x <;> first | exact NoX.ok | exact NoX.stk
theorem rhoget_noX (ρ : Rho) (i : Nat) : NoX (ρ.get i) := by
  intro c ps h
  unfold Rho.get at h
  split at h <;> cases h
theorem itD_noX (k : ItK) (xs : List D) : NoX (itD k xs) := by
  intro c ps h
  unfold itD at h
  split at h <;> first | cases h | (split at h <;> cases h)
theorem noExn_noX {α : Type} (r : R α) : NoX (noExn r) := by cases r <;> first | exact NoX.ok | exact NoX.stk
mutual
def pureE : E → Bool
  | .slot _ => true
  | .cint _ => true
  | .cstr _ => true
  | .cbl _ => true
  | .cnon => true
  | .bin _ a b => pureE a && pureE b
  | .idx a b => pureE a && pureE b
  | .slcA a => pureE a
  | .slcL a b => pureE a && pureE b
  | .slcH a b => pureE a && pureE b
  | .slcB a b c => pureE a && pureE b && pureE c
  | .tup es => pureL es
  | .lst es => pureL es
  | .comp _ _ _ _ its _ _ => pureL its
  | .flat e => pureE e
  | .nox _ => true
  | .blt .len es => pureL es
  | _ => false
def pureL : List E → Bool
  | [] => true
  | e :: es => pureE e && pureL es
end
theorem len_noX (sub : Sub) (xs : List D) : NoX (bltD sub .len xs) := by
  intro c ps h
  unfold bltD at h
  split at h <;> first | contradiction | cases h | (split at h <;> cases h)
mutual
theorem pure_noX {sub : Sub} {G : Gam} : ∀ (e : E) (ρ : Rho), pureE e = true → NoX (ev sub G e ρ)
  | .slot i, ρ, _ => by rw [ev]; exact rhoget_noX ρ i
  | .cint _, ρ, _ => by rw [ev]; exact NoX.ok
  | .cstr _, ρ, _ => by rw [ev]; exact NoX.ok
  | .cbl _, ρ, _ => by rw [ev]; exact NoX.ok
  | .cnon, ρ, _ => by rw [ev]; exact NoX.ok
  | .bin op a b, ρ, h => by
    simp only [pureE, Bool.and_eq_true] at h
    rw [ev]
    exact NoX.bind (pure_noX a ρ h.1) fun x => NoX.bind (pure_noX b ρ h.2) fun y => binD_noX op x y
  | .idx a b, ρ, h => by
    simp only [pureE, Bool.and_eq_true] at h
    rw [ev]
    exact NoX.bind (pure_noX a ρ h.1) fun x => NoX.bind (pure_noX b ρ h.2) fun y => idxD_noX x y
  | .slcA a, ρ, h => by
    simp only [pureE] at h
    rw [ev]
    exact NoX.bind (pure_noX a ρ h) fun x => slcD_noX _ _ _
  | .slcL a b, ρ, h => by
    simp only [pureE, Bool.and_eq_true] at h
    rw [ev]
    exact NoX.bind (pure_noX a ρ h.1) fun x => NoX.bind (NoX.bind (pure_noX b ρ h.2) fun y => oneI_noX y) fun _ => slcD_noX _ _ _
  | .slcH a b, ρ, h => by
    simp only [pureE, Bool.and_eq_true] at h
    rw [ev]
    exact NoX.bind (pure_noX a ρ h.1) fun x => NoX.bind NoX.ok fun _ => NoX.bind (NoX.bind (pure_noX b ρ h.2) fun y => oneI_noX y) fun _ => slcD_noX _ _ _
  | .slcB a b c, ρ, h => by
    simp only [pureE, Bool.and_eq_true] at h
    rw [ev]
    exact NoX.bind (pure_noX a ρ h.1.1) fun x => NoX.bind (NoX.bind (pure_noX b ρ h.1.2) fun y => oneI_noX y) fun _ => NoX.bind (NoX.bind (pure_noX c ρ h.2) fun y => oneI_noX y) fun _ => slcD_noX _ _ _
  | .tup es, ρ, h => by
    simp only [pureE] at h
    rw [ev]
    exact NoX.bind (pureL_noX es ρ h) fun x => NoX.ok
  | .lst es, ρ, h => by
    simp only [pureE] at h
    rw [ev]
    exact NoX.bind (pureL_noX es ρ h) fun x => NoX.ok
  | .comp fl tg t k its elt cs, ρ, h => by
    simp only [pureE] at h
    rw [ev]
    exact NoX.bind (pureL_noX its ρ h) fun x => NoX.bind (itD_noX k x) fun ds => NoX.bind (noExn_noX _) fun ys => NoX.ite NoX.ok NoX.stk
  | .nox e, ρ, _ => by
    rw [ev]
    exact noExn_noX _
  | .flat e, ρ, h => by
    simp only [pureE] at h
    rw [ev]
    exact NoX.bind (pure_noX e ρ h) fun x => NoX.ite NoX.ok NoX.stk
  | .blt .len es, ρ, h => by
    simp only [pureE] at h
    rw [ev]
    exact NoX.bind (pureL_noX es ρ h) fun x => len_noX sub x
  | .getD _ _ _, _, h => by simp [pureE] at h
  | .dnT _, _, h => by simp [pureE] at h
  | .dnN, _, h => by simp [pureE] at h
  | .fld _ _, _, h => by simp [pureE] at h
  | .slcS _ _ _ _, _, h => by simp [pureE] at h
  | .neg _, _, h => by simp [pureE] at h
  | .cmp _ _ _, _, h => by simp [pureE] at h
  | .not _, _, h => by simp [pureE] at h
  | .and _ _, _, h => by simp [pureE] at h
  | .or _ _, _, h => by simp [pureE] at h
  | .ite _ _ _, _, h => by simp [pureE] at h
  | .slcR _, _, h => by simp [pureE] at h
  | .dnew _ _, _, h => by simp [pureE] at h
  | .call _ _, _, h => by simp [pureE] at h
  | .meth _ _ _, _, h => by simp [pureE] at h
  | .blt .min1 _, _, h => by simp [pureE] at h
  | .blt .max1 _, _, h => by simp [pureE] at h
  | .blt .min2 _, _, h => by simp [pureE] at h
  | .blt .max2 _, _, h => by simp [pureE] at h
  | .blt .sorted _, _, h => by simp [pureE] at h
  | .blt .list _, _, h => by simp [pureE] at h
  | .blt .dict _, _, h => by simp [pureE] at h
  | .blt .lenSet _, _, h => by simp [pureE] at h
  | .blt .sortedSet _, _, h => by simp [pureE] at h
  | .blt .lenSetS _, _, h => by simp [pureE] at h
  | .blt .listL _, _, h => by simp [pureE] at h
  | .blt .toInt _, _, h => by simp [pureE] at h
  | .blt .toStr _, _, h => by simp [pureE] at h
  | .blt (.isi _) _, _, h => by simp [pureE] at h
  | .blt (.isx _) _, _, h => by simp [pureE] at h
  | .blt .sortedW _, _, h => by simp [pureE] at h
  | .blt .sortedN _, _, h => by simp [pureE] at h
  | .blt .sum _, _, h => by simp [pureE] at h
  | .blt .tuple _, _, h => by simp [pureE] at h
  | .blt .listRange _, _, h => by simp [pureE] at h
  | .blt .keysL _, _, h => by simp [pureE] at h
theorem pureL_noX {sub : Sub} {G : Gam} : ∀ (es : List E) (ρ : Rho), pureL es = true → NoX (evs sub G es ρ)
  | [], ρ, _ => by rw [evs]; exact NoX.ok
  | e :: es, ρ, h => by
    simp only [pureL, Bool.and_eq_true] at h
    rw [evs]
    exact NoX.bind (pure_noX e ρ h.1) fun x => NoX.bind (pureL_noX es ρ h.2) fun y => NoX.ok
end
theorem evs_len {sub : Sub} {G : Gam} : ∀ {es : List E} {ρ : Rho} {ds : List D}, evs sub G es ρ = .ok ds → ds.length = es.length
  | [], ρ, ds, h => by
    rw [evs] at h
    injection h with h
    subst h; rfl
  | e :: es, ρ, ds, h => by
    rw [evs] at h
    cases h1 : ev sub G e ρ with
    | ok x =>
      rw [h1, ok_bind] at h
      cases h2 : evs sub G es ρ with
      | ok xs =>
        rw [h2] at h
        injection h with h
        subst h
        rw [List.length_cons, List.length_cons, evs_len h2]
      | exn c ps => rw [h2] at h; cases h
      | stk => rw [h2] at h; cases h
    | exn c ps => rw [h1] at h; cases h
    | stk => rw [h1] at h; cases h
def OT.isFr : OT → Bool
  | .fr => true
  | _ => false
theorem OT.isFr_eq {t : OT} (h : t.isFr = true) : t = .fr := by cases t <;> first | rfl | cases h
def OT.flatE : OT → Bool
  | .fr => true
  | .ow t => t.isFr
  | _ => false
theorem OT.flatE_eq {t : OT} (h : t.flatE = true) : t.elem = .fr ∧ ∀ i, t.comps i = .fr := by
  cases t with
  | fr => exact ⟨rfl, fun _ => rfl⟩
  | ow t => exact ⟨OT.isFr_eq h, fun _ => OT.isFr_eq h⟩
  | tp ts => cases h
mutual
def OT.same : OT → OT → Bool
  | .fr, y => match y with | .fr => true | _ => false
  | .ow t, y => match y with | .ow u => OT.same t u | _ => false
  | .tp ts, y => match y with | .tp us => OT.sameL ts us | _ => false
def OT.sameL : List OT → List OT → Bool
  | [], ys => ys.isEmpty
  | t :: ts, ys => match ys with | [] => false | u :: us => OT.same t u && OT.sameL ts us
end
mutual
theorem OT.same_eq : ∀ (t u : OT), t.same u = true → t = u
  | .fr, u, h => by cases u <;> first | rfl | (simp only [OT.same] at h; cases h)
  | .ow t, u, h => by
    cases u with
    | ow u => simp only [OT.same] at h; rw [OT.same_eq t u h]
    | _ => simp only [OT.same] at h; cases h
  | .tp ts, u, h => by
    cases u with
    | tp us => simp only [OT.same] at h; rw [OT.sameL_eq ts us h]
    | _ => simp only [OT.same] at h; cases h
theorem OT.sameL_eq : ∀ (ts us : List OT), OT.sameL ts us = true → ts = us
  | [], us, h => by cases us <;> first | rfl | (simp only [OT.sameL] at h; cases h)
  | t :: ts, us, h => by
    cases us with
    | nil => simp only [OT.sameL] at h; cases h
    | cons u us =>
      simp only [OT.sameL, Bool.and_eq_true] at h
      rw [OT.same_eq t u h.1, OT.sameL_eq ts us h.2]
end
section
variable {X : Cx} {fm : Fm} {Wi : WX} {al al1 al2 : Bool} {t : OT} {f g : Rho → R D}
theorem de_al {a : Expr} (h : al1 = true → al = true) (he : PE X a (tE fm Wi al1 t f)) : PE X a (tE fm Wi al t f) :=
  PE.imp he fun σ H Q ⟨ρ, fps, er, q⟩ => ⟨ρ, fps, er, by
    cases e : f ρ with
    | ok d => rw [e] at q; exact fun v H' fp s x => q v H' fp s (x.al_imp h)
    | exn c ps => rw [e] at q; exact q
    | stk => rw [e] at q; exact q⟩
theorem de_bv {a : Expr} (he : PE X a (tE fm Wi al1 .fr f)) : PE X a (tE fm Wi al t fun ρ => bv (f ρ)) :=
  PE.imp he fun σ H Q ⟨ρ, fps, er, q⟩ => ⟨ρ, fps, er, by
    dsimp only at q
    unfold bv at q
    cases e : f ρ with
    | ok d =>
      rw [e] at q
      cases d with
      | bl b =>
        intro v H' fp s x
        obtain rfl := x.read.bl
        exact OKE.bl q s
      | _ => exact q.elim
    | exn c ps => rw [e] at q; exact q
    | stk => rw [e] at q; exact q⟩
theorem de_eq {a : Expr} {f' : Rho → R D} (h : ∀ ρ, f' ρ = f ρ) (he : PE X a (tE fm Wi al t f)) : PE X a (tE fm Wi al t f') := by
  have e : f' = f := funext h
  rw [e]; exact he
end
end L2.Py

set_option maxRecDepth 100000
set_option maxHeartbeats 1000000
namespace L2.Py
open PySem PySem.Spec PyProof.Rows TL
theorem stepD_noX (x k : D) : NoX (stepD x k) := by
  unfold stepD
  split <;> first | exact atD_noX _ _ | exact NoX.stk
theorem atPath_noX : ∀ (ps : List D) (d : D), NoX (atPath ps d)
  | [], d => NoX.ok
  | k :: ks, d => NoX.bind (stepD_noX d k) fun x => atPath_noX ks x
theorem updAt_noX {f : D → R D} (hf : ∀ x, NoX (f x)) : ∀ (ps : List D) (d : D), NoX (updAt f ps d)
  | [], d => hf d
  | k :: ks, d => by
    unfold updAt
    split
    · split
      · split
        · split
          · exact NoX.bind (updAt_noX hf ks _) fun _ => NoX.ok
          · exact NoX.stk
        · exact NoX.stk
      · exact NoX.stk
    · split
      · split
        · split
          · exact NoX.bind (updAt_noX hf ks _) fun _ => NoX.ok
          · exact NoX.stk
        · exact NoX.stk
      · exact NoX.stk
    · exact NoX.stk
def mutL : Mt → List D → List D → R (List D)
  | .append, [v], xs => if xs.length < lim then .ok (xs ++ [v]) else .stk
  | .insert, [.int i, v], xs => if decide (xs.length < lim) && decide (0 ≤ i) && small62 i then .ok (xs.take i.toNat ++ v :: xs.drop i.toNat) else .stk
  | .clear, [], _ => .ok []
  | _, _, _ => .stk
def mutOk (m : Mt) : Bool := match m with | .append => true | .insert => true | .clear => true | _ => false
theorem mutD_eq {m : Mt} (h : mutOk m = true) (as : List D) (x : D) : mutD m as x = match x with | .lst xs => mutL m as xs >>= fun ys => .ok (.lst ys) | _ => .stk := by
  cases m <;> first | (cases h; done) | skip
  · rcases as with _ | ⟨v, _ | ⟨w, r⟩⟩ <;> cases x <;> first | rfl | (unfold mutD mutL; dsimp only; split <;> rfl)
  · rcases as with _ | ⟨v, _ | ⟨w, _ | ⟨u, r⟩⟩⟩ <;> cases x <;> first | rfl | (cases v <;> first | rfl | (unfold mutD mutL; dsimp only; split <;> rfl))
  · rcases as with _ | ⟨v, r⟩ <;> cases x <;> rfl
theorem mutL_noX (m : Mt) (as xs : List D) : NoX (mutL m as xs) := by
  unfold mutL
  split <;> first | exact NoX.stk | exact NoX.ok | exact NoX.ite NoX.ok NoX.stk
theorem mutD_noX {m : Mt} (h : mutOk m = true) (as : List D) (x : D) : NoX (mutD m as x) := by
  rw [mutD_eq h]
  split
  · exact NoX.bind (mutL_noX _ _ _) fun _ => NoX.ok
  · exact NoX.stk
def argO (t : OT) : Mt → Nat → OT
  | .insert, 0 => .fr
  | _, _ => t
structure MtL (X : Cx) (K : KF) (m : Mt) (id : String) (r : V → List V → Hp → VK → Prop) : Prop where
  mt : MtR X id r
  op : ∀ {H2 : Hp} {t : OT} {as xs ys : List D} {vs us : List V} {fp1 fpa : List Addr} {F : Addr → Prop}, mutL m as xs = .ok ys → RepL K H2 F xs (fun _ => t) vs fp1 → RepL K H2 F as (argO t m) us fpa → (fp1 ++ fpa).Nodup →
    ∃ ws fp2, RepL K H2 F ys (fun _ => t) ws fp2 ∧ fp2.Nodup ∧ (∀ b ∈ fp2, b ∈ fp1 ∨ b ∈ fpa) ∧ ∀ a Q, H2 a = some (.lst vs) → Q .non (upd H2 a (.lst ws)) → r (.ref a) us H2 Q
theorem RepL.cut {K : KF} {H : Hp} {F : Addr → Prop} {t : OT} : ∀ (n : Nat) {xs : List D} {vs : List V} {fp : List Addr}, RepL K H F xs (fun _ => t) vs fp → ∃ f1 f2, fp = f1 ++ f2 ∧ RepL K H F (xs.take n) (fun _ => t) (vs.take n) f1 ∧ RepL K H F (xs.drop n) (fun _ => t) (vs.drop n) f2
  | 0, xs, vs, fp, h => ⟨[], fp, rfl, by rw [List.take_zero, List.take_zero]; exact RepL.nil, h⟩
  | n + 1, [], vs, fp, h => by
    obtain ⟨rfl, rfl⟩ := h.nil_inv
    exact ⟨[], [], rfl, RepL.nil, RepL.nil⟩
  | n + 1, d :: ds, vs, fp, h => by
    obtain ⟨v, r, f1, f2, rfl, rfl, h1, h2⟩ := h.uncons
    obtain ⟨g1, g2, rfl, q1, q2⟩ := RepL.cut n h2
    exact ⟨f1 ++ g1, g2, by rw [List.append_assoc], RepL.cons (f := fun _ => t) h1 q1, q2⟩
theorem mtL_append {X : Cx} {K : KF} : MtL X K .append "list.append" rAppend where
  mt := mt_append
  op := fun {H2 t as xs ys vs us fp1 fpa F} h r1 r2 nd => by
    rcases as with _ | ⟨v, _ | ⟨w, r⟩⟩ <;> first | (cases h; done) | skip
    unfold mutL at h
    dsimp only at h
    split at h
    · rename_i hz
      injection h with h
      subst h
      obtain ⟨u, r, f1, f2, rfl, rfl, q1, q2⟩ := r2.uncons
      obtain ⟨rfl, rfl⟩ := q2.nil_inv
      rw [List.append_nil] at nd ⊢
      have := RepL.app r1 (RepL.cons (f := fun _ => t) q1 RepL.nil)
      rw [List.append_nil] at this
      exact ⟨vs ++ [u], _, this, nd, fun b hb => List.mem_append.mp hb, fun a Q e q => ⟨a, vs, u, rfl, rfl, e, by rw [RepL.length r1, sizeLine_eq]; exact hz, q⟩⟩
    · cases h
theorem mtL_insert {X : Cx} {K : KF} : MtL X K .insert "list.insert" (fun x vs H Q => ∃ (l : Addr) (xs : List V) (i : Int) (y : V), x = .ref l ∧ vs = [.int i, y] ∧ H l = some (.lst xs) ∧ xs.length < sizeLine ∧ 0 ≤ i ∧ i < 2 ^ 63 ∧
    Q .non (upd H l (.lst (xs.take i.toNat ++ [y] ++ xs.drop i.toNat)))) where
  mt := mt_insert
  op := fun {H2 t as xs ys vs us fp1 fpa F} h r1 r2 nd => by
    unfold mutL at h
    split at h <;> first | contradiction | (cases h; done) | skip
    rename_i i v _
    split at h
    · rename_i hz
      simp only [Bool.and_eq_true, decide_eq_true_eq, small62] at hz
      injection h with h
      subst h
      obtain ⟨u, r, f1, f2, rfl, rfl, q1, q2⟩ := r2.uncons
      obtain ⟨u2, r, f3, f4, rfl, rfl, q3, q4⟩ := q2.uncons
      obtain ⟨rfl, rfl⟩ := q4.nil_inv
      simp only [Rep] at q1
      obtain ⟨rfl, rfl⟩ := q1
      have q3 : Rep K H2 F v t u2 f3 := q3
      obtain ⟨g1, g2, rfl, c1, c2⟩ := RepL.cut i.toNat r1
      rw [List.nil_append, List.append_nil] at nd
      refine ⟨vs.take i.toNat ++ u2 :: vs.drop i.toNat, g1 ++ (f3 ++ g2), RepL.app c1 (RepL.cons (f := fun _ => t) q3 c2), ?_, fun b hb => ?_, fun a Q e q => ⟨a, vs, i, u2, rfl, rfl, e, by rw [RepL.length r1, sizeLine_eq]; exact hz.1.1, hz.1.2, by omega, ?_⟩⟩
      · have p : (g1 ++ (f3 ++ g2)).Perm (g1 ++ g2 ++ f3) := by
          rw [List.append_assoc]
          exact List.Perm.append_left _ List.perm_append_comm
        exact p.nodup_iff.mpr nd
      · rw [List.nil_append, List.append_nil]
        rcases List.mem_append.mp hb with z | z
        · exact .inl (List.mem_append_left _ z)
        · rcases List.mem_append.mp z with z | z
          · exact .inr z
          · exact .inl (List.mem_append_right _ z)
      · have e : vs.take i.toNat ++ [u2] ++ vs.drop i.toNat = vs.take i.toNat ++ u2 :: vs.drop i.toNat := by simp [List.append_assoc]
        rw [e]
        exact q
    · cases h
theorem mtL_clear {X : Cx} {K : KF} : MtL X K .clear "list.clear" rClear where
  mt := mt_clear
  op := fun {H2 t as xs ys vs us fp1 fpa F} h r1 r2 nd => by
    rcases as with _ | ⟨v, r⟩ <;> first | (cases h; done) | skip
    injection h with h
    subst h
    obtain ⟨rfl, rfl⟩ := r2.nil_inv
    exact ⟨[], [], RepL.nil, List.nodup_nil, (fun b hb => nomatch hb), fun a Q e q => ⟨a, vs, rfl, rfl, e, q⟩⟩
section
variable {X : Cx} {fm : Fm} {Wi : WX} {al al1 al2 : Bool} {t res : OT} {f g : Rho → R D} {ot ot' ot'' : Nat → OT} {ρ : Rho} {σ : St} {H H1 H2 : Hp} {fps fps1 : Fps}
def mutRun (i : Nat) (gp : Rho → R (List D)) (m : Mt) (ga : Rho → R (List D)) (ρ : Rho) : Out :=
  .ofR ρ (ρ.get i) fun x => .ofR ρ (gp ρ) fun ps => .ofR ρ (atPath ps x) fun y => match y with
    | .lst _ => .ofR ρ (ga ρ) fun as => .ofR ρ (updAt (mutD m as) ps x) fun x' => .next (ρ.put i x')
    | _ => .stk
theorem mutRun_inv {i : Nat} {gp : Rho → R (List D)} {m : Mt} {ga : Rho → R (List D)} {En : Ends} (hn : ∀ ρ, NoX (gp ρ)) (h : OKS fm Wi res ot' (mutRun i gp m ga ρ) H fps En) :
    ∃ x ps xs, ρ[i]? = some (some x) ∧ gp ρ = .ok ps ∧ atPath ps x = .ok (.lst xs) ∧ OKS fm Wi res ot' (.ofR ρ (ga ρ) fun as => .ofR ρ (updAt (mutD m as) ps x) fun x' => .next (ρ.put i x')) H fps En := by
  unfold mutRun Rho.get at h
  split at h
  · rename_i x e
    rw [ofR_ok] at h
    cases e1 : gp ρ with
    | ok ps =>
      rw [e1, ofR_ok] at h
      cases e2 : atPath ps x with
      | ok y =>
        rw [e2, ofR_ok] at h
        cases y with
        | lst xs => exact ⟨x, ps, xs, e, rfl, e2, h⟩
        | _ => exact h.elim
      | exn c p => exact absurd e2 (atPath_noX ps x c p)
      | stk => rw [e2] at h; exact h.elim
    | exn c p => exact absurd e1 (hn ρ c p)
    | stk => rw [e1] at h; exact h.elim
  · exact h.elim
theorem d_mutA {i n : Nat} {pe e : Expr} {es : List Expr} {apos cpos pos : Pos} {gp ga : Rho → R (List D)} {m : Mt} {name : Str} {id : String} {r : V → List V → Hp → VK → Prop} (M : MtL X fm.K m id r) (hm : mutOk m = true)
    (slot : Slot "list" name id) (hty : typeOf (.builtin id) = pure (.type "method_descriptor")) (hK : fm.K = X.kw) (hp : PE X pe (tP (fm.w ot) i gp)) (hn : ∀ ρ, NoX (gp ρ)) (hl : ∀ ρ ps, gp ρ = .ok ps → ps.length = n) (ho : ot i = owN n (.ow t))
    (ha : PA X (e :: es) (tL (fm.w ot) Wi false (argO t m) ga)) (hs : (e :: es).all noStar = true) (h0 : noSuper pe = true) (h1 : (apos.endLine == cpos.line) = true) (h2 : (e :: es).length < 30) :
    PS X (.Expr (.Call (.Attribute pe name apos) (e :: es) [] cpos) pos) (tB fm Wi res ot ot (mutRun i gp m ga)) := by
  have hs' := hs
  simp only [List.all_cons, Bool.and_eq_true] at hs'
  have hb := back_of (pos := cpos) (env := X.env) hs'.2
  have hall : (backTo cpos (starEach (e :: es) X.env)).all (fun x => !x.1) = true := by
    have q := back_of (pos := cpos) (env := X.env) hs
    rw [List.any_eq_false] at q
    rw [List.all_eq_true]
    intro x hx
    simpa using q x hx
  have pe' := pe_bm (r := r) (cpos := cpos) (apos := apos) F.plainAttrs_list slot hty M.mt hp ha (super_of h0) (by rw [hall]; show (true && true && decide ((e :: es).length + 0 + 0 < 30)) = true; simpa using h2) h1 (star_of hs'.1) hb
  refine PS.imp (ps_expr pe' rfl) fun En σ H ⟨ρ, fps, er, h⟩ => ?_
  obtain ⟨x, ps, xs, e1, e2, e3, h⟩ := mutRun_inv hn h
  obtain ⟨v0, s0, _⟩ := er.rep i x e1
  refine ⟨ρ, fps, x, v0, ps, _, er, e1, s0, e2, e3, fun v' H1 s av rd => ?_⟩
  obtain ⟨a, vs, rfl, q1, _⟩ := Rep.lst_inv rd
  refine ⟨.inl ⟨rfl, vs, SqL.of q1.1⟩, ρ, fps, er.ext s, OKS.ofL (er.ext s) (OKS.same s h) fun as us H2 fpa e4 hk s2 xr => ?_⟩
  have s12 := s.trans s2
  cases e5 : updAt (mutD m as) ps x with
  | exn c p => exact absurd e5 (updAt_noX (mutD_noX hm as) ps x c p)
  | stk => rw [e5] at hk; exact hk.elim
  | ok x' =>
    rw [e5, ofR_ok] at hk
    have efn : mutD m as = fun x => match x with | .lst xs => mutL m as xs >>= fun ys => .ok (.lst ys) | _ => .stk := funext (mutD_eq hm as)
    rw [efn] at e5
    obtain ⟨v1, a', vs', ws, fp', f1, f2, f3, f4, f5, f6⟩ := (er.ext s).mutate (t := t) (P := fun vs ws => ∀ a Q, H2 a = some (.lst vs) → Q .non (upd H2 a (.lst ws)) → r (.ref a) us H2 Q) s2 e1 (by rw [hl ρ ps e2]; exact ho) xr e5 (fun q1 q2 q3 q4 => M.op q1 q2 q3 q4)
    rw [s0] at f1
    injection f1 with f1
    injection f1 with f1
    subst f1
    have ea := (av.same s2).det f2
    injection ea with ea
    subst ea
    exact f4 _ _ f3 (hk σ _ _ f5 f6)
theorem d_mut0 {i n : Nat} {pe : Expr} {apos cpos pos : Pos} {gp : Rho → R (List D)} {m : Mt} {name : Str} {id : String} {r : V → List V → Hp → VK → Prop} (M : MtL X fm.K m id r) (hm : mutOk m = true)
    (slot : Slot "list" name id) (hty : typeOf (.builtin id) = pure (.type "method_descriptor")) (hK : fm.K = X.kw) (hp : PE X pe (tP (fm.w ot) i gp)) (hn : ∀ ρ, NoX (gp ρ)) (hl : ∀ ρ ps, gp ρ = .ok ps → ps.length = n) (ho : ot i = owN n (.ow t))
    (h0 : noSuper pe = true) (h1 : (apos.endLine == cpos.line) = true) :
    PS X (.Expr (.Call (.Attribute pe name apos) [] [] cpos) pos) (tB fm Wi res ot ot (mutRun i gp m fun _ => .ok [])) := by
  have pe' := pe_bm0 (r := r) (cpos := cpos) (apos := apos) F.plainAttrs_list slot hty M.mt hp (super_of h0) h1
  refine PS.imp (ps_expr pe' rfl) fun En σ H ⟨ρ, fps, er, h⟩ => ?_
  obtain ⟨x, ps, xs, e1, e2, e3, h⟩ := mutRun_inv hn h
  obtain ⟨v0, s0, _⟩ := er.rep i x e1
  refine ⟨ρ, fps, x, v0, ps, _, er, e1, s0, e2, e3, fun v' H1 s av rd => ?_⟩
  obtain ⟨a, vs, rfl, q1, _⟩ := Rep.lst_inv rd
  refine ⟨.inl ⟨rfl, vs, SqL.of q1.1⟩, ?_⟩
  have hk := OKS.same s h
  rw [ofR_ok] at hk
  cases e5 : updAt (mutD m []) ps x with
  | exn c p => exact absurd e5 (updAt_noX (mutD_noX hm []) ps x c p)
  | stk => rw [e5] at hk; exact hk.elim
  | ok x' =>
    rw [e5, ofR_ok] at hk
    have efn : mutD m [] = fun x => match x with | .lst xs => mutL m [] xs >>= fun ys => .ok (.lst ys) | _ => .stk := funext (mutD_eq hm [])
    rw [efn] at e5
    obtain ⟨v1, a', vs', ws, fp', f1, f2, f3, f4, f5, f6⟩ := (er.ext s).mutate (t := t) (ft := argO t m) (P := fun vs ws => ∀ a Q, H1 a = some (.lst vs) → Q .non (upd H1 a (.lst ws)) → r (.ref a) [] H1 Q) (Same.refl _) e1 (by rw [hl ρ ps e2]; exact ho) XRL.nil e5 (fun q1 q2 q3 q4 => M.op q1 q2 q3 q4)
    rw [s0] at f1
    injection f1 with f1
    injection f1 with f1
    subst f1
    have ea := av.det f2
    injection ea with ea
    subst ea
    exact f4 _ _ f3 (hk σ _ _ f5 f6)
end
end L2.Py

set_option maxRecDepth 100000
set_option maxHeartbeats 1000000
namespace L2.Py
open PySem PySem.Spec PyProof.Rows TL
structure XRM (fm : Fm) (n : Nat) (fps : Fps) (H H' : Hp) (ms : List Nat) (ds : List D) (f : Nat → OT) (vs : List V) (fp : List Addr) : Prop where
  rep : RepL fm.K H' (fun a => (Fz fm fps a ∨ H a = none) ∧ a ∉ fp) ds f vs fp
  nd : fp.Nodup
  new : ∀ a ∈ fp, H a = none ∨ ∃ i ∈ ms, i < n ∧ a ∈ fps i
def OKM (fm : Fm) (Wi : WX) (n : Nat) (ms : List Nat) (f : Nat → OT) (r : R (List D)) (σ : St) (H : Hp) (fps : Fps) (Q : List V → Hp → Prop) : Prop :=
  match r with
  | .ok d => ∀ v H' fp, Same H H' → XRM fm n fps H H' ms d f v fp → Q v H'
  | .exn c ps => ∀ cls dx H', Same H H' → ExnR fm H' c ps cls dx → Wi cls dx σ H'
  | .stk => False
def tLM (fm : Fm) (Wi : WX) (ms : List Nat) (t : Nat → OT) (f : Rho → R (List D)) : TA := fun σ H Q => ∃ ρ fps, ER fm ρ σ H fps ∧ OKM fm Wi ρ.length ms t (f ρ) σ H fps Q
section
variable {X : Cx} {fm : Fm} {Wi : WX} {al al1 al2 : Bool} {t res : OT} {f g : Rho → R D} {ot ot' ot'' : Nat → OT} {ρ : Rho} {σ : St} {H H1 H2 : Hp} {fps fps1 : Fps}
theorem dm_nil {ft : Nat → OT} : PA X [] (tLM fm Wi [] ft fun _ => .ok []) :=
  PA.imp pa_nil fun σ H Q ⟨ρ, fps, er, h⟩ => h [] H [] (Same.refl _) ⟨RepL.nil, List.nodup_nil, fun _ h => nomatch h⟩
theorem dm_cons {ms : List Nat} {e : Expr} {es : List Expr} {ft : Nat → OT} {gs : Rho → R (List D)} (he : PE X e (tE fm Wi false (ft 0) f)) (hs : PA X es (tLM fm Wi ms (fun i => ft (i + 1)) gs)) (hst : noStar e = true) :
    PA X (e :: es) (tLM fm Wi ms ft fun ρ => do let x ← f ρ; let xs ← gs ρ; pure (x :: xs)) := by
  refine PA.imp (pa_cons he hs (star_of hst)) fun σ H Q ⟨ρ, fps, er, h⟩ => ?_
  refine ⟨ρ, fps, er, ?_⟩
  dsimp only at h
  cases e1 : f ρ with
  | stk => rw [e1] at h; exact h
  | exn c ps => rw [e1] at h; exact h
  | ok d =>
    rw [e1] at h
    intro v H1 f1 s1 x1
    have t1 := Rep.trk _ _ _ _ x1.rep
    refine ⟨ρ, addT fps ρ.length f1, er.temp s1 x1.nd x1.new t1, ?_⟩
    have h' : OKM fm Wi ρ.length ms ft (gs ρ >>= fun xs => pure (d :: xs)) σ H fps Q := h
    cases e2 : gs ρ with
    | stk => rw [e2] at h'; exact h'
    | exn c ps =>
      rw [e2] at h'
      exact fun cls dx H' s2 => h' cls dx H' (s1.trans s2)
    | ok ds =>
      rw [e2] at h'
      intro vs H2 f2 s2 y
      have ynew : ∀ a ∈ f2, H1 a = none ∨ ∃ i ∈ ms, i < ρ.length ∧ a ∈ fps i := fun a ha => (y.new a ha).imp id fun ⟨i, h1, h2, h3⟩ => ⟨i, h1, h2, by
        unfold addT at h3
        rw [if_neg (by omega)] at h3
        exact h3⟩
      have dj : ∀ a ∈ f1, a ∉ f2 := fun a h1 h2 => by
        rcases ynew a h2 with z | ⟨i, _, _, z⟩
        · exact t1 a h1 z
        · exact er.trk i a z (x1.new a h1)
      refine h' (v :: vs) H2 (f1 ++ f2) (s1.trans s2) ⟨RepL.cons ?_ ?_, List.nodup_append.mpr ⟨x1.nd, y.nd, fun a ha b hb e => dj a ha (e ▸ hb)⟩, fun a h => ?_⟩
      · refine Rep.leaves _ _ _ _ (Leaves.same s2 fun a ha q => ?_) x1.rep
        rcases q with q | ⟨q1, q2⟩
        · cases q
        · refine ⟨q1, fun h => ?_⟩
          rcases List.mem_append.mp h with h | h
          · exact q2 h
          · rcases ynew a h with z | ⟨i, _, _, z⟩
            · exact ha z
            · rcases q1 with q1 | q1
              · exact q1.2 i z
              · exact er.trk i a z q1
      · refine RepL.leaves _ _ _ _ (Leaves.same (Same.refl _) fun a ha q => ?_) y.rep
        obtain ⟨q1, q2⟩ := q
        rcases q1 with q1 | q1
        · refine ⟨.inl ⟨q1.1, fun i h => q1.2 i ?_⟩, fun h => ?_⟩
          · unfold addT
            split
            · exact List.mem_append_left _ h
            · exact h
          · rcases List.mem_append.mp h with h | h
            · refine q1.2 ρ.length ?_
              unfold addT
              rw [if_pos rfl]
              exact List.mem_append_right _ h
            · exact q2 h
        · refine ⟨.inr (s1.free q1), fun h => ?_⟩
          rcases List.mem_append.mp h with h | h
          · exact t1 a h q1
          · exact q2 h
      · rcases List.mem_append.mp h with h | h
        · exact .inl (x1.new a h)
        · exact (ynew a h).imp s1.free id
theorem dm_mv {i : Nat} {ms : List Nat} {x : Str} {pos : Pos} {es : List Expr} {ft : Nat → OT} {gs : Rho → R (List D)} (hN : X.N[i]? = some x) (hv : Vis X.env.scope x) (hd : (x == ("__debug__" : Str)) = false) (hcd : (x == ("__classdict__" : Str)) = false)
    (ho : fm.ot i = ft 0) (hi : i ∉ ms) (hs : PA X es (tLM fm Wi ms (fun i => ft (i + 1)) gs)) :
    PA X (.Name x pos :: es) (tLM fm Wi (i :: ms) ft fun ρ => do let x ← ρ.get i; let xs ← gs ρ; pure (x :: xs)) := by
  refine PA.imp (pa_cons (pe_var (pos := pos) hN hv hd hcd) hs (star_of rfl)) fun σ H Q ⟨ρ, fps, er, h⟩ => ?_
  dsimp only at h
  unfold Rho.get at h
  split at h
  · rename_i d e
    obtain ⟨v, e1, r⟩ := er.rep i d e
    rw [ho] at r
    refine ⟨v, e1, ρ, fps, er, ?_⟩
    have hil : i < ρ.length := (List.getElem?_eq_some_iff.mp e).1
    have h' : OKM fm Wi ρ.length (i :: ms) ft (gs ρ >>= fun xs => pure (d :: xs)) σ H fps Q := h
    cases e2 : gs ρ with
    | stk => rw [e2] at h'; exact h'
    | exn c ps => rw [e2] at h'; exact h'
    | ok ds =>
      rw [e2] at h'
      intro vs H2 f2 s2 y
      have dj : ∀ a ∈ fps i, a ∉ f2 := fun a h1 h2 => by
        rcases y.new a h2 with z | ⟨j, hj, _, z⟩
        · exact er.trk i a h1 z
        · exact er.dj i j a (fun w => hi (w ▸ hj)) h1 z
      refine h' (v :: vs) H2 (fps i ++ f2) s2 ⟨RepL.cons ?_ ?_, List.nodup_append.mpr ⟨er.nd i, y.nd, fun a ha b hb e => dj a ha (e ▸ hb)⟩, fun a h => ?_⟩
      · refine Rep.leaves _ _ _ _ (Leaves.same s2 fun a ha q => ?_) r
        refine ⟨.inl q, fun h => ?_⟩
        rcases List.mem_append.mp h with h | h
        · exact q.2 i h
        · rcases y.new a h with z | ⟨j, _, _, z⟩
          · exact ha z
          · exact q.2 j z
      · refine RepL.leaves _ _ _ _ (Leaves.same (Same.refl _) fun a ha q => ?_) y.rep
        obtain ⟨q1, q2⟩ := q
        refine ⟨q1, fun h => ?_⟩
        rcases List.mem_append.mp h with h | h
        · rcases q1 with q1 | q1
          · exact q1.2 i h
          · exact er.trk i a h q1
        · exact q2 h
      · rcases List.mem_append.mp h with h | h
        · exact .inr ⟨i, List.mem_cons_self, hil, h⟩
        · exact (y.new a h).imp id fun ⟨j, h1, h2⟩ => ⟨j, List.mem_cons_of_mem _ h1, h2⟩
  · exact h.elim
theorem d_retT {ms : List Nat} {es : List Expr} {k : Nat} {pos pos' : Pos} {gs : Rho → R (List D)} (h : PA X es (tLM (fm.w ot) Wi ms res.comps gs)) (hn : ∀ ρ ds, gs ρ = .ok ds → ds.length ≤ 1000) (hio : fm.io = none) :
    PS X (.Return (some (.Tuple es k pos')) pos) (tB fm Wi res ot ot' fun ρ => .ofR ρ (do let xs ← gs ρ; pure (D.tup xs)) fun d => .ret d ρ) :=
  PS.imp (ps_ret (pe_tup h)) fun En σ H ⟨ρ, fps, er, q⟩ => by
    refine ⟨ρ, fps, er, ?_⟩
    dsimp only at q
    cases e : gs ρ with
    | stk => rw [e] at q; exact q.elim
    | exn c ps => rw [e] at q; exact fun cls dx H' s ex => q cls dx σ H' (er.ext s).freeze (Leaves.same s fun _ _ z => fz_nof z) ex
    | ok ds =>
      rw [e] at q
      intro vs H1 fp s x
      refine ⟨few_line (by rw [RepL.length x.rep]; exact hn ρ ds e), fun p hp => q (.ref p) _ ⟨fp, [], ?_, fun a ha z => er.lent a ha ((sameUpd s hp).free z), x.nd, fun a ha => ?_, by unfold IoR; rw [hio], ?_⟩⟩
      · exact fun a o e n => sameUpd s hp _ _ (er.frame a o e n)
      · rcases x.new a ha with z | ⟨i, _, _, z⟩
        · exact .inl (er.h0 z)
        · exact er.new i a z
      · simp only [Rep]
        refine ⟨p, vs, rfl, upd_same, ?_⟩
        refine RepL.leaves _ _ _ _ (Leaves.same (sameUpd (Same.refl _) hp) fun a ha z => ?_) x.rep
        refine ⟨?_, z.2, fun h => nomatch h⟩
        rcases z.1 with z | z
        · exact z.1
        · exact .inr (.inl (er.h0 z))
end
end L2.Py

set_option maxRecDepth 100000
set_option maxHeartbeats 2000000
namespace L2.Py
open PySem PySem.Spec PyProof.Rows TL
section
variable {prog : Program} {w : World} {A : Around} {E : Value → Shared → Prop} {s : Shared}
variable {z TI TO i1 i2 l1 l2 : Addr} {xs ys : Array Value} {S1 S2 : Nat → Heap → Prop} {a b x y : Value} {i : Nat}
end
section
variable {X : Cx} {fm : Fm} {Wi : WX} {al : Bool}
end
end L2.Py

set_option maxRecDepth 100000
set_option maxHeartbeats 1000000
namespace L2.Py
open PySem PySem.Spec PyProof.Rows TL
theorem RepM.snoc {K : KF} {H : Hp} {F : Addr → Prop} {κ : Type} {kf : κ → D} {t : OT} {k : κ} {d : D} {v : V} {f2 : List Addr} (r : Rep K H F d t v f2) : ∀ {es : List D} {kvs : List (κ × V)} {fp : List Addr}, RepM K H F es κ kf t kvs fp → RepM K H F (es ++ [.tup [kf k, d]]) κ kf t (kvs ++ [(k, v)]) (fp ++ f2)
  | [], kvs, fp, h => by
    obtain ⟨rfl, rfl⟩ := h.nil_inv
    have := RepM.cons (k := k) (kf := kf) r (RepM.nil (K := K) (H := H) (F := F) (kf := kf) (t := t))
    rw [List.append_nil] at this
    exact this
  | e :: es, kvs, fp, h => by
    obtain ⟨k', v', r', f1, f3, d', rfl, rfl, rfl, h1, h2⟩ := h.uncons
    have := RepM.cons (k := k') (kf := kf) h1 (RepM.snoc (k := k) r h2)
    rw [List.append_assoc]
    exact this
where
  RepM.nil {K : KF} {H : Hp} {F : Addr → Prop} {κ : Type} {kf : κ → D} {t : OT} : RepM K H F [] κ kf t [] [] := by simp only [RepM]; exact ⟨trivial, trivial⟩
theorem RepM.nil {K : KF} {H : Hp} {F : Addr → Prop} {κ : Type} {kf : κ → D} {t : OT} : RepM K H F [] κ kf t [] [] := by simp only [RepM]; exact ⟨trivial, trivial⟩
theorem RepM.repl {K : KF} {H : Hp} {F : Addr → Prop} {κ : Type} [DecidableEq κ] {kf : κ → D} (hk : ∀ a b, (kf a).eqv (kf b) = decide (a = b)) {d : D} {v : V} (k : κ) (r : Rep K H F d .fr v []) : ∀ {es : List D} {kvs : List (κ × V)}, RepM K H F es κ kf .fr kvs [] →
    RepM K H F (drepl es (kf k) d) κ kf .fr (kvs.map fun kv => if kv.1 = k then (kv.1, v) else kv) []
  | [], kvs, h => by
    obtain ⟨rfl, _⟩ := h.nil_inv
    exact RepM.nil
  | e :: es, kvs, h => by
    obtain ⟨k', v', r', f1, f2, d', rfl, e2, rfl, h1, h2⟩ := h.uncons
    obtain ⟨rfl, h1⟩ := Rep.fr_nil h1
    obtain rfl : f2 = [] := by simpa using e2
    have ih := RepM.repl hk k r h2
    by_cases e : k' = k
    · subst e
      have e1 : drepl (.tup [kf k', d'] :: es) (kf k') d = .tup [kf k', d] :: drepl es (kf k') d := by
        show (if (kf k').eqv (kf k') = true then _ else _) = _
        rw [hk, decide_eq_true rfl, if_pos rfl]
      rw [e1, List.map_cons, if_pos rfl]
      exact RepM.cons (f1 := []) (f2 := []) r ih
    · have e1 : drepl (.tup [kf k', d'] :: es) (kf k) d = .tup [kf k', d'] :: drepl es (kf k) d := by
        show (if (kf k').eqv (kf k) = true then _ else _) = _
        rw [hk, decide_eq_false e, if_neg (by simp)]
      rw [e1, List.map_cons, if_neg e]
      exact RepM.cons (f1 := []) (f2 := []) h1 ih
theorem RepM.put {K : KF} {H : Hp} {F : Addr → Prop} {κ : Type} [DecidableEq κ] {kf : κ → D} (hk : ∀ a b, (kf a).eqv (kf b) = decide (a = b)) {d : D} {v : V} (k : κ) {es : List D} {kvs : List (κ × V)} (h : RepM K H F es κ kf .fr kvs []) (r : Rep K H F d .fr v []) :
    RepM K H F (dput es (kf k) d) κ kf .fr (putK kvs k v) [] := by
  unfold dput putK
  rw [valV_any]
  rcases RepM.look hk k h with ⟨q1, q2⟩ | ⟨d', v', q1, q2, _⟩
  · rw [q1, q2, if_neg (by simp), if_neg (by simp)]
    exact RepM.snoc (f2 := []) r h
  · rw [q1, q2, if_pos (show (some d').isSome = true from rfl), if_pos (show (some v').isSome = true from rfl)]
    exact RepM.repl hk k r h
section
variable {X : Cx} {fm : Fm} {Wi : WX} {al al1 al2 : Bool} {t res : OT} {f g : Rho → R D} {ot ot' ot'' : Nat → OT} {ρ : Rho} {σ : St} {H H1 H2 : Hp} {fps fps1 : Fps}
theorem ER.node {i : Nat} {d d' : D} {a : Addr} {o : HO} (er : ER (fm.w ot) ρ σ H fps) (s : Same H H2) (hf : fps i = [a]) (e1 : σ[i]? = some (some (.ref a))) (ho : ot i ≠ .fr) (nt : ∀ vs, H2 a ≠ some (.tup vs)) (nf : ∀ o vs, H2 a ≠ some (.frz o (.lst vs))) (hb : ∃ d0, ρ[i]? = some (some d0))
    (hrep : ∀ {F : Addr → Prop}, (∀ b, H2 b ≠ none → (Fz fm fps b ∨ H b = none) → b ≠ a → F b) → Rep fm.K (upd H2 a o) F d' (ot i) (.ref a) [a]) :
    ER (fm.w ot) (ρ.put i d') σ (upd H2 a o) (setF fps i [a]) ∧ Leaves H (upd H2 a o) (Fz fm fps) (Fz fm (setF fps i [a])) [] := by
  have hset : setF fps i [a] = fps := funext fun j => by
    unfold setF
    split
    · rename_i e; rw [e, hf]
    · rfl
  refine er.chg (d := d) s (by rw [hf]; exact List.mem_cons_self) nt nf e1 (by simp) (fun b hb => .inl (by rw [hf]; exact hb)) ?_ (fun z => absurd z ho) hb
  rw [hset]
  refine hrep fun b hb hz ne => ?_
  rcases hz with hz | hz
  · exact hz
  · exact ⟨.inr (.inl (er.h0 hz)), fun k hk => er.trk k b hk hz⟩
theorem lv_upd {F F' : Addr → Prop} {a : Addr} {o : HO} (nt : ∀ vs, H2 a ≠ some (.tup vs)) (nf : ∀ o vs, H2 a ≠ some (.frz o (.lst vs))) (ne : ∀ b, F b → b ≠ a) (hF : ∀ b, H2 b ≠ none → F b → F' b) : Leaves H2 (upd H2 a o) F F' [] :=
  ⟨(fun b hb => nomatch hb),
    fun b u _ rr z => ⟨by
      rcases rr with r' | ⟨o', r'⟩
      · exact .inl (by rw [upd_ne (ne b z)]; exact r')
      · exact .inr ⟨o', by rw [upd_ne (ne b z)]; exact r'⟩, hF b (rd_ne rr) z⟩,
    fun b vs e z => ⟨by rw [upd_ne (ne b z)]; exact e, hF b (by rw [e]; exact fun z => nomatch z) z⟩,
    fun b vs e => by rw [upd_ne (fun z => nt vs (by rw [← z]; exact e))]; exact e,
    fun b o' vs e => by rw [upd_ne (fun z => nf o' vs (by rw [← z]; exact e))]; exact e⟩
def rPutA (w : World) : TSet := fun o i v H Q => rSetL o i v H Q ∨ rSetD o i v H Q ∨ rNSet w o i v H Q
theorem set_any (hu : X.A.units + 64 < cLine) : PSet X (rPutA X.w) := by
  intro pins s σ H o i v ov iv vv Q I ro ri rv h
  rcases h with h | h | h
  · exact set_list pins s σ H o i v ov iv vv Q I ro ri rv h
  rotate_left
  · exact set_nest hu pins s σ H o i v ov iv vv Q I ro ri rv h
  · exact set_dict (by omega) pins s σ H o i v ov iv vv Q I ro ri rv h
theorem RepL.setAt {K : KF} {F : Addr → Prop} : ∀ {xs : List D} {vs : List V} {j : Nat} {d : D} {v : V}, RepL K H F xs frs0 vs [] → Rep K H F d .fr v [] → RepL K H F (xs.set j d) frs0 (vs.set j v) []
  | [], vs, j, d, v, h, r => by
    obtain ⟨rfl, _⟩ := h.nil_inv
    exact RepL.nil
  | x :: xs, vs, 0, d, v, h, r => by
    obtain ⟨u, q, f1, f2, rfl, e2, h1, h2⟩ := h.uncons
    exact RepL.cons (f1 := []) (f2 := []) r (RepL.fr_nil h2).2
  | x :: xs, vs, j + 1, d, v, h, r => by
    obtain ⟨u, q, f1, f2, rfl, e2, h1, h2⟩ := h.uncons
    exact RepL.cons (f1 := []) (f2 := []) (Rep.fr_nil h1).2 (RepL.setAt (RepL.fr_nil h2).2 r)
theorem putD_noX (k v x : D) : NoX (putD k v x) := by
  intro c ps h
  unfold putD at h
  split at h
  · split at h
    · split at h <;> cases h
    · cases h
  · split at h <;> cases h
  · split at h <;> cases h
  · cases h
def putRun (i : Nat) (fv fk : Rho → R D) (ρ : Rho) : Out :=
  .ofR ρ (fv ρ) fun y => .ofR ρ (ρ.get i) fun x => .ofR ρ (fk ρ) fun kd => .ofR ρ (putD kd y x) fun x' => .next (ρ.put i x')
theorem d_put {i : Nat} {x : Str} {ke e : Expr} {p pos' pos : Pos} {fk : Rho → R D} (hK : fm.K = X.kw) (hu : X.A.units + 64 < cLine) (hN : X.N[i]? = some x) (hv : Vis X.env.scope x) (hd : (x == ("__debug__" : Str)) = false) (hcd : (x == ("__classdict__" : Str)) = false) (ho : ot i = .ow .fr)
    (he : PE X e (tE (fm.w ot) Wi false .fr f)) (hk : PE X ke (tE (fm.w ot) Wi true .fr fk)) (hsl : noSl ke = true) (hc : noComp e = true) :
    PS X (.Assign [.Subscript (.Name x p) ke pos'] e pos) (tB fm Wi res ot ot (putRun i f fk)) := by
  have hg : PG X (.Subscript (.Name x p) ke pos') (gSub (tVar i) (tE (fm.w ot) Wi true .fr fk) (rPutA X.w)) := pg_sub (pe_var hN hv hd hcd) hk (set_any hu) (fun v => by cases ke <;> first | rfl | cases hsl)
  refine PS.imp (ps_asg he hg (swSole hc) (by cases e <;> rfl)) fun En σ H ⟨ρ, fps, er, h⟩ => ⟨ρ, fps, er, OKS.ofR er h fun y u H1 fp e1 hk1 s x => ?_⟩
  obtain rfl := x.fr
  unfold Rho.get at hk1
  split at hk1
  · rename_i d ed
    rw [ofR_ok] at hk1
    obtain ⟨v0, s0, r00⟩ := er.rep i d ed
    have r0 : Rep fm.K H (Fz fm fps) d (ot i) v0 (fps i) := r00
    clear r00
    rw [ho] at r0
    refine ⟨v0, s0, ρ, fps, er.ext s, OKS.ofR (er.ext s) (OKS.same s hk1) fun kd uk H2 fp2 e2 hk2 s2 xk => ?_⟩
    have s12 := s.trans s2
    cases e3 : putD kd y d with
    | exn c ps => exact absurd e3 (putD_noX kd y d c ps)
    | stk => rw [e3] at hk2; exact hk2.elim
    | ok d' =>
      rw [e3, ofR_ok] at hk2
      rw [e2, ofR_ok, e3, ofR_ok] at hk1
      have hy : Rep fm.K H2 (fun b => Fz fm fps b ∨ H b = none) y .fr u [] := Rep.leaves _ _ _ _ (Leaves.same s2 fun b hb z => by
        rcases z with z | ⟨z, _⟩
        · cases z
        · exact z) x.rep
      have neA : ∀ {a : Addr}, fps i = [a] → ∀ b, (Fz fm fps b ∨ H b = none) → b ≠ a := fun {a} hf b z w => by
        have ha : a ∈ fps i := by rw [hf]; exact List.mem_cons_self
        rcases z with z | z
        · exact z.2 i (by rw [w]; exact ha)
        · exact er.trk i a ha (by rw [← w]; exact z)
      unfold putD at e3
      split at e3
      · rename_i xs
        split at e3
        · rename_i ki
          split at e3
          · rename_i j hj
            injection e3 with e3
            subst e3
            obtain rfl := xk.read.int
            simp only [Rep] at r0
            obtain ⟨a, vs, fp', rfl, ⟨q1, q2⟩, q3⟩ := r0
            have q3 : RepL fm.K H (Fz fm fps) xs frs0 vs fp' := q3
            obtain ⟨rfl, q3⟩ := RepL.fr_nil q3
            have ha2 := s12 _ _ q1
            refine .inl ⟨a, vs, ki, j, rfl, rfl, ha2, by rw [RepL.length q3]; exact hj, ?_⟩
            obtain ⟨g1, g2⟩ := er.node (d := .lst xs) (d' := .lst (xs.set j y)) (o := .lst (vs.set j u)) s12 q2 s0 (by rw [ho]; exact fun z => nomatch z) (fun vs z => by rw [ha2] at z; cases z) (fun o vs z => by rw [ha2] at z; cases z) ⟨_, ed⟩ (fun {F} hF => by
              rw [ho]
              simp only [Rep]
              refine ⟨a, _, [], rfl, ⟨upd_same, rfl⟩, ?_⟩
              have q4 : RepL fm.K H2 (fun b => Fz fm fps b ∨ H b = none) xs frs0 vs [] := RepL.leaves _ _ _ _ (Leaves.same s12 fun b hb z => .inl z) q3
              exact RepL.leaves _ _ _ _ (lv_upd (fun vs z => by rw [ha2] at z; cases z) (fun o vs z => by rw [ha2] at z; cases z) (neA q2) fun b hb z => hF b hb z (neA q2 b z)) (RepL.setAt q4 hy))
            exact hk1 σ _ _ g1 g2
          · cases e3
        · cases e3
      · rename_i es
        split at e3
        · rename_i hko
          simp only [Bool.and_eq_true, decide_eq_true_eq] at hko
          injection e3 with e3
          subst e3
          simp only [Rep] at r0
          obtain ⟨a, fp', kvs, xs, rfl, kn, ⟨q1, q2⟩, q3⟩ := r0
          have q3 : RepM fm.K H (Fz fm fps) es NestedKey keyN .fr kvs fp' := q3
          obtain rfl := Rep.fr_nil.goM es _ kvs fp' q3
          obtain ⟨k', b, rfl, rfl, a1, a2⟩ := keyN_of hko.1 xk.read
          have ha2 := s12 _ _ q1
          have q1' : H a = some (.ext (dnP X.w a xs)) := by rw [q1]; exact congrArg (fun w => some (HO.ext (dnP w a xs))) (KF.backw hK).symm
          have kn2 : KN H2 kvs xs := kn.mono fun c vs e => s12 c _ e
          refine .inr (.inr ⟨a, b, kvs, xs, k', rfl, rfl, s12 _ _ q1', kn2, a1, a2, by rw [← Paired.length kn, RepM.length q3, sizeLine_eq]; exact hko.2, fun xs' kn' => ?_⟩)
          have hw : dnP X.w a xs' = dnP fm.K.w a xs' := congrArg (fun w => dnP w a xs') (KF.backw hK)
          rw [hw]
          obtain ⟨g1, g2⟩ := er.node (d := .dcn es) (d' := .dcn (dput es (keyN k') y)) (o := .ext (dnP fm.K.w a xs')) s12 q2 s0 (by rw [ho]; exact fun z => nomatch z) (fun vs z => by rw [ha2] at z; cases z) (fun o vs z => by rw [ha2] at z; cases z) ⟨_, ed⟩ (fun {F} hF => by
            rw [ho]
            simp only [Rep]
            refine ⟨a, [], putK kvs k' u, xs', rfl, kn'.mono fun c vs e => ?_, ⟨upd_same, rfl⟩, ?_⟩
            · rw [upd_ne fun z => by rw [z, ha2] at e; cases e]
              exact e
            · have q4 : RepM fm.K H2 (fun b => Fz fm fps b ∨ H b = none) es NestedKey keyN .fr kvs [] := RepM.leaves _ _ _ _ _ (Leaves.same s12 fun b hb z => .inl z) q3
              exact RepM.leaves _ _ _ _ _ (lv_upd (fun vs z => by rw [ha2] at z; cases z) (fun o vs z => by rw [ha2] at z; cases z) (neA q2) fun b hb z => hF b hb z (neA q2 b z)) (RepM.put keyN_eqv k' q4 hy))
          exact hk1 σ _ _ g1 g2
        · cases e3
      · rename_i b es
        split at e3
        · rename_i hko
          simp only [Bool.and_eq_true, decide_eq_true_eq] at hko
          injection e3 with e3
          subst e3
          simp only [Rep] at r0
          obtain ⟨a, fp', rfl, r0⟩ := r0
          rcases r0 with ⟨rfl, kvs, ⟨q1, q2⟩, q3⟩ | ⟨rfl, kvs, ⟨q1, q2⟩, q3⟩
          · have q3 : RepM fm.K H (Fz fm fps) es Key keyD .fr kvs fp' := q3
            obtain rfl := Rep.fr_nil.goM es _ kvs fp' q3
            obtain ⟨k', rfl, rfl⟩ := leaf_key (show isLeaf kd = true from hko.1) xk.read
            have ha2 := s12 _ _ q1
            refine .inr (.inl ⟨a, _, rfl, DPut.k ha2 (by rw [RepM.length q3, sizeLine_eq]; exact hko.2), ?_⟩)
            obtain ⟨g1, g2⟩ := er.node (d := .dct false es) (d' := .dct false (dput es (keyD k') y)) (o := .dK (putK kvs k' u)) s12 q2 s0 (by rw [ho]; exact fun z => nomatch z) (fun vs z => by rw [ha2] at z; cases z) (fun o vs z => by rw [ha2] at z; cases z) ⟨_, ed⟩ (fun {F} hF => by
              rw [ho]
              simp only [Rep]
              refine ⟨a, [], rfl, .inl ⟨trivial, _, ⟨upd_same, rfl⟩, ?_⟩⟩
              have q4 : RepM fm.K H2 (fun b => Fz fm fps b ∨ H b = none) es Key keyD .fr kvs [] := RepM.leaves _ _ _ _ _ (Leaves.same s12 fun b hb z => .inl z) q3
              exact RepM.leaves _ _ _ _ _ (lv_upd (fun vs z => by rw [ha2] at z; cases z) (fun o vs z => by rw [ha2] at z; cases z) (neA q2) fun b hb z => hF b hb z (neA q2 b z)) (RepM.put keyD_eqv k' q4 hy))
            exact hk1 σ _ _ g1 g2
          · have q3 : RepM fm.K H (Fz fm fps) es (List Key) keyT .fr kvs fp' := q3
            obtain rfl := Rep.fr_nil.goM es _ kvs fp' q3
            obtain ⟨ks, pk, rfl, rfl, ek⟩ := tup_key (show isKeyT kd = true from hko.1) xk.read
            have ha2 := s12 _ _ q1
            refine .inr (.inl ⟨a, _, rfl, DPut.t ha2 ek (by rw [RepM.length q3, sizeLine_eq]; exact hko.2), ?_⟩)
            obtain ⟨g1, g2⟩ := er.node (d := .dct true es) (d' := .dct true (dput es (keyT ks) y)) (o := .dT (putK kvs ks u)) s12 q2 s0 (by rw [ho]; exact fun z => nomatch z) (fun vs z => by rw [ha2] at z; cases z) (fun o vs z => by rw [ha2] at z; cases z) ⟨_, ed⟩ (fun {F} hF => by
              rw [ho]
              simp only [Rep]
              refine ⟨a, [], rfl, .inr ⟨trivial, _, ⟨upd_same, rfl⟩, ?_⟩⟩
              have q4 : RepM fm.K H2 (fun b => Fz fm fps b ∨ H b = none) es (List Key) keyT .fr kvs [] := RepM.leaves _ _ _ _ _ (Leaves.same s12 fun b hb z => .inl z) q3
              exact RepM.leaves _ _ _ _ _ (lv_upd (fun vs z => by rw [ha2] at z; cases z) (fun o vs z => by rw [ha2] at z; cases z) (neA q2) fun b hb z => hF b hb z (neA q2 b z)) (RepM.put keyT_eqv ks q4 hy))
            exact hk1 σ _ _ g1 g2
        · cases e3
      · cases e3
  · exact hk1.elim
end
end L2.Py

set_option maxRecDepth 100000
set_option maxHeartbeats 1000000
namespace L2.Py
open PySem PySem.Spec PyProof.Rows TL
section
variable {X : Cx} {fm : Fm} {Wi : WX} {al al1 al2 : Bool} {t : OT} {f g : Rho → R D}
end
end L2.Py

set_option maxRecDepth 100000
set_option maxHeartbeats 2000000
namespace L2.Py
open PySem PySem.Spec PyProof.Rows TL L2
section
variable {X : Cx} {pins : List (Addr × Obj)} {σ : St} {H : Hp} {s : Shared}
structure HdR where
  x : Str
  np : Pos
  n : Str
  i : Nat
  b₀ : Stmt
  su : List Stmt
  pos : Pos
  c : Value
  ts : Addr → TS
def HdR.st (h : HdR) : ExceptHandler := .ExceptHandler (some (.Name h.x h.np)) (some h.n) (h.b₀ :: h.su) h.pos
end
structure XMk (K : PySem.W.Frag) (mg : Str → Option Value) (c : Nat) : Prop where
  gC : mg (xName c) = some (.ref (caK K c))
  xF : fldNames c = [] → PySem.W.excIn K (caK K c) [.type "ValueError", .type "Exception", .type "BaseException", .type "object"] "ValueError.__new__" = true
  kF : PySem.W.keepIn K (.ref (caK K c)) = true
  bF : PySem.W.subIn K (.ref (caK K c)) (.type "BaseException") = some true
  tF : PySem.W.typeIn K (.ref (caK K c)) = some (.type "type")
  ec : ExcC K (caK K c)
  ve : PySem.W.subIn K (.ref (caK K c)) (.type "ValueError") = some true
structure XTs (K : PySem.W.Frag) (mg : Str → Option Value) (c : Nat) : Prop where
  gC : mg (xName c) = some (.ref (caK K c))
  bF : PySem.W.subIn K (.ref (caK K c)) (.type "BaseException") = some true
  tF : PySem.W.typeIn K (.ref (caK K c)) = some (.type "type")
  hd : PySem.W.hasDictIn K (caK K c) = true
structure XcOk (K : PySem.W.Frag) (mg : Str → Option Value) (sub : Sub) (ts : List Nat) : Prop where
  md : ∀ c, sub c c = true → XMk K mg c
  tt : ∀ k ∈ ts, XTs K mg k
  rel : ∀ c k, sub c c = true → k ∈ ts → PySem.W.subIn K (.ref (caK K c)) (.ref (caK K k)) = some (sub c k)
  kit : ∀ c k, sub c c = true → k ∈ ts → PySem.W.kitOne K (.ref (caK K c)) (.ref (caK K k)) = some (sub c k)
section
variable {X : Cx} {fm : Fm} {Wi : WX} {al al1 al2 : Bool} {t res : OT} {f g : Rho → R D} {ot ot' ot1 : Nat → OT} {ρ : Rho} {σ : St} {H H1 H2 : Hp} {fps fps1 : Fps} {sub : Sub} {ts : List Nat}
theorem ER.del (i : Nat) (x : Option V) (er : ER fm ρ σ H fps) : ER fm (ρ.del i) (σ.set i x) H fps where
  len := by rw [Rho.del, List.length_set, List.length_set]; exact er.len
  rep := fun j d e => by
    unfold Rho.del at e
    rw [List.getElem?_set] at e
    by_cases hij : i = j
    · rw [if_pos hij] at e
      split at e <;> cases e
    · rw [if_neg hij] at e
      rw [List.getElem?_set_ne hij]
      exact er.rep j d e
  nil := fun j hj e => er.nil j (by rw [Rho.del, List.length_set] at hj; exact hj) e
  nd := er.nd
  dj := er.dj
  new := er.new
  trk := er.trk
  frame := er.frame
  lent := er.lent
  io := fun j a t e hj y ey => by
    unfold Rho.del at ey
    rw [List.getElem?_set] at ey
    by_cases hij : i = j
    · rw [if_pos hij] at ey
      split at ey <;> cases ey
    · rw [if_neg hij] at ey
      rw [List.getElem?_set_ne hij]
      exact er.io j a t e hj y ey
end
end L2.Py

set_option maxRecDepth 100000
set_option maxHeartbeats 2000000
namespace L2.Py
open PySem PySem.Spec PyProof.Rows TL L2
mutual
theorem Rep.own {K : KF} {H : Hp} {F F' : Addr → Prop} : ∀ (d : D) (t : OT) (v : V) (fp : List Addr), d.ownAt t = true → Rep K H F d t v fp → Rep K H F' d t v fp
  | .non, _, _, _, _, h => by simp only [Rep] at h ⊢; exact h
  | .bl _, _, _, _, _, h => by simp only [Rep] at h ⊢; exact h
  | .int _, _, _, _, _, h => by simp only [Rep] at h ⊢; exact h
  | .str _, _, _, _, _, h => by simp only [Rep] at h ⊢; exact h
  | .tup ds, t, v, fp, hm, h => by
    simp only [Rep] at h ⊢
    obtain ⟨a, vs, e, h1, h2⟩ := h
    exact ⟨a, vs, e, h1, RepL.own ds _ vs fp (by simpa only [D.ownAt] using hm) h2⟩
  | .lst ds, .ow u, v, fp, hm, h => by
    simp only [Rep] at h ⊢
    obtain ⟨a, vs, fp', e, h1, h2⟩ := h
    exact ⟨a, vs, fp', e, h1, RepL.own ds _ vs fp' (show ownAtL ds (fun _ => u) = true by simpa only [D.ownAt] using hm) h2⟩
  | .lst ds, .fr, v, fp, hm, h => by simp only [D.ownAt] at hm; cases hm
  | .lst ds, .tp ts, v, fp, hm, h => by simp only [D.ownAt] at hm; cases hm
  | .dct b es, t, v, fp, hm, h => by simp only [D.ownAt] at hm; cases hm
  | .exc _ _, _, _, _, hm, h => by simp only [D.ownAt] at hm; cases hm
  | .scr _, _, _, _, _, h => by simp only [Rep] at h ⊢; exact h
theorem RepL.own {K : KF} {H : Hp} {F F' : Addr → Prop} : ∀ (ds : List D) (f : Nat → OT) (vs : List V) (fp : List Addr), ownAtL ds f = true → RepL K H F ds f vs fp → RepL K H F' ds f vs fp
  | [], _, _, _, _, h => by simp only [RepL] at h ⊢; exact h
  | d :: ds, f, vs, fp, hm, h => by
    simp only [RepL] at h ⊢
    simp only [ownAtL, Bool.and_eq_true] at hm
    obtain ⟨v, r, f1, f2, e1, e2, h1, h2⟩ := h
    exact ⟨v, r, f1, f2, e1, e2, Rep.own d _ v f1 hm.1 h1, RepL.own ds _ r f2 hm.2 h2⟩
end
section
variable {X : Cx} {fm : Fm} {Wi : WX} {t res : OT} {f : Rho → R D} {ot ot' : Nat → OT}
theorem d_setF {i : Nat} {x : Str} {e : Expr} {pos pos' : Pos} (hN : X.N.Nodup) (n : Nm X i x) (he : PE X e (tE (fm.w ot) Wi true t f)) (hc : noComp e = true) (hio : NioS fm i t) :
    PS X (.Assign [.Name x pos'] e pos) (tB fm Wi res ot (otSet ot i t) fun ρ => .ofR ρ (f ρ) fun d => if d.ownAt t then .next (ρ.put i d) else .stk) := by
  refine PS.imp (ps_set hN n.ix n.loc he (comp_of hc) n.fn) fun En σ H ⟨ρ, fps, er, h⟩ => ⟨ρ, fps, er, OKS.ofR er h fun d v H1 fp e1 hk s x => ?_⟩
  split at hk
  · rename_i ho
    obtain ⟨q1, q2⟩ := er.put (i := i) s ⟨Rep.own d t v fp ho x.rep, x.nd, x.new⟩ hio.n
    exact hk _ H1 _ q1 q2
  · exact hk.elim
theorem d_retL {u : OT} {ms : List Nat} {es : List Expr} {pos pos' : Pos} {gs : Rho → R (List D)} (h : PA X es (tLM (fm.w ot) Wi ms (fun _ => u) gs)) (hn : ∀ ρ ds, gs ρ = .ok ds → ds.length ≤ 1000) (hio : fm.io = none) :
    PS X (.Return (some (.List es pos')) pos) (tB fm Wi (.ow u) ot ot' fun ρ => .ofR ρ (do let xs ← gs ρ; pure (D.lst xs)) fun d => .ret d ρ) :=
  PS.imp (ps_ret (pe_lst h)) fun En σ H ⟨ρ, fps, er, q⟩ => by
    refine ⟨ρ, fps, er, ?_⟩
    dsimp only at q
    cases e : gs ρ with
    | stk => rw [e] at q; exact q.elim
    | exn c ps => rw [e] at q; exact fun cls dx H' s ex => q cls dx σ H' (er.ext s).freeze (Leaves.same s fun _ _ z => fz_nof z) ex
    | ok ds =>
      rw [e] at q
      intro vs H1 fp s x
      have npf : ∀ p, H1 p = none → p ∉ fp := fun p hp hm => RepL.trk _ _ _ _ x.rep p hm hp
      refine ⟨few_line (by rw [RepL.length x.rep]; exact hn ρ ds e), fun p hp => q (.ref p) _ ⟨p :: fp, [], ?_, fun a ha z => er.lent a ha ((sameUpd s hp).free z), List.nodup_cons.mpr ⟨npf p hp, x.nd⟩, fun a ha => ?_, by unfold IoR; rw [hio], ?_⟩⟩
      · exact fun a o e n => sameUpd s hp _ _ (er.frame a o e n)
      · rcases List.mem_cons.mp ha with rfl | ha
        · exact .inl (er.h0 (s.free hp))
        · rcases x.new a ha with z | ⟨i, _, _, z⟩
          · exact .inl (er.h0 z)
          · exact er.new i a z
      · simp only [Rep]
        refine ⟨p, vs, fp, rfl, ⟨upd_same, rfl⟩, ?_⟩
        refine RepL.leaves _ _ _ _ (Leaves.same (sameUpd (Same.refl _) hp) fun a ha z => ?_) x.rep
        refine ⟨?_, fun hm => ?_, fun hm => nomatch hm⟩
        · rcases z.1 with z | z
          · exact z.1
          · exact .inr (.inl (er.h0 z))
        · rcases List.mem_cons.mp hm with rfl | hm
          · exact ha hp
          · exact z.2 hm
end
end L2.Py

set_option maxRecDepth 100000
set_option maxHeartbeats 2000000
namespace L2.Py
open PySem PySem.Spec PyProof.Rows TL L2
section
variable {X : Cx} {fm : Fm} {Wi : WX} {al al1 : Bool} {t : OT}
end
end L2.Py

set_option maxRecDepth 100000
set_option maxHeartbeats 2000000
namespace L2.Py
open PySem PySem.Spec PyProof.Rows TL L2
section
variable {X : Cx} {tg e : Expr} {td : TE}
def Unl (X : Cx) (H : Hp) (P : Hp → Prop) : Prop := P H ∨ ∃ d od u, H d = some (.frz od u) ∧ (∀ o' u', X.H_0 d ≠ some (.frz o' u')) ∧ P (upd H d u)
theorem unl_inv {pins : List (Addr × Obj)} {σ : St} {H : Hp} {s : Shared} {P : Hp → Prop} (I : Inv X pins σ H s) (h : Unl X H P) : ∃ H', Inv X pins σ H' s ∧ P H' := by
  rcases h with h | ⟨d, od, u, h1, h2, h3⟩
  · exact ⟨H, I, h⟩
  · exact ⟨_, I.unlock h1 h2, h3⟩
def tUnl (X : Cx) (t : TS) : TS := fun D σ H => t ⟨fun σ' H' => Unl X H' (D.nx σ'), fun v H' => Unl X H' (D.rt v), fun σ' H' => Unl X H' (D.bk σ'), fun σ' H' => Unl X H' (D.ct σ')⟩ σ H
def tUnlE (X : Cx) (t : TE) : TE := fun σ H Q => t σ H fun v H' => Unl X H' (Q v)
theorem ps_unl {st : Stmt} {t : TS} (h : PS X st t) : PS X st (tUnl X t) := by
  refine ⟨fun pins s σ H D I hw => ?_⟩
  refine thn (h.run pins s σ _ _ I hw) fun f s1 q => ?_
  cases f with
  | next => obtain ⟨σ', H', I2, q⟩ := q; obtain ⟨H2, I3, q3⟩ := unl_inv I2 q; exact ⟨σ', _, I3, q3⟩
  | brk => obtain ⟨σ', H', I2, q⟩ := q; obtain ⟨H2, I3, q3⟩ := unl_inv I2 q; exact ⟨σ', _, I3, q3⟩
  | cont => obtain ⟨σ', H', I2, q⟩ := q; obtain ⟨H2, I3, q3⟩ := unl_inv I2 q; exact ⟨σ', _, I3, q3⟩
  | ret v => obtain ⟨x, σ', H', I2, r, q⟩ := q; obtain ⟨H2, I3, q3⟩ := unl_inv I2 q; exact ⟨x, σ', _, I3, r, q3⟩
theorem pe_unl {a : Expr} {t : TE} (h : PE X a t) : PE X a (tUnlE X t) := by
  refine ⟨fun pins s σ H Q I hw => ?_⟩
  refine thn (h.run pins s σ _ _ I hw) fun v s1 ⟨x, H1, I2, r, q⟩ => ?_
  obtain ⟨H2, I3, q3⟩ := unl_inv I2 q
  exact ⟨x, _, I3, r, q3⟩
theorem Inv.lockR {pins : List (Addr × Obj)} {σ : St} {H : Hp} {s : Shared} {a : Addr} {u : HO} (I : Inv X pins σ H s) (h : Rd H a u) (mu : Mut (some u)) :
    ∃ od, Inv X pins σ (upd H a (.frz od u)) s ∧ (H a = some u → ∀ o' u', X.H_0 a ≠ some (.frz o' u')) ∧ ∀ o, H a = some (.frz o u) → o = od := by
  rcases h with h | ⟨o, h⟩
  · obtain ⟨od, I1⟩ := I.lock h mu
    exact ⟨od, I1, fun _ => I.nofrz h mu, fun o q => by rw [h] at q; cases q <;> exact mu.elim⟩
  · have e : upd H a (.frz o u) = H := by
      funext b
      by_cases hb : b = a
      · rw [hb, upd_same, h]
      · rw [upd_ne hb]
    exact ⟨o, by rw [e]; exact I, (fun q => by rw [h] at q; cases q <;> exact mu.elim), fun o' q => by rw [h] at q; injection q with q; injection q with q _; exact q.symm⟩
def iDK (X : Cx) (td : TE) : TI := fun σ H R => td σ H fun x H1 => ∃ a u, x = .ref a ∧ Rd H1 a u ∧ Mut (some u) ∧ ∀ od, (H1 a = some u → ∀ o' u', X.H_0 a ≠ some (.frz o' u')) → (∀ o, H1 a = some (.frz o u) → o = od) →
  (∃ kvs, u = .dK kvs ∧ R (Itk a od kvs) (upd H1 a (.frz od u))) ∨ ∃ kvs, u = .dT kvs ∧ R (Itkt a od kvs) (upd H1 a (.frz od u))
theorem pi_dK (he : PE X e td) : PI X tg e (iDK X td) := by
  refine ⟨fun pins s σ H R I h => ?_⟩
  refine thn (he.run pins s σ H _ I h) fun u s1 ⟨x, H1, I1, rx, a, w, ex, hr, mu, q⟩ => ?_
  subst ex
  obtain rfl : u = Value.ref a := rx
  obtain ⟨od, I2, h1, h2⟩ := Inv.lockR I1 hr mu
  rcases q od h1 h2 with ⟨kvs, rfl, q⟩ | ⟨kvs, rfl, q⟩
  · obtain ⟨hs, hgd, hx, es, ep, vs, hdt, hsz, kv, hm⟩ := I2.frzK upd_same
    refine iter_keys hs hgd hx hdt (pi_one (tk := s1.toks) I2 _ (turn_keys _ hdt) ⟨_, Heap.get?_push_size _ rfl, rfl, ?_⟩ q)
    rw [hsz] <;> rfl
  · obtain ⟨hs, hgd, hx, es, ep, hdt, hsz, ent⟩ := I2.frzT upd_same
    refine iter_keys hs hgd hx hdt (pi_one (tk := s1.toks) I2 _ (turn_keysT _ hdt) ⟨_, Heap.get?_push_size _ rfl, rfl, ?_⟩ q)
    rw [hsz] <;> rfl
theorem frz_rawT {pins : List (Addr × Obj)} {σ : St} {H : Hp} {s : Shared} {a : Addr} {o : Obj} {kvs : List (List Key × V)} (I : Inv X pins σ H s) (h : H a = some (.frz o (.dT kvs))) :
    (a == sysModules) = false ∧ ∃ (es : Array DictEntry) (ep : Nat), o.data = .dict es ep ∧ s.heap.DictRaw a es ep ∧ es.size = kvs.length ∧
      ∀ (i : Nat) (k : List Key) (v : V), kvs[i]? = some (k, v) → ∃ (en : DictEntry) (q : Addr), es[i]? = some en ∧ en.key = .ref q ∧ H q = some (.tup (k.map kV)) ∧ RelV v en.val := by
  obtain ⟨hd, z, hs, xs, pr, o', es, ep, ho, hx, hdt, he, _⟩ := I.hok a _ h
  rw [hd] at ho
  cases ho
  refine ⟨hs, es, ep, hdt, ⟨o, hd, hx, hdt⟩, ?_, fun i k v e => ?_⟩
  · have l1 := congrArg List.length he
    rw [Array.length_toList, List.length_map] at l1
    have l2 : kvs.length = xs.length := Paired.length pr
    omega
  · obtain ⟨b, hb, e1, e2, e3⟩ := L2.paired_get pr e
    have q := entry_at he i
    rw [hb] at q
    exact ⟨_, b.2.1, q, rfl, e2, e3⟩
def ItiT (d : Addr) (o : Obj) (kvs : List (List Key × V)) : It :=
  ⟨fun i H => H d = some (.frz o (.dT kvs)) ∧ i < kvs.length, fun i H x H' => ∃ T k v q, kvs[i]? = some (k, v) ∧ x = .ref T ∧ H T = none ∧ H q = some (.tup (k.map kV)) ∧ H' = upd H T (.tup [.ref q, v]), fun i H => H d = some (.frz o (.dT kvs)) ∧ kvs.length ≤ i⟩
theorem turn_itemsT {P : Program} {w : World} {K : PySem.W.Frag} {d : Addr} {o : Obj} {es : Array DictEntry} {ep : Nat} {kvs : List (List Key × V)} {elts : List Expr} {kk : Nat} {tpos : Pos} (it : Addr) (hod : o.data = .dict es ep) :
    Turn P w K (.Tuple elts kk tpos) (ItiT d o kvs) [it] it (fun i h => ∃ ok ov, IsItemIter h it d i kvs.length ep ok ov) where
  mem := by simp
  obj := fun i h st b hb => by
    have e : b = it := by simpa using hb
    subst e
    obtain ⟨ok, ov, e⟩ := st
    exact ⟨_, e, fun v z => nomatch z⟩
  keep := fun i h h' st k => let ⟨ok, ov, e⟩ := st; ⟨ok, ov, k it (by simp) _ e⟩
  item := by
    intro X hP hw hK hc i pins s σ H E I hf st hg
    subst hP hw hK
    obtain ⟨hd, hi⟩ := hg
    obtain ⟨hs, es', ep', hdt, hm, hsz, ent⟩ := frz_rawT I hd
    obtain ⟨rfl, rfl⟩ := dict_ep hod hdt
    obtain ⟨⟨k, v⟩, hkv⟩ : ∃ p, kvs[i]? = some p := ⟨kvs[i], List.getElem?_eq_getElem hi⟩
    obtain ⟨en, q, hen, hkey, hq, hval⟩ := ent i k v hkv
    obtain ⟨ok, ov, he⟩ := st
    rw [← hsz] at he
    have hlt : it < s.heap.objs.size := Heap.lt_size he
    have hi' : i < es'.size := by rw [hsz]; exact hi
    have e1 : es'[i] = en := by
      rw [Array.getElem?_eq_getElem hi'] at hen
      exact Option.some.inj hen
    refine wpAny_pyNext_items_item_raw he hm hi' fun h' ho hT hz hk => ?_
    rw [e1] at ho hT
    refine ⟨_, rfl, wpAny_letOwnedTupleGo_items (s := { s with heap := h' }) ho fun h'' he' sb => ?_⟩
    have hT2 : h''.get? s.heap.objs.size = some { cls := .type "tuple", data := .seq #[en.key, en.val] } := (sb.2 _ (Nat.ne_of_gt hlt)).trans hT
    have new : ObjOk X.prog X.w (upd H s.heap.objs.size (.tup [.ref q, v])) h'' s.heap.objs.size (.tup [.ref q, v]) :=
      ⟨by show 2 ≤ sizeLine; decide, [en.key, en.val], .cons (by rw [hkey] <;> rfl) (.cons hval .nil), ⟨_, hT2, rfl, _, rfl⟩⟩
    have I1 : Inv X pins σ (upd H s.heap.objs.size (.tup [.ref q, v])) { s with heap := h'' } :=
      I.turnedNew (t' := s.toks) (ch := [it]) (fun b ob hb e => (sb.2 b (by simpa using hb)).trans (hk b ob (by simpa using hb) e)) hf (Nat.le_refl _) new
    refine ⟨.ref s.heap.objs.size, _, I1, rfl, ⟨_, k, v, q, hkv, rfl, I.hok.fresh (Nat.le_refl _), hq, rfl⟩, ⟨en.key, en.val, ?_⟩, fun b hb => ?_⟩
    · rw [← hsz]; exact he'
    · have e : b = it := by simpa using hb
      rw [e, upd_ne (Nat.ne_of_lt hlt)]
      exact (hf it (by simp)).1
  done := by
    intro X hP hw hK hc i pins s σ H E I hf st hg
    subst hP hw hK
    obtain ⟨hd, hi⟩ := hg
    obtain ⟨f0, f1, f2, f3, f4, f5⟩ := hf it (by simp)
    obtain ⟨hs, es', ep', hdt, hm, hsz, ent⟩ := frz_rawT I hd
    obtain ⟨rfl, rfl⟩ := dict_ep hod hdt
    obtain ⟨ok, ov, he⟩ := st
    rw [← hsz] at he
    exact wpAny_pyNext_items_end_raw (I.ok.hd hc) he hm (by omega) fun h' eb => ⟨rfl, I.turned (t' := s.toks) (fun b ob hb e => eb b ob hb e) f0 f1 f3 f4 f5⟩
  self := fun A i s Q E st h => let ⟨_, _, e⟩ := st; wpAny_pyIter_itemiter e h
def iDI (X : Cx) (td : TE) : TI := fun σ H R => td σ H fun x H1 => ∃ a u, x = .ref a ∧ Rd H1 a u ∧ Mut (some u) ∧ ∀ od, (H1 a = some u → ∀ o' u', X.H_0 a ≠ some (.frz o' u')) → (∀ o, H1 a = some (.frz o u) → o = od) →
  (∃ kvs, u = .dK kvs ∧ R (Iti a od kvs) (upd H1 a (.frz od u))) ∨ ∃ kvs, u = .dT kvs ∧ R (ItiT a od kvs) (upd H1 a (.frz od u))
theorem pi_dI {elts : List Expr} {kk : Nat} {tpos apos cpos : Pos} (he : PE X e td) (hbase : attributeBase e "items" X.env (eval e X.env) = eval e X.env) (hline : (apos.endLine == cpos.line) = true) :
    PI X (.Tuple elts kk tpos) (.Call (.Attribute e "items" apos) [] [] cpos) (iDI X td) := by
  refine ⟨fun pins s σ H R I h => ?_⟩
  refine wpAny_Call_method (T := "dict") (id := "dict.items") hbase rfl hline F.plainAttrs_dict F.slot_dict_items F.type_dict_items (thn (he.run pins s σ H _ I h) fun u s1 ⟨x, H1, I1, rx, a, w, ex, hr, mu, q⟩ => ?_)
  subst ex
  obtain rfl : u = Value.ref a := rx
  obtain ⟨od, I2, h1, h2⟩ := Inv.lockR I1 hr mu
  have key : ∀ (es : Array DictEntry) (ep : Nat) (J : It) (tn : Nat → Heap → Prop), (a == sysModules) = false → s1.heap.DictRaw a es ep →
      (∀ it : Addr, ∃ tn, Turn X.prog X.w X.K (.Tuple elts kk tpos) J [it] it tn ∧ ∀ h : Heap, IsItemIter h it a 0 es.size ep .none .none → tn 0 h) → R J (upd H1 a (.frz od w)) →
      (s1.TypeIs (.ref a) "dict" ∧ (∀ b, Value.ref a = .ref b → ∃ ob, s1.heap.get? b = some ob ∧ ob.dict = none) ∧
        wpAny (model X.prog X.w) X.A (callWith cpos (.builtin "dict.items") [.ref a] (backTo cpos (starEach [] X.env)) []) (fun v s1 => wpAny (model X.prog X.w) X.A (pyIter v) (PIE X pins σ (.Tuple elts kk tpos) R) X.xe s1) X.xe s1) := fun es ep J tn hs hm T q => by
    refine ⟨hm.typeIs, fun b e => ?_, ?_⟩
    · cases e
      obtain ⟨o, ho, hx, _⟩ := hm
      exact ⟨o, ho, hx.2.1⟩
    have I3 : Inv X pins σ (upd H1 a (.frz od w)) { s1 with heap := s1.heap.push { cls := .type "dict_items", data := .fields #[.ref a] } } := I2.kept (t' := s1.toks) fun b ob q => Heap.get?_push_of_some _ q
    obtain ⟨tn, T1, T2⟩ := T (s1.heap.push { cls := .type "dict_items", data := .fields #[.ref a] }).objs.size
    have fin : wpAny (model X.prog X.w) X.A (pyIter (.ref s1.heap.objs.size)) (PIE X pins σ (.Tuple elts kk tpos) R) X.xe { s1 with heap := s1.heap.push { cls := .type "dict_items", data := .fields #[.ref a] } } :=
      wpAny_pyIter_items_raw (d := a) ⟨_, Heap.get?_push_size _ rfl, rfl, rfl⟩ (hm.at fun o e => Heap.get?_push_of_some _ e) (pi_one (tk := s1.toks) I3 _ T1 (T2 _ (Heap.get?_push_size _ rfl)) q)
    show wpAny _ _ (callWith cpos (.builtin "dict.items") [.ref a] [] []) _ X.xe s1
    exact method_meetsIn F.slot_dict_items F.entry_dict_items rfl (PySem.evalArgs_none ⟨rfl, hm.typeIs, F.args_dict_items_1 _, _, meets_dict_items_raw a hs, ⟨es, ep, hm⟩, fin⟩)
  rcases q od h1 h2 with ⟨kvs, rfl, q⟩ | ⟨kvs, rfl, q⟩
  · obtain ⟨hs, hgd, hx, es, ep, vs, hdt, hsz, kv, hm⟩ := I2.frzK upd_same
    refine key es ep _ (fun _ _ => True) hs ⟨_, hgd, hx, hdt⟩ (fun it => ⟨_, turn_items it hdt, fun h e => ⟨.none, .none, ?_⟩⟩) q
    rw [← hsz]; exact e
  · obtain ⟨hs, es, ep, hdt, hm, hsz, ent⟩ := frz_rawT I2 upd_same
    refine key es ep _ (fun _ _ => True) hs hm (fun it => ⟨_, turn_itemsT it hdt, fun h e => ⟨.none, .none, ?_⟩⟩) q
    rw [← hsz]; exact e
end
end L2.Py

set_option maxRecDepth 100000
set_option maxHeartbeats 2000000
namespace L2.Py
open PySem PySem.Spec PyProof.Rows TL L2
def IsD : HO → Prop
  | .dK _ => True
  | .dT _ => True
  | _ => False
theorem IsD.mut {u : HO} (h : IsD u) : Mut (some u) := by cases u <;> first | exact trivial | exact h.elim
theorem IsD.nf {u : HO} (h : IsD u) : NF u := by cases u <;> first | exact trivial | exact h.elim
abbrev Fm.lk (fm : Fm) (a : Addr) (o : HO) : Fm := { fm with H0 := upd fm.H0 a o, B := fun b => fm.B b ∨ b = a, Lt := fm.Lt.filter fun b => decide (b ≠ a) }
section
variable {fm : Fm} {ρ : Rho} {σ : St} {H H' H'' : Hp} {fps : Fps} {F F' : Addr → Prop} {fp : List Addr} {a : Addr} {u : HO} {od : Obj}
theorem mem_lt {b : Addr} (h : b ∈ fm.Lt) (ne : b ≠ a) : b ∈ (fm.lk a u).Lt := List.mem_filter.mpr ⟨h, decide_eq_true ne⟩
theorem of_mem_lt {b : Addr} (h : b ∈ (fm.lk a u).Lt) : b ∈ fm.Lt ∧ b ≠ a := ⟨(List.mem_filter.mp h).1, of_decide_eq_true (List.mem_filter.mp h).2⟩
theorem lv_lock (hr : Rd H a u) (hu : IsD u) (nfp : a ∉ fp) (hF : ∀ b, H b ≠ none → F b → F' b) : Leaves H (upd H a (.frz od u)) F F' fp where
  own := fun b hb o e => by rw [upd_ne (fun z : b = a => nfp (by rw [← z]; exact hb))]; exact e
  frz := fun b w nf r f => by
    refine ⟨?_, hF b (rd_ne r) f⟩
    by_cases hb : b = a
    · subst hb
      have e : w = u := by
        rcases hr with hr | ⟨o, hr⟩ <;> rcases r with r | ⟨o', r⟩ <;> rw [hr] at r
        · injection r with r; exact r.symm
        · injection r with r; subst r; exact hu.elim
        · injection r with r; subst r; exact nf.elim
        · injection r with r; injection r with _ r; exact r.symm
      subst e
      exact .inr ⟨od, upd_same⟩
    · rcases r with r | ⟨o, r⟩
      · exact .inl (by rw [upd_ne hb]; exact r)
      · exact .inr ⟨o, by rw [upd_ne hb]; exact r⟩
  lst := fun b vs e f => by
    have ne : b ≠ a := fun z => by
      subst z
      rcases hr with hr | ⟨o, hr⟩ <;> rw [hr] at e <;> injection e with e
      · subst e; exact hu.elim
      · cases e
    exact ⟨by rw [upd_ne ne]; exact e, hF b (by rw [e]; exact fun z => nomatch z) f⟩
  tup := fun b vs e => by
    have ne : b ≠ a := fun z => by
      subst z
      rcases hr with hr | ⟨o, hr⟩ <;> rw [hr] at e <;> injection e with e
      · subst e; exact hu.elim
      · cases e
    rw [upd_ne ne]; exact e
  scr := fun b o vs e => by
    have ne : b ≠ a := fun z => by
      subst z
      rcases hr with hr | ⟨o, hr⟩ <;> rw [hr] at e <;> injection e with e
      · subst e; exact hu.elim
      · injection e with _ e; subst e; exact hu.elim
    rw [upd_ne ne]; exact e
theorem lv_unl (h : H a = some (.frz od u)) (hu : IsD u) (nfp : a ∉ fp) (hF : ∀ b, H b ≠ none → F b → F' b) : Leaves H (upd H a u) F F' fp where
  own := fun b hb o e => by rw [upd_ne (fun z : b = a => nfp (by rw [← z]; exact hb))]; exact e
  frz := fun b w nf r f => by
    refine ⟨?_, hF b (rd_ne r) f⟩
    by_cases hb : b = a
    · subst hb
      rcases r with r | ⟨o', r⟩ <;> rw [h] at r <;> injection r with r
      · subst r; exact nf.elim
      · injection r with _ r; subst r; exact .inl upd_same
    · rcases r with r | ⟨o, r⟩
      · exact .inl (by rw [upd_ne hb]; exact r)
      · exact .inr ⟨o, by rw [upd_ne hb]; exact r⟩
  lst := fun b vs e f => by
    have ne : b ≠ a := fun z => by subst z; rw [h] at e; cases e
    exact ⟨by rw [upd_ne ne]; exact e, hF b (by rw [e]; exact fun z => nomatch z) f⟩
  tup := fun b vs e => by
    have ne : b ≠ a := fun z => by subst z; rw [h] at e; cases e
    rw [upd_ne ne]; exact e
  scr := fun b o vs e => by
    have ne : b ≠ a := fun z => by
      subst z; rw [h] at e; injection e with e; injection e with _ e; subst e; exact hu.elim
    rw [upd_ne ne]; exact e
theorem fz_lk {b : Addr} {o : HO} (h : Fz fm fps b) : Fz (fm.lk a o) fps b := ⟨by
  by_cases e : b = a
  · exact .inl (.inr e)
  · rcases h.1 with z | z | z
    · exact .inl (.inl z)
    · exact .inr (.inl (by show upd fm.H0 a o b = none; rw [upd_ne e]; exact z))
    · exact .inr (.inr (mem_lt z e)), h.2⟩
abbrev InB (fm : Fm) (a : Addr) : Prop := fm.B a ∨ fm.H0 a = none ∨ a ∈ fm.Lt
theorem in_lk {b : Addr} {o : HO} (hB : InB fm a) (h : InB (fm.lk a o) b) : InB fm b := by
  rcases h with z | z | z
  · rcases z with z | z
    · exact .inl z
    · rw [z]; exact hB
  · by_cases e : b = a
    · rw [e]; exact hB
    · refine .inr (.inl ?_)
      have z : upd fm.H0 a o b = none := z
      rw [upd_ne e] at z; exact z
  · exact .inr (.inr (of_mem_lt z).1)
theorem fz_unlk {b : Addr} {o : HO} (hB : InB fm a) (h : Fz (fm.lk a o) fps b) : Fz fm fps b := ⟨in_lk hB h.1, h.2⟩
theorem ER.lock (er : ER fm ρ σ H fps) (hr : Rd H a u) (hu : IsD u) (na : ∀ i, a ∉ fps i) : ER (fm.lk a (.frz od u)) ρ σ (upd H a (.frz od u)) fps where
  len := er.len
  rep := fun i d e => by
    obtain ⟨v, e1, r⟩ := er.rep i d e
    exact ⟨v, e1, Rep.leaves _ _ _ _ (lv_lock hr hu (na i) fun b _ z => fz_lk z) r⟩
  nil := er.nil
  nd := er.nd
  dj := er.dj
  new := fun i b h => by
    have ne : b ≠ a := fun z => na i (by rw [← z]; exact h)
    rcases er.new i b h with z | z
    · exact .inl (by show upd fm.H0 a _ b = none; rw [upd_ne ne]; exact z)
    · exact .inr (mem_lt z ne)
  trk := fun i b h => by rw [upd_ne (fun z : b = a => na i (by rw [← z]; exact h))]; exact er.trk i b h
  frame := fun b o e n => by
    have e : upd fm.H0 a (.frz od u) b = some o := e
    by_cases hb : b = a
    · subst hb
      rw [upd_same] at e ⊢
      exact e
    · rw [upd_ne hb] at e ⊢
      exact er.frame b o e fun z => n (mem_lt z hb)
  lent := fun b h => by
    obtain ⟨z, ne⟩ := of_mem_lt h
    rw [upd_ne ne]; exact er.lent b z
  io := er.io
structure Back (fm : Fm) (a : Addr) (od : Obj) (u : HO) (H H' : Hp) : Prop where
  oth : ∀ b, b ≠ a → H' b = H b
  frm : ∀ o, fm.H0 a = some o → a ∉ fm.Lt → H' a = some o
  trk : H' a ≠ none
  lv : ∀ {F F' : Addr → Prop} {fp : List Addr}, a ∉ fp → (∀ b, H b ≠ none → F b → F' b) → Leaves H H' F F' fp
theorem bk_of {X : Cx} {H1 : Hp} (hr : Rd H1 a u) (hu : IsD u) (h1 : H1 a = some u → ∀ o' u', X.H_0 a ≠ some (.frz o' u')) (h2 : ∀ o, H1 a = some (.frz o u) → o = od)
    (hf : ∀ o, fm.H0 a = some o → a ∉ fm.Lt → H1 a = some o) {H' : Hp} (e : H' a = some (.frz od u)) : ∃ H'', Back fm a od u H' H'' ∧ H'' a = H1 a ∧ ∀ P : Hp → Prop, P H'' → Unl X H' P := by
  rcases hr with hr | ⟨o, hr⟩
  · refine ⟨upd H' a u, ⟨fun b hb => upd_ne hb, fun o q n => ?_, by rw [upd_same]; exact (fun z => nomatch z), fun nfp hF => lv_unl e hu nfp hF⟩, by rw [upd_same, hr], fun P p => .inr ⟨a, od, u, e, h1 hr, p⟩⟩
    have := hf o q n
    rw [hr] at this
    rw [upd_same]; exact this
  · have eo := h2 o hr
    subst eo
    refine ⟨H', ⟨fun b hb => rfl, fun o' q n => ?_, by rw [e]; exact (fun z => nomatch z), fun nfp hF => ⟨fun _ _ _ e => e, fun b w _ r f => ⟨r, hF b (rd_ne r) f⟩, fun b vs e f => ⟨e, hF b (by rw [e]; exact (fun z => nomatch z)) f⟩, fun _ _ e => e, fun _ _ _ e => e⟩⟩, by rw [e, hr], fun P p => .inl p⟩
    have := hf o' q n
    rw [hr] at this
    rw [e]; exact this
end
section
variable {K : KF} {H : Hp} {F : Addr → Prop} {κ : Type} {kf : κ → D}
theorem RepM.get : ∀ {es : List D} {kvs : List (κ × V)} {i : Nat} {d : D}, RepM K H F es κ kf .fr kvs [] → es[i]? = some d → ∃ k v dv, kvs[i]? = some (k, v) ∧ d = .tup [kf k, dv] ∧ Rep K H F dv .fr v []
  | e :: es, kvs, i, d, h, hd => by
    obtain ⟨k, v, r, f1, f2, dv, rfl, e2, rfl, h1, h2⟩ := h.uncons
    obtain ⟨rfl, _⟩ := Rep.fr_nil h1
    obtain rfl : f2 = [] := by simpa using e2
    cases i with
    | zero => injection hd with hd; subst hd; exact ⟨k, v, dv, rfl, rfl, h1⟩
    | succ i =>
      have q := RepM.get h2 (show es[i]? = some d from hd)
      exact q
theorem RepM.getK : ∀ {es : List D} {kvs : List (κ × V)} {i : Nat} {d : D}, RepM K H F es κ kf .fr kvs [] → (dkeys es)[i]? = some d → ∃ k v, kvs[i]? = some (k, v) ∧ d = kf k
  | [], kvs, i, d, h, hd => by cases hd
  | e :: es, kvs, i, d, h, hd => by
    obtain ⟨k, v, r, f1, f2, dv, rfl, e2, rfl, h1, h2⟩ := h.uncons
    obtain ⟨rfl, h1⟩ := Rep.fr_nil h1
    obtain rfl : f2 = [] := by simpa using e2
    cases i with
    | zero => injection hd with hd; subst hd; exact ⟨k, v, rfl, rfl⟩
    | succ i =>
      have q := RepM.getK h2 (show (dkeys es)[i]? = some d from hd)
      exact q
theorem RepM.len : ∀ {es : List D} {kvs : List (κ × V)}, RepM K H F es κ kf .fr kvs [] → es.length = kvs.length ∧ (dkeys es).length = kvs.length
  | [], kvs, h => by obtain ⟨rfl, _⟩ := h.nil_inv; exact ⟨rfl, rfl⟩
  | e :: es, kvs, h => by
    obtain ⟨k, v, r, f1, f2, dv, rfl, e2, rfl, h1, h2⟩ := h.uncons
    obtain ⟨rfl, h1⟩ := Rep.fr_nil h1
    obtain rfl : f2 = [] := by simpa using e2
    obtain ⟨q1, q2⟩ := RepM.len (es := es) h2
    exact ⟨by rw [List.length_cons, List.length_cons, q1], by rw [dkeys, List.length_cons, List.length_cons, q2]⟩
theorem rep_keyD (k : Key) : Rep K H F (keyD k) .fr (kV k) [] := by
  cases k with
  | inl i => simp only [keyD, kV, Rep]; exact ⟨trivial, trivial⟩
  | inr x => simp only [keyD, kV, Rep]; exact ⟨by rw [toS_tl], trivial⟩
theorem rep_keyT {q : Addr} (k : List Key) (h : H q = some (.tup (k.map kV))) : Rep K H F (keyT k) .fr (.ref q) [] := by
  simp only [keyT, Rep]
  exact ⟨q, _, rfl, h, RepL.keys1 k⟩
end
def JK (a : Addr) (od : Obj) (u : HO) (J : It) : Prop := (∃ kvs, u = .dK kvs ∧ J = Itk a od kvs) ∨ ∃ kvs, u = .dT kvs ∧ J = Itkt a od kvs
def JI (a : Addr) (od : Obj) (u : HO) (J : It) : Prop := (∃ kvs, u = .dK kvs ∧ J = Iti a od kvs) ∨ ∃ kvs, u = .dT kvs ∧ J = ItiT a od kvs
def iDG (X : Cx) (Jd : Addr → Obj → HO → It → Prop) (td : TE) : TI := fun σ H R => td σ H fun x H1 => ∃ a u, x = .ref a ∧ Rd H1 a u ∧ IsD u ∧
  ∀ od J, (H1 a = some u → ∀ o' u', X.H_0 a ≠ some (.frz o' u')) → (∀ o, H1 a = some (.frz o u) → o = od) → Jd a od u J → R J (upd H1 a (.frz od u))
def WkD (K : KF) (J : It) (a : Addr) (od : Obj) (u : HO) (H : Hp) (F : Addr → Prop) (ds : List D) : Prop :=
  ∀ i H' F', H' a = some (.frz od u) → Leaves H H' F F' [] → (∀ d, ds[i]? = some d → J.go i H' ∧ ∀ x H'', J.yld i H' x H'' → Same H' H'' ∧ Rep K H'' F' d .fr x []) ∧ (ds.length ≤ i → J.stop i H')
structure DWalk (k : ItK) (Jd : Addr → Obj → HO → It → Prop) : Prop where
  only : ∀ d, (∃ b es, d = .dct b es) ∨ itD k [d] = .stk
  ok : ∀ b es, ∃ ds, itD k [.dct b es] = .ok ds
  wk : ∀ {K : KF} {H : Hp} {F : Addr → Prop} {b : Bool} {es : List D} {v : V}, Rep K H F (.dct b es) .fr v [] → ∃ a u, v = .ref a ∧ Rd H a u ∧ IsD u ∧ F a ∧ ∀ ds, itD k [.dct b es] = .ok ds → ∀ od J, Jd a od u J → WkD K J a od u H F ds
theorem rep_dct {K : KF} {H : Hp} {F : Addr → Prop} {b : Bool} {es : List D} {v : V} (h : Rep K H F (.dct b es) .fr v []) : ∃ a, v = .ref a ∧ F a ∧ ((∃ kvs, Rd H a (.dK kvs) ∧ RepM K H F es Key keyD .fr kvs []) ∨ ∃ kvs, Rd H a (.dT kvs) ∧ RepM K H F es (List Key) keyT .fr kvs []) := by
  simp only [Rep] at h
  obtain ⟨a, fp', e, h⟩ := h
  rcases h with ⟨_, kvs, h1, h2⟩ | ⟨_, kvs, h1, h2⟩
  · obtain ⟨h1, rfl⟩ := h1
    exact ⟨a, e, h1.2, .inl ⟨kvs, h1.1, h2⟩⟩
  · obtain ⟨h1, rfl⟩ := h1
    exact ⟨a, e, h1.2, .inr ⟨kvs, h1.1, h2⟩⟩
theorem walk_K : DWalk .keys JK where
  only := fun d => by cases d <;> first | exact .inr rfl | exact .inl ⟨_, _, rfl⟩
  ok := fun b es => ⟨_, rfl⟩
  wk := fun {K H F b es v} h => by
    obtain ⟨a, rfl, hF, h | h⟩ := rep_dct h <;> obtain ⟨kvs, hr, hm⟩ := h
    · refine ⟨a, _, rfl, hr, trivial, hF, fun ds e od J hJ i H' F' e2 lv => ?_⟩
      injection e with e
      subst e
      rcases hJ with ⟨kvs', e3, rfl⟩ | ⟨kvs', e3, rfl⟩
      · injection e3 with e3
        subst e3
        refine ⟨fun d hd => ?_, fun hi => ⟨e2, by rw [(RepM.len hm).2] at hi; exact hi⟩⟩
        obtain ⟨k, v, hk, rfl⟩ := RepM.getK hm hd
        refine ⟨⟨e2, (List.getElem?_eq_some_iff.mp hk).1⟩, fun x H'' ⟨e4, k', v', hk', ex⟩ => ?_⟩
        subst e4 ex
        rw [hk] at hk'
        injection hk' with hk'
        injection hk' with e5 _
        subst e5
        exact ⟨Same.refl _, rep_keyD k⟩
      · cases e3
    · refine ⟨a, _, rfl, hr, trivial, hF, fun ds e od J hJ i H' F' e2 lv => ?_⟩
      injection e with e
      subst e
      rcases hJ with ⟨kvs', e3, rfl⟩ | ⟨kvs', e3, rfl⟩
      · cases e3
      · injection e3 with e3
        subst e3
        refine ⟨fun d hd => ?_, fun hi => ⟨e2, by rw [(RepM.len hm).2] at hi; exact hi⟩⟩
        obtain ⟨k, v, hk, rfl⟩ := RepM.getK hm hd
        refine ⟨⟨e2, (List.getElem?_eq_some_iff.mp hk).1⟩, fun x H'' ⟨e4, k', v', q, hk', ex, hq⟩ => ?_⟩
        subst e4 ex
        rw [hk] at hk'
        injection hk' with hk'
        injection hk' with e5 _
        subst e5
        exact ⟨Same.refl _, rep_keyT k hq⟩
theorem walk_I : DWalk .items JI where
  only := fun d => by cases d <;> first | exact .inr rfl | exact .inl ⟨_, _, rfl⟩
  ok := fun b es => ⟨_, rfl⟩
  wk := fun {K H F b es v} h => by
    obtain ⟨a, rfl, hF, h | h⟩ := rep_dct h <;> obtain ⟨kvs, hr, hm⟩ := h
    · refine ⟨a, _, rfl, hr, trivial, hF, fun ds e od J hJ i H' F' e2 lv => ?_⟩
      injection e with e
      subst e
      rcases hJ with ⟨kvs', e3, rfl⟩ | ⟨kvs', e3, rfl⟩
      · injection e3 with e3
        subst e3
        have hm' := RepM.leaves _ _ _ _ _ lv hm
        refine ⟨fun d hd => ?_, fun hi => ⟨e2, by rw [(RepM.len hm).1] at hi; exact hi⟩⟩
        obtain ⟨k, v, dv, hk, rfl, hv⟩ := RepM.get hm' hd
        refine ⟨⟨e2, (List.getElem?_eq_some_iff.mp hk).1⟩, fun x H'' ⟨T, k', v', hk', ex, hT, e4⟩ => ?_⟩
        subst e4 ex
        rw [hk] at hk'
        injection hk' with hk'
        injection hk' with e5 e6
        subst e5 e6
        exact ⟨sameUpd (Same.refl _) hT, rep_pair hT (rep_keyD k) hv⟩
      · cases e3
    · refine ⟨a, _, rfl, hr, trivial, hF, fun ds e od J hJ i H' F' e2 lv => ?_⟩
      injection e with e
      subst e
      rcases hJ with ⟨kvs', e3, rfl⟩ | ⟨kvs', e3, rfl⟩
      · cases e3
      · injection e3 with e3
        subst e3
        have hm' := RepM.leaves _ _ _ _ _ lv hm
        refine ⟨fun d hd => ?_, fun hi => ⟨e2, by rw [(RepM.len hm).1] at hi; exact hi⟩⟩
        obtain ⟨k, v, dv, hk, rfl, hv⟩ := RepM.get hm' hd
        refine ⟨⟨e2, (List.getElem?_eq_some_iff.mp hk).1⟩, fun x H'' ⟨T, k', v', q, hk', ex, hT, hq, e4⟩ => ?_⟩
        subst e4 ex
        rw [hk] at hk'
        injection hk' with hk'
        injection hk' with e5 e6
        subst e5 e6
        exact ⟨sameUpd (Same.refl _) hT, rep_pair hT (rep_keyT k hq) hv⟩
section
variable {X : Cx} {fm : Fm} {Wi : WX} {al al1 : Bool} {t res : OT} {f : Rho → R D} {ot : Nat → OT} {tg e : Expr}
theorem pi_gK (he : PE X e (tE fm Wi al t f)) : PI X tg e (iDG X JK (tE fm Wi al t f)) :=
  PI.imp (pi_dK he) fun σ H R ⟨ρ, fps, er, h⟩ => ⟨ρ, fps, er, OKE.mono h fun v H1 ⟨a, u, ex, hr, hu, q⟩ => ⟨a, u, ex, hr, hu.mut, fun od h1 h2 => by
    cases u with
    | dK kvs => exact .inl ⟨kvs, rfl, q od _ h1 h2 (.inl ⟨kvs, rfl, rfl⟩)⟩
    | dT kvs => exact .inr ⟨kvs, rfl, q od _ h1 h2 (.inr ⟨kvs, rfl, rfl⟩)⟩
    | _ => exact hu.elim⟩⟩
theorem pi_gI {elts : List Expr} {kk : Nat} {tpos apos cpos : Pos} (he : PE X e (tE fm Wi al t f)) (hbase : attributeBase e "items" X.env (eval e X.env) = eval e X.env) (hline : (apos.endLine == cpos.line) = true) :
    PI X (.Tuple elts kk tpos) (.Call (.Attribute e "items" apos) [] [] cpos) (iDG X JI (tE fm Wi al t f)) :=
  PI.imp (pi_dI he hbase hline) fun σ H R ⟨ρ, fps, er, h⟩ => ⟨ρ, fps, er, OKE.mono h fun v H1 ⟨a, u, ex, hr, hu, q⟩ => ⟨a, u, ex, hr, hu.mut, fun od h1 h2 => by
    cases u with
    | dK kvs => exact .inl ⟨kvs, rfl, q od _ h1 h2 (.inl ⟨kvs, rfl, rfl⟩)⟩
    | dT kvs => exact .inr ⟨kvs, rfl, q od _ h1 h2 (.inr ⟨kvs, rfl, rfl⟩)⟩
    | _ => exact hu.elim⟩⟩
end
end L2.Py

set_option maxRecDepth 100000
set_option maxHeartbeats 2000000
namespace L2.Py
open PySem PySem.Spec PyProof.Rows TL L2
section
variable {X : Cx} {tg e : Expr}
theorem PG.ex {ι : Type} {t : ι → TG} (h : ∀ a, PG X tg (t a)) : PG X tg (fun v σ H Q => ∃ a, t a v σ H Q) := ⟨fun pins s σ H v u Q I r ⟨a, q⟩ => (h a).run pins s σ H v u Q I r q⟩
theorem PTs.ex {ι : Type} {b : List Expr} {t : ι → TT} (h : ∀ a, PTs X b (t a)) : PTs X b (fun σ H Q => ∃ a, t a σ H Q) := ⟨fun pins s σ H Q I ⟨a, q⟩ => (h a).run pins s σ H Q I q⟩
theorem PE.ex {ι : Type} {t : ι → TE} (h : ∀ a, PE X e (t a)) : PE X e (fun σ H Q => ∃ a, t a σ H Q) := ⟨fun pins s σ H Q I ⟨a, q⟩ => (h a).run pins s σ H Q I q⟩
end
section
variable {X : Cx} {fm : Fm} {Wi : WX} {al al1 al2 : Bool} {t res : OT} {f g : Rho → R D} {ot ot' ot'' : Nat → OT} {ρ : Rho} {σ : St} {H H1 H2 : Hp} {fps fps1 : Fps} {D1 D2 : Ends} {a : Addr} {u : HO} {od : Obj}
theorem dct_in {v : V} {fp : List Addr} {b : Bool} {es : List D} (er : ER fm ρ σ H fps) (hF : Fq fm fps H false [] a) : InB fm a ∧ ∀ i, a ∉ fps i := by
  rcases hF with z | ⟨z, _⟩
  · cases z
  · rcases z with z | z
    · exact z
    · exact ⟨.inr (.inl (er.h0 z)), fun i h => er.trk i a h z⟩
theorem fq_lk {b : Addr} {o : HO} (er : ER fm ρ σ H fps) (h : Fq fm fps H false [] b) : Fz (fm.lk a o) fps b := by
  rcases h with z | ⟨z, _⟩
  · cases z
  · refine fz_lk ?_
    rcases z with z | z
    · exact z
    · exact ⟨.inr (.inl (er.h0 z)), fun i h => er.trk i b h z⟩
theorem lc_readD {vs : List Nat} {fl tt : Bool} {k : ItK} {Jd : Addr → Obj → HO → It → Prop} {p : Rho → R Bool} {h : Rho → R D} (w : DWalk k Jd) {σ : St} {H : Hp} {Q : VK}
    (q : tE fm Wi false t (fun ρ => do
      let d ← f ρ
      let ds ← itD k [d]
      let ys ← noExn (compL h p (fun d => bindFl fl tt vs d (wipeE ρ vs)) ds)
      if ys.length ≤ lim then pure (.lst ys) else .stk) σ H Q) :
    tLc (iDG X Jd (tE fm Wi false .fr f)) (fun v σ H Q => ∃ x : Addr × HO, tG (fm.lk x.1 x.2) vs (bindTg tt vs) v σ H Q) (fun σ H Q => ∃ x : Addr × HO, tTT (fm.lk x.1 x.2) W0 p σ H Q) (fun σ H Q => ∃ x : Addr × HO, tE (fm.lk x.1 x.2) W0 false t.elem h σ H Q) vs σ H
      (fun v H' => Unl X H' (Q v)) := by
  obtain ⟨ρ, fps, er, q⟩ := q
  refine ⟨ρ, fps, er, OKE.seq q fun d v H1 fp e1 s x => ?_⟩
  dsimp only at q
  rw [e1, ok_bind] at q
  rcases w.only d with ⟨b, es, rfl⟩ | e
  · obtain ⟨ds, ed⟩ := w.ok b es
    rw [ed, ok_bind] at q
    obtain rfl := x.fr
    obtain ⟨a, u, rfl, hr, hu, hF, hwk⟩ := w.wk x.rep
    obtain ⟨hB, na⟩ := dct_in (v := .non) (fp := []) (b := b) (es := es) er hF
    refine ⟨a, u, rfl, hr, hu, fun od J h1 h2 hJ => ?_⟩
    have wk := hwk ds ed od J hJ
    have hf : ∀ o, fm.H0 a = some o → a ∉ fm.Lt → H1 a = some o := fun o q n => s _ _ (er.frame a o q n)
    have erL : ER (fm.lk a (.frz od u)) ρ σ (upd H1 a (.frz od u)) fps := (er.ext s).lock hr hu na
    refine (?_ : tLc (fun σ H R => R J (upd H1 a (.frz od u))) (fun v σ H Q => ∃ x : Addr × HO, tG (fm.lk x.1 x.2) vs (bindTg tt vs) v σ H Q) (fun σ H Q => ∃ x : Addr × HO, tTT (fm.lk x.1 x.2) W0 p σ H Q) (fun σ H Q => ∃ x : Addr × HO, tE (fm.lk x.1 x.2) W0 false t.elem h σ H Q) vs σ (upd H1 a (.frz od u))
      (fun v H' => Unl X H' (Q v)))
    refine lc_go (t := t) (Wi := Wi) (fl := fl) (al1 := false) (fun z => nomatch z) erL (Same.refl _) (fun i H' F' sm l => wk i H' F' (sm _ _ upd_same) ((lv_lock hr hu (fun z => nomatch z) fun b _ z => .inr ⟨.inl (fq_lk er z), fun z => nomatch z⟩ : Leaves H1 (upd H1 a (.frz od u)) (Fq fm fps H false []) (Fq (fm.lk a (.frz od u)) fps (upd H1 a (.frz od u)) false []) []).trans l))
      (fun v σ H Q z => ⟨(a, .frz od u), z⟩) (fun σ H Q z => ⟨(a, .frz od u), z⟩) (fun σ H Q z => ⟨(a, .frz od u), z⟩) ?_
    -- the result, behind an unlocking
    have fin : ∀ d', OKE fm Wi false t (.ok d') σ H fps Q → OKE (fm.lk a (.frz od u)) Wi false t (.ok d') σ (upd H1 a (.frz od u)) fps fun v H' => Unl X H' (Q v) := fun d' q v H' fp s2 x2 => by
      obtain ⟨H'', bk, ea, hU⟩ := bk_of (fm := fm) (X := X) hr hu h1 h2 hf (s2 _ _ upd_same)
      have sHH : Same H H'' := fun b o e => by
        by_cases hb : b = a
        · subst hb; rw [ea]; exact s _ _ e
        · rw [bk.oth b hb]
          exact s2 _ _ (by rw [upd_ne hb]; exact s _ _ e)
      have hn : ∀ b, upd H1 a (.frz od u) b = none → H b = none := fun b z => by
        by_cases hb : b = a
        · subst hb; rw [upd_same] at z; cases z
        · rw [upd_ne hb] at z; exact s.free z
      have nfp : a ∉ fp := fun z => by
        have := x2.new a z
        rw [upd_same] at this; cases this
      refine hU _ (q v H'' fp sHH ⟨Rep.leaves _ _ _ _ (bk.lv nfp fun b _ z => ?_) x2.rep, x2.nd, fun b z => hn b (x2.new b z)⟩)
      rcases z with z | ⟨z, z2⟩
      · cases z
      · refine .inr ⟨?_, z2⟩
        rcases z with z | z
        · exact .inl (fz_unlk hB z)
        · exact .inr (hn b z)
    revert q
    cases compL h p (fun d => bindFl fl tt vs d (wipeE ρ vs)) ds with
    | ok ys =>
      intro q
      have q : OKE fm Wi false t (if ys.length ≤ lim then .ok (.lst ys) else .stk) σ H fps Q := q
      show OKE (fm.lk a (.frz od u)) Wi false t (if ys.length ≤ lim then .ok (.lst ys) else .stk) σ _ fps _
      split at q
      · rename_i hl
        rw [if_pos hl]; exact fin _ q
      · exact q.elim
    | exn c ps => exact fun q => q.elim
    | stk => exact fun q => q.elim
  · rw [e] at q; exact q.elim
theorem de_compD {elt tg iter : Expr} {ifs : List Expr} {scope : Scope} {own : List (Str × Nat)} {pos : Pos} {vs : List Nat} {fl tt : Bool} {k : ItK} {Jd : Addr → Obj → HO → It → Prop} {p : Rho → R Bool} {h : Rho → R D} (w : DWalk k Jd) (hc : X.calm = true) (hN : X.N.Nodup)
    (hi : PI X tg iter (iDG X Jd (tE fm Wi false .fr f))) (ok : BlkOk X.N X.env.scope scope own) (how : own.map (·.2) = vs)
    (hg : ∀ (x : Addr × HO) (s : Shared) (H : Hp) (C : Addr) (cl : List (Str × Addr)) (fp : List Addr), PG (X.blk s H scope (compEnvC scope cl C X.env) fp) tg (tG (fm.lk x.1 x.2) vs (bindTg tt vs)))
    (ht : ∀ (x : Addr × HO) (s : Shared) (H : Hp) (C : Addr) (cl : List (Str × Addr)) (fp : List Addr), PTs (X.blk s H scope (compEnvC scope cl C X.env) fp) ifs (tTT (fm.lk x.1 x.2) W0 p))
    (he : ∀ (x : Addr × HO) (s : Shared) (H : Hp) (C : Addr) (cl : List (Str × Addr)) (fp : List Addr), PE (X.blk s H scope (compEnvC scope cl C X.env) fp) elt (tE (fm.lk x.1 x.2) W0 false t.elem h)) (hs : noSet iter = true) :
    PE X (.ListComp elt [⟨tg, iter, ifs, 0⟩] scope pos) (tE fm Wi false t fun ρ => do
      let d ← f ρ
      let ds ← itD k [d]
      let ys ← noExn (compL h p (fun d => bindFl fl tt vs d (wipeE ρ vs)) ds)
      if ys.length ≤ lim then pure (.lst ys) else .stk) := by
  subst how
  exact PE.imp (pe_unl (pe_lc hc hN hi ok (fun s H C cl fp => PG.ex fun x => hg x s H C cl fp) (fun s H C cl fp => PTs.ex fun x => ht x s H C cl fp) (fun s H C cl fp => PE.ex fun x => he x s H C cl fp) (set_of hs))) fun σ H Q q => lc_readD (fl := fl) w q
theorem d_setLcD {i : Nat} {y : Str} {py : Pos} {elt tg iter : Expr} {ifs : List Expr} {scope : Scope} {own : List (Str × Nat)} {pos spos : Pos} {vs : List Nat} {fl tt : Bool} {k : ItK} {Jd : Addr → Obj → HO → It → Prop} {p : Rho → R Bool} {h : Rho → R D} (w : DWalk k Jd) (hc : X.calm = true) (hN : X.N.Nodup) (hy : X.N[i]? = some y) (hyl : X.env.scope.names.lookup y = some .local)
    (hsw : swapsWith (.ListComp elt [⟨tg, iter, ifs, 0⟩] scope pos) (some (.Name y py)) spos.line X.env = pure true)
    (hi : PI X tg iter (iDG X Jd (tE (fm.w ot) Wi false .fr f))) (ok : BlkOk X.N X.env.scope scope own) (how : own.map (·.2) = vs)
    (hg : ∀ (x : Addr × HO) (s : Shared) (H : Hp) (C : Addr) (cl : List (Str × Addr)) (fp : List Addr), PG (X.blk s H scope (compEnvC scope cl C X.env) fp) tg (tG ((fm.w ot).lk x.1 x.2) vs (bindTg tt vs)))
    (ht : ∀ (x : Addr × HO) (s : Shared) (H : Hp) (C : Addr) (cl : List (Str × Addr)) (fp : List Addr), PTs (X.blk s H scope (compEnvC scope cl C X.env) fp) ifs (tTT ((fm.w ot).lk x.1 x.2) W0 p))
    (he : ∀ (x : Addr × HO) (s : Shared) (H : Hp) (C : Addr) (cl : List (Str × Addr)) (fp : List Addr), PE (X.blk s H scope (compEnvC scope cl C X.env) fp) elt (tE ((fm.w ot).lk x.1 x.2) W0 false t.elem h)) (hs : noSet iter = true) (hio : NioS fm i t) :
    PS X (.Assign [.Name y py] (.ListComp elt [⟨tg, iter, ifs, 0⟩] scope pos) spos) (tB fm Wi res ot (otSet ot i t) fun ρ => .ofR ρ (do
      let d ← f ρ
      let ds ← itD k [d]
      let ys ← noExn (compL h p (fun d => bindFl fl tt vs d (wipeE ρ vs)) ds)
      if ys.length ≤ lim then pure (.lst ys) else .stk) fun d => .next (ρ.put i d)) := by
  subst how
  refine PS.imp (ps_unl (ps_setLc hc hN hy hyl hsw hi ok (fun s H C cl fp => PG.ex fun x => hg x s H C cl fp) (fun s H C cl fp => PTs.ex fun x => ht x s H C cl fp) (fun s H C cl fp => PE.ex fun x => he x s H C cl fp) (set_of hs))) fun En σ H ⟨ρ, fps, er, h⟩ =>
    lc_readD (fl := fl) (Wi := Wi) (t := t) (Q := fun v H' => En.nx (σ.set i (some v)) H') w ⟨ρ, fps, er, OKS.ofR er h fun d v H1 fp e1 hk s x => ?_⟩
  obtain ⟨q1, q2⟩ := er.put (i := i) s x hio.n
  exact hk _ H1 _ q1 q2
end
end L2.Py

set_option maxRecDepth 100000
set_option maxHeartbeats 2000000
namespace L2.Py
open PySem PySem.Spec PyProof.Rows TL L2
section
variable {X : Cx} {fm : Fm} {Wi : WX} {al al1 : Bool} {t : OT} {f : Rho → R D}
end
end L2.Py

set_option maxRecDepth 100000
set_option maxHeartbeats 2000000
namespace L2.Py
open PySem PySem.Spec PyProof.Rows TL L2
def MkT (m : Nat) : Prop := ∃ k, (3 ≤ k ∧ k ≤ 17) ∧ m + 1 = 2 ^ k
def fiveN : Nat → Nat
  | 0 => 0
  | n + 1 => 5 * fiveN n + 1
theorem five_lcg (m : Nat) : ∀ n, lcgN m n = fiveN n % (m + 1)
  | 0 => (Nat.zero_mod _).symm
  | n + 1 => by
    show (lcgN m n * 5 + 1) % (m + 1) = (5 * fiveN n + 1) % (m + 1)
    rw [five_lcg m n, Nat.add_mod, Nat.mul_mod, Nat.mod_mod, ← Nat.mul_mod, ← Nat.add_mod, Nat.mul_comm]
theorem five_pow : ∀ n, 5 ^ n = 4 * fiveN n + 1
  | 0 => rfl
  | n + 1 => by
    rw [Nat.pow_succ, five_pow n]
    show _ = 4 * (5 * fiveN n + 1) + 1
    omega
theorem five_add (a : Nat) : ∀ n, fiveN (a + n) = 5 ^ n * fiveN a + fiveN n
  | 0 => by simp [fiveN]
  | n + 1 => by
    show 5 * fiveN (a + n) + 1 = 5 ^ (n + 1) * fiveN a + (5 * fiveN n + 1)
    rw [five_add a n, Nat.pow_succ, Nat.mul_add, ← Nat.mul_assoc, Nat.mul_comm 5 (5 ^ n)]
    omega
theorem five_dbl (q : Nat) : fiveN (2 * q) = 2 * (fiveN q * (2 * fiveN q + 1)) := by
  rw [Nat.two_mul q, five_add, five_pow]
  generalize fiveN q = s
  rw [Nat.add_mul, Nat.mul_add, Nat.mul_assoc 4]
  have : s * (2 * s) = 2 * (s * s) := by rw [Nat.mul_left_comm]
  rw [this]
  omega
theorem five_par : ∀ n, fiveN n % 2 = n % 2
  | 0 => rfl
  | n + 1 => by
    have := five_par n
    show (5 * fiveN n + 1) % 2 = _
    omega
theorem two_odd (k s : Nat) : Nat.Coprime (2 ^ k) (2 * s + 1) := by
  refine Nat.Coprime.pow_left k ?_
  show Nat.gcd 2 (2 * s + 1) = 1
  rw [Nat.gcd_rec]
  have : (2 * s + 1) % 2 = 1 := by omega
  rw [this]
  rfl
theorem five_dvd : ∀ k n, 2 ^ k ∣ fiveN n → 2 ^ k ∣ n
  | 0, n, _ => by simp
  | k + 1, n, h => by
    have h2 : 2 ∣ fiveN n := Nat.dvd_trans ⟨2 ^ k, by rw [Nat.pow_succ, Nat.mul_comm]⟩ h
    have hp := five_par n
    obtain ⟨q, rfl⟩ : ∃ q, n = 2 * q := ⟨n / 2, by omega⟩
    rw [five_dbl, Nat.pow_succ, Nat.mul_comm (2 ^ k) 2] at h
    have h3 := Nat.dvd_of_mul_dvd_mul_left (by decide : 0 < 2) h
    have h4 := five_dvd k q ((two_odd k (fiveN q)).dvd_of_dvd_mul_right h3)
    rw [Nat.pow_succ, Nat.mul_comm (2 ^ k) 2]
    exact Nat.mul_dvd_mul_left 2 h4
theorem five_end : ∀ k, 2 ^ k ∣ fiveN (2 ^ k)
  | 0 => by simp
  | k + 1 => by
    rw [Nat.pow_succ, Nat.mul_comm (2 ^ k) 2, five_dbl]
    exact Nat.mul_dvd_mul_left 2 (Nat.dvd_trans (five_end k) (Nat.dvd_mul_right _ _))
theorem five_inj {k i j : Nat} (hij : i < j) (hj : j < 2 ^ k) : fiveN i % 2 ^ k ≠ fiveN j % 2 ^ k := fun e => by
  have h1 : 2 ^ k ∣ fiveN j - fiveN i := Nat.dvd_of_mod_eq_zero (Nat.sub_mod_eq_zero_of_mod_eq e.symm)
  have h2 := five_add (j - i) i
  rw [Nat.sub_add_cancel (Nat.le_of_lt hij)] at h2
  rw [h2, Nat.add_sub_cancel] at h1
  have c5 : Nat.Coprime (2 ^ k) (5 ^ i) := Nat.Coprime.pow k i (by decide)
  have h3 := five_dvd k _ (c5.dvd_of_dvd_mul_left h1)
  have h4 := Nat.le_of_dvd (by omega) h3
  omega
theorem MkT.back {m : Nat} (g : MkT m) : lcgN m (m + 1) = 0 := by
  obtain ⟨k, _, e⟩ := g
  rw [five_lcg, e]
  exact Nat.mod_eq_zero_of_dvd (five_end k)
theorem MkT.some_at {m : Nat} (g : MkT m) {y : Nat} (hy : y ≤ m) : ∃ b, b ≤ m ∧ lcgN m b = y := by
  obtain ⟨k, _, e⟩ := g
  refine Classical.byContradiction fun c => ?_
  have no : ∀ b, b ≤ m → lcgN m b ≠ y := fun b hb h => c ⟨b, hb, h⟩
  have nd : ((List.range (m + 1)).map (lcgN m)).Nodup := by
    refine List.pairwise_map.mpr (List.Pairwise.imp_of_mem (fun {a b} ha hb hlt => ?_) List.pairwise_lt_range)
    rw [five_lcg, five_lcg, e]
    exact five_inj hlt (e ▸ List.mem_range.mp hb)
  have h1 := nat_nodup_len _ ((List.range (m + 1)).erase y) nd fun x hx => by
    obtain ⟨b, hb, rfl⟩ := List.mem_map.mp hx
    have hb := List.mem_range.mp hb
    refine (List.mem_erase_of_ne (no b (by omega))).mpr (List.mem_range.mpr ?_)
    rw [five_lcg]
    exact Nat.mod_lt _ (by omega)
  rw [List.length_map, List.length_erase_of_mem (List.mem_range.mpr (by omega)), List.length_range] at h1
  omega
theorem MkT.again {m : Nat} (g : MkT m) (k : Nat) : lcgN m (m + 1 + k) = lcgN m k := by
  induction k with
  | zero => exact g.back
  | succ k ih =>
    show (lcgN m (m + 1 + k) * 5 + 1) % (m + 1) = _
    rw [ih]
    rfl
theorem MkT.big {m : Nat} (g : MkT m) : 7 ≤ m ∧ m < 131072 := by
  obtain ⟨k, ⟨h1, h2⟩, e⟩ := g
  have a : 2 ^ 3 ≤ 2 ^ k := Nat.pow_le_pow_right (by decide) h1
  have b : 2 ^ k ≤ 2 ^ 17 := Nat.pow_le_pow_right (by decide) h2
  omega
theorem MkT.seven : MkT 7 := ⟨3, by decide, rfl⟩
theorem size_go {n j : Nat} (h1 : n < 2 ^ j) (h2 : ∀ t, t < j → 2 ^ t ≤ n) : ∀ f i, i ≤ j → j < i + f → SetTable.sizeAbove.go n f (2 ^ i) = 2 ^ j
  | 0, i, a, b => by omega
  | f + 1, i, a, b => by
    unfold SetTable.sizeAbove.go
    by_cases c : i = j
    · subst c
      rw [if_neg (by omega)]
    · rw [if_pos (h2 i (by omega)), ← Nat.pow_succ]
      exact size_go h1 h2 f (i + 1) (by omega) (by omega)
theorem MkT.grow {m n : Nat} (g : MkT m) (hm : m < 32768) (h1 : m * 3 ≤ n * 5) (h2 : n * 5 < m * 3 + 5) : SetTable.sizeAbove (SetTable.grown n) = 4 * (m + 1) ∧ MkT (4 * (m + 1) - 1) := by
  have hb := g.big
  obtain ⟨k, ⟨a, b⟩, e⟩ := g
  have k14 : k ≤ 15 := by
    refine Nat.le_of_not_lt fun c => ?_
    have : 2 ^ 16 ≤ 2 ^ k := Nat.pow_le_pow_right (by decide) c
    omega
  have p2 : 2 ^ (k + 2) = 4 * (m + 1) := by rw [e, Nat.pow_add]; omega
  refine ⟨?_, ⟨k + 2, ⟨by omega, by omega⟩, by rw [p2]; omega⟩⟩
  have hg : SetTable.grown n = n * 4 := by
    unfold SetTable.grown
    rw [if_neg (by omega)]
  rw [hg, ← p2]
  unfold SetTable.sizeAbove
  refine size_go (j := k + 2) (by rw [p2]; omega) (fun t ht => ?_) 64 3 (by omega) (by omega)
  have : 2 ^ t ≤ 2 ^ (k + 1) := Nat.pow_le_pow_right (by decide) (by omega)
  have : 2 ^ (k + 1) = 2 * (m + 1) := by rw [e, Nat.pow_succ]; omega
  omega
theorem MkT.to_any {m : Nat} (g : MkT m) {x y : Nat} (hx : x ≤ m) (hy : y ≤ m) : ∃ q, q ≤ m ∧ lcgI m x q = y := by
  obtain ⟨u, u1, u2⟩ := g.some_at hx
  obtain ⟨v, v1, v2⟩ := g.some_at hy
  subst u2 v2
  by_cases c : u ≤ v
  · exact ⟨v - u, by omega, by rw [lcgN_add, Nat.add_sub_cancel' c]⟩
  · refine ⟨m + 1 + v - u, by omega, ?_⟩
    rw [lcgN_add, Nat.add_sub_cancel' (by omega : u ≤ m + 1 + v), g.again]
theorem MkT.starts {m : Nat} (g : MkT m) (z : Int) {y : Nat} (hy : y ≤ m) : ∃ q, q ≤ m + 12 ∧ runI m (SetTable.bits z) q = y := by
  obtain ⟨q, q1, q2⟩ := g.to_any (runI_le m (SetTable.bits z) 12) hy
  exact ⟨12 + q, by omega, (runI_tail (bits_lt z) q).trans q2⟩
theorem MkT.soon {m : Nat} (g : MkT m) (z : Int) {y : Nat} (hy : y ≤ m) : ∃ q, q < 10 * SetTable.turns m ∧ way m z q = y := by
  obtain ⟨n, n1, n2⟩ := g.starts z hy
  obtain ⟨q, q1, q2⟩ := run_nth m (SetTable.bits z) n
  refine ⟨q, by unfold SetTable.turns; omega, ?_⟩
  show SetTable.Probe.j _ = y
  rw [q2]
  exact n2
theorem way_in (m : Nat) (z : Int) (q : Nat) : way m z q ≤ m := by
  have h1 : SetTable.bits z % (m + 1) ≤ m := Nat.le_of_lt_succ (Nat.mod_lt _ (by omega))
  have h2 := runEnd_bd h1
  have h3 := nth_in q (m := m) (runAt m (SetTable.bits z % (m + 1)) (SetTable.bits z)) (by
    simp only [runAt]
    omega)
  exact Nat.le_trans (Nat.le_add_right _ _) h3
theorem MkT.odd {m : Nat} (g : MkT m) : m % 2 = 1 := by
  obtain ⟨k, ⟨a, _⟩, e⟩ := g
  obtain ⟨q, rfl⟩ : ∃ q, k = q + 1 := ⟨k - 1, by omega⟩
  rw [Nat.pow_succ] at e
  omega
structure TabB (T : SetTable) (zs : List Int) : Prop where
  up : Ris T.place.toList
  clean : T.dummies = #[]
  cnt : T.place.size = zs.length
  mok : MkT T.mask
  low : ∀ y, y ∈ T.place.toList → y ≤ T.mask
  back : ∀ (n : Nat) (z : Int) (y : Nat), zs[n]? = some z → T.place.toList[n]? = some y → ∃ q, way T.mask z q = y ∧ ∀ r, r < q → way T.mask z r ∈ T.place.toList
theorem TabB.hole {T : SetTable} {zs : List Int} (B : TabB T zs) (hz : zs.length ≤ T.mask) (z : Int) :
    ∃ q, q < 10 * SetTable.turns T.mask ∧ way T.mask z q ∉ T.place.toList ∧ ∀ r, r < q → way T.mask z r ∈ T.place.toList := by
  obtain ⟨y, y1, y2⟩ := st_missing T.place.toList (T.mask + 1) (by rw [Array.length_toList, B.cnt]; omega)
  obtain ⟨q, q1, q2⟩ := B.mok.soon z (Nat.lt_succ_iff.mp y1)
  obtain ⟨q', l1, l2, l3⟩ := st_least (p := fun r => ¬ way T.mask z r ∈ T.place.toList) q (by rw [q2]; exact y2)
  exact ⟨q', by omega, l2, fun r hr => Classical.not_not.mp (l3 r hr)⟩
theorem TabB.ahead {T : SetTable} {zs : List Int} (B : TabB T zs) {z : Int} {q n y : Nat} (hq : way T.mask z q ∉ T.place.toList) (hn : zs[n]? = some z) (hy : T.place.toList[n]? = some y) :
    ∃ r, r < q ∧ way T.mask z r = y := by
  obtain ⟨r, r1, r2⟩ := B.back n z y hn hy
  refine ⟨r, Nat.lt_of_not_le fun h => ?_, r1⟩
  rcases Nat.lt_or_eq_of_le h with h | h
  · exact hq (r2 q h)
  · rw [h, r1] at hq
    exact hq (List.mem_of_getElem? hy)
theorem TabB.put {T : SetTable} {zs : List Int} (B : TabB T zs) {z : Int} {q : Nat} (hq : way T.mask z q ∉ T.place.toList) (hb : ∀ r, r < q → way T.mask z r ∈ T.place.toList) :
    ∃ n, (T.put (way T.mask z q)).2 = n ∧ n = SetTable.below T.place (way T.mask z q) ∧ n ≤ zs.length ∧ TabB (T.put (way T.mask z q)).1 (zs.take n ++ z :: zs.drop n) ∧
      (T.put (way T.mask z q)).1.mask = T.mask ∧ (T.put (way T.mask z q)).1.fill = zs.length + 1 := by
  have hm := way_in T.mask z q
  generalize ey : way T.mask z q = y at hq hm
  have c1 := (below_cut B.up y).1
  generalize en : SetTable.below T.place y = n at c1
  have n1 : n ≤ zs.length := B.cnt ▸ c1
  have n2 : n ≤ T.place.toList.length := c1
  have pl : (T.put y).1.place.toList = T.place.toList.take n ++ y :: T.place.toList.drop n := by rw [put_place, en]
  have more : ∀ {x}, x ∈ T.place.toList → x ∈ (T.put y).1.place.toList := fun h => by rw [pl]; exact mem_ins.mpr (.inr h)
  have cl : (T.put y).1.dummies = #[] := put_dm B.clean y
  have sz : (T.put y).1.place.size = zs.length + 1 := by rw [← Array.length_toList, pl, len_ins _ n2, Array.length_toList, B.cnt]
  refine ⟨n, en, rfl, n1, ?_, rfl, ?_⟩
  · refine { up := ?_, clean := cl, cnt := ?_, mok := B.mok, low := ?_, back := ?_ }
    · exact ris_insert B.up fun e => hq (List.mem_of_getElem? (by rw [Array.getElem?_toList]; exact e))
    · rw [sz, len_ins _ n1]
    · intro x hx
      rw [pl] at hx
      rcases mem_ins.mp hx with e | e
      · exact e ▸ hm
      · exact B.low x e
    · intro i w x hi hx
      rw [pl, tins_get _ n2] at hx
      rw [tins_get _ n1] at hi
      by_cases d : i < n
      · simp only [d, if_true] at hi hx
        obtain ⟨r, r1, r2⟩ := B.back i w x hi hx
        exact ⟨r, r1, fun u hu => more (r2 u hu)⟩
      · simp only [d, if_false] at hi hx
        by_cases d2 : i = n
        · simp only [d2, if_true, Option.some.injEq] at hi hx
          subst hi hx
          exact ⟨q, ey, fun u hu => more (hb u hu)⟩
        · simp only [d2, if_false] at hi hx
          obtain ⟨r, r1, r2⟩ := B.back _ w x hi hx
          exact ⟨r, r1, fun u hu => more (r2 u hu)⟩
  · show (T.put y).1.place.size + (T.put y).1.dummies.size = _
    rw [sz, cl]
    rfl
theorem MkT.free {m : Nat} (g : MkT m) (ow : Array (Option Nat)) (z : Int) {y : Nat} (hy : y ≤ m) (hf : oAt ow y = none) :
    ∃ q, SetTable.layClean.free m ow (SetTable.turns m) (SetTable.bits z % (m + 1)) (SetTable.bits z) = some (way m z q) ∧ oAt ow (way m z q) = none ∧ ∀ r, r < q → oAt ow (way m z r) ≠ none := by
  obtain ⟨n, n1, n2⟩ := g.starts z hy
  obtain ⟨d, ed⟩ : ∃ d, d = off m (SetTable.bits z % (m + 1)) (SetTable.bits z) n := ⟨_, rfl⟩
  have wd : way m z d = y := by
    rw [ed]
    show SetTable.Probe.j _ = y
    rw [nth_off, itL_run]
    exact n2
  obtain ⟨q, l1, l2, l3⟩ := st_least (p := fun r => oAt ow (way m z r) = none) d (by rw [wd]; exact hf)
  refine ⟨q, free_spec m ow (SetTable.turns m) n _ _ q (by unfold SetTable.turns; omega) (ed ▸ l1) (fun r hr => ?_) (Option.isNone_iff_eq_none.mpr l2), l2, l3⟩
  exact Bool.eq_false_iff.mpr fun e => l3 r hr (Option.isNone_iff_eq_none.mp e)
theorem MkT.own {m : Nat} (g : MkT m) {zs : List Int} {ow : Array (Option Nat)} (O : Own m zs ow) (hz : zs.length ≤ m) (z : Int) :
    ∃ y, SetTable.layClean.free m ow (SetTable.turns m) (SetTable.bits z % (m + 1)) (SetTable.bits z) = some y ∧ Own m (zs ++ [z]) (ow.setIfInBounds y (some zs.length)) := by
  obtain ⟨held, e1, e2⟩ := O.ps
  obtain ⟨y0, f1, f2⟩ := st_missing held (m + 1) (by omega)
  have f3 : oAt ow y0 = none := Classical.byContradiction fun c => f2 (e2 y0 (by omega) c)
  obtain ⟨q, g1, g2, g3⟩ := g.free ow z (Nat.lt_succ_iff.mp f1) f3
  have hm := way_in m z q
  generalize ey : way m z q = y at g1 g2 hm
  have hy : y < ow.size := by have := O.sz; omega
  have me := oAt_set_self (some zs.length) hy
  have keep : ∀ {x}, oAt ow x ≠ none → oAt (ow.setIfInBounds y (some zs.length)) x ≠ none := fun {x} h => by
    rcases Classical.em (x = y) with c | c
    · rw [c, me]; simp
    · rwa [oAt_set_ne _ c]
  have ll : (zs ++ [z]).length = zs.length + 1 := by simp
  refine ⟨y, g1, { sz := (Array.size_setIfInBounds ..).trans O.sz, at_ := ?_, all := ?_, ps := ?_ }⟩
  · intro x n hx e
    rcases Classical.em (x = y) with c | c
    · rw [c, me] at e
      injection e with e
      subst e
      exact ⟨z, q, by simp, ey.trans c.symm, fun r hr => keep (g3 r hr)⟩
    · rw [oAt_set_ne _ c] at e
      obtain ⟨w, r, r1, r2, r3⟩ := O.at_ x n hx e
      exact ⟨w, r, by rw [List.getElem?_append_left (List.getElem?_eq_some_iff.mp r1).1, r1], r2, fun u hu => keep (r3 u hu)⟩
  · intro n hn
    rcases Nat.lt_or_ge n zs.length with c | c
    · obtain ⟨x, hx, e⟩ := O.all n c
      exact ⟨x, hx, (oAt_set_ne _ fun k => by rw [k, g2] at e; cases e).trans e⟩
    · rw [ll] at hn
      exact ⟨y, hm, (show n = zs.length by omega) ▸ me⟩
  · refine ⟨y :: held, by simp [e1], fun x hx e => ?_⟩
    rcases Classical.em (x = y) with c | c
    · simp [c]
    · rw [oAt_set_ne _ c] at e
      exact List.mem_cons_of_mem _ (e2 x hx e)
theorem MkT.fold {m : Nat} (g : MkT m) : ∀ (more zs : List Int) (ow : Array (Option Nat)), Own m zs ow → zs.length + more.length ≤ m →
    ∃ ow', more.foldl (stepF m) (some (ow, zs.length)) = some (ow', (zs ++ more).length) ∧ Own m (zs ++ more) ow' := by
  intro more
  induction more with
  | nil => intro zs ow O _; exact ⟨ow, by simp, by simpa using O⟩
  | cons z more ih =>
    intro zs ow O hz
    rw [List.length_cons] at hz
    obtain ⟨y, e, O1⟩ := g.own O (by omega) z
    have ll : (zs ++ [z]).length = zs.length + 1 := by simp
    obtain ⟨ow', f, O2⟩ := ih (zs ++ [z]) _ O1 (by omega)
    have ea : zs ++ [z] ++ more = zs ++ z :: more := by simp
    rw [ea] at f O2
    rw [ll] at f
    exact ⟨ow', by rw [List.foldl_cons, stepF_some e, f], O2⟩
theorem MkT.clean {m : Nat} (g : MkT m) {za : Array Int} (hz : za.size ≤ m) : ∃ ow, SetTable.layClean m za = some ow ∧ Own m za.toList ow := by
  obtain ⟨ow, f, O⟩ := g.fold za.toList [] _ (Own.init m) (by simpa using hz)
  refine ⟨ow, ?_, O⟩
  have f0 : za.toList.foldl (stepF m) (some (Array.replicate (m + 1) none, 0)) = some (ow, za.toList.length) := f
  rw [layClean_eq, f0]
  rfl
theorem MkT.relaid {M : Nat} (g : MkT M) (T : SetTable) {za : Array Int} {n : Nat} (hn : SetTable.sizeAbove n - 1 = M) (hz : za.size ≤ M) :
    ∃ T' o, T.relaid za n = some (T', o) ∧ o.toList.Perm (List.range za.size) ∧ TabB T' (o.toList.map fun i => za.getD i 0) ∧ T'.mask = M := by
  obtain ⟨ow, e, O⟩ := g.clean hz
  have rises := ris_live (fun y => ow.getD y none) (List.range (M + 1)) (List.pairwise_lt_range ..)
  change Ris ((liveOf M ow).map (·.1)) ∧ ∀ x ∈ (liveOf M ow).map (·.1), x ∈ List.range (M + 1) at rises
  obtain ⟨s1, s2⟩ := rises
  have dist : ((liveOf M ow).map (·.1)).Nodup := s1.imp fun h => Nat.ne_of_lt h
  have ml := fun {y n} => mem_live O.sz (j := y) (k := n)
  have cnt : (liveOf M ow).length = za.size := by
    obtain ⟨held, h1, h2⟩ := O.ps
    refine Nat.le_antisymm ?_ ?_
    · have u := nat_nodup_len _ held dist fun x hx => by
        obtain ⟨⟨y, n⟩, hq, rfl⟩ := List.mem_map.mp hx
        obtain ⟨b1, b2⟩ := ml.mp hq
        exact h2 y b1 (by simp [b2])
      simpa [h1] using u
    · have u := nat_nodup_len (List.range za.size) ((liveOf M ow).map (·.2)) List.nodup_range fun n hn => by
        obtain ⟨y, b1, b2⟩ := O.all n (by simpa using List.mem_range.mp hn)
        exact List.mem_map.mpr ⟨(y, n), ml.mpr ⟨b1, b2⟩, rfl⟩
      simpa using u
  refine ⟨tabOf T M ow, ((liveOf M ow).map (·.2)).toArray, by rw [relaid_eq, hn, e]; rfl, ?_, ?_, rfl⟩
  · refine perm_range _ _ (by simpa using cnt) fun n hn => ?_
    obtain ⟨y, b1, b2⟩ := O.all n (by simpa using hn)
    exact List.mem_map.mpr ⟨(y, n), ml.mpr ⟨b1, b2⟩, rfl⟩
  · refine { up := s1, clean := rfl, cnt := by simp [tabOf], mok := g, low := fun x hx => ?_, back := fun i z y hi hy => ?_ }
    · exact Nat.lt_succ_iff.mp (List.mem_range.mp (s2 x hx))
    · have hi' : (((liveOf M ow).map (·.2)).map fun i => za.getD i 0)[i]? = some z := hi
      have hy' : ((liveOf M ow).map (·.1))[i]? = some y := hy
      simp only [List.getElem?_map, Option.map_map, Option.map_eq_some_iff] at hi' hy'
      obtain ⟨⟨y1, n1⟩, hp, e1⟩ := hi'
      obtain ⟨p2, hp2, e2⟩ := hy'
      rw [hp] at hp2
      injection hp2 with hp2
      subst hp2
      simp only [Function.comp] at e1 e2
      subst e2
      obtain ⟨b1, b2⟩ := ml.mp (List.mem_of_getElem? hp)
      obtain ⟨w, q, r1, r2, r3⟩ := O.at_ y1 n1 b1 b2
      have ew : w = z := by
        rw [← e1, Array.getD_eq_getD_getElem?, ← Array.getElem?_toList, r1]
        rfl
      subst ew
      refine ⟨q, r2, fun r hr => ?_⟩
      obtain ⟨n2, e3⟩ := Option.ne_none_iff_exists'.mp (r3 r hr)
      exact List.mem_map.mpr ⟨(way M w r, n2), ml.mpr ⟨way_in M w r, e3⟩, rfl⟩
end L2.Py

set_option maxRecDepth 100000
set_option maxHeartbeats 2000000
namespace L2.Py
open PySem PySem.Spec PyProof.Rows TL L2
abbrev kh (P : Program) (w : World) (k : List Key) : Int := tupleKeyHash (mixKind P w) k
abbrev IsM (P : Program) (w : World) (h : Heap) (k : List Key) (a : Addr) : Prop := IsTupleKey (mixKind P w) h k a
def Leaf (v : Value) : Prop := (∃ i t, v = .int i t) ∨ ∃ x t, v = .str x t
theorem leaves_of {P : Program} {w : World} {k : List Key} {vs : List Value} (h : ItemsAre (mixKind P w) k vs) : ∀ v ∈ vs, Leaf v := by
  induction h with
  | nil => intro v hv; cases hv
  | @cons k0 v0 ks vs h1 _ ih =>
    intro v hv
    rcases List.mem_cons.mp hv with rfl | hv
    · have r := relV_key (show keyIs k0 v = true from h1)
      cases k0 with
      | inl i => exact .inl ⟨i, r⟩
      | inr x => exact .inr ⟨x, r⟩
    · exact ih v hv
theorem leaf_class {v : Value} (h : Leaf v) (n : Nat) : ofAClassStatement n v = pure false := by
  rcases h with ⟨i, t, rfl⟩ | ⟨x, t, rfl⟩ <;> cases n <;> rfl
theorem leaf_byValue {v : Value} (h : Leaf v) (n : Nat) : ∃ b, hashByValue n v = pure b := by
  rcases h with ⟨i, t, rfl⟩ | ⟨x, t, rfl⟩
  · exact ⟨true, by cases n <;> rfl⟩
  · exact ⟨false, by cases n <;> rfl⟩
section
variable {P : Program} {w : World} {A : Around} {E : Value → Shared → Prop} {s : Shared}
theorem m_class {k : List Key} {b : Addr} {Q : Bool → Shared → Prop} (hk : IsM P w s.heap k b) (h : Q false s) : wpAny (model P w) A (ofAClassStatement 8 (.ref b)) Q E s := by
  have hT := hk.typeIs
  obtain ⟨o, items, n, ho, _, hd, hi⟩ := hk
  have lv := leaves_of hi
  unfold ofAClassStatement
  refine wpAny_bind (wpAny_typeOf hT ?_)
  dsimp only
  simp only [show (("tuple" : String) == "tuple") = true by decide, if_true, Bool.not_true, Bool.false_eq_true, if_false]
  try refine wpAny_bind (wpAny_pure ?_)
  try simp only [Bool.not_true, Bool.false_eq_true, if_false]
  show wpAny _ _ (seqItems? (.ref b) >>= _) _ _ s
  refine wpAny_bind (wpAny_seqItems ho hd ?_)
  dsimp only
  refine wpAny_bind ?_
  show wpAny _ _ (forIn items _ _) _ _ s
  rw [← Array.forIn_toList]
  refine wpAny_forIn_list _ (fun rest r s' => r.1 = none ∧ s' = s ∧ ∀ v ∈ rest, Leaf v) _ ?_ ?_ _ _ ⟨rfl, rfl, lv⟩
  · rintro v rest r s' ⟨hr, rfl, hall⟩
    rw [leaf_class (hall v List.mem_cons_self)]
    refine wpAny_bind (wpAny_pure ?_)
    simp only [Bool.false_eq_true, if_false]
    exact wpAny_pure ⟨rfl, rfl, fun u hu => hall u (List.mem_cons_of_mem _ hu)⟩
  · rintro ⟨r1, r2⟩ s' ⟨hr, rfl, _⟩
    simp only at hr
    subst hr
    exact wpAny_pure h
theorem m_byValue {k : List Key} {b : Addr} {Q : Bool → Shared → Prop} (hk : IsM P w s.heap k b) (h : ∀ c, Q c s) : wpAny (model P w) A (hashByValue 8 (.ref b)) Q E s := by
  have hT := hk.typeIs
  obtain ⟨o, items, n, ho, _, hd, hi⟩ := hk
  have lv := leaves_of hi
  unfold hashByValue
  refine wpAny_bind (wpAny_specialOf hT F.slot_tuple_hash.lookup ?_)
  show wpAny _ _ (seqItems? (.ref b) >>= _) _ _ s
  refine wpAny_bind (wpAny_seqItems ho hd ?_)
  refine wpAny_bind ?_
  show wpAny _ _ (forIn items _ _) _ _ s
  rw [← Array.forIn_toList]
  refine wpAny_forIn_list _ (fun rest r s' => r.1 = none ∧ s' = s ∧ ∀ v ∈ rest, Leaf v) _ ?_ ?_ _ _ ⟨rfl, rfl, lv⟩
  · rintro v rest r s' ⟨hr, rfl, hall⟩
    obtain ⟨c, e⟩ := leaf_byValue (hall v List.mem_cons_self) 7
    rw [e]
    refine wpAny_bind (wpAny_pure ?_)
    cases c with
    | true =>
      simp only [Bool.not_true, Bool.false_eq_true, if_false]
      exact wpAny_pure ⟨rfl, rfl, fun u hu => hall u (List.mem_cons_of_mem _ hu)⟩
    | false =>
      simp only [Bool.not_false, if_true]
      exact wpAny_pure (wpAny_pure (h false))
  · rintro ⟨r1, r2⟩ s' ⟨hr, rfl, _⟩
    simp only at hr
    subst hr
    exact wpAny_pure (h true)
theorem m_unseen {k : List Key} {b : Addr} {Q : Bool → Shared → Prop} (hk : IsM P w s.heap k b) {ys : List Value} (hy : ∀ y ∈ ys, ∃ k' c, y = Value.ref c ∧ IsM P w s.heap k' c) (h : Q false s) :
    wpAny (model P w) A (searchCouldBeSeen (.ref b) ys) Q E s := by
  unfold searchCouldBeSeen
  refine wpAny_bind ?_
  refine wpAny_forIn_list _ (fun rest r s' => r.1 = none ∧ s' = s ∧ ∀ y ∈ rest, ∃ k' c, y = Value.ref c ∧ IsM P w s.heap k' c) _ ?_ ?_ _ _ ⟨rfl, rfl, hy⟩
  · rintro v rest r s' ⟨hr, rfl, hall⟩
    obtain ⟨k', c, rfl, hc⟩ := hall v List.mem_cons_self
    have more : ∀ y ∈ rest, ∃ k' c, y = Value.ref c ∧ IsM P w s'.heap k' c := fun u hu => hall u (List.mem_cons_of_mem _ hu)
    dsimp only
    by_cases hv : (b == c || (carriedByValue (.ref b) && carriedByValue (.ref c))) = true
    · exact wp_if_pos hv (wpAny_pure ⟨rfl, rfl, more⟩)
    · refine wp_if_neg hv (wpAny_bind (wpAny_eqIsQuiet_tuple hk ?_))
      simp only [Bool.not_true, Bool.false_eq_true, if_false]
      refine wpAny_bind (wpAny_eqIsQuiet_tuple hc ?_)
      simp only [Bool.not_true, Bool.false_eq_true, if_false]
      refine wpAny_bind (m_class hk ?_)
      simp only [Bool.false_eq_true, if_false]
      refine wpAny_bind (m_class hc ?_)
      simp only [Bool.false_eq_true, if_false]
      exact wpAny_pure ⟨rfl, rfl, more⟩
  · rintro ⟨r1, r2⟩ s' ⟨hr, rfl, _⟩
    simp only at hr
    subst hr
    exact wpAny_pure h
abbrev El := Addr × List Key
abbrev hsh (P : Program) (w : World) (p : El) : Int := kh P w p.2
abbrev row (P : Program) (w : World) (p : El) : Int × Value := (kh P w p.2, .ref p.1)
structure MSet (P : Program) (w : World) (h : Heap) (a : Addr) (L : List El) (es : Array (Int × Value)) (ep : Nat) (t : SetTable) : Prop where
  ob : ∃ o, h.get? a = some o ∧ o.ExactSet ∧ o.data = .set es ep t
  rows : es.toList = L.map (row P w)
  tab : TabB t (L.map (hsh P w))
  nd : (L.map (·.2)).Nodup
  tup : ∀ p ∈ L, IsM P w h p.2 p.1
  room : L.length * 5 < t.mask * 3
  few : L.length < 1200
  low : t.mask < 8192
variable {a : Addr} {L : List El} {es : Array (Int × Value)} {ep : Nat} {t : SetTable}
theorem MSet.size (R : MSet P w s.heap a L es ep t) : es.size = L.length := by
  rw [← Array.length_toList, R.rows, List.length_map]
theorem MSet.psize (R : MSet P w s.heap a L es ep t) : t.place.toList.length = L.length := by
  rw [Array.length_toList, R.tab.cnt, List.length_map]
theorem fits_of (h1 : t.place.size = es.size) (h2 : t.dummies = #[]) (h3 : es.size ≤ t.mask) : t.fits es.size = true := by
  unfold SetTable.fits SetTable.fill
  rw [h2, Bool.and_eq_true, beq_iff_eq, decide_eq_true_eq]
  exact ⟨h1, by show t.place.size + 0 ≤ t.mask; omega⟩
theorem MSet.fits (R : MSet P w s.heap a L es ep t) : t.fits es.size = true := by
  have := R.psize
  rw [Array.length_toList] at this
  have := R.room
  exact fits_of (by rw [R.size]; omega) R.tab.clean (by rw [R.size]; omega)
theorem MSet.at (R : MSet P w s.heap a L es ep t) {i : Nat} {p : El} (h : L[i]? = some p) : es[i]? = some (row P w p) := by
  rw [← Array.getElem?_toList, R.rows, List.getElem?_map, h]
  rfl
theorem MSet.hashAt (R : MSet P w s.heap a L es ep t) {i : Nat} {p : El} (h : L[i]? = some p) : (es[i]?.map (·.1)).getD 0 = kh P w p.2 := by
  rw [R.at h]
  rfl
theorem MSet.whole (R : MSet P w s.heap a L es ep t) : ¬ t.gaveWay = true := by
  unfold SetTable.gaveWay
  rw [R.tab.mok.odd]
  decide
abbrev pr (t : SetTable) (h : Int) (c : Nat) : SetTable.Probe := nth t.mask (runAt t.mask (SetTable.bits h % (t.mask + 1)) (SetTable.bits h)) c
theorem nth_dummy (m : Nat) : ∀ (n : Nat) (p : SetTable.Probe), p.dummy = none → (nth m p n).dummy = none
  | 0, _, h => h
  | n + 1, p, h => nth_dummy m n (adv m p) (by unfold adv; split <;> exact h)
theorem one_slot (r : Ris t.place.toList) {i i' j : Nat} (h : t.place.toList[i]? = some j) (h' : t.place.toList[i']? = some j) : i = i' := by
  have a := slot_live r h
  rw [slot_live r h'] at a
  injection a with a
  exact a.symm
theorem m_search (R : MSet P w s.heap a L es ep t) {x : Addr} {k : List Key} (hx : IsM P w s.heap k x) (hu : A.units < cLine) {K : Nat} (hKf : K < 10 * SetTable.turns t.mask)
    (hK : way t.mask (kh P w k) K ∉ t.place.toList) (hKb : ∀ c, c < K → way t.mask (kh P w k) c ∈ t.place.toList) {Q : SetFound → Shared → Prop}
    (hin : k ∈ L.map (·.2) → Q (.there none) s) (hout : k ∉ L.map (·.2) → Q (.free (way t.mask (kh P w k) K) false) s) :
    ∀ (f c : Nat) (stand : Option SetTable.Probe), stand.getD (t.probeStart (kh P w k)) = pr t (kh P w k) c → c ≤ K → K - c < f →
      (∀ (c' i : Nat) (p : El), c' < c → t.place.toList[i]? = some (way t.mask (kh P w k) c') → L[i]? = some p → p.2 ≠ k) →
      wpAny (model P w) A (setSearchFrom a (.ref x) (kh P w k) true f stand) Q E s
  | 0, c, stand, _, _, hf, _ => absurd hf (Nat.not_lt_zero _)
  | f + 1, c, stand, hst, hc, hf, seen => by
    obtain ⟨o, ho, hex, hd⟩ := R.ob
    have sh : ∀ q, nth t.mask (pr t (kh P w k) c) q = pr t (kh P w k) (c + q) := fun q => (nth_add t.mask c _ q).symm
    have shj : ∀ q, (nth t.mask (pr t (kh P w k) c) q).j = way t.mask (kh P w k) (c + q) := fun q => congrArg SetTable.Probe.j (sh q)
    have back : c + (K - c) = K := by omega
    rw [setSearchFrom_succ]
    refine wpAny_bind (wpAny_setState_of ho hd R.fits ?_)
    dsimp only
    refine wp_if_neg R.whole ?_
    try refine wpAny_bind (wpAny_pure ?_)
    have spec := go_spec t R.tab.up R.tab.clean (fun i => (es[i]?.map (·.1)).getD 0) (kh P w k) (10 * SetTable.turns t.mask) (K - c) (pr t (kh P w k) c) (nth_dummy _ _ _ rfl) (by omega)
      (fun q hq => by rw [shj]; exact hKb (c + q) (by omega)) (by rw [shj, back]; exact hK)
    rcases spec with ⟨q, i, hq, hi, hh, hno, hpr⟩ | ⟨hno, hpr⟩
    · have hpr' : t.probe (fun i => (es[i]?.map (·.1)).getD 0) (kh P w k) (stand.getD (t.probeStart (kh P w k))) = some (.candidate (way t.mask (kh P w k) (c + q)) i (pr t (kh P w k) (c + (q + 1)))) := by
        rw [hst, ← shj, ← sh]
        exact hpr
      rw [hpr']
      dsimp only
      rw [shj] at hi
      obtain ⟨p, hp⟩ : ∃ p, L[i]? = some p := by
        have h1 := (List.getElem?_eq_some_iff.mp hi).1
        rw [R.psize] at h1
        exact ⟨_, List.getElem?_eq_getElem h1⟩
      have hm : p ∈ L := List.mem_of_getElem? hp
      have rest : wpAny (model P w) A (searchRest a (.ref x) (kh P w k) true f es t (way t.mask (kh P w k) (c + q)) i (pr t (kh P w k) (c + (q + 1)))) Q E s := by
        unfold searchRest
        rw [R.at hp]
        dsimp only
        refine wpAny_bind (wpAny_holding (wpAny_eqBool_tuple hu (R.tup p hm) hx (wpAny_bind (wpAny_setState_of ho hd R.fits ?_))))
        dsimp only
        by_cases hkk : p.2 = k
        · exact wp_if_pos (by simp [hkk]) (wpAny_pure (hin (List.mem_map.mpr ⟨p, hm, hkk⟩)))
        · refine wp_if_neg (by simp [hkk]) ?_
          try refine wpAny_bind (wpAny_pure ?_)
          rw [sameMem]
          dsimp only
          simp only [if_true, slot_live R.tab.up hi, R.at hp]
          refine wpAny_bind (wpAny_isSame_ref_self (wpAny_bind (wpAny_pure ?_)))
          simp only [if_true]
          refine wp_if_neg (by simp [hkk]) ?_
          refine m_search R hx hu hKf hK hKb hin hout f (c + (q + 1)) _ rfl (by omega) (by omega) fun c' i' p' h1 h2 h3 e => ?_
          rcases Nat.lt_or_ge c' c with z | z
          · exact seen c' i' p' z h2 h3 e
          · rcases Nat.lt_or_ge c' (c + q) with y | y
            · refine hno (c' - c) i' (by omega) (by rw [shj, show c + (c' - c) = c' by omega]; exact h2) ?_
              show (es[i']?.map (·.1)).getD 0 = _
              rw [R.hashAt h3, e]
            · have e1 : c' = c + q := by omega
              rw [e1] at h2
              have e2 := one_slot R.tab.up hi h2
              rw [← e2, hp] at h3
              injection h3 with h3
              rw [h3] at hkk
              exact hkk e
      by_cases hl : t.led = true
      · refine wp_if_neg (by simp [hl]) ?_
        try refine wpAny_bind (wpAny_pure ?_)
        exact rest
      · refine wp_if_pos (by simp [hl]) ?_
        refine wpAny_bind (m_unseen hx (fun y hy => ?_) ?_)
        · obtain ⟨e, he, rfl⟩ := List.mem_map.mp hy
          have he : e ∈ es ∧ e.1 = kh P w k := by simpa using he
          have he : e ∈ es.toList := by simpa using he.1
          rw [R.rows] at he
          obtain ⟨p2, hp2, rfl⟩ := List.mem_map.mp he
          exact ⟨p2.2, p2.1, rfl, R.tup p2 hp2⟩
        · refine wp_if_neg (by decide) ?_
          try refine wpAny_bind (wpAny_pure ?_)
          exact rest
    · have hpr' : t.probe (fun i => (es[i]?.map (·.1)).getD 0) (kh P w k) (stand.getD (t.probeStart (kh P w k))) = some (.empty (way t.mask (kh P w k) K) none) := by
        rw [hst, show way t.mask (kh P w k) K = (nth t.mask (pr t (kh P w k) c) (K - c)).j by rw [shj, back]]
        exact hpr
      rw [hpr']
      dsimp only
      refine wpAny_pure (hout fun hm => ?_)
      obtain ⟨p0, h0, hk0⟩ := List.mem_map.mp hm
      obtain ⟨i0, hi0, e0⟩ := List.getElem_of_mem h0
      have h3 : L[i0]? = some p0 := by rw [List.getElem?_eq_getElem hi0, e0]
      obtain ⟨j, hj⟩ : ∃ j, t.place.toList[i0]? = some j := ⟨_, List.getElem?_eq_getElem (by rw [R.psize]; exact hi0)⟩
      obtain ⟨c0, h1, h2⟩ := R.tab.ahead hK (n := i0) (by rw [List.getElem?_map, h3]; show some (kh P w p0.2) = _; rw [hk0]) hj
      rw [← h2] at hj
      rcases Nat.lt_or_ge c0 c with z | z
      · exact seen c0 i0 p0 z hj h3 hk0
      · refine hno (c0 - c) i0 (by omega) (by rw [shj, show c + (c0 - c) = c0 by omega]; exact hj) ?_
        show (es[i0]?.map (·.1)).getD 0 = _
        rw [R.hashAt h3, hk0]
theorem m_find (R : MSet P w s.heap a L es ep t) {x : Addr} {k : List Key} (hx : IsM P w s.heap k x) (hu : A.units < cLine) {Q : SetFound → Shared → Prop} (hin : k ∈ L.map (·.2) → Q (.there none) s)
    (hout : ∀ K, k ∉ L.map (·.2) → way t.mask (kh P w k) K ∉ t.place.toList → (∀ c, c < K → way t.mask (kh P w k) c ∈ t.place.toList) → Q (.free (way t.mask (kh P w k) K) false) s) :
    wpAny (model P w) A (setSearch a (.ref x) (kh P w k) true) Q E s := by
  have hroom := R.room
  obtain ⟨K, hKf, hK, hKb⟩ := R.tab.hole (by rw [List.length_map]; omega) (kh P w k)
  have hbig : 10 * SetTable.turns t.mask < 100000 := by
    have := R.low
    unfold SetTable.turns
    omega
  unfold setSearch
  exact m_search R hx hu hKf hK hKb hin (fun hn => hout K hn hK hKb) 100000 0 none rfl (Nat.zero_le _) (by omega) fun c' i p hc => absurd hc (Nat.not_lt_zero _)
theorem isM_same {h h' : Heap} {k : List Key} {a b : Addr} {o : Obj} {es : Array (Int × Value)} {ep : Nat} {t : SetTable} (hb : IsM P w h k b) (ho : h.get? a = some o) (hd : o.data = .set es ep t) (hs : Heap.SameBut a h h') : IsM P w h' k b := by
  obtain ⟨o', items, n, ho', hc, hd', hi⟩ := hb
  refine ⟨o', items, n, (hs.2 b fun z => ?_).trans ho', hc, hd', hi⟩
  rw [z, ho] at ho'
  injection ho' with ho'
  rw [← ho', hd] at hd'
  cases hd'
theorem isM_keep {h h' : Heap} {k : List Key} {b : Addr} (x : IsM P w h k b) (hk : ∀ c o, h.get? c = some o → h'.get? c = some o) : IsM P w h' k b := by
  obtain ⟨o, items, n, ho, r⟩ := x
  exact ⟨o, items, n, hk b o ho, r⟩
theorem filterMap_range {α : Type} (L : List α) : ∀ n, n ≤ L.length → (List.range n).filterMap (fun i => L[i]?) = L.take n
  | 0, _ => rfl
  | n + 1, hn => by
    rw [List.range_succ, List.filterMap_append, filterMap_range L n (by omega), List.take_succ, List.getElem?_eq_getElem (by omega : n < L.length), List.filterMap_cons_some (List.getElem?_eq_getElem (by omega : n < L.length))]
    rfl
theorem order_of (order : Array Nat) (hr : es.toList = L.map (row P w)) (hp : order.toList.Perm (List.range L.length)) :
    ∃ L2 : List El, (order.filterMap (es[·]?)).toList = L2.map (row P w) ∧ L2.Perm L ∧ L2.map (hsh P w) = order.toList.map fun i => (es.map (·.1)).getD i 0 := by
  have at_ : ∀ i, es[i]? = (L[i]?).map (row P w) := fun i => by rw [← Array.getElem?_toList, hr, List.getElem?_map]
  refine ⟨order.toList.filterMap (fun i => L[i]?), ?_, ?_, ?_⟩
  · rw [Array.toList_filterMap, List.map_filterMap]
    congr 1
    funext i
    exact at_ i
  · have := hp.filterMap (fun i => L[i]?)
    rw [filterMap_range L _ (Nat.le_refl _), List.take_length] at this
    exact this
  · have key : ∀ l : List Nat, (∀ i ∈ l, i < L.length) → (l.filterMap fun i => L[i]?).map (hsh P w) = l.map fun i => (es.map (·.1)).getD i 0 := by
      intro l
      induction l with
      | nil => intro _; rfl
      | cons i l ih =>
        intro h
        have hl := h i List.mem_cons_self
        have e : (es.map (·.1))[i]? = some (hsh P w L[i]) := by
          rw [Array.getElem?_map, at_ i, List.getElem?_eq_getElem hl]
          rfl
        rw [List.filterMap_cons_some (List.getElem?_eq_getElem hl), List.map_cons, List.map_cons, ih fun j hj => h j (List.mem_cons_of_mem _ hj), Array.getD_eq_getD_getElem?, e]
        rfl
    exact key _ fun i hi => List.mem_range.mp (hp.mem_iff.mp hi)
theorem m_relay {o : Obj} (ho : s.heap.get? a = some o) (hex : o.ExactSet) (hd : o.data = .set es ep t) (hrows : es.toList = L.map (row P w)) (hsz : t.place.size = es.size) (hdm : t.dummies = #[]) (hfl : es.size ≤ t.mask)
    (nd : (L.map (·.2)).Nodup) (tup : ∀ p ∈ L, IsM P w s.heap p.2 p.1) (few : L.length < 1200) {wanted M : Nat} (hw : SetTable.sizeAbove wanted - 1 = M) (hM : MkT M) (hw2 : SetTable.sizeAbove wanted ≤ 8192) (hn : L.length * 5 < M * 3) {Q : Unit → Shared → Prop}
    (hQ : ∀ h' L' es' ep' t', Heap.SameBut a s.heap h' → MSet P w h' a L' es' ep' t' → L'.Perm L → Q () { s with heap := h' }) : wpAny (model P w) A (setRelay a wanted) Q E s := by
  have hsl : es.size = L.length := by rw [← Array.length_toList, hrows, List.length_map]
  obtain ⟨t', order, e, hp, T, em⟩ := hM.relaid t (za := es.map (·.1)) (n := wanted) hw (by rw [Array.size_map, hsl]; omega)
  rw [Array.size_map, hsl] at hp
  obtain ⟨L2, r1, r2, r3⟩ := order_of order hrows hp
  rw [← r3] at T
  have hs2 : (order.filterMap (es[·]?)).size = es.size := by rw [← Array.length_toList, r1, List.length_map, r2.length_eq, hsl]
  rw [setRelay_eq]
  refine wpAny_bind (wpAny_setState_of ho hd (fits_of hsz hdm hfl) ?_)
  dsimp only
  refine wp_if_neg (by rw [sizeLine_eq]; omega) ?_
  try refine wpAny_bind (wpAny_pure ?_)
  rw [e]
  dsimp only
  refine wpAny_bind ?_
  refine wp_if_neg (by rw [hs2]; simp) ?_
  try refine wpAny_bind (wpAny_pure ?_)
  refine wpAny_pure ?_
  dsimp only
  refine wpAny_storeSet_of ho hd ?_ (by rw [hs2, hsl, sizeLine_eq]; omega)
  have sb : Heap.SameBut a s.heap (s.heap.update a (Obj.putSet (order.filterMap (es[·]?)) t')) := Heap.SameBut.update ..
  exact hQ _ L2 (order.filterMap (es[·]?)) (ep + 1) t' sb ⟨⟨_, store_at ho hd, ⟨hex.1, hex.2.1, hex.2.2⟩, rfl⟩, r1, T, (r2.map (·.2)).nodup_iff.mpr nd, fun p hp => isM_same (tup p (r2.mem_iff.mp hp)) ho hd sb, by rw [r2.length_eq, em]; exact hn, by rw [r2.length_eq]; exact few, by rw [em, ← hw]; omega⟩ r2
theorem m_add (R : MSet P w s.heap a L es ep t) {x : Addr} {k : List Key} (hx : IsM P w s.heap k x) (hu : A.units < cLine) (hfew : L.length + 1 < 1200) {Q : Bool → Shared → Prop}
    (hQ : ∀ b h' L' es' ep' t', Heap.SameBut a s.heap h' → MSet P w h' a L' es' ep' t' → (k ∈ L.map (fun p : El => p.2) → L' = L) → (k ∉ L.map (fun p : El => p.2) → L'.Perm ((x, k) :: L)) → Q b { s with heap := h' }) :
    wpAny (model P w) A (setAddHashed a (.ref x) (kh P w k)) Q E s := by
  obtain ⟨o, ho, hex, hd⟩ := R.ob
  have hsl := R.size
  have hroom := R.room
  unfold setAddHashed
  refine wpAny_holding ?_
  rw [show (100000 : Nat) = 99999 + 1 from rfl, setAddHashedIn_succ]
  refine wpAny_bind (wpAny_setState_of ho hd R.fits ?_)
  dsimp only
  refine wp_if_neg (by simp [byScan, Value.scannable]) ?_
  try refine wpAny_bind (wpAny_pure ?_)
  refine wpAny_bind (m_find R hx hu (fun hm => ?_) fun K hm hK hb => ?_)
  · dsimp only
    exact wpAny_pure (hQ false s.heap L es ep t (Heap.SameBut.refl a s.heap) R (fun _ => rfl) fun z => absurd hm z)
  · dsimp only
    refine wpAny_bind (wpAny_setState_of ho hd R.fits ?_)
    dsimp only
    obtain ⟨_, q1, q0, q2, q3, q4, q9⟩ := R.tab.put hK hb
    subst q0
    generalize hpt : t.put (way t.mask (kh P w k) K) = pt at q1 q3 q4 q9 ⊢
    obtain ⟨t1, p⟩ := pt
    dsimp only at q1 q3 q4 q9 ⊢
    subst q1
    suffices rest : ∀ c : Bool, wpAny (model P w) A (do
        storeSet a (SetTable.insertAt es (SetTable.below t.place (way t.mask (kh P w k) K)) (kh P w k, Value.ref x)) (if c = true then t1 else { t1 with plain := false })
        if (!false && (if c = true then t1 else { t1 with plain := false }).tooFull) = true then do
          setRelay a (SetTable.grown (es.size + 1))
          pure true
        else pure true) Q E s by
      by_cases hp1 : t1.plain = true
      · exact wp_if_pos hp1 (wpAny_bind (m_byValue hx rest))
      · exact wp_if_neg hp1 (wpAny_bind (wpAny_pure (rest true)))
    intro c
    obtain ⟨tb, htb⟩ : ∃ tb, tb = (if c = true then t1 else { t1 with plain := false }) := ⟨_, rfl⟩
    rw [← htb]
    have T1 : TabB tb ((L.map (hsh P w)).take (SetTable.below t.place (way t.mask (kh P w k) K)) ++ kh P w k :: (L.map (hsh P w)).drop (SetTable.below t.place (way t.mask (kh P w k) K))) ∧ tb.mask = t.mask ∧ tb.fill = L.length + 1 := by
      rw [List.length_map] at q9
      rw [htb]
      cases c with
      | true => exact ⟨q3, q4, q9⟩
      | false => exact ⟨⟨q3.up, q3.clean, q3.cnt, q3.mok, q3.low, q3.back⟩, q4, q9⟩
    obtain ⟨T1, m1, f1⟩ := T1
    generalize hpp : SetTable.below t.place (way t.mask (kh P w k) K) = pl at q2 T1 ⊢
    have pm := put_perm L pl (x, k)
    have hlen : (L.take pl ++ (x, k) :: L.drop pl).length = L.length + 1 := pm.length_eq
    have hin : (SetTable.insertAt es pl (kh P w k, Value.ref x)).toList = (L.take pl ++ (x, k) :: L.drop pl).map (row P w) := by
      rw [SetTable.toList_insertAt, R.rows, List.map_append, List.map_cons, List.map_take, List.map_drop]
    have hhs : (L.take pl ++ (x, k) :: L.drop pl).map (hsh P w) = (L.map (hsh P w)).take pl ++ kh P w k :: (L.map (hsh P w)).drop pl := by
      rw [List.map_append, List.map_cons, List.map_take, List.map_drop]
    rw [← hhs] at T1
    have nd1 : ((L.take pl ++ (x, k) :: L.drop pl).map (·.2)).Nodup := by
      refine (pm.map (·.2)).nodup_iff.mpr ?_
      rw [List.map_cons]
      exact List.nodup_cons.mpr ⟨hm, R.nd⟩
    have hes : (SetTable.insertAt es pl (kh P w k, Value.ref x)).size = L.length + 1 := by rw [← Array.length_toList, hin, List.length_map, hlen]
    generalize SetTable.insertAt es pl (kh P w k, Value.ref x) = es1 at hin hes ⊢
    generalize L.take pl ++ (x, k) :: L.drop pl = L1 at pm hlen T1 nd1 hin
    refine wpAny_bind (wpAny_storeSet_of ho hd ?_ (by rw [hes, sizeLine_eq]; omega))
    have sb : Heap.SameBut a s.heap (s.heap.update a (Obj.putSet es1 tb)) := Heap.SameBut.update ..
    have ho1 := store_at (es' := es1) (t' := tb) ho hd
    generalize s.heap.update a (Obj.putSet es1 tb) = h1 at sb ho1 ⊢
    have tup1 : ∀ p ∈ L1, IsM P w h1 p.2 p.1 := fun p hp => by
      rcases List.mem_cons.mp (pm.mem_iff.mp hp) with e | hp
      · rw [e]; exact isM_same hx ho hd sb
      · exact isM_same (R.tup p hp) ho hd sb
    by_cases hf : tb.tooFull = true
    · first
        | (refine wpAny_bind ?_; refine wp_if_pos (by simp [hf]) ?_)
        | (refine wp_if_pos (by simp [hf]) ?_; refine wpAny_bind ?_)
      have hfull : (L.length + 1) * 5 ≥ tb.mask * 3 := by
        have h := hf
        unfold SetTable.tooFull at h
        rw [decide_eq_true_eq, f1] at h
        exact h
      rw [hsl]
      have hsz1 : tb.place.size = es1.size := by rw [T1.cnt, List.length_map, hlen, hes]
      have hm5 : t.mask < 32768 := by have := R.low; omega
      rw [m1] at hfull
      obtain ⟨g1, g2⟩ := R.tab.mok.grow (n := L.length + 1) hm5 (by omega) (by omega)
      have low2 : t.mask ≤ 2000 := by omega
      refine m_relay (s := { s with heap := h1 }) ho1 ⟨hex.1, hex.2.1, hex.2.2⟩ rfl hin hsz1 T1.clean (by rw [hes, m1]; have := R.tab.mok.big; omega) nd1 tup1 (by rw [hlen]; exact hfew) (M := 4 * (t.mask + 1) - 1) (by rw [g1]) g2 (by rw [g1]; have := low2; omega) (by rw [hlen]; omega) ?_
      intro h2 L2 es2 ep2 t2 sb2 R2 pm2
      exact wpAny_pure (hQ true h2 L2 es2 ep2 t2 (sb.trans sb2) R2 (fun z => absurd z hm) fun _ => pm2.trans pm)
    · first
        | refine wp_if_neg (by simp [hf]) ?_
        | (refine wpAny_bind ?_; refine wp_if_neg (by simp [hf]) ?_; refine wpAny_pure ?_)
      refine wpAny_pure (hQ true h1 L1 es1 (ep + 1) tb sb ⟨⟨_, ho1, ⟨hex.1, hex.2.1, hex.2.2⟩, rfl⟩, hin, T1, nd1, tup1, ?_, by rw [hlen]; exact hfew, by rw [m1]; exact R.low⟩ (fun z => absurd z hm) fun _ => pm)
      have h := hf
      unfold SetTable.tooFull at h
      rw [decide_eq_true_eq, f1] at h
      rw [hlen]
      omega
end
end L2.Py

set_option maxRecDepth 100000
set_option maxHeartbeats 3200000
namespace L2.Py
open PySem PySem.Spec PyProof.Rows TL L2
structure Held (ks : List El) (i : Nat) (L : List El) : Prop where
  sub : ∀ p ∈ L, p ∈ ks
  all : ∀ (j : Nat) (p : El), j < i → ks[j]? = some p → p.2 ∈ L.map fun q : El => q.2
  len : L.length ≤ i
theorem Held.next {ks L L' : List El} {i : Nat} {x : El} (g : Held ks i L) (h : ks[i]? = some x) (c1 : x.2 ∈ L.map (fun q : El => q.2) → L' = L) (c2 : x.2 ∉ L.map (fun q : El => q.2) → L'.Perm (x :: L)) : Held ks (i + 1) L' := by
  rcases Classical.em (x.2 ∈ L.map fun q : El => q.2) with c | c
  · rw [c1 c]
    refine ⟨g.sub, fun j p hj hp => ?_, Nat.le_succ_of_le g.len⟩
    rcases Nat.lt_or_ge j i with z | z
    · exact g.all j p z hp
    · have e : j = i := by omega
      rw [e, h] at hp
      injection hp with hp
      rw [← hp]; exact c
  · have pm := c2 c
    refine ⟨fun p hp => ?_, fun j p hj hp => ?_, by rw [pm.length_eq, List.length_cons]; exact Nat.succ_le_succ g.len⟩
    · rcases List.mem_cons.mp (pm.mem_iff.mp hp) with e | z
      · rw [e]; exact List.mem_of_getElem? h
      · exact g.sub p z
    · rw [(pm.map fun q : El => q.2).mem_iff, List.map_cons]
      rcases Nat.lt_or_ge j i with z | z
      · exact List.mem_cons_of_mem _ (g.all j p z hp)
      · have e : j = i := by omega
        rw [e, h] at hp
        injection hp with hp
        rw [← hp]; exact List.mem_cons_self
section
variable {P : Program} {w : World} {A : Around} {E : Value → Shared → Prop} {s : Shared}
theorem MSet.keep {h h' : Heap} {a : Addr} {L : List El} {es : Array (Int × Value)} {ep : Nat} {t : SetTable} (R : MSet P w h a L es ep t) (ha : ∀ o, h.get? a = some o → h'.get? a = some o) (ht : ∀ p ∈ L, IsM P w h' p.2 p.1) : MSet P w h' a L es ep t :=
  ⟨let ⟨o, ho, r⟩ := R.ob; ⟨o, ha o ho, r⟩, R.rows, R.tab, R.nd, ht, R.room, R.few, R.low⟩
theorem m_fresh {h : Heap} {a : Addr} {led : Bool} (ho : h.get? a = some { cls := .type "set", dict := none, data := .set #[] 0 (.fresh 0 0 led) }) : MSet P w h a [] #[] 0 (.fresh 0 0 led) where
  ob := ⟨_, ho, ⟨rfl, rfl, rfl⟩, rfl⟩
  rows := rfl
  tab := ⟨List.Pairwise.nil, rfl, rfl, .seven, fun x hx => (by cases hx), fun i h j hi => (by simp at hi)⟩
  nd := List.nodup_nil
  tup := fun p hp => (by cases hp)
  room := by show 0 * 5 < 7 * 3; decide
  few := by show 0 < 1200; decide
  low := by show 7 < 8192; decide
theorem m_loop {I : Addr} {fp wr : List Addr} {G : Array GenState → Array GenState → Prop} {n : Nat} {Pv : Nat → Value → Prop} {St : Nat → Shared → Prop} {R : Result → Shared → Prop}
    (W : WalksS P w A.in1 I fp wr G n Pv St) (S : Addr) (hSf : S ∉ fp) (ks : List El) (hn : n = ks.length) (hfew : ks.length < 1200) (hval : ∀ i v, Pv i v → ∃ p, ks[i]? = some p ∧ v = .ref p.1)
    (h0 : Heap) (hk : ∀ p ∈ ks, IsM P w h0 p.2 p.1) (hS0 : h0.get? S = none) (hw0 : ∀ b ∈ wr, h0.get? b = none) (hu : A.in1.units < cLine) :
    ∀ (k i : Nat) (s : Shared), n - i = k → i ≤ n → St i s → (∀ b o, h0.get? b = some o → s.heap.get? b = some o) → (∃ L es ep t, MSet P w s.heap S L es ep t ∧ Held ks i L) →
      (∀ s' L es ep t, Moved (S :: wr) G s s' → MSet P w s'.heap S L es ep t → Held ks n L → (∀ b o, h0.get? b = some o → s'.heap.get? b = some o) → R (.ok (.ret .none)) s') →
      codeAny (model P w) A (.builtin "set.update.loop" ⟨[.ref S, .ref I], []⟩) R s := by
  have hSw : S ∉ wr := fun h => hSf (W.sub _ h)
  have hsub : ∀ b ∈ wr, b ∈ S :: wr := fun b hb => List.mem_cons_of_mem _ hb
  have older : ∀ {s s' : Shared}, Moved wr G s s' → (∀ b o, h0.get? b = some o → s.heap.get? b = some o) → ∀ b o, h0.get? b = some o → s'.heap.get? b = some o := fun hm hkp b o e =>
    hm.heap b o (fun hb => by rw [hw0 b hb] at e; cases e) (hkp b o e)
  intro k
  induction k with
  | zero =>
    intro i s hk' hi hst hkp ⟨L, es, ep, t, hS, g⟩ hR
    have hin : i = n := by omega
    subst hin
    refine codeAny_builtin F.entry_set_update_loop ?_
    rw [Around.under_plainId F.plain_set_update_loop _]
    show wpAny _ A.in1 (pyNext (.ref I) >>= _) _ _ s
    refine wpAny_bind (W.done s _ _ hst fun s' hm => ?_)
    show wpAny _ A.in1 (ret Value.none) _ _ s'
    have hkp' := older hm hkp
    exact wpAny_pure (hR s' L es ep t (hm.mono hsub) (hS.keep (fun o e => hm.heap S o hSw e) fun p hp => isM_keep (hk p (g.sub p hp)) hkp') g hkp')
  | succ k ih =>
    intro i s hk' hi hst hkp ⟨L, es, ep, t, hS, g⟩ hR
    have hlt : i < n := by omega
    refine codeAny_builtin F.entry_set_update_loop ?_
    rw [Around.under_plainId F.plain_set_update_loop _]
    show wpAny _ A.in1 (pyNext (.ref I) >>= _) _ _ s
    refine wpAny_bind (W.item i s _ _ hlt hst fun v s' hP hst' hm => ?_)
    obtain ⟨p, hp, rfl⟩ := hval i v hP
    have hkp' := older hm hkp
    have hS' : MSet P w s'.heap S L es ep t := hS.keep (fun o e => hm.heap S o hSw e) fun q hq => isM_keep (hk q (g.sub q hq)) hkp'
    have hx : IsM P w s'.heap p.2 p.1 := isM_keep (hk p (List.mem_of_getElem? hp)) hkp'
    show wpAny _ A.in1 (holding [Value.ref p.1] (setAdd S (.ref p.1)) >>= _) _ _ s'
    refine wpAny_bind (wpAny_holding ?_)
    unfold setAdd
    refine wpAny_holding (wpAny_bind (wpAny_pyHash_tuple hu hx ?_))
    refine m_add (s := { s' with toks := s'.toks + (p.2.length + 1) }) hS' hx hu (by have := g.len; omega) fun b h' L' es' ep' t' hsb hS2 c1 c2 => ?_
    have hkp2 : ∀ b o, h0.get? b = some o → h'.get? b = some o := fun b o e => (hsb.2 b (fun z => by rw [z, hS0] at e; cases e)).trans (hkp' b o e)
    refine wpAny_pure ⟨plainId_quiet F.plain_set_update_loop _, ih (i + 1) _ (by omega) hlt (W.frame _ s' _ _ hst' (Nat.le_add_right _ _) fun b hb o e => ?_) hkp2 ⟨L', es', ep', t', hS2, g.next hp c1 c2⟩ fun s'' L2 es2 ep2 t2 hm'' hS'' g'' hkp'' => ?_⟩
    · rw [hsb.2 b (fun h : b = S => hSf (by rw [← h]; exact hb))]; exact e
    · refine hR s'' L2 es2 ep2 t2 (Moved.trans W.gtrans ((hm.mono hsub).then_heap (Nat.le_add_right _ _) fun b o hb e => ?_) hm'') hS'' g'' hkp''
      rw [hsb.2 b (fun h : b = S => hb (by rw [h]; exact List.mem_cons_self))]; exact e
abbrev newSet (w : World) : Obj := { cls := .type "set", dict := none, data := .set #[] 0 (.fresh 0 0 (!w.params.followText "set-order")) }
set_option maxRecDepth 100000 in
set_option maxHeartbeats 3200000 in
theorem m_call {l : Addr} {items : Array Value} (ks : List El) {Q : Value → Shared → Prop} (hh : A.handled = none) (hl : s.heap.IsList l items) (hit : items.toList = ks.map fun p => Value.ref p.1)
    (hk : ∀ p ∈ ks, IsM P w s.heap p.2 p.1) (hfew : ks.length < 1200) (hu : A.units + 3 < cLine)
    (h : ∀ (h' : Heap) (tk : Nat) L es ep t, MSet P w h' s.heap.objs.size L es ep t → Held ks ks.length L → (∀ b o, s.heap.get? b = some o → h'.get? b = some o) → Q (.ref s.heap.objs.size) { s with heap := h', toks := tk }) :
    wpAny (model P w) A (call (.type "set") [.ref l]) Q E s := by
  have hisz : items.size = ks.length := by rw [← Array.length_toList, hit, List.length_map]
  obtain ⟨c, tl, hmro⟩ := F.called_set.mro
  have hmade := F.called_set.made
  have hsub := F.called_set.sub
  refine wpAny_call (codeAny_of_tree ?_)
  show wpAny _ _ (callAny (.type "set") _) _ _ _
  refine wpAny_pure ⟨Code.quiet_builtin _ (by decide +kernel), codeAny_builtin F.entry_type_call ?_⟩
  rw [Around.under_plain (weight_type_call_type "set" [.ref l] []) rfl]
  have h1 := F.called_set.notType
  have h2 := F.called_set.canCreate
  have hct := F.typeCall_set_1 (.ref l)
  repeat (any_goals (first | assumption | wp_step))
  refine codeAny_mono (code_set_led1 (.ref l) (E := E) (Q₁ := fun obj s₁ => obj = .ref s.heap.objs.size ∧ s₁ = { s with heap := s.heap.push (newSet w) }) ⟨rfl, rfl⟩) fun r s₁ hr => ?_
  cases r with
  | error e => exact hr
  | ok fl =>
    cases fl with
    | ret obj =>
      obtain ⟨rfl, rfl⟩ := hr
      have hS : (s.heap.push (newSet w)).get? s.heap.objs.size = some (newSet w) := Heap.get?_push_size _ rfl
      have hT : Shared.TypeIs { s with heap := s.heap.push (newSet w) } (.ref s.heap.objs.size) "set" := ⟨_, hS, rfl⟩
      have hli := F.called_set.init.lookup
      have hbi := F.called_set.init.bind (.ref s.heap.objs.size)
      repeat (any_goals (first | assumption | wp_step))
      refine codeAny_mono (codeAny_call_builtin (R := wants (fun r s₂ => r = .none ∧ ∃ h' tk L es ep t, s₂ = { s with heap := h', toks := tk } ∧ MSet P w h' s.heap.objs.size L es ep t ∧ Held ks ks.length L ∧
          (∀ b o, s.heap.get? b = some o → h'.get? b = some o)) E) F.called_set.init.plain F.entry_set_init (check_set_init_1 hT ?_)) fun r₂ s₂ hr₂ => ?_
      · obtain ⟨ol, hol, hcl, nl, hdl⟩ := hl
        obtain ⟨ocls, odict, odata, oslots⟩ := ol
        simp only at hcl hdl
        subst hcl; subst hdl
        have hol' : (s.heap.push (newSet w)).get? l = some { cls := .type "list", dict := odict, data := .seq items nl, slots := oslots } := Heap.get?_push_of_some _ hol
        have hsls := F.sub_list_set
        have hslf := F.sub_list_frozenset
        have hne : (Value.type "list" == Value.type "dict") = false := by decide
        have hl1 : (s.heap.push (newSet w)).IsList l items := ⟨_, hol', rfl, nl, rfl⟩
        unfold Builtin.«set.__init__» noKeywords Builtin.Frozenset.updateFrom
        generalize hPI : pyIter = PI
        wp_walk
        subst hPI
        refine wpAny_pyIter_list hl1 (wpAny_bind (wpAny_runValue ?_))
        have hlS : l < s.heap.objs.size := Heap.lt_size hol
        have hz1 : (s.heap.push (newSet w)).objs.size = s.heap.objs.size + 1 := Heap.size_push ..
        have hSf : s.heap.objs.size ∉ [(s.heap.push (newSet w)).objs.size, l] := by
          rw [hz1]
          simp only [List.mem_cons, List.not_mem_nil, or_false, not_or]
          exact ⟨Nat.ne_of_lt (Nat.lt_succ_self _), Nat.ne_of_gt hlS⟩
        have hval : ∀ (i : Nat) (v : Value), items[i]? = some v → ∃ p, ks[i]? = some p ∧ v = .ref p.1 := fun i v hv => by
          have q : items.toList[i]? = some v := by rw [Array.getElem?_toList]; exact hv
          rw [hit, List.getElem?_map, Option.map_eq_some_iff] at q
          obtain ⟨p, h1, h2⟩ := q
          exact ⟨p, h1, h2.symm⟩
        have none_of : ∀ b, s.heap.objs.size ≤ b → s.heap.get? b = none := fun b hb => by
          cases q : s.heap.get? b with
          | none => rfl
          | some o => exact absurd (Nat.lt_of_lt_of_le (Heap.lt_size q) hb) (Nat.lt_irrefl _)
        refine m_loop ((Walks.list (show A.in1.in1.in1.handled = none by simp [hh]) _ l (by rw [hz1]; exact Nat.ne_of_lt (Nat.lt_succ_of_lt hlS)) items).toS) s.heap.objs.size
          hSf ks hisz hfew hval s.heap hk (none_of _ (Nat.le_refl _)) (fun b hb => none_of b (by rw [List.mem_singleton.mp hb, hz1]; exact Nat.le_succ _)) hu (items.size - 0) 0 _ (by omega) (Nat.zero_le _)
          ⟨⟨_, Heap.get?_push_size _ rfl, rfl, rfl⟩, (hl1.push _)⟩ (fun b o e => Heap.get?_push_of_some _ (Heap.get?_push_of_some _ e)) ?hS0 ?hR
        case hS0 =>
          exact ⟨[], #[], 0, _, m_fresh (Heap.get?_push_of_some _ hS), fun p h => (nomatch h), fun j p h => absurd h (Nat.not_lt_zero _), Nat.le_refl _⟩
        case hR =>
          intro s' L es ep t hm hS' g' hkp
          obtain ⟨h', g2, d', tk', os'⟩ := s'
          have eg : g2 = s.gens := hm.gens
          have ed : d' = s.drawn := hm.drawn
          have eo : os' = s.os := hm.os
          subst eg ed eo
          show wpAny _ _ _ _ _ _
          refine wpAny_pure ?_
          show wpAny _ _ (ret Value.none) _ _ _
          rw [hisz] at g'
          exact wpAny_pure ⟨rfl, h', tk', L, es, ep, t, rfl, hS', g', hkp⟩
      · cases r₂ with
        | error e => exact hr₂
        | ok fl₂ =>
          cases fl₂ with
          | ret r =>
            obtain ⟨rfl, h', tk, L, es, ep, t, rfl, hS', g', hk'⟩ := hr₂
            repeat (any_goals (first | assumption | wp_step))
            exact h _ _ _ _ _ _ hS' g' hk'
          | _ => exact hr₂.elim
    | _ => exact hr.elim
end
end L2.Py

set_option maxRecDepth 100000
set_option maxHeartbeats 2000000
namespace L2.Py
open PySem PySem.Spec PyProof.Rows TL L2
theorem rel_key {k : Key} {u : Value} (h : RelV (kV k) u) : keyIs k u = true := by
  cases k with
  | inl i => obtain ⟨t, rfl⟩ := h; simp [keyIs, Value.isInt]
  | inr x => obtain ⟨t, rfl⟩ := h; simp [keyIs, Value.isStrOf]
theorem items_mix {P : Program} {w : World} : ∀ {k : List Key} {us : List Value}, Vals (k.map kV) us → ItemsAre (mixKind P w) k us
  | [], _, .nil => .nil
  | k :: ks, _, .cons r t => .cons (show keyIs k _ = true from rel_key r) (items_mix t)
theorem refs_at {ks : List El} : ∀ {us : List Value}, Vals (ks.map fun p => V.ref p.1) us → us = ks.map fun p => Value.ref p.1 := by
  induction ks with
  | nil => intro us h; cases h; rfl
  | cons p ks ih =>
    intro us h
    cases h with
    | cons r t => rw [List.map_cons, ← ih t]; exact congrArg (· :: _) r
def Counts {α : Type} (ks : List α) (n : Nat) : Prop := ∀ U : List α, U.Nodup → (∀ k, k ∈ U ↔ k ∈ ks) → n = U.length
theorem counts_of {α : Type} {ks L : List α} (h1 : L.Nodup) (h2 : ∀ k, k ∈ L ↔ k ∈ ks) : Counts ks L.length := fun U u1 u2 =>
  ((List.perm_ext_iff_of_nodup h1 u1).mpr fun k => (h2 k).trans (u2 k).symm).length_eq
section
variable {X : Cx} {fm : Fm} {Wi : WX} {al al1 : Bool} {t : OT} {f : Rho → R D}
theorem inv_isM {pins : List (Addr × Obj)} {σ : St} {H : Hp} {s : Shared} {b : Addr} {k : List Key} (I : Inv X pins σ H s) (h : H b = some (.tup (k.map kV))) : IsM X.prog X.w s.heap k b := by
  obtain ⟨its, r, ⟨o, ho, hc, n, hd⟩, _⟩ := I.tuple (SqT.of h)
  exact ⟨o, its.toArray, n, ho, hc, hd, by simpa using items_mix r⟩
def tLenSetM (K : PySem.W.Frag) (ta : TE) : TE := fun σ H Q => ta σ H fun x H1 => ∃ l, x = .ref l ∧
  ((∃ ks : List El, SqL K H1 l (ks.map fun p => V.ref p.1) ∧ (∀ p ∈ ks, H1 p.1 = some (.tup (p.2.map kV))) ∧ ks.length < 1200 ∧ ∀ n : Nat, Counts (ks.map fun p : El => p.2) n → Q (.int n) H1) ∨
   ∃ ns : List Int, SqL K H1 l (ns.map V.int) ∧ ns.length < 1200 ∧ ∀ n : Nat, Counts ns n → Q (.int n) H1)
theorem firstMet_nd (val : Nat → Int) : ∀ i, (firstMet val i).Nodup ∧ ∀ k, k ∈ firstMet val i ↔ k ∈ (List.range i).map val
  | 0 => ⟨List.nodup_nil, by simp [firstMet_zero]⟩
  | i + 1 => by
    obtain ⟨h1, h2⟩ := firstMet_nd val i
    rw [firstMet_succ, List.range_succ, List.map_append]
    have hx : ∀ k, k ∈ (List.range i).map val ++ [i].map val ↔ k ∈ firstMet val i ∨ k = val i := fun k => by rw [List.mem_append, ← h2 k]; simp
    unfold step_dedup
    split
    · rename_i h
      obtain ⟨y, hy, e⟩ := List.any_eq_true.mp h
      have e := eq_of_beq e
      subst e
      exact ⟨h1, fun k => by rw [hx]; exact ⟨.inl, fun z => z.elim id fun e => by rw [e]; exact hy⟩⟩
    · rename_i h
      have hn : val i ∉ firstMet val i := fun z => h (List.any_eq_true.mpr ⟨_, z, beq_self_eq_true _⟩)
      refine ⟨List.nodup_append.mpr ⟨h1, List.nodup_cons.mpr ⟨by simp, List.nodup_nil⟩, fun a ha b hb e => ?_⟩, fun k => by rw [hx, List.mem_append, List.mem_singleton]⟩
      rw [List.mem_singleton] at hb
      rw [e, hb] at ha
      exact hn ha
theorem pe_lenSetM {a : Expr} {ta : TE} {p p2 q pos : Pos} (hc : X.calm = true) (hu : X.A.units + 64 < cLine) (hg : Gl X "len") (hm : X.mg "len" = none) (hg2 : Gl X "set") (hm2 : X.mg "set" = none) (ha : PE X a ta)
    (na : starEach [a] X.env = (false, eval a X.env) :: starEach [] X.env) : PE X (.Call (.Name "len" p) [.Call (.Name "set" p2) [a] [] q] [] pos) (tLenSetM X.K ta) := by
  refine ⟨fun pins s σ H Q I h => ?_⟩
  refine Call_ (ld_blt I hg hm boot_len ?_)
  refine PyProof.Rows.callWith_builtin1 (PyProof.Rows.args_cons ?_ rfl) rfl rfl
  refine Call_ (ld_blt I hg2 hm2 boot_set ?_)
  refine PyProof.Rows.callWith_type1 (PyProof.Rows.args_cons (thn (ha.run pins s σ H _ I h) fun v s1 ⟨x, H1, I1, r1, q1⟩ => PyProof.Rows.args_nil ?_) na) na rfl
  obtain ⟨l, rfl, q1⟩ := q1
  cases r1
  rcases q1 with ⟨ks, hq, hk, h1, q1⟩ | ⟨ns, hq, h1, q1⟩
  · obtain ⟨its, r, pl, hz⟩ := I1.list hq
    refine m_call (P := X.prog) (w := X.w) ks (I1.ok.hd hc) pl.isList (by simpa using refs_at r) (fun p hp => inv_isM I1 (hk p hp)) h1 (by omega) fun h' tk L es ep t R g k => ?_
    refine PyProof.Rows.args_nil ?_
    obtain ⟨o, ho, hex, hd⟩ := R.ob
    have hs : es.size = L.length := by rw [← Array.length_toList, R.rows, List.length_map]
    have hf : t.fits es.size = true := MSet.fits (s := { s1 with heap := h', toks := tk }) R
    have I2 : Inv X pins σ H1 { s1 with heap := h', toks := tk } := I1.kept fun b o e => k b o e
    have cn : Counts (ks.map fun p : El => p.2) L.length := by
      have := counts_of (ks := ks.map fun p : El => p.2) R.nd fun k => ⟨fun hm => by
        obtain ⟨p, hp, e⟩ := List.mem_map.mp hm
        exact List.mem_map.mpr ⟨p, g.sub p hp, e⟩, fun hm => by
        obtain ⟨p, hp, e⟩ := List.mem_map.mp hm
        obtain ⟨j, hj, e2⟩ := List.getElem_of_mem hp
        rw [← e]
        exact g.all j p hj (by rw [List.getElem?_eq_getElem hj, e2])⟩
      rw [List.length_map] at this
      exact this
    refine call_len_set ho hex hd hf (by have := R.few; rw [hs]; omega) ⟨.int L.length, H1, I2.tok _, ⟨_, by rw [hs]⟩, q1 _ cn⟩
  · obtain ⟨its, r, pl, hz⟩ := I1.list hq
    have hl : its.toArray.size = ns.length := by rw [List.size_toArray, ← r.length, List.length_map]
    refine call_set_list (I1.ok.hd hc) pl.isList (ns := ns) (by simpa using r.ints) (by rw [hl]; unfold scanBound; omega) fun h' tk hS hk => ?_
    rw [hl] at hS
    refine PyProof.Rows.args_nil ?_
    obtain ⟨o, es, ep, t, ho, hex, hd, _, _, _, hf, hn⟩ := hS
    have I2 : Inv X pins σ H1 { s1 with heap := h', toks := tk } := I1.kept fun b o e => hk b o (Heap.lt_size e) e
    obtain ⟨f1, f2⟩ := firstMet_nd (fun i => ns.getD i 0) ns.length
    have cn := counts_of (ks := ns) f1 fun k => by
      rw [f2, List.mem_map]
      constructor
      · rintro ⟨i, hi, rfl⟩
        have hi := List.mem_range.mp hi
        rw [List.getD_eq_getElem?_getD, List.getElem?_eq_getElem hi]
        exact List.getElem_mem _
      · intro hm
        obtain ⟨i, hi, e⟩ := List.getElem_of_mem hm
        exact ⟨i, List.mem_range.mpr hi, by rw [List.getD_eq_getElem?_getD, List.getElem?_eq_getElem hi, e]; rfl⟩
    have := firstMet_length_le (fun i => ns.getD i 0) ns.length
    refine call_len_set ho hex hd hf (by rw [hn]; omega) ⟨.int (firstMet (fun i => ns.getD i 0) ns.length).length, H1, I2.tok _, ⟨_, by rw [hn]⟩, q1 _ cn⟩
theorem dedup_of {α : Type} [DecidableEq α] {g : α → D} (hg : ∀ p q, (g p).eqv (g q) = decide (p = q)) : ∀ ks : List α, ∃ U : List α, dedup (ks.map g) = U.map g ∧ U.Nodup ∧ ∀ k, k ∈ U ↔ k ∈ ks
  | [] => ⟨[], rfl, List.nodup_nil, fun k => Iff.rfl⟩
  | x :: xs => by
    obtain ⟨U, e, h1, h2⟩ := dedup_of hg xs
    have a : ∀ V : List α, ((V.map g).any fun y => y.eqv (g x)) = decide (x ∈ V) := fun V => by
      induction V with
      | nil => simp
      | cons y V ih =>
        rw [List.map_cons, List.any_cons, hg, ih]
        by_cases h : y = x
        · simp [h]
        · have h' : ¬ x = y := fun z => h z.symm
          simp [h, h']
    rw [List.map_cons, dedup, e, a]
    by_cases h : x ∈ U
    · rw [if_pos (decide_eq_true h)]
      exact ⟨U, rfl, h1, fun k => by rw [h2, List.mem_cons]; exact ⟨.inr, fun z => z.elim (fun q => by rw [q]; exact (h2 x).mp h) id⟩⟩
    · rw [if_neg (by rw [decide_eq_false h]; exact Bool.false_ne_true)]
      exact ⟨x :: U, rfl, List.nodup_cons.mpr ⟨h, h1⟩, fun k => by rw [List.mem_cons, List.mem_cons, h2]⟩
theorem tups_els {H : Hp} : ∀ {xs : List D} {vs : List V}, xs.all isKeyT = true → RepL fm.K H (fun _ => True) xs frs0 vs [] → ∃ ks : List El, xs = ks.map (fun p => keyT p.2) ∧ vs = ks.map (fun p => V.ref p.1) ∧ ∀ p ∈ ks, H p.1 = some (.tup (p.2.map kV))
  | [], vs, _, r => by
    simp only [RepL] at r
    obtain ⟨rfl, _⟩ := r
    exact ⟨[], rfl, rfl, fun p h => nomatch h⟩
  | d :: ds, vs, h, r => by
    obtain ⟨v, q, f1, f2, rfl, e2, h1, h2⟩ := r.uncons
    simp only [List.all_cons, Bool.and_eq_true] at h
    obtain ⟨k, a, rfl, rfl, e⟩ := tup_key (fm := fm) h.1 (Rep.fr_nil h1).2
    obtain ⟨ks, rfl, rfl, e3⟩ := tups_els h.2 (RepL.fr_nil h2).2
    exact ⟨(a, k) :: ks, rfl, rfl, fun p hp => by
      rcases List.mem_cons.mp hp with rfl | hp
      · exact e
      · exact e3 p hp⟩
theorem ints_vs {K : KF} {H : Hp} {F : Addr → Prop} : ∀ {ns : List Int} {vs : List V}, RepL K H F (ns.map .int) frs0 vs [] → vs = ns.map V.int
  | [], vs, h => by simp only [List.map_nil, RepL] at h; exact h.1
  | n :: ns, vs, h => by
    rw [List.map_cons] at h
    obtain ⟨v, q, f1, f2, rfl, e2, h1, h2⟩ := h.uncons
    simp only [Rep] at h1
    rw [h1.1, ints_vs (RepL.fr_nil h2).2]
    rfl
theorem de_lenSet {a : Expr} {p p2 q pos : Pos} {sub : Sub} (hK : fm.K = X.kw) (hc : X.calm = true) (hu : X.A.units + 64 < cLine) (hg : Gl X "len") (hm : X.mg "len" = none) (hg2 : Gl X "set") (hm2 : X.mg "set" = none) (ha : PE X a (tE fm Wi al1 .fr f))
    (na : noStar a = true) : PE X (.Call (.Name "len" p) [.Call (.Name "set" p2) [a] [] q] [] pos) (tE fm Wi al t fun ρ => f ρ >>= fun d => bltD sub .lenSet [d]) := by
  refine PE.imp (pe_lenSetM hc hu hg hm hg2 hm2 ha (star_of na)) fun σ H Q ⟨ρ, fps, er, h⟩ => ⟨ρ, fps, er, OKE.seq h fun d v H1 fp e s x => ?_⟩
  rw [KF.back hK]
  obtain rfl := x.fr
  dsimp only at h
  rw [e, ok_bind] at h
  cases d with
  | lst xs => ?_
  | _ => exact h.elim
  have h : OKE fm Wi al t (if decide (xs.length < 1200) && (xs.all isKeyT || (getInts xs).isSome) then .ok (.int (dedup xs).length) else .stk) σ H fps Q := h
  split at h
  · rename_i hb
    simp only [Bool.and_eq_true, decide_eq_true_eq, Bool.or_eq_true] at hb
    obtain ⟨hl, hb⟩ := hb
    obtain ⟨l, vs, rfl, e1, r⟩ := Rep.lst_inv x.read
    refine ⟨l, rfl, ?_⟩
    rcases hb with hb | hb
    · obtain ⟨ks, rfl, rfl, e3⟩ := tups_els hb r
      refine .inl ⟨ks, SqL.of e1.1, e3, by rw [List.length_map] at hl; exact hl, fun n cn => ?_⟩
      obtain ⟨U, u0, u1, u2⟩ := dedup_of keyT_eqv (ks.map fun p : El => p.2)
      rw [List.map_map] at u0
      have u0 : dedup (ks.map fun p : El => keyT p.2) = U.map keyT := u0
      rw [u0, List.length_map] at h
      rw [cn U u1 u2]
      exact h.int s
    · obtain ⟨ns, hn⟩ := Option.isSome_iff_exists.mp hb
      have e2 := getInts_eq hn
      subst e2
      have e3 := ints_vs r
      subst e3
      refine .inr ⟨ns, SqL.of e1.1, by rw [List.length_map] at hl; exact hl, fun n cn => ?_⟩
      obtain ⟨U, u0, u1, u2⟩ := dedup_of (g := D.int) (fun p q => by simp only [D.eqv]; by_cases h : p = q <;> simp [h]) ns
      rw [u0, List.length_map] at h
      rw [cn U u1 u2]
      exact h.int s
  · exact h.elim
end
end L2.Py

set_option maxRecDepth 100000
set_option maxHeartbeats 2000000
namespace L2.Py
open PySem PySem.Spec PyProof.Rows TL L2
section
variable {X : Cx} {fm : Fm} {Wi : WX} {t res : OT} {f : Rho → R D} {ot ot' : Nat → OT}
end
end L2.Py

set_option maxRecDepth 100000
set_option maxHeartbeats 1000000
namespace L2.Py
open PySem PySem.Spec PyProof.Rows TL
section
variable {X : Cx} {fm : Fm} {Wi : WX} {al : Bool} {t : OT}
end
end L2.Py

set_option maxRecDepth 100000
set_option maxHeartbeats 2000000
namespace L2.Py
open PySem PySem.Spec PyProof.Rows TL L2
section
variable {X : Cx} {fm : Fm} {Wi : WX} {al al1 : Bool} {t : OT}
end
end L2.Py

set_option maxRecDepth 100000
set_option maxHeartbeats 2000000
namespace L2.Py
open PySem PySem.Spec PyProof.Rows TL L2
section
variable {X : Cx} {fm : Fm} {Wi : WX} {al al1 : Bool} {t : OT}
end
end L2.Py

set_option maxRecDepth 100000
set_option maxHeartbeats 2000000
namespace L2.Py
open PySem PySem.Spec PyProof.Rows TL L2
section
variable {X : Cx} {fm : Fm} {Wi : WX} {al al1 al2 : Bool} {t : OT} {f g : Rho → R D}
end
end L2.Py

set_option maxRecDepth 100000
set_option maxHeartbeats 3200000
namespace L2.Py
open PySem PySem.Spec PyProof.Rows TL L2
section
variable {P : Program} {w : World} {A : Around} {E : Value → Shared → Prop} {s : Shared}
end
section
variable {X : Cx} {fm : Fm} {Wi : WX} {al al1 : Bool} {t : OT} {f : Rho → R D}
end
end L2.Py

set_option maxRecDepth 100000
set_option maxHeartbeats 3200000
namespace L2.Py
open PySem PySem.Spec PyProof.Rows TL L2
theorem len_sub {α : Type} [DecidableEq α] : ∀ (a b : List α), a.Nodup → (∀ x ∈ a, x ∈ b) → a.length ≤ b.length
  | [], _, _, _ => Nat.zero_le _
  | x :: xs, b, hn, hs => by
    rw [List.nodup_cons] at hn
    have hb := hs x List.mem_cons_self
    have ih := len_sub xs (b.erase x) hn.2 fun y hy => (List.mem_erase_of_ne fun e => hn.1 (by rw [← e]; exact hy)).mpr (hs y (List.mem_cons_of_mem _ hy))
    rw [List.length_erase_of_mem hb] at ih
    have := List.length_pos_of_mem hb
    rw [List.length_cons]
    omega
def SetW (P : Program) (w : World) (h : Heap) (a : Addr) (xs : List Str) : Prop := ∃ U : List Str, U.Nodup ∧ (∀ k, k ∈ U ↔ k ∈ xs) ∧ h.SetOf (PySem.strKind P w) a (fun j => decide (j ∈ U)) U.length
theorem setOf_keep {P : Program} {w : World} {h h' : Heap} {a : Addr} {xs : List Str} (R : SetW P w h a xs) (k : ∀ o, h.get? a = some o → h'.get? a = some o) : SetW P w h' a xs := by
  obtain ⟨U, u1, u2, o, es, ep, t, ho, r⟩ := R
  exact ⟨U, u1, u2, o, es, ep, t, k o ho, r⟩
section
variable {P : Program} {w : World} {A : Around} {E : Value → Shared → Prop} {s : Shared}
theorem setW_new {h : Heap} {a : Addr} {led : Bool} {xs : List Str} (ho : h.get? a = some { cls := .type "set", dict := none, data := .set #[] 0 (.fresh 0 0 led) }) : SetW P w h a (xs.take 0) :=
  ⟨[], List.nodup_nil, fun k => by simp, PyProof.Rows.SetOf_congr ((PyProof.Rows.setObjOf_fresh (knd := PySem.strKind P w) led).setOf ho (by unfold scanBound; omega)) (fun k => by simp) rfl⟩
theorem w_loop {I : Addr} {fp wr : List Addr} {G : Array GenState → Array GenState → Prop} {n : Nat} {Pv : Nat → Value → Prop} {St : Nat → Shared → Prop} {R : Result → Shared → Prop}
    (W : WalksS P w A.in1 I fp wr G n Pv St) (S : Addr) (hSf : S ∉ fp) (xs : List Str) (hn : n = xs.length) (hb : xs.length + 1 < scanBound) (hval : ∀ i v, Pv i v → ∃ k t, xs[i]? = some k ∧ v = .str k t) :
    ∀ (k i : Nat) (s : Shared), n - i = k → i ≤ n → St i s → SetW P w s.heap S (xs.take i) →
      (∀ s', Moved (S :: wr) G s s' → SetW P w s'.heap S xs → R (.ok (.ret .none)) s') →
      codeAny (model P w) A (.builtin "set.update.loop" ⟨[.ref S, .ref I], []⟩) R s := by
  have hSw : S ∉ wr := fun h => hSf (W.sub _ h)
  have hsub : ∀ b ∈ wr, b ∈ S :: wr := fun b hb => List.mem_cons_of_mem _ hb
  intro k
  induction k with
  | zero =>
    intro i s hk' hi hst hS hR
    have hin : i = n := by omega
    subst hin
    refine codeAny_builtin F.entry_set_update_loop ?_
    rw [Around.under_plainId F.plain_set_update_loop _]
    show wpAny _ A.in1 (pyNext (.ref I) >>= _) _ _ s
    refine wpAny_bind (W.done s _ _ hst fun s' hm => ?_)
    show wpAny _ A.in1 (ret Value.none) _ _ s'
    have e : xs.take i = xs := List.take_of_length_le (by omega)
    rw [e] at hS
    exact wpAny_pure (hR s' (hm.mono hsub) (setOf_keep hS fun o e => hm.heap S o hSw e))
  | succ k ih =>
    intro i s hk' hi hst hS hR
    have hlt : i < n := by omega
    refine codeAny_builtin F.entry_set_update_loop ?_
    rw [Around.under_plainId F.plain_set_update_loop _]
    show wpAny _ A.in1 (pyNext (.ref I) >>= _) _ _ s
    refine wpAny_bind (W.item i s _ _ hlt hst fun v s' hP hst' hm => ?_)
    obtain ⟨z, t, hz, rfl⟩ := hval i v hP
    obtain ⟨U, u1, u2, hS'⟩ := setOf_keep hS (h' := s'.heap) fun o e => hm.heap S o hSw e
    have hU : U.length ≤ i := by
      have := len_sub U _ u1 fun k hk => (u2 k).mp hk
      rw [List.length_take] at this
      omega
    show wpAny _ A.in1 (holding [Value.str z t] (setAdd S (.str z t)) >>= _) _ _ s'
    refine wpAny_bind (wpAny_holding ?_)
    unfold setAdd
    refine wpAny_holding ?_
    refine wpAny_bind ((PySem.strKind P w).pyHash (k := z) (strKind_is _ _ _ _) ?_)
    refine wpAny_setAddHashed_of (knd := PySem.strKind P w) (s := { s' with toks := s'.toks + 1 }) (strKind_is _ _ _ _) rfl hS' (by omega) fun h' hsb hS2 => ?_
    have hS3 : SetW P w h' S (xs.take (i + 1)) := by
      have tk : ∀ k, k ∈ xs.take (i + 1) ↔ k ∈ U ∨ k = z := fun k => by
        rw [List.take_add_one, hz, List.mem_append, u2]
        simp
      by_cases c : z ∈ U
      · refine ⟨U, u1, fun k => by rw [tk]; exact ⟨.inl, fun h => h.elim id fun e => e ▸ c⟩, PyProof.Rows.SetOf_congr hS2 (fun k => ?_) (by simp [c])⟩
        by_cases e : k = z
        · subst e; simp [c]
        · simp [e]
      · refine ⟨z :: U, List.nodup_cons.mpr ⟨c, u1⟩, fun k => by rw [tk, List.mem_cons]; exact ⟨fun h => h.elim .inr .inl, fun h => h.elim .inr .inl⟩, PyProof.Rows.SetOf_congr hS2 (fun k => ?_) (by simp [c])⟩
        by_cases e : k = z
        · subst e; simp
        · simp [e]
    refine wpAny_pure ⟨plainId_quiet F.plain_set_update_loop _, ih (i + 1) _ (by omega) hlt (W.frame _ s' _ _ hst' (Nat.le_succ _) fun b hb o e => ?_) hS3 fun s'' hm'' hS'' => ?_⟩
    · rw [hsb.2 b (fun h : b = S => hSf (by rw [← h]; exact hb))]; exact e
    · refine hR s'' (Moved.trans W.gtrans ((hm.mono hsub).then_heap (Nat.le_succ _) fun b o hb e => ?_) hm'') hS''
      rw [hsb.2 b (fun h : b = S => hb (by rw [h]; exact List.mem_cons_self))]; exact e
end
section
variable {X : Cx} {fm : Fm} {Wi : WX} {al al1 : Bool} {t : OT} {f : Rho → R D}
end
end L2.Py

set_option maxRecDepth 100000
set_option maxHeartbeats 2000000
namespace L2.Py
open PySem PySem.Spec PyProof.Rows TL L2
section
variable {X : Cx} {fm : Fm} {Wi : WX} {al al1 : Bool} {t : OT}
end
theorem setLD_noX (kd y : D) (xs : List D) : NoX (setLD kd y xs) := by
  unfold setLD
  split
  · split
    · exact NoX.ok
    · exact NoX.stk
  · exact NoX.stk
theorem setFn_noX (kd y : D) (x : D) : NoX (setFn kd y x) := by
  unfold setFn
  split
  · exact NoX.bind (setLD_noX _ _ _) fun _ => NoX.ok
  · exact NoX.stk
section
variable {X : Cx} {fm : Fm} {Wi : WX} {al al1 al2 : Bool} {t res : OT} {f g : Rho → R D} {ot ot' ot'' : Nat → OT} {ρ : Rho} {σ : St} {H H1 H2 : Hp} {fps fps1 : Fps}
def putLRun (i : Nat) (gp : Rho → R (List D)) (fv fk : Rho → R D) (ρ : Rho) : Out :=
  .ofR ρ (fv ρ) fun y => .ofR ρ (ρ.get i) fun x => .ofR ρ (gp ρ) fun ps => .ofR ρ (atPath ps x) fun l => match l with
    | .lst _ => .ofR ρ (fk ρ) fun kd => .ofR ρ (updAt (setFn kd y) ps x) fun x' => .next (ρ.put i x')
    | _ => .stk
theorem putLRun_inv {i : Nat} {gp : Rho → R (List D)} {fk : Rho → R D} {y : D} {En : Ends} (hn : ∀ ρ, NoX (gp ρ)) (h : OKS fm Wi res ot' (.ofR ρ (ρ.get i) fun x => .ofR ρ (gp ρ) fun ps => .ofR ρ (atPath ps x) fun l => match l with
    | .lst _ => .ofR ρ (fk ρ) fun kd => .ofR ρ (updAt (setFn kd y) ps x) fun x' => .next (ρ.put i x')
    | _ => .stk) H fps En) :
    ∃ x ps xs, ρ[i]? = some (some x) ∧ gp ρ = .ok ps ∧ atPath ps x = .ok (.lst xs) ∧ OKS fm Wi res ot' (.ofR ρ (fk ρ) fun kd => .ofR ρ (updAt (setFn kd y) ps x) fun x' => .next (ρ.put i x')) H fps En := by
  unfold Rho.get at h
  split at h
  · rename_i x e
    rw [ofR_ok] at h
    cases e1 : gp ρ with
    | ok ps =>
      rw [e1, ofR_ok] at h
      cases e2 : atPath ps x with
      | ok y =>
        rw [e2, ofR_ok] at h
        cases y with
        | lst xs => exact ⟨x, ps, xs, e, rfl, e2, h⟩
        | _ => exact h.elim
      | exn c p => exact absurd e2 (atPath_noX ps x c p)
      | stk => rw [e2] at h; exact h.elim
    | exn c p => exact absurd e1 (hn ρ c p)
    | stk => rw [e1] at h; exact h.elim
  · exact h.elim
theorem d_setS {i : Nat} {x : Str} {e : Expr} {pos pos' : Pos} (hN : X.N.Nodup) (n : Nm X i x) (he : PE X e (tE (fm.w ot) Wi false t f)) (hc : swapsWith e (some (.Name x pos')) pos.line X.env = pure false) (hio : NioS fm i t) :
    PS X (.Assign [.Name x pos'] e pos) (tB fm Wi res ot (otSet ot i t) fun ρ => .ofR ρ (f ρ) fun d => .next (ρ.put i d)) := by
  refine PS.imp (ps_set hN n.ix n.loc he hc n.fn) fun En σ H ⟨ρ, fps, er, h⟩ => ⟨ρ, fps, er, OKS.ofR er h fun d v H1 fp e1 hk s x => ?_⟩
  obtain ⟨q1, q2⟩ := er.put (i := i) s x hio.n
  exact hk _ H1 _ q1 q2
theorem d_putL {i n : Nat} {pe ke e : Expr} {pos' pos : Pos} {gp : Rho → R (List D)} {fk : Rho → R D} (hp : PE X pe (tP (fm.w ot) i gp)) (hn : ∀ ρ, NoX (gp ρ)) (hl : ∀ ρ ps, gp ρ = .ok ps → ps.length = n) (ho : ot i = owN n (.ow .fr))
    (he : PE X e (tE (fm.w ot) Wi false .fr f)) (hk : PE X ke (tE (fm.w ot) Wi true .fr fk)) (hsl : noSl ke = true) (hc : noComp e = true) :
    PS X (.Assign [.Subscript pe ke pos'] e pos) (tB fm Wi res ot ot (putLRun i gp f fk)) := by
  have hg : PG X (.Subscript pe ke pos') (gSub (tP (fm.w ot) i gp) (tE (fm.w ot) Wi true .fr fk) rSetL) := pg_sub hp hk set_list (fun v => by cases ke <;> first | rfl | cases hsl)
  refine PS.imp (ps_asg he hg (swSole hc) (by cases e <;> rfl)) fun En σ H ⟨ρ, fps, er, h⟩ => ⟨ρ, fps, er, OKS.ofR er h fun y u H1 fp e1 hk1 s x => ?_⟩
  obtain rfl := x.fr
  obtain ⟨d, ps, xs, ed, ep, ea, hk1⟩ := putLRun_inv hn hk1
  obtain ⟨v0, s0, _⟩ := er.rep i d ed
  refine ⟨ρ, fps, d, v0, ps, _, er.ext s, ed, s0, ep, ea, fun v' H2 s2 av rd => ?_⟩
  obtain ⟨a, vs, rfl, q1, _⟩ := Rep.lst_inv rd
  have s12 := s.trans s2
  refine ⟨ρ, fps, er.ext s12, OKS.ofR (er.ext s12) (OKS.same s12 hk1) fun kd uk H3 fp2 e2 hk2 s3 xk => ?_⟩
  have s123 := s12.trans s3
  cases e5 : updAt (setFn kd y) ps d with
  | exn c p => exact absurd e5 (updAt_noX (setFn_noX kd y) ps d c p)
  | stk => rw [e5] at hk2; exact hk2.elim
  | ok x' =>
    rw [e5, ofR_ok] at hk2
    rw [e2, ofR_ok, e5, ofR_ok] at hk1
    have efn : setFn kd y = fun x => match x with | .lst xs => setLD kd y xs >>= fun ys => .ok (.lst ys) | _ => .stk := rfl
    rw [efn] at e5
    have xr : XRL (fm.w ot) fps H H3 false [y] frs0 [u] [] := by
      have r : Rep fm.K H3 (Fq (fm.w ot) fps H false []) y .fr u [] := Rep.leaves _ _ _ _ (Leaves.same (s2.trans s3) fun b hb z => z) x.rep
      exact ⟨RepL.cons (f := frs0) (f1 := []) (f2 := []) r RepL.nil, List.nodup_nil, fun _ h => nomatch h⟩
    obtain ⟨v1, a', vs', ws, fp', f1, f2, f3, f4, f5, f6⟩ := er.mutate (t := .fr) (P := fun vs ws => ∃ ki j, kd = .int ki ∧ ixN vs.length ki = some j ∧ ws = vs.set j u) s123 ed (by rw [hl ρ ps ep]; exact ho) xr e5 (fun {xs ys vs fp1 F} q1 q2 q3 q4 => by
      unfold setLD at q1
      split at q1
      · rename_i ki
        split at q1
        · rename_i j hj
          injection q1 with q1
          subst q1
          have q2' : RepL fm.K H3 F xs frs0 vs fp1 := q2
          obtain ⟨rfl, q2'⟩ := RepL.fr_nil q2'
          obtain ⟨u', r, g1, g2, hu, hg, r1, r2⟩ := q3.uncons
          injection hu with hu _
          subst hu
          have r1 : Rep fm.K H3 F y .fr u g1 := r1
          obtain ⟨rfl, r1⟩ := Rep.fr_nil r1
          exact ⟨vs.set j u, [], RepL.setAt q2' r1, List.nodup_nil, (fun b hb => nomatch hb), ki, j, rfl, by rw [RepL.length q2']; exact hj, rfl⟩
        · cases q1
      · cases q1)
    rw [s0] at f1
    injection f1 with f1
    injection f1 with f1
    subst f1
    have ea := (av.same s3).det f2
    injection ea with ea
    subst ea
    obtain ⟨ki, j, rfl, hj, rfl⟩ := f4
    obtain rfl := xk.read.int
    exact ⟨a, vs', ki, j, rfl, rfl, f3, hj, hk1 σ _ _ f5 f6⟩
end
end L2.Py

set_option maxRecDepth 100000
set_option maxHeartbeats 2000000
namespace L2.Py
open PySem PySem.Spec PyProof.Rows TL L2
section
variable {X : Cx} {fm : Fm} {Wi : WX} {al al1 al2 : Bool} {t : OT} {f g : Rho → R D} {ot : Nat → OT}
theorem dget_ow {b : Bool} {es : List D} {k : D} {x y : V} {H : Hp} {F : Addr → Prop} {fp : List Addr} (hk : keyOk b k = true) (rd : Rep fm.K H F (.dct b es) (.ow .fr) x fp) (rk : RdR fm H k y) :
    ∃ a o, x = .ref a ∧ DGet H a y o ∧ ((dlook es k = none ∧ o = none) ∨ ∃ d v, dlook es k = some d ∧ o = some v ∧ Rep fm.K H F d .fr v []) := by
  simp only [Rep] at rd
  obtain ⟨a, fp', rfl, rd⟩ := rd
  rcases rd with ⟨rfl, kvs, ⟨q0, _⟩, q2⟩ | ⟨rfl, kvs, ⟨q0, _⟩, q2⟩
  · have q1 : Rd H a (.dK kvs) := .inl q0
    have e := Rep.fr_nil.goM _ _ _ _ q2
    subst e
    obtain ⟨k', rfl, rfl⟩ := leaf_key (show isLeaf k = true from hk) rk
    refine ⟨a, valV kvs k', rfl, .inl ⟨kvs, k', q1, rfl, rfl⟩, ?_⟩
    rcases RepM.look keyD_eqv k' q2 with ⟨z1, z2⟩ | ⟨d, v, z1, z2, z3⟩
    · exact .inl ⟨z1, z2⟩
    · exact .inr ⟨d, v, z1, z2, z3⟩
  · have q1 : Rd H a (.dT kvs) := .inl q0
    have e := Rep.fr_nil.goM _ _ _ _ q2
    subst e
    obtain ⟨ks, p, rfl, rfl, e⟩ := tup_key (show isKeyT k = true from hk) rk
    refine ⟨a, valV kvs ks, rfl, .inr ⟨kvs, ks, p, q1, rfl, e, rfl⟩, ?_⟩
    rcases RepM.look keyT_eqv ks q2 with ⟨z1, z2⟩ | ⟨d, v, z1, z2, z3⟩
    · exact .inl ⟨z1, z2⟩
    · exact .inr ⟨d, v, z1, z2, z3⟩
theorem de_idxOw {i : Nat} {x : Str} {b : Expr} {pos pos' : Pos} (hK : fm.K = X.kw) (hu : X.A.units + 64 < cLine) (hb' : noSl b = true) (hN : X.N[i]? = some x) (hv : Vis X.env.scope x) (hd : (x == ("__debug__" : Str)) = false) (hcd : (x == ("__classdict__" : Str)) = false) (ho : ot i = .ow .fr)
    (hb : PE X b (tE (fm.w ot) Wi al2 .fr g)) : PE X (.Subscript (.Name x pos') b pos) (tE (fm.w ot) Wi al .fr fun ρ => do let x ← ρ.get i; let y ← g ρ; idxD x y) := by
  refine PE.imp (pe_ix (ix_seq.or ((ix_dict (by omega)).or (ix_nest hu))) (pe_var hN hv hd hcd) hb (ix_of hb')) fun σ H Q ⟨ρ, fps, er, h⟩ => ?_
  rw [KF.back hK, KF.backw hK]
  unfold Rho.get at h
  dsimp only at h
  split at h
  · rename_i d ed
    rw [ok_bind] at h
    obtain ⟨v0, s0, r0⟩ := er.rep i d ed
    have r : Rep fm.K H (Fz fm fps) d (ot i) v0 (fps i) := r0
    clear r0
    rw [ho] at r
    refine ⟨v0, s0, ρ, fps, er, OKE.seq h fun y u H2 fp e2 s2 xy => ?_⟩
    have hk := h
    rw [e2, ok_bind] at hk
    obtain rfl := xy.fr
    have give : ∀ {d : D} {v' : V}, OKE (fm.w ot) Wi al .fr (.ok d) σ H fps Q → Rep fm.K H (Fz fm fps) d .fr v' [] → Q v' H2 := fun {d v'} ho r => ho v' H2 [] s2 ⟨Rep.leaves _ _ _ _ (Leaves.same s2 fun a _ q => .inr ⟨.inl q, fun h => nomatch h⟩) r, List.nodup_nil, fun _ h => nomatch h⟩
    unfold idxD at hk
    split at hk
    · split at hk
      · rename_i xs _ k
        simp only [Rep] at r
        obtain ⟨p, vs, fp', rfl, ⟨nl, _⟩, x1⟩ := r
        have x1 : RepL fm.K H (Fz fm fps) xs frs0 vs fp' := x1
        obtain ⟨rfl, x1⟩ := RepL.fr_nil x1
        obtain rfl := xy.read.int
        cases e : atD xs k with
        | ok d =>
          rw [e] at hk
          obtain ⟨j, hj, hv⟩ := ixAt e (RepL.length x1)
          obtain ⟨v', hv', r⟩ := RepL.get x1 hj
          exact .inl (.inl ⟨p, vs, k, v', rfl, rfl, SqL.of (s2 _ _ nl), hv v' hv', give hk r⟩)
        | exn c ps => exfalso; unfold atD ofOpt at e; split at e <;> cases e
        | stk => rw [e] at hk; exact hk.elim
      · exact hk.elim
    · split at hk
      · rename_i xs _ k
        simp only [Rep] at r
        obtain ⟨p, vs, rfl, nl, x1⟩ := r
        have x1 : RepL fm.K H (Fz fm fps) xs frs0 vs (fps i) := x1
        obtain ⟨_, x1⟩ := RepL.fr_nil x1
        obtain rfl := xy.read.int
        cases e : atD xs k with
        | ok d =>
          rw [e] at hk
          obtain ⟨j, hj, hv⟩ := ixAt e (RepL.length x1)
          obtain ⟨v', hv', r⟩ := RepL.get x1 hj
          exact .inl (.inr (.inl ⟨p, vs, k, v', rfl, rfl, SqT.of (s2 _ _ nl), hv v' hv', give hk r⟩))
        | exn c ps => exfalso; unfold atD ofOpt at e; split at e <;> cases e
        | stk => rw [e] at hk; exact hk.elim
      · exact hk.elim
    · split at hk
      · split at hk
        · rename_i s _ k hl
          simp only [Rep] at r
          obtain ⟨rfl, _⟩ := r
          obtain rfl := xy.read.int
          cases e : atD s k with
          | ok d =>
            rw [e] at hk
            obtain ⟨j, hj, hv⟩ := ixAt (ys := (toS s).cps.toList) e rfl
            refine .inl (.inr (.inr ⟨toS s, k, d, rfl, rfl, by rw [toS_len, ← lim_line]; exact hl, hv d hj, ?_⟩))
            exact OKE.str (show OKE (fm.w ot) Wi al .fr (.ok (.str [d])) σ H fps Q from hk) s2
          | exn c ps => exfalso; unfold atD ofOpt at e; split at e <;> cases e
          | stk => rw [e] at hk; exact hk.elim
        · exact hk.elim
      · exact hk.elim
    · split at hk
      · rename_i b es hko
        obtain ⟨p, o, rfl, g, z⟩ := dget_ow hko (Rep.leaves _ _ _ _ (Leaves.same s2 fun _ _ q => q) r) xy.read
        rcases z with ⟨z1, z2⟩ | ⟨d, v', z1, z2, z3⟩
        · rw [z1] at hk; exact hk.elim
        · rw [z1] at hk
          subst z2
          exact .inr (.inl ⟨p, v', rfl, g, hk v' H2 [] s2 ⟨Rep.leaves _ _ _ _ (Leaves.same (Same.refl _) fun a _ q => .inr ⟨.inl q, fun h => nomatch h⟩) z3, List.nodup_nil, fun _ h => nomatch h⟩⟩)
      · exact hk.elim
    · split at hk
      · rename_i es hko
        obtain ⟨p, b, kvs, zs, k', rfl, rfl, g1, g2, g3, g4, z⟩ := nget_ow hko (Rep.leaves _ _ _ _ (Leaves.same s2 fun _ _ q => q) r) xy.read
        rcases z with ⟨z1, z2⟩ | ⟨d, v', z1, z2, z3⟩
        · rw [z1] at hk; exact hk.elim
        · rw [z1] at hk
          exact .inr (.inr ⟨p, b, kvs, zs, k', v', rfl, rfl, g1, g2, g3, g4, z2, hk v' H2 [] s2 ⟨Rep.leaves _ _ _ _ (Leaves.same (Same.refl _) fun a _ q => .inr ⟨.inl q, fun h => nomatch h⟩) z3, List.nodup_nil, fun _ h => nomatch h⟩⟩)
      · exact hk.elim
    · split at hk
      · rename_i ns _ k
        have rd : RdR fm H2 (.scr ns) v0 := Rep.forget _ _ _ _ (fun _ _ _ => trivial) (fun _ _ => trivial) (Rep.leaves _ _ _ _ (Leaves.same s2 fun _ _ q => q) r)
        obtain ⟨p, rfl, e1⟩ := scr_sq rd
        obtain rfl := xy.read.int
        cases e : atD ns k with
        | ok d =>
          rw [e] at hk
          obtain ⟨j, hj, hv⟩ := ixAt (ys := ns.map V.int) e (by simp)
          exact .inl (.inl ⟨p, _, k, .int d, rfl, rfl, e1, hv _ (by simp [hj]), OKE.int (show OKE (fm.w ot) Wi al .fr (.ok (.int d)) σ H fps Q from hk) s2⟩)
        | exn c ps => exfalso; unfold atD ofOpt at e; split at e <;> cases e
        | stk => rw [e] at hk; exact hk.elim
      · exact hk.elim
    · exact hk.elim
  · exact h.elim
end
end L2.Py

set_option maxRecDepth 100000
set_option maxHeartbeats 2000000
namespace L2.Py
open PySem PySem.Spec PyProof.Rows TL L2
section
variable {X : Cx} {fm : Fm} {Wi : WX} {al al1 al2 : Bool} {t res : OT} {f g : Rho → R D} {K : KF} {F1 : Addr → Prop} {ot ot' ot'' : Nat → OT} {ρ : Rho} {σ : St} {H H1 H2 : Hp} {fps fps1 : Fps}
end
end L2.Py

set_option maxRecDepth 100000
set_option maxHeartbeats 2000000
namespace L2.Py
open PySem PySem.Spec PyProof.Rows TL L2
section
variable {X : Cx} {pins : List (Addr × Obj)} {σ : St} {H : Hp} {s : Shared} {a b : Addr} {r : Value} {d : V} {ks : List Key} {A : Around} {E : Value → Shared → Prop}
end
section
variable {X : Cx} {o e f : Expr} {td ty tx : TE} {apos cpos : Pos}
end
section
variable {X : Cx} {fm : Fm} {Wi : WX} {al al1 al2 : Bool} {t res : OT} {f g : Rho → R D} {ot ot' ot'' : Nat → OT} {ρ : Rho} {σ : St} {H H1 H2 : Hp} {fps fps1 : Fps}
end
end L2.Py

set_option maxRecDepth 100000
set_option maxHeartbeats 2000000
namespace L2.Py
open PySem PySem.Spec PyProof.Rows TL L2
section
variable {X : Cx} {fm : Fm} {Wi : WX} {al al1 al2 : Bool} {t res : OT} {f g : Rho → R D} {ot ot' ot'' : Nat → OT} {ρ : Rho} {σ : St} {H H1 H2 : Hp} {fps fps1 : Fps}
end
end L2.Py

set_option maxRecDepth 100000
set_option maxHeartbeats 2000000
namespace L2.Py
open PySem PySem.Spec PyProof.Rows TL L2
section
variable {X : Cx} {fm : Fm} {Wi : WX} {al1 : Bool} {t : OT} {f : Rho → R D}
end
end L2.Py

set_option maxRecDepth 100000
set_option maxHeartbeats 2000000
namespace L2.Py
open PySem PySem.Spec PyProof.Rows TL L2
section
variable {X : Cx} {fm : Fm} {Wi : WX} {al al1 al2 : Bool} {t : OT} {f g : Rho → R D}
end
section
variable {P : Program} {w : World} {A : Around} {E : Value → Shared → Prop} {s : Shared}
theorem signs_at {x : Str} {i : Nat} {v : Value} (h : SignAt x i v) : ∃ k t, (x.cps.toList.map fun c => (⟨#[c]⟩ : Str))[i]? = some k ∧ v = .str k t := by
  obtain ⟨c, u, h1, rfl⟩ := h
  exact ⟨_, u, by rw [List.getElem?_map, Array.getElem?_toList, h1]; rfl, rfl⟩
theorem w_callT {x : Str} {t : Tok} {Q : Value → Shared → Prop} (hh : A.handled = none) (hb : x.cps.toList.length + 1 < scanBound)
    (h : ∀ (h' : Heap) (tk : Nat), SetW P w h' s.heap.objs.size (x.cps.toList.map fun c => (⟨#[c]⟩ : Str)) → (∀ b o, s.heap.get? b = some o → h'.get? b = some o) → Q (.ref s.heap.objs.size) { s with heap := h', toks := tk }) :
    wpAny (model P w) A (call (.type "set") [.str x t]) Q E s := by
  obtain ⟨xs, hxs⟩ : ∃ xs, xs = x.cps.toList.map fun c => (⟨#[c]⟩ : Str) := ⟨_, rfl⟩
  have hxl : xs.length = x.cps.size := by rw [hxs, List.length_map, Array.length_toList]
  rw [← hxs] at h
  obtain ⟨c, tl, hmro⟩ := F.called_set.mro
  have hmade := F.called_set.made
  have hsub := F.called_set.sub
  refine wpAny_call (codeAny_of_tree ?_)
  show wpAny _ _ (callAny (.type "set") _) _ _ _
  refine wpAny_pure ⟨Code.quiet_builtin _ (by decide +kernel), codeAny_builtin F.entry_type_call ?_⟩
  rw [Around.under_plain (weight_type_call_type "set" [.str x t] []) rfl]
  have h1 := F.called_set.notType
  have h2 := F.called_set.canCreate
  have hct := F.typeCall_set_1 (.str x t)
  repeat (any_goals (first | assumption | wp_step))
  refine codeAny_mono (code_set_led1 (.str x t) (E := E) (Q₁ := fun obj s₁ => obj = .ref s.heap.objs.size ∧ s₁ = { s with heap := s.heap.push (newSet w) }) ⟨rfl, rfl⟩) fun r s₁ hr => ?_
  cases r with
  | error e => exact hr
  | ok fl =>
    cases fl with
    | ret obj =>
      obtain ⟨rfl, rfl⟩ := hr
      have hS : (s.heap.push (newSet w)).get? s.heap.objs.size = some (newSet w) := Heap.get?_push_size _ rfl
      have hT : Shared.TypeIs { s with heap := s.heap.push (newSet w) } (.ref s.heap.objs.size) "set" := ⟨_, hS, rfl⟩
      have hli := F.called_set.init.lookup
      have hbi := F.called_set.init.bind (.ref s.heap.objs.size)
      repeat (any_goals (first | assumption | wp_step))
      refine codeAny_mono (codeAny_call_builtin (R := wants (fun r s₂ => r = .none ∧ ∃ h' tk, s₂ = { s with heap := h', toks := tk } ∧ SetW P w h' s.heap.objs.size xs ∧
          (∀ b o, s.heap.get? b = some o → h'.get? b = some o)) E) F.called_set.init.plain F.entry_set_init (check_set_init_1 hT ?_)) fun r₂ s₂ hr₂ => ?_
      · have hsls := F.sub_str_set
        have hslf := F.sub_str_frozenset
        have hne : (Value.type "str" == Value.type "dict") = false := by decide
        unfold Builtin.«set.__init__» noKeywords Builtin.Frozenset.updateFrom
        generalize hPI : pyIter = PI
        wp_walk
        subst hPI
        refine wpAny_pyIter_str fun o St W hst => ?_
        refine wpAny_bind (wpAny_runValue ?_)
        have hz1 : (s.heap.push (newSet w)).objs.size = s.heap.objs.size + 1 := Heap.size_push ..
        have hSf : s.heap.objs.size ∉ [(s.heap.push (newSet w)).objs.size] := by
          rw [hz1]
          simp
        refine w_loop ((W _ (show A.in1.in1.in1.handled = none by simp [hh])).toS) s.heap.objs.size
          hSf xs hxl.symm (by rw [hxs, List.length_map]; exact hb) (fun i v hv => by rw [hxs]; exact signs_at hv) (x.cps.size - 0) 0 _ (by omega) (Nat.zero_le _) hst ?hS0 ?hR
        case hS0 =>
          exact setW_new (Heap.get?_push_of_some _ hS)
        case hR =>
          intro s' hm hS'
          obtain ⟨h', g2, d', tk', os'⟩ := s'
          have eg : g2 = s.gens := hm.gens
          have ed : d' = s.drawn := hm.drawn
          have eo : os' = s.os := hm.os
          subst eg ed eo
          show wpAny _ _ _ _ _ _
          refine wpAny_pure ?_
          show wpAny _ _ (ret Value.none) _ _ _
          refine wpAny_pure ⟨rfl, h', tk', rfl, hS', fun b o e => ?_⟩
          have hb0 : b < s.heap.objs.size := Heap.lt_size e
          have hb1 : b ≠ s.heap.objs.size := Nat.ne_of_lt hb0
          have hb2 : b ≠ (s.heap.push (newSet w)).objs.size := by
            rw [hz1]; exact Nat.ne_of_lt (Nat.lt_succ_of_lt hb0)
          exact hm.heap b o (by simp only [List.mem_cons, List.mem_singleton, List.not_mem_nil, or_false, not_or]; exact ⟨hb1, hb2⟩) (Heap.get?_push_of_some _ (Heap.get?_push_of_some _ e))
      · cases r₂ with
        | error e => exact hr₂
        | ok fl₂ =>
          cases fl₂ with
          | ret r =>
            obtain ⟨rfl, h', tk, rfl, hS', hk'⟩ := hr₂
            repeat (any_goals (first | assumption | wp_step))
            exact h _ _ hS' hk'
          | _ => exact hr₂.elim
    | _ => exact hr.elim
end
section
variable {X : Cx} {fm : Fm} {Wi : WX} {al al1 : Bool} {t : OT} {f : Rho → R D}
def tLenSetT (ta : TE) : TE := fun σ H Q => ta σ H fun x H1 => ∃ y : Str, x = .str y ∧ y.cps.toList.length < 4000 ∧ ∀ n : Nat, Counts (y.cps.toList.map fun c => (⟨#[c]⟩ : Str)) n → Q (.int n) H1
theorem pe_lenSetT {a : Expr} {ta : TE} {p p2 q pos : Pos} (hc : X.calm = true) (hg : Gl X "len") (hm : X.mg "len" = none) (hg2 : Gl X "set") (hm2 : X.mg "set" = none) (ha : PE X a ta)
    (na : starEach [a] X.env = (false, eval a X.env) :: starEach [] X.env) : PE X (.Call (.Name "len" p) [.Call (.Name "set" p2) [a] [] q] [] pos) (tLenSetT ta) := by
  refine ⟨fun pins s σ H Q I h => ?_⟩
  refine Call_ (ld_blt I hg hm boot_len ?_)
  refine PyProof.Rows.callWith_builtin1 (PyProof.Rows.args_cons ?_ rfl) rfl rfl
  refine Call_ (ld_blt I hg2 hm2 boot_set ?_)
  refine PyProof.Rows.callWith_type1 (PyProof.Rows.args_cons (thn (ha.run pins s σ H _ I h) fun v s1 ⟨x, H1, I1, r1, q1⟩ => PyProof.Rows.args_nil ?_) na) na rfl
  obtain ⟨y, rfl, h1, q1⟩ := q1
  obtain ⟨tk0, rfl⟩ := r1
  have hsb : y.cps.toList.length + 1 < scanBound := by unfold scanBound; omega
  refine w_callT (P := X.prog) (w := X.w) (I1.ok.hd hc) hsb fun h' tk hS hk => ?_
  refine PyProof.Rows.args_nil ?_
  obtain ⟨U, u1, u2, hS⟩ := hS
  obtain ⟨o, es, ep, t, ho, hex, hd, _, _, _, hf, hn⟩ := hS
  have I2 : Inv X pins σ H1 { s1 with heap := h', toks := tk } := I1.kept fun b o e => hk b o e
  have cn := counts_of (ks := y.cps.toList.map fun c => (⟨#[c]⟩ : Str)) u1 u2
  have hl : U.length ≤ (y.cps.toList.map fun c => (⟨#[c]⟩ : Str)).length := len_sub U _ u1 fun k hk => (u2 k).mp hk
  rw [List.length_map] at hl
  exact call_len_set ho hex hd hf (by rw [hn]; omega) ⟨.int U.length, H1, I2.tok _, ⟨_, by rw [hn]⟩, q1 _ cn⟩
theorem de_lenSetT {a : Expr} {p p2 q pos : Pos} {sub : Sub} (hc : X.calm = true) (hg : Gl X "len") (hm : X.mg "len" = none) (hg2 : Gl X "set") (hm2 : X.mg "set" = none) (ha : PE X a (tE fm Wi al1 .fr f))
    (na : noStar a = true) : PE X (.Call (.Name "len" p) [.Call (.Name "set" p2) [a] [] q] [] pos) (tE fm Wi al t fun ρ => f ρ >>= fun d => bltD sub .lenSetT [d]) := by
  refine PE.imp (pe_lenSetT hc hg hm hg2 hm2 ha (star_of na)) fun σ H Q ⟨ρ, fps, er, h⟩ => ⟨ρ, fps, er, OKE.seq h fun d v H1 fp e s x => ?_⟩
  obtain rfl := x.fr
  dsimp only at h
  rw [e, ok_bind] at h
  cases d with
  | str w => ?_
  | _ => exact h.elim
  have hh : OKE fm Wi al t (if w.length < 4000 then .ok (.int (dedup (w.map fun c => .str [c])).length) else .stk) σ H fps Q := h
  split at hh
  · rename_i h4
    obtain rfl := x.read.str
    have e0 : (toS w).cps.toList = w := by simp [toS]
    refine ⟨_, rfl, by rw [e0]; exact h4, fun n cn => ?_⟩
    rw [e0] at cn
    obtain ⟨U, u0, u1, u2⟩ := dedup_of (g := D.str) (fun p q => by simp only [D.eqv]; by_cases h : p = q <;> simp [h]) (w.map fun c => [c])
    rw [List.map_map] at u0
    have u0 : dedup (w.map fun c => D.str [c]) = U.map D.str := u0
    rw [u0, List.length_map] at hh
    have := cn (U.map toS) (List.Pairwise.map toS (fun a b h e => h (toS_inj e)) u1) fun k => by
      rw [List.mem_map, List.mem_map]
      constructor
      · rintro ⟨x, h1, h2⟩
        obtain ⟨c, h3, rfl⟩ := List.mem_map.mp ((u2 x).mp h1)
        exact ⟨c, h3, h2⟩
      · rintro ⟨c, h1, h2⟩
        exact ⟨[c], (u2 _).mpr (List.mem_map.mpr ⟨c, h1, rfl⟩), h2⟩
    rw [List.length_map] at this
    rw [this]
    exact hh.int s
  · exact hh.elim
end
end L2.Py

set_option maxRecDepth 100000
set_option maxHeartbeats 2000000
namespace L2.Py
open PySem PySem.Spec PyProof.Rows TL L2
section
variable {X : Cx} {fm : Fm} {Wi : WX} {al al1 al2 : Bool} {t res : OT} {f g : Rho → R D} {ot ot' ot'' : Nat → OT} {ρ : Rho} {σ : St} {H H1 H2 : Hp} {fps fps1 : Fps}
end
end L2.Py

set_option maxRecDepth 100000
set_option maxHeartbeats 2000000
namespace L2.Py
open PySem PySem.Spec PyProof.Rows TL L2
section
variable {X : Cx} {fm : Fm} {Wi : WX} {al al1 al2 : Bool} {t res : OT} {f g : Rho → R D} {ot ot' ot'' : Nat → OT} {ρ : Rho} {σ : St} {H H1 H2 : Hp} {fps fps1 : Fps}
end
end L2.Py

set_option maxRecDepth 100000
set_option maxHeartbeats 2000000
namespace L2.Py
open PySem PySem.Spec PyProof.Rows TL L2
section
variable {X : Cx} {fm : Fm} {Wi : WX} {al al1 al2 : Bool} {t res : OT} {f g : Rho → R D} {ot ot' ot'' : Nat → OT} {ρ : Rho} {σ : St} {H H1 H2 : Hp} {fps fps1 : Fps}
end
end L2.Py

set_option maxRecDepth 100000
set_option maxHeartbeats 2000000
namespace L2.Py
open PySem PySem.Spec PyProof.Rows TL L2
section
variable {X : Cx} {k v : Expr} {tk tv : TE} {pos : Pos}
end
section
variable {X : Cx} {fm : Fm} {Wi : WX} {al : Bool} {f : Rho → R D}
end
end L2.Py

set_option maxRecDepth 100000
set_option maxHeartbeats 2000000
namespace L2.Py
open PySem PySem.Spec PyProof.Rows TL L2
theorem RepL.erase {K : KF} {H : Hp} {F : Addr → Prop} : ∀ {ds : List D} {vs : List V} {j : Nat}, RepL K H F ds frs0 vs [] → RepL K H F (ds.eraseIdx j) frs0 (vs.eraseIdx j) []
  | [], vs, j, h => by
    obtain ⟨rfl, _⟩ := h.nil_inv
    exact RepL.nil
  | d :: ds, vs, j, h => by
    obtain ⟨v, r, f1, f2, rfl, e, h1, h2⟩ := h.uncons
    obtain ⟨rfl, rfl⟩ := List.append_eq_nil_iff.mp e.symm
    have h2 : RepL K H F ds frs0 r [] := h2
    cases j with
    | zero => exact h2
    | succ j => exact RepL.cons (f := frs0) (f1 := []) (f2 := []) h1 (RepL.erase h2)
section
variable {X : Cx} {fm : Fm} {Wi : WX} {al al1 al2 : Bool} {t res : OT} {f g : Rho → R D} {ot ot' ot'' : Nat → OT} {ρ : Rho} {σ : St} {H H1 H2 : Hp} {fps fps1 : Fps}
end
end L2.Py

set_option maxRecDepth 100000
set_option maxHeartbeats 2000000
namespace L2.Py
open PySem PySem.Spec PyProof.Rows TL L2
section
variable {X : Cx}
end

section
variable {X : Cx} {fm : Fm} {Wi : WX} {res : OT} {ot ot1 : Nat → OT} {sub : Sub} {ts : List Nat}
def tryB (sub : Sub) (ks : List Nat) (k j : Nat) (v : Bool) (b : Rho → Out) (ρ : Rho) : Out := match b ρ with
  | .exn c ps ρ' => if sub c c then (if sub c k then keepO ks (.next (ρ'.put j (.bl v))) else .exn c ps ρ') else .stk
  | o => o
end
end L2.Py

set_option maxRecDepth 100000
set_option maxHeartbeats 2000000
namespace L2.Py
open PySem PySem.Spec PyProof.Rows TL L2
def OwnK (H : Hp) (a : Addr) : Prop := ∃ o, H a = some o ∧ (∀ vs, o ≠ .tup vs) ∧ ∀ q u, o ≠ .frz q u
section
variable {K : KF}
mutual
theorem Rep.kind {H : Hp} {F : Addr → Prop} : ∀ (d : D) (t : OT) (v : V) (fp : List Addr), Rep K H F d t v fp → ∀ a ∈ fp, OwnK H a
  | .non, _, _, _, h => by simp only [Rep] at h; rw [h.2]; intro a ha; cases ha
  | .bl _, _, _, _, h => by simp only [Rep] at h; rw [h.2]; intro a ha; cases ha
  | .int _, _, _, _, h => by simp only [Rep] at h; rw [h.2]; intro a ha; cases ha
  | .str _, _, _, _, h => by simp only [Rep] at h; rw [h.2]; intro a ha; cases ha
  | .tup ds, t, v, fp, h => by
    simp only [Rep] at h
    obtain ⟨a, vs, e, h1, h2⟩ := h
    exact RepL.kind ds _ vs fp h2
  | .lst ds, t, v, fp, h => by
    simp only [Rep] at h
    obtain ⟨a, vs, fp', e, h1, h2⟩ := h
    have q := RepL.kind ds _ vs fp' h2
    cases t with
    | ow t =>
      obtain ⟨h1, rfl⟩ := h1
      intro b hb
      rcases List.mem_cons.mp hb with rfl | hb
      · exact ⟨_, h1, (fun _ w => nomatch w), fun _ _ w => nomatch w⟩
      · exact q b hb
    | fr => obtain ⟨_, rfl⟩ := h1; exact q
    | tp ts => obtain ⟨_, rfl⟩ := h1; exact q
  | .dct b es, t, v, fp, h => by
    simp only [Rep] at h
    obtain ⟨a, fp', e, h⟩ := h
    rcases h with ⟨eb, kvs, h1, h2⟩ | ⟨eb, kvs, h1, h2⟩
    · have q := RepM.kind es _ _ kvs fp' h2
      cases t with
      | ow t =>
        obtain ⟨h1, rfl⟩ := h1
        intro b hb
        rcases List.mem_cons.mp hb with rfl | hb
        · exact ⟨_, h1, (fun _ w => nomatch w), fun _ _ w => nomatch w⟩
        · exact q b hb
      | fr => obtain ⟨_, rfl⟩ := h1; exact q
      | tp ts => obtain ⟨_, rfl⟩ := h1; exact q
    · have q := RepM.kind es _ _ kvs fp' h2
      cases t with
      | ow t =>
        obtain ⟨h1, rfl⟩ := h1
        intro b hb
        rcases List.mem_cons.mp hb with rfl | hb
        · exact ⟨_, h1, (fun _ w => nomatch w), fun _ _ w => nomatch w⟩
        · exact q b hb
      | fr => obtain ⟨_, rfl⟩ := h1; exact q
      | tp ts => obtain ⟨_, rfl⟩ := h1; exact q
  | .dcn es, t, v, fp, h => by
    simp only [Rep] at h
    obtain ⟨a, fp', kvs, xs, e, hk, h1, h2⟩ := h
    have q := RepM.kind es _ _ kvs fp' h2
    cases t with
    | ow t =>
      obtain ⟨h1, rfl⟩ := h1
      intro b hb
      rcases List.mem_cons.mp hb with rfl | hb
      · exact ⟨_, h1, (fun _ w => nomatch w), fun _ _ w => nomatch w⟩
      · exact q b hb
    | fr => obtain ⟨_, rfl⟩ := h1; exact q
    | tp ts => obtain ⟨_, rfl⟩ := h1; exact q
  | .exc _ _, _, _, _, h => by simp only [Rep] at h; rw [h.2]; intro a ha; cases ha
  | .scr _, _, _, _, h => by simp only [Rep] at h; rw [h.2]; intro a ha; cases ha
theorem RepL.kind {H : Hp} {F : Addr → Prop} : ∀ (ds : List D) (f : Nat → OT) (vs : List V) (fp : List Addr), RepL K H F ds f vs fp → ∀ a ∈ fp, OwnK H a
  | [], _, _, _, h => by simp only [RepL] at h; rw [h.2]; intro a ha; cases ha
  | d :: ds, f, vs, fp, h => by
    simp only [RepL] at h
    obtain ⟨v, r, f1, f2, e1, e2, h1, h2⟩ := h
    subst e2
    intro a ha
    rcases List.mem_append.mp ha with z | z
    · exact Rep.kind d _ v f1 h1 a z
    · exact RepL.kind ds _ r f2 h2 a z
theorem RepM.kind {H : Hp} {F : Addr → Prop} : ∀ (es : List D) {κ : Type} (kf : κ → D) (t : OT) (kvs : List (κ × V)) (fp : List Addr), RepM K H F es κ kf t kvs fp → ∀ a ∈ fp, OwnK H a
  | [], _, _, _, _, _, h => by simp only [RepM] at h; rw [h.2]; intro a ha; cases ha
  | e :: es, _, kf, t, kvs, fp, h => by
    simp only [RepM] at h
    obtain ⟨k, v, r, f1, f2, e1, e2, h1, h2⟩ := h
    subst e2
    intro a ha
    rcases List.mem_append.mp ha with z | z
    · exact RepN.kind e _ _ v f1 h1 a z
    · exact RepM.kind es _ _ r f2 h2 a z
theorem RepN.kind {H : Hp} {F : Addr → Prop} : ∀ (e : D) (kd : D) (t : OT) (v : V) (fp : List Addr), RepN K H F e kd t v fp → ∀ a ∈ fp, OwnK H a
  | .tup ds, kd, t, v, fp, h => by
    simp only [RepN] at h
    exact RepN2.kind ds kd t v fp h
  | .non, _, _, _, _, h => by simp only [RepN] at h
  | .bl _, _, _, _, _, h => by simp only [RepN] at h
  | .int _, _, _, _, _, h => by simp only [RepN] at h
  | .str _, _, _, _, _, h => by simp only [RepN] at h
  | .lst _, _, _, _, _, h => by simp only [RepN] at h
  | .dct _ _, _, _, _, _, h => by simp only [RepN] at h
  | .dcn _, _, _, _, _, h => by simp only [RepN] at h
  | .exc _ _, _, _, _, _, h => by simp only [RepN] at h
  | .scr _, _, _, _, _, h => by simp only [RepN] at h
theorem RepN2.kind {H : Hp} {F : Addr → Prop} : ∀ (ds : List D) (kd : D) (t : OT) (v : V) (fp : List Addr), RepN2 K H F ds kd t v fp → ∀ a ∈ fp, OwnK H a
  | [], _, _, _, _, h => by simp only [RepN2] at h
  | k :: ds, kd, t, v, fp, h => by
    simp only [RepN2] at h
    exact RepN3.kind ds t v fp h.2
theorem RepN3.kind {H : Hp} {F : Addr → Prop} : ∀ (ds : List D) (t : OT) (v : V) (fp : List Addr), RepN3 K H F ds t v fp → ∀ a ∈ fp, OwnK H a
  | [], _, _, _, h => by simp only [RepN3] at h
  | d :: ds, t, v, fp, h => by
    simp only [RepN3] at h
    exact Rep.kind d t v fp h.2
end
end
section
variable {X : Cx} {fm : Fm} {Wi : WX} {al al1 al2 : Bool} {t res : OT} {f g : Rho → R D} {ot ot' ot'' : Nat → OT} {ρ : Rho} {σ : St} {H H1 H2 H' : Hp} {fps fps1 : Fps}
def otM (p : Nat) (t : OT) : Nat → OT := fun j => if j = p then t else .fr
def spM (K : KF) (ca : Nat → Addr) (g : List D → R (D × List D)) (n : Nat) (res : OT) (p : Nat) (t : OT) : Sp := fun vs H Q E => ∃ (ds : List D) (B : Addr → Prop) (fp : List Addr) (u : V), RepL K H (fun b => B b ∧ b ∉ fp) ds (otM p t) vs fp ∧ fp.Nodup ∧ ds.length = n ∧ vs[p]? = some u ∧
  match g ds with
  | .ok r => ∀ v H' f1 fq, (∀ b o, H b = some o → b ∉ fp → H' b = some o) → (∀ b, H b ≠ none → H' b ≠ none) → f1.Nodup → fq.Nodup → (∀ b ∈ f1, b ∉ fq) → (∀ b, b ∈ f1 ∨ b ∈ fq → H b = none ∨ b ∈ fp) →
      Rep K H' (fun b => (B b ∨ H b = none ∨ b ∈ fp) ∧ b ∉ f1 ∧ b ∉ fq) r.1 res v f1 → (∀ x, lentD r.2 = .ok x → Rep K H' (fun b => (B b ∨ H b = none ∨ b ∈ fp) ∧ b ∉ f1 ∧ b ∉ fq) x t u fq) → Q v H'
  | .exn c ps => ∀ cls dx H', (∀ b o, H b = some o → b ∉ fp → H' b = some o) → (∀ b, H b ≠ none → H' b ≠ none) → ExnC ca K (fun a => H a = none) H' c ps cls dx → E cls dx H'
  | .stk => False
def spC (K : KF) (ca : Nat → Addr) (g : List D → R (D × List D)) (n : Nat) (res : OT) (p : Nat) (t : OT) : Sp := fun vs H Q E => ∃ (ds : List D) (B : Addr → Prop) (fp : List Addr), RepL K H (fun b => B b ∧ b ∉ fp) ds (otM p t) vs fp ∧ fp.Nodup ∧ ds.length = n ∧
  match g ds with
  | .ok r => ∀ v H' f1, (∀ b o, H b = some o → b ∉ fp → H' b = some o) → f1.Nodup → (∀ b ∈ f1, H b = none ∨ b ∈ fp) → Rep K H' (fun b => (B b ∨ H b = none ∨ b ∈ fp) ∧ b ∉ f1) r.1 res v f1 → Q v H'
  | .exn c ps => ∀ cls dx H', (∀ b o, H b = some o → b ∉ fp → H' b = some o) → ExnC ca K (fun a => H a = none) H' c ps cls dx → E cls dx H'
  | .stk => False
theorem de_callN {fa : Addr} {fd : FuncData} {ps : List Str} {k n q : Nat} {res u : OT} {G : List D → R (D × List D)} {x : Str} {p pos : Pos} {e : Expr} {es : List Expr} {gs : Rho → R (List D)} (hK : fm.K = X.kw)
    (F : FnOk X.prog X.w X.K X.mg X.base (L2.CX X.prog X.w) k fa fd ps (spC X.kw fm.ca G n res q u)) (hr : Room k X.A) (hg : Gl X x) (hm : X.mg x = some (.ref fa)) (hk : PySem.W.keepIn X.K (.ref fa) = true) (hb : Binds X.K fd ps [])
    (hx : ∀ σ, PassesAt (L2.CX X.prog X.w) X σ (WE Wi σ)) (hd : (x == ("__debug__" : Str)) = false) (hs : (e :: es).all noStar = true) (ha : PA X (e :: es) (tL fm Wi false (otM q u) gs)) (hn : ∀ ρ ds, gs ρ = .ok ds → ds.length = n) (ht : t = .fr ∨ t = res) :
    PE X (.Call (.Name x p) (e :: es) [] pos) (tE fm Wi al t fun ρ => do let xs ← gs ρ; let r ← G xs; pure r.1) := by
  simp only [List.all_cons, Bool.and_eq_true] at hs
  refine PE.imp (pe_callS F hr hg hm hk hb hx ha hd (star_of hs.1) (back_of hs.2)) fun σ H Q ⟨ρ, fps, er, h⟩ => ⟨ρ, fps, er, OKL.bind h fun ds vs H1 fp e1 hk s x => ?_⟩
  refine ⟨ds, fun a => Fz fm fps a ∨ H a = none, fp, hK ▸ RepL.leaves _ _ _ _ (Leaves.same (Same.refl _) fun a _ z => ?_) x.rep, x.nd, hn ρ ds e1, ?_⟩
  · rcases z with z | z
    · cases z
    · exact z
  have sm : ∀ {H' : Hp}, (∀ b o, H1 b = some o → b ∉ fp → H' b = some o) → Same H H' := fun {H'} q a o ea => q a o (s a o ea) fun hf => by
    have := x.new a hf
    rw [ea] at this
    cases this
  cases e2 : G ds with
  | ok r =>
    rw [e2] at hk
    intro v H' f1 s2 nd new rep
    have y : XR fm fps H H' al r.1 res v f1 := by
      refine ⟨Rep.leaves _ _ _ _ (Leaves.same (Same.refl _) fun a ha q => ?_) (hK ▸ rep), nd, fun a h => (new a h).elim s.free (x.new a)⟩
      refine .inr ⟨?_, q.2⟩
      rcases q.1 with q1 | q1 | q1
      · exact q1
      · exact .inr (s.free q1)
      · exact .inr (x.new a q1)
    rcases ht with rfl | rfl
    · exact hk v H' [] (sm s2) y.forget
    · exact hk v H' f1 (sm s2) y
  | exn c ps =>
    rw [e2] at hk
    exact fun cls dx H' s2 ex => hk cls dx H' (sm s2) (by rw [ExnR, hK]; exact ex.mono fun a z => er.h0 (s.free z))
  | stk => rw [e2] at hk; exact hk
end
end L2.Py

set_option maxRecDepth 100000
set_option maxHeartbeats 2000000
namespace L2.Py
open PySem PySem.Spec PyProof.Rows TL L2
section
variable {X : Cx} {fm : Fm} {Wi : WX} {al al1 al2 : Bool} {t res : OT} {f g : Rho → R D} {ot ot' ot'' : Nat → OT} {ρ : Rho} {σ : St} {H H1 H2 H' : Hp} {fps fps1 : Fps}
def popL0 (xs : List D) : R (List D) := if xs.isEmpty then .stk else .ok xs.dropLast
def lift1 (fn : List D → R (List D)) : D → R D := fun x => match x with | .lst xs => fn xs >>= fun ys => .ok (.lst ys) | _ => .stk
theorem popD_eq : mutD .pop0 [] = lift1 popL0 := by
  funext x
  cases x <;> first | rfl | skip
  rename_i xs
  show (if xs.isEmpty then R.stk else R.ok (D.lst xs.dropLast)) = (popL0 xs >>= fun ys => R.ok (D.lst ys))
  unfold popL0
  split <;> rfl
theorem popL0_noX (xs : List D) : NoX (popL0 xs) := by
  intro c ps h
  unfold popL0 at h
  split at h <;> cases h
theorem lift1_noX {fn : List D → R (List D)} (h : ∀ xs, NoX (fn xs)) (x : D) : NoX (lift1 fn x) := by
  unfold lift1
  split
  · exact NoX.bind (h _) fun _ => NoX.ok
  · exact NoX.stk
theorem d_pop0 {i n : Nat} {pe : Expr} {apos cpos pos : Pos} {gp : Rho → R (List D)} (hK : fm.K = X.kw) (hp : PE X pe (tP (fm.w ot) i gp)) (hn : ∀ ρ, NoX (gp ρ)) (hl : ∀ ρ ps, gp ρ = .ok ps → ps.length = n) (ho : ot i = owN n (.ow t))
    (h0 : noSuper pe = true) (h1 : (apos.endLine == cpos.line) = true) :
    PS X (.Expr (.Call (.Attribute pe "pop" apos) [] [] cpos) pos) (tB fm Wi res ot ot (mutRun i gp .pop0 fun _ => .ok [])) := by
  have pe' := pe_bm0 (r := rPop) (cpos := cpos) (apos := apos) F.plainAttrs_list F.slot_list_pop F.type_list_pop mt_pop hp (super_of h0) h1
  refine PS.imp (ps_expr pe' rfl) fun En σ H ⟨ρ, fps, er, h⟩ => ?_
  obtain ⟨x, ps, xs, e1, e2, e3, h⟩ := mutRun_inv hn h
  obtain ⟨v0, s0, _⟩ := er.rep i x e1
  refine ⟨ρ, fps, x, v0, ps, _, er, e1, s0, e2, e3, fun v' H1 s av rd => ?_⟩
  obtain ⟨a, vs, rfl, q1, _⟩ := Rep.lst_inv rd
  refine ⟨.inl ⟨rfl, vs, SqL.of q1.1⟩, ?_⟩
  have hk := OKS.same s h
  rw [ofR_ok, popD_eq] at hk
  cases e5 : updAt (lift1 popL0) ps x with
  | exn c p => exact absurd e5 (updAt_noX (lift1_noX popL0_noX) ps x c p)
  | stk => rw [e5] at hk; exact hk.elim
  | ok x' =>
    rw [e5, ofR_ok] at hk
    obtain ⟨v1, a', vs', ws, fp', f1, f2, f3, f4, f5, f6⟩ := (er.ext s).mutate (t := t) (ft := frs0) (fn := popL0) (P := fun vs ws => ∃ y, vs[vs.length - 1]? = some y ∧ ws = vs.dropLast) (Same.refl _) e1 (by rw [hl ρ ps e2]; exact ho) XRL.nil e5 (fun {xs ys vs fp1 F} q1 q2 q3 q4 => by
      unfold popL0 at q1
      split at q1
      · cases q1
      · rename_i hne
        injection q1 with q1
        subst q1
        obtain ⟨g1, g2, rfl, c1, c2⟩ := RepL.cut (xs.length - 1) q2
        have hlen := RepL.length q2
        have hpos : 0 < vs.length := by
          rw [hlen]
          cases xs with
          | nil => exact absurd rfl hne
          | cons x xs => exact Nat.succ_pos _
        rw [List.append_nil] at q4
        refine ⟨vs.dropLast, g1, ?_, (List.nodup_append.mp q4).1, fun b hb => .inl (List.mem_append_left _ hb), vs[vs.length - 1], List.getElem?_eq_getElem (by omega), rfl⟩
        rw [List.dropLast_eq_take, List.dropLast_eq_take, hlen]
        exact c1)
    rw [s0] at f1
    injection f1 with f1
    injection f1 with f1
    subst f1
    have ea := av.det f2
    injection ea with ea
    subst ea
    obtain ⟨y, y1, y2⟩ := f4
    refine ⟨a, vs', y, rfl, rfl, f3, y1, ?_⟩
    rw [← y2]
    exact hk σ _ _ f5 f6
end
end L2.Py

set_option maxRecDepth 100000
set_option maxHeartbeats 2000000
namespace L2.Py
open PySem PySem.Spec PyProof.Rows TL L2
section
variable {X : Cx} {fm : Fm} {Wi : WX} {al al1 : Bool} {f : Rho → R D} {sub : Sub} {ts : List Nat}
end
def setsB : List Str → List Stmt → Bool
  | [], sts => sts.isEmpty
  | f :: fs, sts => match sts with
    | .Assign [.Attribute (.Name s _) g _] (.Name h _) _ :: r => decide (s = "self") && decide (g = f) && decide (h = f) && setsB fs r
    | _ => false
def tSets (K : PySem.W.Frag) : List Str → Nat → TS
  | [], _ => tNext
  | f :: fs, j => tSeq (tOst K f (tVar 0) (tVar j)) (tSets K fs (j + 1))
def visN (sc : Scope) (N : List Str) (j : Nat) (f : Str) : Prop := N[j]? = some f ∧ Vis sc f ∧ (f == ("__debug__" : Str)) = false ∧ (f == ("__classdict__" : Str)) = false
theorem sets_pss {X : Cx} (h0 : visN X.env.scope X.N 0 "self") : ∀ (names : List Str) (sts : List Stmt) (j : Nat), setsB names sts = true → (∀ i f, names[i]? = some f → visN X.env.scope X.N (j + i) f) → PSs X sts (tSets X.K names j)
  | [], sts, j, h, _ => by
    unfold setsB at h
    obtain rfl := List.isEmpty_iff.mp h
    exact pss_nil
  | f :: fs, sts, j, h, hv => by
    unfold setsB at h
    split at h
    · simp only [Bool.and_eq_true, decide_eq_true_eq] at h
      obtain ⟨⟨⟨rfl, rfl⟩, rfl⟩, h4⟩ := h
      obtain ⟨n1, n2, n3, n4⟩ := hv 0 _ rfl
      refine pss_cons (ps_ost (pe_var h0.1 h0.2.1 h0.2.2.1 h0.2.2.2) (pe_var n1 n2 n3 n4) (by rfl)) (sets_pss h0 fs _ (j + 1) h4 fun i g hg => ?_)
      have := hv (i + 1) g (by simpa using hg)
      rwa [show j + (i + 1) = j + 1 + i by omega] at this
    · cases h
theorem upd_upd {H : Hp} {a : Addr} {o u : HO} : upd (upd H a o) a u = upd H a u := by
  funext b
  by_cases h : b = a
  · subst h; rw [upd_same, upd_same]
  · rw [upd_ne h, upd_ne h, upd_ne h]
theorem upd_self {H : Hp} {a : Addr} {o : HO} (h : H a = some o) : upd H a o = H := by
  funext b
  by_cases hb : b = a
  · subst hb; rw [upd_same, h]
  · rw [upd_ne hb]
theorem upd_comm {H : Hp} {a b : Addr} {o u : HO} (h : a ≠ b) : upd (upd H a o) b u = upd (upd H b u) a o := by
  funext c
  by_cases h1 : c = a
  · subst h1; rw [upd_ne h, upd_same, upd_same]
  · by_cases h2 : c = b
    · subst h2; rw [upd_same, upd_ne h1, upd_same]
    · rw [upd_ne h2, upd_ne h1, upd_ne h1, upd_ne h2]
section
variable {K : PySem.W.Frag} {a C dx : Addr} {σ : St}
theorem sets_ok (T : OexC K C) (h0 : σ[0]? = some (some (.ref a))) (ha : dx ≠ a) : ∀ (names : List Str) (us : List V) (j : Nat) (H : Hp) (fs : List (Str × V)) (D : Ends), us.length = names.length → (∀ f ∈ names, PySem.W.findIn K (.ref C) f = some none) →
    H a = some (exo a C (some dx)) → H dx = some (exd dx fs) → fs.length + names.length ≤ 900 → (∀ i u, us[i]? = some u → σ[j + i]? = some (some u)) → D.nx σ (upd H dx (exd dx ((names.zip us).reverse ++ fs))) → tSets K names j D σ H
  | [], [], j, H, fs, D, _, _, _, hd, _, _, q => by
    have q : D.nx σ (upd H dx (exd dx fs)) := q
    rw [upd_self hd] at q
    exact q
  | f :: names, u :: us, j, H, fs, D, hl, hn, hH, hd, hs, hu, q => by
    refine ⟨u, by simpa using hu 0 u rfl, .ref a, h0, a, C, rfl, T, hn f List.mem_cons_self, .inr ⟨dx, fs, hH, hd, by rw [List.length_cons] at hs; omega, ?_⟩⟩
    show tSets K names (j + 1) D σ _
    refine sets_ok T h0 ha names us (j + 1) _ ((f, u) :: fs) D (by simpa using hl) (fun g hg => hn g (List.mem_cons_of_mem _ hg)) (by rw [upd_ne (Ne.symm ha)]; exact hH) upd_same (by rw [List.length_cons] at hs ⊢; omega) (fun i v hv => ?_) ?_
    · have := hu (i + 1) v (by simpa using hv)
      rwa [Nat.add_right_comm, Nat.add_assoc]
    · rw [upd_upd]
      simpa using q
theorem sets_all (T : OexC K C) (h0 : σ[0]? = some (some (.ref a))) {names : List Str} {us : List V} {H : Hp} {D : Ends} (hne : names ≠ []) (hl : us.length = names.length) (hn : ∀ f ∈ names, PySem.W.findIn K (.ref C) f = some none)
    (hH : H a = some (exo a C none)) (hs : names.length ≤ 800) (hu : ∀ i u, us[i]? = some u → σ[1 + i]? = some (some u)) (q : ∀ dx, H dx = none → dx ≠ a → D.nx σ (upd (upd H dx (exd dx (names.zip us).reverse)) a (exo a C (some dx)))) : tSets K names 1 D σ H := by
  cases names with
  | nil => exact absurd rfl hne
  | cons f names =>
    cases us with
    | nil => simp at hl
    | cons u us =>
      refine ⟨u, by simpa using hu 0 u rfl, .ref a, h0, a, C, rfl, T, hn f List.mem_cons_self, .inl ⟨hH, fun dx hdx ne => ?_⟩⟩
      show tSets K names 2 D σ _
      refine sets_ok T h0 ne names us 2 _ [(f, u)] D (by simpa using hl) (fun g hg => hn g (List.mem_cons_of_mem _ hg)) upd_same (by rw [upd_ne ne, upd_same]) (by rw [List.length_cons] at hs; simp; omega) (fun i v hv => ?_) ?_
      · have := hu (i + 1) v (by simpa using hv)
        rwa [Nat.add_comm i 1, ← Nat.add_assoc] at this
      · rw [upd_comm (Ne.symm ne), upd_upd]
        simpa using q dx hdx ne
end
def spI (K : PySem.W.Frag) (names : List Str) : Sp := fun vs H Q _ => ∃ (a C : Addr) (us : List V), vs = .ref a :: us ∧ us.length = names.length ∧ OexC K C ∧ (∀ f ∈ names, PySem.W.findIn K (.ref C) f = some none) ∧ H a = some (exo a C none) ∧
  ∀ dx, H dx = none → dx ≠ a → Q .non (upd (upd H dx (exd dx (names.zip us).reverse)) a (exo a C (some dx)))
structure SupC (K : PySem.W.Frag) (C : Addr) : Prop where
  sp : PySem.W.specialIn K (.ref C) "__getattribute__" = some (some (.builtin "type.__getattribute__"))
  ty : PySem.W.typeIn K (.ref C) = some (.type "type")
  rd : PySem.W.readsIn K C (.type "type") = true
  fi : PySem.W.findCls K (.ref C) (.type "type") "__init__" = some (.val (.builtin "ValueError.__init__"))
theorem pe_veinitC {X : Cx} {x sn m : Str} {j : Nat} {C : Addr} {ta : TA} {p1 p2 p3 p4 pos : Pos} (S : SupC X.K C) (hg : Gl X x) (hm : X.mg x = some (.ref C)) (hdb : (x == ("__debug__" : Str)) = false) (hline : (p2.endLine == pos.line) = true)
    (ha : PA X [.Name sn p3, .Constant (.str m) j p4] ta) :
    PE X (.Call (.Attribute (.Name x p1) "__init__" p2) [.Name sn p3, .Constant (.str m) j p4] [] pos) (tVeI X.K ta) := by
  refine ⟨fun pins s σ H Q I h => ?_⟩
  rw [arm_eval_Call, show attributeBase (.Name x p1) "__init__" X.env (eval (.Name x p1) X.env) = eval (.Name x p1) X.env from rfl]
  refine wpAny_bind (ld_glob I hg hm ?_ hdb)
  refine wpAny_bind (wpAny_standAt ?_)
  obtain ⟨m0, fr⟩ := I.fr
  have hform : methodCallForm ([Expr.Name sn p3, Expr.Constant (.str m) j p4].length + ([] : List Keyword).length) (backTo pos (starEach [.Name sn p3, .Constant (.str m) j p4] X.env)) (backToKw pos (keywordEach [] X.env)) = true := by rfl
  have hpos : methodCallPos true (.Name x p1) X.env p2 pos = pure pos := by unfold methodCallPos; simp [hline]
  unfold methodCall
  rw [hform]
  refine wpAny_bind (wpAny_holding (PySem.W.method_of_cls fr I.ok.mod.kin S.sp (PySem.W.cls_val fr I.ok.mod.kin S.ty S.rd S.fi rfl ?_)))
  refine wpAny_bind (wpAny_of_eq hpos ?_)
  show wpAny _ _ (callWith pos (Value.builtin "ValueError.__init__") [] (backTo pos (starEach [.Name sn p3, .Constant (.str m) j p4] X.env)) []) _ _ _
  refine PyProof.Rows.callWith_method1 (thn (ha.run pos pins _ σ H _ (I.tok _) h) fun us s1 ⟨vs, H1, I1, r1, a, C, ws, ev, hl, T, ea, q⟩ => ?_) (by rfl) (by rfl)
  subst ev
  cases r1 with
  | @cons _ u0 _ ur ra rw' =>
    obtain rfl : u0 = Value.ref a := ra
    have hlen : ur.length ≤ sizeLine := by
      rw [← Paired.length rw', sizeLine_eq]
      omega
    exact oinit_ok T I1 ea hlen fun s' J => ⟨.non, H1, J, rfl, q⟩
def scC (N P : List Str) (sc : Scope) : Bool :=
  decide (sc.kind = .function) && !sc.isCoroutine && !sc.isGenerator && decide N.Nodup && decide (N.take P.length = P) && P.all (fun x => decide (sc.names.lookup x = some .local) || decide (sc.names.lookup x = some .cell)) && sc.names.all (fun y => !decide (y.2 = .free))
theorem fnScope_by {N P : List Str} {sc : Scope} (h : scC N P sc = true) : FnScope N P sc := by
  unfold scC at h
  simp only [Bool.and_eq_true, Bool.not_eq_true', decide_eq_true_eq, List.all_eq_true, Bool.or_eq_true, decide_eq_false_iff_not] at h
  obtain ⟨⟨⟨⟨⟨⟨h1, h2⟩, h3⟩, h4⟩, h5⟩, h6⟩, h7⟩ := h
  exact ⟨h1, h2, h3, h4, h5, h6, h7⟩
def initB (names : List Str) (x : Str) (st : Stmt) : Bool :=
  scC (("self" : Str) :: names) (("self" : Str) :: names) (defScope st) && names.all (fun f => !(f == ("__debug__" : Str)) && !(f == ("__classdict__" : Str))) && !names.isEmpty && decide (names.length ≤ 800) && decide ((defScope st).names.lookup x = some .globalImplicit) && !(x == ("__debug__" : Str)) &&
  (match defBody st with
  | .Expr (.Call (.Attribute (.Name y _) n ap) [.Name s _, .Constant (.str _) _ _] [] cp) _ :: r => (ap.endLine == cp.line) && decide (y = x) && decide (n = "__init__") && decide (s = "self") && setsB names r
  | _ => false)
theorem init_ok {P : Program} {w : World} {K : PySem.W.Frag} {mg : Str → Option Value} {base : Heap} {x qual nm : Str} {st : Stmt} {fI C : Addr} {fd : FuncData} {k : Nat} {names : List Str} (F : Fun K nm qual st fI fd) (h : initB names x st = true) (hmg : mg x = some (.ref C)) (S : SupC K C) :
    FnOk P w K mg base (L2.CX P w) (k + 1) fI fd (("self" : Str) :: names) (spI K names) := by
  unfold initB at h
  simp only [Bool.and_eq_true, decide_eq_true_eq, Bool.not_eq_true', List.all_eq_true] at h
  obtain ⟨⟨⟨⟨⟨⟨h1, h2⟩, h3⟩, h4⟩, h5⟩, h6⟩, h7⟩ := h
  have FS := fnScope_by h1
  refine F.okX FS (fun vs H Q E hsp => ?_) fun cdv A outer s H vs Q E hr hsp => ?_
  · obtain ⟨a, C1, us, rfl, hl, _⟩ := hsp
    rw [List.length_cons, List.length_cons, hl]
  · obtain ⟨a, C1, us, rfl, hl, T, hn, hH, hq⟩ := hsp
    generalize hX : cxOf (L2.CX P w) P w K mg base (("self" : Str) :: names) qual (defScope st) fI cdv A outer s H E = X
    have hsc : X.env.scope = defScope st := by subst hX; rfl
    have hN : X.N = ("self" : Str) :: names := by subst hX; rfl
    have hK : X.K = K := by subst hX; rfl
    have hM : X.mg = mg := by subst hX; rfl
    have vis : ∀ y ∈ ("self" : Str) :: names, Vis X.env.scope y := fun y hy => by
      rw [hsc]
      exact (FS.par y hy).elim .inl fun z => .inr (.inl z)
    have v0 : visN X.env.scope X.N 0 "self" := ⟨by rw [hN]; rfl, vis _ List.mem_cons_self, by decide, by decide⟩
    have vi : ∀ i f, names[i]? = some f → visN X.env.scope X.N (1 + i) f := fun i f hf => by
      have hm : f ∈ names := List.mem_of_getElem? hf
      exact ⟨by rw [hN, Nat.add_comm]; simpa using hf, vis f (List.mem_cons_of_mem _ hm), (h2 f hm).1, (h2 f hm).2⟩
    have hg : Gl X x := by
      show X.env.scope.names.lookup x = _
      rw [hsc]; exact h5
    split at h7
    · rename_i y p1 n p2 sn p3 m j p4 p5 p6 r hb
      simp only [Bool.and_eq_true, decide_eq_true_eq] at h7
      obtain ⟨⟨⟨⟨hline, rfl⟩, rfl⟩, rfl⟩, h8⟩ := h7
      have r1 := sets_pss v0 names r 1 h8 vi
      have r2 := pe_veinitC (X := X) (p1 := p1) (p2 := p2) (pos := p5) (j := j) (m := m) (p3 := p3) (p4 := p4) (by rw [hK]; exact S) hg (by rw [hM]; exact hmg) h6 hline (pa_cons (pe_var v0.1 v0.2.1 v0.2.2.1 v0.2.2.2) (pa_cons pe_str pa_nil))
      rw [hb]
      refine ⟨_, pss_cons (ps_expr r2 (by rfl)) r1, ?_⟩
      rw [hK]
      refine ⟨.ref a, by simp [start], a, C1, [.str m], rfl, by simp, T, hH, ?_⟩
      refine sets_all T (by simp [start]) (by intro z; rw [z] at h3; cases h3) hl hn hH h4 (fun i u hu => ?_) fun dx hdx ne => hq dx hdx ne
      have hi : i < us.length := (List.getElem?_eq_some_iff.mp hu).1
      unfold start
      rw [List.getElem?_append_left (by simp; omega), Nat.add_comm]
      simpa using hu
    · cases h7
end L2.Py

set_option maxRecDepth 100000
set_option maxHeartbeats 2000000
namespace L2.Py
open PySem PySem.Spec PyProof.Rows TL L2
structure XIn (P : Program) (w : World) (K : PySem.W.Frag) (mg : Str → Option Value) (base : Heap) (c : Nat) : Prop where
  T : OexC K (caK K c)
  nf : ∀ f ∈ fldNames c, PySem.W.findIn K (.ref (caK K c)) f = some none
  fI : ∃ fI fd, PySem.W.findIn K (.ref (caK K c)) "__init__" = some (some (.ref fI)) ∧ PySem.W.typeIn K (.ref fI) = some (.type "function") ∧ FnOk P w K mg base (L2.CX P w) 1 fI fd (("self" : Str) :: fldNames c) (spI K (fldNames c)) ∧
    Binds K fd (("self" : Str) :: fldNames c) []
structure XFs (K : PySem.W.Frag) (mg : Str → Option Value) (c : Nat) : Prop where
  T : OexC K (caK K c)
  nf : ∀ f ∈ fldNames c, PySem.W.findIn K (.ref (caK K c)) f = some none
  fI : ∃ fI fd st qual C0, PySem.W.findIn K (.ref (caK K c)) "__init__" = some (some (.ref fI)) ∧ PySem.W.typeIn K (.ref fI) = some (.type "function") ∧ Fun K "__init__" qual st fI fd ∧ initB (fldNames c) "ScribeError" st = true ∧
    mg "ScribeError" = some (.ref C0) ∧ SupC K C0 ∧ Binds K fd (("self" : Str) :: fldNames c) []
theorem XFs.xin {P : Program} {w : World} {K : PySem.W.Frag} {mg : Str → Option Value} {base : Heap} {c : Nat} (x : XFs K mg c) : XIn P w K mg base c := by
  obtain ⟨fI, fd, st, qual, C0, h1, h2, h3, h4, h5, h6, h7⟩ := x.fI
  exact ⟨x.T, x.nf, fI, fd, h1, h2, init_ok h3 h4 h5 h6, h7⟩
section
variable {X : Cx} {fm : Fm} {Wi : WX} {res : OT} {ot ot' : Nat → OT}
end
end L2.Py

set_option maxRecDepth 100000
set_option maxHeartbeats 1000000
namespace L2.Py
open PySem PySem.Spec PyProof.Rows TL
structure XRE (fm : Fm) (n : Nat) (fps : Fps) (H H' : Hp) (ms : List Nat) (d : D) (t : OT) (v : V) (fp : List Addr) : Prop where
  rep : Rep fm.K H' (fun a => (Fz fm fps a ∨ H a = none) ∧ a ∉ fp) d t v fp
  nd : fp.Nodup
  new : ∀ a ∈ fp, H a = none ∨ ∃ i ∈ ms, i < n ∧ a ∈ fps i
def OKEM (fm : Fm) (Wi : WX) (n : Nat) (ms : List Nat) (t : OT) (r : R D) (σ : St) (H : Hp) (fps : Fps) (Q : VK) : Prop :=
  match r with
  | .ok d => ∀ v H' fp, Same H H' → XRE fm n fps H H' ms d t v fp → Q v H'
  | .exn c ps => ∀ cls dx H', Same H H' → ExnR fm H' c ps cls dx → Wi cls dx σ H'
  | .stk => False
def tEM (fm : Fm) (Wi : WX) (ms : List Nat) (t : OT) (f : Rho → R D) : TE := fun σ H Q => ∃ ρ fps, ER fm ρ σ H fps ∧ OKEM fm Wi ρ.length ms t (f ρ) σ H fps Q
section
variable {X : Cx} {fm : Fm} {Wi : WX} {al al1 al2 : Bool} {t res : OT} {f g : Rho → R D} {ot ot' ot'' : Nat → OT} {ρ : Rho} {σ : St} {H H1 H2 : Hp} {fps fps1 : Fps}
theorem dm_tup {ms : List Nat} {es : List Expr} {k : Nat} {pos : Pos} {gs : Rho → R (List D)} (h : PA X es (tLM fm Wi ms t.comps gs)) (hn : ∀ ρ ds, gs ρ = .ok ds → ds.length ≤ 1000) :
    PE X (.Tuple es k pos) (tEM fm Wi ms t fun ρ => do let xs ← gs ρ; pure (D.tup xs)) :=
  PE.imp (pe_tup h) fun σ H Q ⟨ρ, fps, er, q⟩ => by
    refine ⟨ρ, fps, er, ?_⟩
    dsimp only at q
    cases e : gs ρ with
    | stk => rw [e] at q; exact q
    | exn c ps => rw [e] at q; exact q
    | ok ds =>
      rw [e] at q
      intro vs H1 fp s x
      refine ⟨few_line (by rw [RepL.length x.rep]; exact hn ρ ds e), fun p hp => q (.ref p) _ fp (sameUpd s hp) ⟨?_, x.nd, x.new⟩⟩
      simp only [Rep]
      refine ⟨p, vs, rfl, upd_same, ?_⟩
      exact RepL.leaves _ _ _ _ (Leaves.same (sameUpd (Same.refl _) hp) fun a ha z => z) x.rep
theorem tEM_of {e : Expr} (he : PE X e (tE fm Wi false t f)) : PE X e (tEM fm Wi [] t f) :=
  PE.imp he fun σ H Q ⟨ρ, fps, er, h⟩ => by
    refine ⟨ρ, fps, er, ?_⟩
    cases e1 : f ρ with
    | stk => rw [e1] at h; exact h
    | exn c ps => rw [e1] at h; exact h
    | ok d =>
      rw [e1] at h
      intro v H' fp s x
      exact h v H' fp s ⟨Rep.leaves _ _ _ _ (Leaves.same (Same.refl _) fun a _ q => q.resolve_left fun z => nomatch z) x.rep, x.nd, fun a ha => .inl (x.new a ha)⟩
theorem dm_slot {i : Nat} {x : Str} {pos : Pos} (hN : X.N[i]? = some x) (hv : Vis X.env.scope x) (hd : (x == ("__debug__" : Str)) = false) (hcd : (x == ("__classdict__" : Str)) = false) (ho : fm.ot i = t) :
    PE X (.Name x pos) (tEM fm Wi [i] t fun ρ => ρ.get i) :=
  PE.imp (pe_var (pos := pos) hN hv hd hcd) fun σ H Q ⟨ρ, fps, er, h⟩ => by
    dsimp only at h
    unfold Rho.get at h
    split at h
    · rename_i d e
      obtain ⟨v, e1, r⟩ := er.rep i d e
      rw [ho] at r
      have hil : i < ρ.length := (List.getElem?_eq_some_iff.mp e).1
      exact ⟨v, e1, h v H (fps i) (Same.refl _) ⟨Rep.leaves _ _ _ _ (Leaves.same (Same.refl _) fun a ha q => ⟨.inl q, q.2 i⟩) r, er.nd i, fun a ha => .inr ⟨i, List.mem_cons_self, hil, ha⟩⟩⟩
    · exact h.elim
open Classical in
theorem dm_consM {m1 ms : List Nat} {e : Expr} {es : List Expr} {ft : Nat → OT} {gs : Rho → R (List D)} (he : PE X e (tEM fm Wi m1 (ft 0) f)) (hs : PA X es (tLM fm Wi ms (fun i => ft (i + 1)) gs)) (hst : noStar e = true) (hdj : ∀ i ∈ m1, i ∉ ms) :
    PA X (e :: es) (tLM fm Wi (m1 ++ ms) ft fun ρ => do let x ← f ρ; let xs ← gs ρ; pure (x :: xs)) := by
  refine PA.imp (pa_cons he hs (star_of hst)) fun σ H Q ⟨ρ, fps, er, h⟩ => ?_
  refine ⟨ρ, fps, er, ?_⟩
  dsimp only at h
  cases e1 : f ρ with
  | stk => rw [e1] at h; exact h
  | exn c ps => rw [e1] at h; exact h
  | ok d =>
    rw [e1] at h
    intro v H1 f1 s1 x1
    have t1 := Rep.trk _ _ _ _ x1.rep
    let f0 : List Addr := f1.filter fun a => decide (H a = none)
    have m0 : ∀ a, a ∈ f0 ↔ a ∈ f1 ∧ H a = none := fun a => by
      show a ∈ f1.filter _ ↔ _
      rw [List.mem_filter, decide_eq_true_eq]
    refine ⟨ρ, addT fps ρ.length f0, er.temp s1 (List.Nodup.sublist List.filter_sublist x1.nd) (fun a ha => ((m0 a).mp ha).2) (fun a ha => t1 a ((m0 a).mp ha).1), ?_⟩
    have h' : OKM fm Wi ρ.length (m1 ++ ms) ft (gs ρ >>= fun xs => pure (d :: xs)) σ H fps Q := h
    cases e2 : gs ρ with
    | stk => rw [e2] at h'; exact h'
    | exn c ps =>
      rw [e2] at h'
      exact fun cls dx H' s2 => h' cls dx H' (s1.trans s2)
    | ok ds =>
      rw [e2] at h'
      intro vs H2 f2 s2 y
      have ynew : ∀ a ∈ f2, H1 a = none ∨ ∃ i ∈ ms, i < ρ.length ∧ a ∈ fps i := fun a ha => (y.new a ha).imp id fun ⟨i, h1, h2, h3⟩ => ⟨i, h1, h2, by
        unfold addT at h3
        rw [if_neg (by omega)] at h3
        exact h3⟩
      have dj : ∀ a ∈ f1, a ∉ f2 := fun a h1 h2 => by
        rcases ynew a h2 with z | ⟨i, hi, _, z⟩
        · exact t1 a h1 z
        · rcases x1.new a h1 with w | ⟨j, hj, _, w⟩
          · exact er.trk i a z w
          · exact er.dj j i a (fun q => hdj j hj (q ▸ hi)) w z
      refine h' (v :: vs) H2 (f1 ++ f2) (s1.trans s2) ⟨RepL.cons ?_ ?_, List.nodup_append.mpr ⟨x1.nd, y.nd, fun a ha b hb e => dj a ha (e ▸ hb)⟩, fun a h => ?_⟩
      · refine Rep.leaves _ _ _ _ (Leaves.same s2 fun a ha q => ?_) x1.rep
        obtain ⟨q1, q2⟩ := q
        refine ⟨q1, fun h => ?_⟩
        rcases List.mem_append.mp h with h | h
        · exact q2 h
        · rcases ynew a h with z | ⟨i, _, _, z⟩
          · exact ha z
          · rcases q1 with q1 | q1
            · exact q1.2 i z
            · exact er.trk i a z q1
      · refine RepL.leaves _ _ _ _ (Leaves.same (Same.refl _) fun a ha q => ?_) y.rep
        obtain ⟨q1, q2⟩ := q
        rcases q1 with q1 | q1
        · refine ⟨.inl ⟨q1.1, fun i h => q1.2 i ?_⟩, fun h => ?_⟩
          · unfold addT
            split
            · exact List.mem_append_left _ h
            · exact h
          · rcases List.mem_append.mp h with h | h
            · rcases x1.new a h with w | ⟨j, _, hj, w⟩
              · refine q1.2 ρ.length ?_
                unfold addT
                rw [if_pos rfl]
                exact List.mem_append_right _ ((m0 a).mpr ⟨h, w⟩)
              · refine q1.2 j ?_
                unfold addT
                rw [if_neg (by omega)]
                exact w
            · exact q2 h
        · refine ⟨.inr (s1.free q1), fun h => ?_⟩
          rcases List.mem_append.mp h with h | h
          · exact t1 a h q1
          · exact q2 h
      · rcases List.mem_append.mp h with h | h
        · exact (x1.new a h).imp id fun ⟨i, h1, h2⟩ => ⟨i, List.mem_append_left _ h1, h2⟩
        · exact (ynew a h).elim (fun z => .inl (s1.free z)) fun ⟨i, h1, h2⟩ => .inr ⟨i, List.mem_append_right _ h1, h2⟩
end
end L2.Py

set_option maxRecDepth 100000
set_option maxHeartbeats 2000000
namespace L2.Py
open PySem PySem.Spec PyProof.Rows TL L2
section
variable {X : Cx} {fm : Fm} {Wi : WX} {al al1 al2 : Bool} {t res : OT} {ot ot' ot'' : Nat → OT} {ρ : Rho} {σ : St} {H H1 H2 : Hp} {fps fps1 : Fps}
theorem pt_lend {e : Expr} {f : Rho → R Bool} (h : PT X e (tTT (fm.w frs0) Wi f)) : PT X e (tTT (fm.w ot) Wi f) :=
  PT.imp h fun σ H Q ⟨ρ, fps, er, q⟩ => ⟨ρ, nof, er.freeze, q⟩
theorem lendK {i : Nat} {r : R D} {En : Ends} (er : ER (fm.w ot) ρ σ H fps) (hio : NioS fm i t) (q : OKS fm Wi res (otSet ot i t) (Out.ofR ρ r fun d => if d.ownAt t then .next (ρ.put i d) else .stk) H fps En) :
    OKE (fm.w frs0) Wi al t r σ H nof (fun x H1 => gName i x σ H1 En.nx) := by
  cases r with
  | stk => exact q.elim
  | exn c ps => exact fun cls dx H' s e => q cls dx σ H' (er.ext s).freeze (Leaves.same s fun _ _ z => fz_nof z) e
  | ok d =>
    intro v H1 fp s x
    rw [ofR_ok] at q
    split at q
    · rename_i ho
      obtain ⟨q1, q2⟩ := er.put (i := i) s ⟨Rep.own d t v fp ho x.rep, x.nd, x.new⟩ hio.n
      exact q _ H1 _ q1 q2
    · exact q.elim
theorem d_setLcR {i : Nat} {y : Str} {py : Pos} {elt tg iter : Expr} {ifs : List Expr} {scope : Scope} {own : List (Str × Nat)} {pos spos : Pos} {vs : List Nat} {fl tt : Bool} {gs : Rho → R (List D)} {p : Rho → R Bool} {h : Rho → R D} (hc : X.calm = true) (hN : X.N.Nodup) (hy : X.N[i]? = some y) (hyl : X.env.scope.names.lookup y = some .local)
    (hsw : swapsWith (.ListComp elt [⟨tg, iter, ifs, 0⟩] scope pos) (some (.Name y py)) spos.line X.env = pure true)
    (hi : PI X tg iter (tI (fm.w frs0) Wi al1 gs)) (ok : BlkOk X.N X.env.scope scope own) (how : own.map (·.2) = vs)
    (hg : ∀ (s : Shared) (H : Hp) (C : Addr) (cl : List (Str × Addr)) (fp : List Addr), PG (X.blk s H scope (compEnvC scope cl C X.env) fp) tg (tG (fm.w frs0) vs (bindTg tt vs)))
    (ht : ∀ (s : Shared) (H : Hp) (C : Addr) (cl : List (Str × Addr)) (fp : List Addr), PTs (X.blk s H scope (compEnvC scope cl C X.env) fp) ifs (tTT (fm.w frs0) W0 p))
    (he : ∀ (s : Shared) (H : Hp) (C : Addr) (cl : List (Str × Addr)) (fp : List Addr), PE (X.blk s H scope (compEnvC scope cl C X.env) fp) elt (tE (fm.w frs0) W0 false t.elem h)) (hfl : al1 = true → fl = true) (hs : noSet iter = true) (hio : NioS fm i t) :
    PS X (.Assign [.Name y py] (.ListComp elt [⟨tg, iter, ifs, 0⟩] scope pos) spos) (tB fm Wi res ot (otSet ot i t) fun ρ => .ofR ρ (do
      let ds ← gs ρ
      let ys ← noExn (compL h p (fun d => bindFl fl tt vs d (wipeE ρ vs)) ds)
      if ys.length ≤ lim then pure (.lst ys) else .stk) fun d => if d.ownAt t then .next (ρ.put i d) else .stk) := by
  subst how
  refine PS.imp (ps_setLc hc hN hy hyl hsw hi ok hg ht he (set_of hs)) fun En σ H ⟨ρ, fps, er, q⟩ => lc_read (Wi := Wi) (t := t) hfl ⟨ρ, nof, er.freeze, ?_⟩
  exact lendK er hio q
theorem ER.drop {i x : Nat} {u : Option V} (er : ER (fm.w ot) ρ σ H fps) (hx : ot x = .fr)
    (hH : ∀ a, a ∉ fps i → H1 a = H a) (hl : ∀ a, H a ≠ none → H1 a ≠ none) (hi : ∀ a ∈ fps i, (∀ vs, H a ≠ some (.tup vs)) ∧ (∀ o vs, H a ≠ some (.frz o (.lst vs))) ∨ H1 a = H a) :
    ER (fm.w (otSet ot i .fr)) (wipeE ρ [i, x]) (σ.set x u) H1 (setF fps i []) ∧ Leaves H H1 (Fz fm fps) (Fz fm (setF fps i [])) [] := by
  have hF : ∀ a, Fz fm fps a → Fz fm (setF fps i []) a := fun a z => ⟨z.1, fun k hk => by
    rcases mem_setF hk with ⟨_, w⟩ | ⟨_, w⟩
    · cases w
    · exact z.2 k w⟩
  have lv : ∀ {fq : List Addr}, (∀ a ∈ fq, a ∉ fps i) → Leaves H H1 (Fz fm fps) (Fz fm (setF fps i [])) fq := fun {fq} hq =>
    ⟨fun b hb o e => by rw [hH b (hq b hb)]; exact e,
      fun b u _ rr z => ⟨by
        have e := hH b (z.2 i)
        rcases rr with r' | ⟨o', r'⟩
        · exact .inl (by rw [e]; exact r')
        · exact .inr ⟨o', by rw [e]; exact r'⟩, hF b z⟩,
      fun b vs e z => ⟨by rw [hH b (z.2 i)]; exact e, hF b z⟩,
      fun b vs e => by
        by_cases hb : b ∈ fps i
        · rcases hi b hb with ⟨w, _⟩ | w
          · exact absurd e (w vs)
          · rw [w]; exact e
        · rw [hH b hb]; exact e,
      fun b o vs e => by
        by_cases hb : b ∈ fps i
        · rcases hi b hb with ⟨_, w⟩ | w
          · exact absurd e (w o vs)
          · rw [w]; exact e
        · rw [hH b hb]; exact e⟩
  refine ⟨⟨?_, ?_, ?_, ?_, ?_, ?_, ?_, ?_, ?_, ?_⟩, lv fun a h => nomatch h⟩
  · rw [List.length_set, wipeE_length]
    exact er.len
  · intro j d e
    obtain ⟨e1, e2⟩ := wipeE_some e
    have hji : j ≠ i := fun z => e2 (by rw [z]; simp)
    have hjx : j ≠ x := fun z => e2 (by rw [z]; simp)
    obtain ⟨v, e3, r⟩ := er.rep j d e1
    refine ⟨v, by rw [List.getElem?_set_ne (Ne.symm hjx)]; exact e3, ?_⟩
    have eo : (fm.w (otSet ot i .fr)).ot j = ot j := if_neg hji
    rw [eo, setF_ne hji]
    exact Rep.leaves _ _ _ _ (lv fun a ha => er.dj j i a hji ha) r
  · intro j hj e
    rw [wipeE_length] at hj
    by_cases hji : j = i
    · rw [hji, setF_same]
    · have eo : otSet ot i .fr j = ot j := if_neg hji
      rw [setF_ne hji]
      exact er.nil j hj (eo.symm.trans e)
  · intro j
    unfold setF
    split
    · exact List.nodup_nil
    · exact er.nd j
  · intro j k a hjk h1 h2
    rcases mem_setF h1 with ⟨_, z⟩ | ⟨_, z⟩
    · cases z
    · rcases mem_setF h2 with ⟨_, w⟩ | ⟨_, w⟩
      · cases w
      · exact er.dj j k a hjk z w
  · intro j a h
    rcases mem_setF h with ⟨_, z⟩ | ⟨_, z⟩
    · cases z
    · exact er.new j a z
  · intro j a h
    rcases mem_setF h with ⟨_, z⟩ | ⟨_, z⟩
    · cases z
    · exact hl a (er.trk j a z)
  · intro a o e n
    have hn : a ∉ fps i := fun z => by
      rcases er.new i a z with w | w
      · rw [show fm.H0 a = some o from e] at w; cases w
      · exact n w
    rw [hH a hn]
    exact er.frame a o e n
  · intro a ha
    exact hl a (er.lent a ha)
  · intro j a u' e hj d hd
    obtain ⟨e1, e2⟩ := wipeE_some hd
    have hji : j ≠ i := fun z => e2 (by rw [z]; simp)
    have hjx : j ≠ x := fun z => e2 (by rw [z]; simp)
    have eo : (fm.w (otSet ot i .fr)).ot j = ot j := if_neg hji
    rw [eo] at hj
    rw [List.getElem?_set_ne (Ne.symm hjx)]
    exact er.io j a u' e hj d e1
end
end L2.Py

set_option maxRecDepth 100000
set_option maxHeartbeats 2000000
namespace L2.Py
open PySem PySem.Spec PyProof.Rows TL L2
theorem RepL.setU {K : KF} {H : Hp} {F : Addr → Prop} {t : OT} : ∀ {xs : List D} {vs : List V} {fp : List Addr} {j : Nat} {x : D} {v : V} {g : List Addr}, RepL K H F xs (fun _ => t) vs fp → j < xs.length → Rep K H F x t v g →
    ∃ fa fx fb, fp = fa ++ (fx ++ fb) ∧ RepL K H F (xs.set j x) (fun _ => t) (vs.set j v) (fa ++ (g ++ fb))
  | [], vs, fp, j, x, v, g, h, hj, r => absurd hj (Nat.not_lt_zero _)
  | d :: ds, vs, fp, 0, x, v, g, h, hj, r => by
    obtain ⟨u, w, f1, f2, rfl, rfl, h1, h2⟩ := h.uncons
    exact ⟨[], f1, f2, rfl, RepL.cons (f := fun _ => t) (f1 := g) (f2 := f2) r h2⟩
  | d :: ds, vs, fp, j + 1, x, v, g, h, hj, r => by
    obtain ⟨u, w, f1, f2, rfl, rfl, h1, h2⟩ := h.uncons
    rw [List.length_cons] at hj
    obtain ⟨fa, fx, fb, rfl, q⟩ := RepL.setU (j := j) h2 (by omega) r
    refine ⟨f1 ++ fa, fx, fb, by rw [List.append_assoc], ?_⟩
    have := RepL.cons (f := fun _ => t) h1 q
    rw [List.append_assoc]
    exact this
theorem ixOf_lt {n j : Nat} {i : Int} (h : ixOf n i = some j) : j < n := by
  unfold ixOf at h
  split at h
  · split at h
    · injection h with h
      omega
    · cases h
  · split at h
    · injection h with h
      omega
    · cases h
section
variable {X : Cx} {fm : Fm} {Wi : WX} {al al1 al2 : Bool} {t res : OT} {f : Rho → R D} {ot ot' ot'' : Nat → OT} {ρ : Rho} {σ : St} {H H1 H2 : Hp} {fps fps1 : Fps}
theorem do_tuple {sub : Sub} (hK : fm.K = X.kw) (ha : al1 = true → al = true) : Does fm Wi al1 al .fr (bltD sub .tuple) (fun xs H Q => ∃ p ys, xs = [.ref p] ∧ ((SqL X.K H p ys ∧ ∀ l, H l = none → Q (.ref l) (upd H l (.tup ys))) ∨ (SqT X.K H p ys ∧ Q (.ref p) H))) := by
  intro ds vs σ H H2 fps Q s x h
  unfold bltD at h
  split at h <;> first | contradiction | exact h.elim | skip
  · obtain ⟨v, rfl, y⟩ := x.one
    obtain ⟨a, us, rfl, e, y'⟩ := y.lst
    exact ⟨a, us, rfl, .inl ⟨SqL.of e, fun p hp => h (.ref p) _ [] (sameUpd s hp) (XRL.newT (t := .fr) hp (y'.al_imp ha))⟩⟩
  · obtain ⟨v, rfl, y⟩ := x.one
    obtain ⟨a, us, e1, e, y'⟩ := y.tup
    subst e1
    refine ⟨a, us, rfl, .inr ⟨SqT.of e, h (.ref a) H2 [] s ⟨?_, List.nodup_nil, fun _ h => nomatch h⟩⟩⟩
    have r := (y'.al_imp ha).rep
    simp only [Rep]
    exact ⟨a, us, rfl, e, r⟩
def putFRun (i : Nat) (t : OT) (gp : Rho → R (List D)) (fv fk : Rho → R D) (ρ : Rho) : Out :=
  putLRun i gp (fun ρ => fv ρ >>= fun d => if d.ownAt t then .ok d else .stk) fk ρ
theorem d_putF {i n : Nat} {pe ke e : Expr} {pos' pos : Pos} {gp : Rho → R (List D)} {fk : Rho → R D} (hp : PE X pe (tP (fm.w ot) i gp)) (hn : ∀ ρ, NoX (gp ρ)) (hl : ∀ ρ ps, gp ρ = .ok ps → ps.length = n) (ho : ot i = owN n (.ow t))
    (he : PE X e (tE (fm.w ot) Wi true t f)) (hk : PE X ke (tE (fm.w ot) Wi true .fr fk)) (hsl : noSl ke = true) (hc : noComp e = true) :
    PS X (.Assign [.Subscript pe ke pos'] e pos) (tB fm Wi res ot ot (putFRun i t gp f fk)) := by
  have hg : PG X (.Subscript pe ke pos') (gSub (tP (fm.w ot) i gp) (tE (fm.w ot) Wi true .fr fk) rSetL) := pg_sub hp hk set_list (fun v => by cases ke <;> first | rfl | cases hsl)
  refine PS.imp (ps_asg he hg (swSole hc) (by cases e <;> rfl)) fun En σ H ⟨ρ, fps, er, h⟩ => ⟨ρ, fps, er, ?_⟩
  unfold putFRun putLRun at h
  dsimp only at h
  have h : OKS fm Wi res ot (.ofR ρ (f ρ) fun y => .ofR ρ (if y.ownAt t then R.ok y else .stk) fun y => .ofR ρ (ρ.get i) fun x => .ofR ρ (gp ρ) fun ps => .ofR ρ (atPath ps x) fun l => match l with
    | .lst _ => .ofR ρ (fk ρ) fun kd => .ofR ρ (updAt (setFn kd y) ps x) fun x' => .next (ρ.put i x')
    | _ => .stk) H fps En := by
    cases e0 : f ρ with
    | ok d => rw [e0] at h; exact h
    | exn c p => rw [e0] at h; exact h
    | stk => rw [e0] at h; exact h
  refine OKS.ofR er h fun y u H1 fp e1 hk1 s x => ?_
  split at hk1
  case isFalse => exact hk1.elim
  rename_i hown
  rw [ofR_ok] at hk1
  have x : XR (fm.w ot) fps H H1 false y t u fp := ⟨Rep.own y t u fp hown x.rep, x.nd, x.new⟩
  obtain ⟨d, ps, xs, ed, ep, ea, hk1⟩ := putLRun_inv hn hk1
  obtain ⟨v0, s0, _⟩ := er.rep i d ed
  refine ⟨ρ, fps, d, v0, ps, _, er.ext s, ed, s0, ep, ea, fun v' H2 s2 av rd => ?_⟩
  obtain ⟨a, vs, rfl, q1, _⟩ := Rep.lst_inv rd
  have s12 := s.trans s2
  refine ⟨ρ, fps, er.ext s12, OKS.ofR (er.ext s12) (OKS.same s12 hk1) fun kd uk H3 fp2 e2 hk2 s3 xk => ?_⟩
  have s123 := s12.trans s3
  cases e5 : updAt (setFn kd y) ps d with
  | exn c p => exact absurd e5 (updAt_noX (setFn_noX kd y) ps d c p)
  | stk => rw [e5] at hk2; exact hk2.elim
  | ok x' =>
    rw [e5, ofR_ok] at hk2
    rw [e2, ofR_ok, e5, ofR_ok] at hk1
    have efn : setFn kd y = fun x => match x with | .lst xs => setLD kd y xs >>= fun ys => .ok (.lst ys) | _ => .stk := rfl
    rw [efn] at e5
    have xr : XRL (fm.w ot) fps H H3 false [y] (fun _ => t) [u] (fp ++ []) := by
      have r : Rep fm.K H3 (Fq (fm.w ot) fps H false (fp ++ [])) y t u fp := Rep.own y t u fp hown (Rep.leaves _ _ _ _ (Leaves.same (s2.trans s3) fun b hb z => z) x.rep)
      exact ⟨RepL.cons (f := fun _ => t) r RepL.nil, by rw [List.append_nil]; exact x.nd, fun a ha => by rw [List.append_nil] at ha; exact x.new a ha⟩
    obtain ⟨v1, a', vs', ws, fp', f1, f2, f3, f4, f5, f6⟩ := er.mutate (t := t) (P := fun vs ws => ∃ ki j, kd = .int ki ∧ ixN vs.length ki = some j ∧ ws = vs.set j u) s123 ed (by rw [hl ρ ps ep]; exact ho) xr e5 (fun {xs ys vs fp1 F} q1 q2 q3 q4 => by
      unfold setLD at q1
      split at q1
      · rename_i ki
        split at q1
        · rename_i j hj
          injection q1 with q1
          subst q1
          have q2' : RepL fm.K H3 F xs (fun _ => t) vs fp1 := q2
          obtain ⟨u', r, g1, g2, hu, hg, r1, r2⟩ := q3.uncons
          injection hu with hu hr
          subst hu
          subst hr
          obtain ⟨_, rfl⟩ := r2.nil_inv
          have r1 : Rep fm.K H3 F y t u g1 := r1
          have hjl : j < xs.length := by
            exact ixOf_lt hj
          obtain ⟨fa, fx, fb, rfl, q5⟩ := RepL.setU (j := j) q2' hjl r1
          simp only [List.append_nil] at hg q4
          have hg : g1 = fp := hg.symm
          rw [← hg] at q4
          refine ⟨vs.set j u, fa ++ (g1 ++ fb), q5, ?_, fun b hb => ?_, ki, j, rfl, by rw [RepL.length q2']; exact hj, rfl⟩
          · have n1 := List.nodup_append.mp q4
            have n2 := List.nodup_append.mp n1.1
            have n3 := List.nodup_append.mp n2.2.1
            refine List.nodup_append.mpr ⟨n2.1, List.nodup_append.mpr ⟨n1.2.1, n3.2.1, fun b hb c hc e => ?_⟩, fun b hb c hc e => ?_⟩
            · exact n1.2.2 c (by simp [hc]) b hb e.symm
            · rcases List.mem_append.mp hc with z | z
              · exact n1.2.2 b (by simp [hb]) c z e
              · exact n2.2.2 b hb c (by simp [z]) e
          · rcases List.mem_append.mp hb with z | z
            · exact .inl (by simp [z])
            · rcases List.mem_append.mp z with z | z
              · exact .inr (by rw [List.append_nil, ← hg]; exact z)
              · exact .inl (by simp [z])
        · cases q1
      · cases q1)
    rw [s0] at f1
    injection f1 with f1
    injection f1 with f1
    subst f1
    have ea := (av.same s3).det f2
    injection ea with ea
    subst ea
    obtain ⟨ki, j, rfl, hj, rfl⟩ := f4
    obtain rfl := xk.read.int
    exact ⟨a, vs', ki, j, rfl, rfl, f3, hj, hk1 σ _ _ f5 f6⟩
def lstMvRun (i j : Nat) (ρ : Rho) : Out := .ofR ρ (ρ.get j) fun d => match d with
  | .tup ds => if decide (ds.length ≤ lim) then .next ((ρ.put i (.lst ds)).set j none) else .stk
  | _ => .stk
theorem ER.lstMv {i j : Nat} {ds : List D} {vs : List V} {a p : Addr} {u : OT} (er : ER (fm.w ot) ρ σ H fps) (hij : i ≠ j) (ho : ot j = .ow u) (hd : ρ[j]? = some (some (.tup ds))) (hv : σ[j]? = some (some (.ref a))) (ha : H a = some (.tup vs)) (hr : RepL fm.K H (Fz fm fps) ds (fun _ => u) vs (fps j)) (hp : H p = none) (hio : ∀ b w, fm.io ≠ some (i, b, w)) :
    ER (fm.w (otSet (otSet ot j .fr) i (.ow u))) ((ρ.put i (.lst ds)).set j none) (σ.set i (some (.ref p))) (upd H p (.lst vs)) (setF (setF fps j []) i (p :: fps j)) ∧ Leaves H (upd H p (.lst vs)) (Fz fm fps) (Fz fm (setF (setF fps j []) i (p :: fps j))) [] := by
  have sm : Same H (upd H p (.lst vs)) := sameUpd (Same.refl _) hp
  have np : ∀ k, p ∉ fps k := fun k hk => er.trk k p hk hp
  have inF : ∀ {k : Nat} {b : Addr}, b ∈ setF (setF fps j []) i (p :: fps j) k → (k = i ∧ (b = p ∨ b ∈ fps j)) ∨ (k ≠ i ∧ k ≠ j ∧ b ∈ fps k) := fun {k b} h => by
    rcases mem_setF h with ⟨e, z⟩ | ⟨e, z⟩
    · exact .inl ⟨e, List.mem_cons.mp z⟩
    · rcases mem_setF z with ⟨_, w⟩ | ⟨e2, w⟩
      · cases w
      · exact .inr ⟨e, e2, w⟩
  have hF : ∀ b, H b ≠ none → Fz fm fps b → Fz fm (setF (setF fps j []) i (p :: fps j)) b := fun b hb z => ⟨z.1, fun k hk => by
    rcases inF hk with ⟨_, rfl | w⟩ | ⟨_, _, w⟩
    · exact hb hp
    · exact z.2 j w
    · exact z.2 k w⟩
  have lv : ∀ {fq : List Addr}, Leaves H (upd H p (.lst vs)) (Fz fm fps) (Fz fm (setF (setF fps j []) i (p :: fps j))) fq := Leaves.same sm hF
  have otj : ∀ k, k ≠ i → k ≠ j → (fm.w (otSet (otSet ot j .fr) i (.ow u))).ot k = ot k := fun k h1 h2 => by
    show otSet (otSet ot j .fr) i (.ow u) k = ot k
    unfold otSet
    rw [if_neg h1, if_neg h2]
  have fpk : ∀ k, k ≠ i → k ≠ j → setF (setF fps j []) i (p :: fps j) k = fps k := fun k h1 h2 => by
    rw [setF_ne h1, setF_ne h2]
  refine ⟨⟨?_, ?_, ?_, ?_, ?_, ?_, ?_, ?_, ?_, ?_⟩, lv⟩
  · show (σ.set i _).length = ((ρ.set i _).set j _).length
    rw [List.length_set, List.length_set, List.length_set]
    exact er.len
  · intro k d e
    have e : ((ρ.set i (some (.lst ds))).set j none)[k]? = some (some d) := e
    have hkj : k ≠ j := fun z => by
      rw [z, List.getElem?_set] at e
      split at e
      · split at e
        · cases e
        · cases e
      · rename_i w; exact w rfl
    rw [List.getElem?_set_ne (Ne.symm hkj)] at e
    by_cases hki : k = i
    · subst hki
      rw [List.getElem?_set] at e
      rw [if_pos rfl] at e
      split at e
      · rename_i hlt
        injection e with e
        injection e with e
        subst e
        refine ⟨.ref p, by rw [List.getElem?_set, if_pos rfl, if_pos (by rw [er.len]; exact hlt)], ?_⟩
        have eo : (fm.w (otSet (otSet ot j .fr) k (.ow u))).ot k = .ow u := if_pos rfl
        rw [eo, setF_same]
        simp only [Rep]
        exact ⟨p, vs, fps j, rfl, ⟨upd_same, rfl⟩, RepL.leaves _ _ _ _ lv hr⟩
      · cases e
    · rw [List.getElem?_set_ne (Ne.symm hki)] at e
      obtain ⟨v, e3, r⟩ := er.rep k d e
      refine ⟨v, by rw [List.getElem?_set_ne (Ne.symm hki)]; exact e3, ?_⟩
      rw [otj k hki hkj, fpk k hki hkj]
      exact Rep.leaves _ _ _ _ lv r
  · intro k hk e
    have hk : k < ((ρ.set i (some (.lst ds))).set j none).length := hk
    rw [List.length_set, List.length_set] at hk
    by_cases hki : k = i
    · rw [hki] at e
      have : otSet (otSet ot j .fr) i (.ow u) i = .ow u := if_pos rfl
      rw [show (fm.w (otSet (otSet ot j .fr) i (.ow u))).ot i = .ow u from this] at e
      cases e
    · by_cases hkj : k = j
      · rw [setF_ne hki, hkj, setF_same]
      · rw [fpk k hki hkj]
        exact er.nil k hk ((otj k hki hkj).symm.trans e)
  · intro k
    by_cases hki : k = i
    · rw [hki, setF_same]
      exact List.nodup_cons.mpr ⟨np j, er.nd j⟩
    · rw [setF_ne hki]
      by_cases hkj : k = j
      · rw [hkj, setF_same]
        exact List.nodup_nil
      · rw [setF_ne hkj]
        exact er.nd k
  · intro k l b hkl h1 h2
    rcases inF h1 with ⟨k1, z1⟩ | ⟨k1, k2, z1⟩ <;> rcases inF h2 with ⟨l1, z2⟩ | ⟨l1, l2, z2⟩
    · exact hkl (k1.trans l1.symm)
    · rcases z1 with rfl | z1
      · exact np l z2
      · exact er.dj j l b (Ne.symm l2) z1 z2
    · rcases z2 with rfl | z2
      · exact np k z1
      · exact er.dj k j b k2 z1 z2
    · exact er.dj k l b hkl z1 z2
  · intro k b h
    rcases inF h with ⟨_, rfl | z⟩ | ⟨_, _, z⟩
    · exact .inl (er.h0 hp)
    · exact er.new j b z
    · exact er.new k b z
  · intro k b h
    rcases inF h with ⟨_, rfl | z⟩ | ⟨_, _, z⟩
    · rw [upd_same]
      exact fun z => nomatch z
    · cases e : H b with
      | none => exact absurd e (er.trk j b z)
      | some o => rw [sm b o e]; exact fun z => nomatch z
    · cases e : H b with
      | none => exact absurd e (er.trk k b z)
      | some o => rw [sm b o e]; exact fun z => nomatch z
  · exact fun b o e n => sm b o (er.frame b o e n)
  · intro b hb
    cases e : H b with
    | none => exact absurd e (er.lent b hb)
    | some o => rw [sm b o e]; exact fun z => nomatch z
  · intro k b w e hk d hd
    have hki : k ≠ i := fun z => hio b w (by rw [← z]; exact e)
    by_cases hkj : k = j
    · exfalso
      refine hk ?_
      show otSet (otSet ot j .fr) i (.ow u) k = .fr
      unfold otSet
      rw [if_neg hki, if_pos hkj]
    · rw [otj k hki hkj] at hk
      have hd : ((ρ.set i (some (.lst ds))).set j none)[k]? = some (some d) := hd
      rw [List.getElem?_set_ne (Ne.symm hkj), List.getElem?_set_ne (Ne.symm hki)] at hd
      rw [List.getElem?_set_ne (Ne.symm hki)]
      exact er.io k b w e hk d hd
theorem d_lstMv {i j : Nat} {x y : Str} {u : OT} {p1 p2 p3 p4 pos : Pos} (hc : X.calm = true) (hN : X.N.Nodup) (n : Nm X i x) (jN : X.N[j]? = some y) (jv : Vis X.env.scope y) (jd : (y == ("__debug__" : Str)) = false) (jcd : (y == ("__classdict__" : Str)) = false)
    (hij : i ≠ j) (ho : ot j = .ow u) (hg : Gl X "list") (hm : X.mg "list" = none) (hio : ∀ b w, fm.io ≠ some (i, b, w)) :
    PS X (.Assign [.Name x p1] (.Call (.Name "list" p2) [.Name y p3] [] p4) pos) (tB fm Wi res ot (otSet (otSet ot j .fr) i (.ow u)) (lstMvRun i j)) := by
  have he : PE X (.Call (.Name "list" p2) [.Name y p3] [] p4) _ := pe_callTy call_list_of hg hm (by decide +kernel) (pa_cons (pe_var (pos := p3) jN jv jd jcd) pa_nil)
  refine PS.imp (ps_set hN n.ix n.loc he (by rfl) n.fn) fun En σ H ⟨ρ, fps, er, h⟩ => ?_
  unfold lstMvRun at h
  cases e1 : ρ.get j with
  | exn c ps =>
    unfold Rho.get at e1
    split at e1 <;> cases e1
  | stk => rw [e1] at h; exact h.elim
  | ok d =>
    rw [e1, ofR_ok] at h
    split at h
    · rename_i ds
      split at h
      · rename_i hl
        have e2 : ρ[j]? = some (some (.tup ds)) := by
          unfold Rho.get at e1
          split at e1 <;> first | cases e1 | skip
          all_goals (rename_i q; rw [q])
        obtain ⟨v, e3, r⟩ := er.rep j _ e2
        have r : Rep fm.K H (Fz fm fps) (.tup ds) (ot j) v (fps j) := r
        rw [ho] at r
        simp only [Rep] at r
        obtain ⟨a, vs, rfl, ha, hr⟩ := r
        refine ⟨.ref a, e3, a, vs, rfl, .inr (SqT.of ha), fun p hp => ?_⟩
        obtain ⟨q1, q2⟩ := er.lstMv (i := i) hij ho e2 e3 ha hr hp hio
        exact h _ _ _ q1 q2
      · exact h.elim
    · exact h.elim
end
end L2.Py

set_option maxRecDepth 100000
set_option maxHeartbeats 2000000
namespace L2.Py
open PySem PySem.Spec PyProof.Rows TL
structure Cn where
  N : List Str
  sc : Scope
  fnb : Str → Bool
  fns : List (Str × Nat × OT)
  ci : List (Str × Int)
  cw : List (Str × W)
  xm : List Nat := []
  xt : List Nat := []
  lio : Option (Nat × OT) := none
  fnm : List (Option (Str × Nat × OT × Nat × OT)) := []
  fnc : List (Option (Str × Nat × OT × Nat × OT)) := []
  lt0 : Bool := false
def bltNames : List Str := ["len", "range", "min", "max", "list", "int", "sum", "isinstance", "str", "bool", "tuple", "enumerate", "zip", "sorted", "set", "dict", "ValueError"]
structure Good (X : Cx) (fm : Fm) (sub : Sub) (G : Gam) (k : Nat) (Wi : WX) (c : Cn) : Prop where
  K : fm.K = X.kw
  N : X.N = c.N
  nd : X.N.Nodup
  sc : X.env.scope = c.sc
  calm : X.calm = true
  room : Room k X.A
  fnb : ∀ x, c.fnb x = true → X.fn x = true
  mgB : ∀ x ∈ bltNames, X.mg x = none
  call : ∀ f name n res, c.fns[f]? = some (name, n, res) → 0 < n → ∃ fa fd ps, FnOk X.prog X.w X.K X.mg X.base (L2.CX X.prog X.w) k fa fd ps (spD X.kw fm.ca (G f) n res) ∧ X.mg name = some (.ref fa) ∧ PySem.W.keepIn X.K (.ref fa) = true ∧ Binds X.K fd ps []
  pass : ∀ σ, PassesAt (L2.CX X.prog X.w) X σ (WE Wi σ)
  conI : ∀ x i, c.ci.lookup x = some i → ∃ t, X.mg x = some (.int i t)
  conW : ∀ x w, c.cw.lookup x = some w → ∃ t, X.mg x = some (.str (toS w) t)
  xc : XcOk X.K X.mg sub c.xt
  xm : ∀ k ∈ c.xm, sub k k = true
  xin : ∀ q, sub q q = true → fldNames q ≠ [] → XIn X.prog X.w X.K X.mg X.base q
  k2 : 2 ≤ k
  callM : ∀ f name n res p t, c.fnm[f]? = some (some (name, n, res, p, t)) → ∃ fa fd ps, FnOk X.prog X.w X.K X.mg X.base (L2.CX X.prog X.w) k fa fd ps (spM X.kw fm.ca (G f) n res p t) ∧ X.mg name = some (.ref fa) ∧ PySem.W.keepIn X.K (.ref fa) = true ∧ Binds X.K fd ps []
  io : ∀ i a t, fm.io = some (i, a, t) → c.lio = some (i, t)
  callC : ∀ f name n res p t, c.fnc[f]? = some (some (name, n, res, p, t)) → ∃ fa fd ps, FnOk X.prog X.w X.K X.mg X.base (L2.CX X.prog X.w) k fa fd ps (spC X.kw fm.ca (G f) n res p t) ∧ X.mg name = some (.ref fa) ∧ PySem.W.keepIn X.K (.ref fa) = true ∧ Binds X.K fd ps []
  lt0 : c.lt0 = true → fm.Lt = []
def Cn.gl (c : Cn) (x : Str) : Bool := decide (c.sc.names.lookup x = some .globalImplicit) && !(x == ("__debug__" : Str))
def isBuiltin (c : Cn) (x name : Str) : Bool := decide (x = name) && decide (name ∈ bltNames) && decide (c.sc.names.lookup x = some .globalImplicit)
def Cn.vis (c : Cn) (i : Nat) (x : Str) : Bool := decide (c.N[i]? = some x) && (match c.sc.names.lookup x with | some .local => true | some .cell => true | some .free => true | _ => false) && !(x == ("__debug__" : Str)) && !(x == ("__classdict__" : Str))
def Cn.loc (c : Cn) (i : Nat) (x : Str) : Bool := decide (c.N[i]? = some x) && (match c.sc.names.lookup x with | some .local => true | some .cell => c.fnb x | _ => false) && !(x == ("__debug__" : Str)) && !(x == ("__classdict__" : Str))
def tgOne (c : Cn) (ot : Nat → OT) (i : Nat) : Expr → Bool
  | .Name x _ => c.loc i x && (ot i).isFr
  | _ => false
def tgAll (c : Cn) (ot : Nat → OT) : List Nat → List Expr → Bool
  | [], es => es.isEmpty
  | i :: is, es => match es with | [] => false | e :: es => tgOne c ot i e && tgAll c ot is es
def tgOk (c : Cn) (ot : Nat → OT) (tt : Bool) (is : List Nat) (e : Expr) : Bool :=
  if tt then (match e with | .Tuple es _ _ => tgAll c ot is es | _ => false) else (match is with | [i] => tgOne c ot i e | _ => false)
def isTupE : Expr → Bool
  | .Tuple _ _ _ => true
  | _ => false
def ownOf (c : Cn) (tg : List Nat) : List (Str × Nat) := tg.map fun i => (c.N.getD i "", i)
def inner (c : Cn) (scope : Scope) : Cn := { c with sc := relS scope c.sc, fnb := fun x => scope.names.lookup x == some .cell }
def sameLine (p q : Pos) : Bool := p.endLine == q.line
def onName (a : Expr) (f : Str → Bool) : Bool := match a with | .Name x _ => f x | _ => false
def onInt (a : Expr) (f : Int → Bool) : Bool := match a with | .Constant (.int x) _ _ => f x | _ => false
def onStr (a : Expr) (f : Str → Bool) : Bool := match a with | .Constant (.str x) _ _ => f x | _ => false
def onBl (a : Expr) (f : Bool → Bool) : Bool := match a with | .Constant (.bool x) _ _ => f x | _ => false
def onNon (a : Expr) : Bool := match a with | .Constant .none _ _ => true | _ => false
def onBin (a : Expr) (f : Expr → Operator → Expr → Bool) : Bool := match a with | .BinOp l o r _ => f l o r | _ => false
def onNeg (a : Expr) (f : Expr → Bool) : Bool := match a with | .UnaryOp .USub l _ => f l | _ => false
def onNot (a : Expr) (f : Expr → Bool) : Bool := match a with | .UnaryOp .Not l _ => f l | _ => false
def onCmp (a : Expr) (f : Expr → CmpOp → Expr → Bool) : Bool := match a with | .Compare l [o] [r] _ => f l o r | _ => false
def onAnd (a : Expr) (f : Expr → Expr → Bool) : Bool := match a with
  | .BoolOp .And [l, r] p => f l r
  | .BoolOp .And (l :: r :: r2 :: rs) p => f l (.BoolOp .And (r :: r2 :: rs) p)
  | _ => false
def onOr (a : Expr) (f : Expr → Expr → Bool) : Bool := match a with
  | .BoolOp .Or [l, r] p => f l r
  | .BoolOp .Or (l :: r :: r2 :: rs) p => f l (.BoolOp .Or (r :: r2 :: rs) p)
  | _ => false
def onIdx (a : Expr) (f : Expr → Expr → Bool) : Bool := match a with | .Subscript l r _ => noSl r && f l r | _ => false
def onSlcH (a : Expr) (f : Expr → Expr → Bool) : Bool := match a with | .Subscript l (.Slice none (some p) none _) _ => f l p | _ => false
def onTup (a : Expr) (f : List Expr → Bool) : Bool := match a with | .Tuple as _ _ => f as | _ => false
def onLst (a : Expr) (f : List Expr → Bool) : Bool := match a with | .List as _ => f as | _ => false
def onCall (a : Expr) (f : Str → List Expr → Bool) : Bool := match a with | .Call (.Name x _) as [] _ => !as.isEmpty && f x as | _ => false
def onFn (c : Cn) (i : Nat) (f : Str → Nat → OT → Bool) : Bool := match c.fns[i]? with | some (x, n, t) => decide (0 < n) && f x n t | none => false
def onFnC (c : Cn) (i : Nat) (f : Str → Nat → OT → Nat → OT → Bool) : Bool := match c.fnc[i]? with | some (some (x, n, r, p, t)) => decide (0 < n) && f x n r p t | _ => false
def onCons (as : List Expr) (f : Expr → List Expr → Bool) : Bool := match as with | [] => false | a :: as => f a as
def onBlt (c : Cn) (b : Blt) (a : Expr) (t : OT) (f : List Expr → Bool) : Bool := match a with
  | .Call (.Name x _) as [] _ => (match b with
    | .len => isBuiltin c x "len" && !as.isEmpty && f as
    | .min1 => false
    | .max1 => false
    | .min2 => isBuiltin c x "min" && !as.isEmpty && f as
    | .max2 => isBuiltin c x "max" && !as.isEmpty && f as
    | .list => isBuiltin c x "list" && t.elem.isFr && !as.isEmpty && f as
    | .keysL => false
    | .listL => false
    | .tuple => isBuiltin c x "tuple" && t.isFr && !as.isEmpty && f as
    | .dict => false
    | .dictL => false
    | .sum => false
    | .toInt => isBuiltin c x "int" && !as.isEmpty && f as
    | .toStr => false
    | .isi [k] => isBuiltin c x "isinstance" && (match as, clsN k with
      | [l, .Name y _], some (z, _) => decide (y = z) && isBuiltin c y z && f [l]
      | _, _ => false)
    | .sortedW => false
    | .sortedN => false
    | .sortedSet => false
    | .sorted => false
    | .lenSetS => false
    | .lenSet => isBuiltin c x "len" && (match as with | [.Call (.Name y _) [q] [] _] => isBuiltin c y "set" && noStar q && f [q] | _ => false)
    | .lenSetT => isBuiltin c x "len" && (match as with | [.Call (.Name y _) [q] [] _] => isBuiltin c y "set" && noStar q && f [q] | _ => false)
    | .listRange => false
    | .isx k => false
    | .isi [k1, k2] => isBuiltin c x "isinstance" && (match as, clsN k1, clsN k2 with
      | [l, .Tuple [.Name y1 _, .Name y2 _] _ _], some (z1, _), some (z2, _) => decide (y1 = z1) && isBuiltin c y1 z1 && decide (y2 = z2) && isBuiltin c y2 z2 && f [l]
      | _, _, _ => false)
    | _ => false)
  | _ => false
def bltAl (b : Blt) (al : Bool) : Bool := match b with | .list => al | .dict => al | .tuple => al | _ => true
def onComp (a : Expr) (f : Expr → Expr → Expr → List Expr → Scope → Bool) : Bool := match a with
  | .ListComp ea [⟨ta, ia, fa, 0⟩] scope _ => f ea ta ia fa scope
  | _ => false
def onIt (c : Cn) (k : ItK) (ta ia : Expr) (f : List Expr → Bool) : Bool := match k with
  | .val => f [ia]
  | .range1 => (match ia with | .Call (.Name x _) [p] [] _ => isBuiltin c x "range" && f [p] | _ => false)
  | .range2 => (match ia with | .Call (.Name x _) [p, q] [] _ => isBuiltin c x "range" && f [p, q] | _ => false)
  | .range3 => false
  | .enum => false
  | .zip => false
  | .enumS => false
  | _ => false
def onItD (k : ItK) (ta ia : Expr) (f : List Expr → Bool) : Bool := match k with
  | .keys => f [ia]
  | .items => isTupE ta && (match ia with | .Call (.Attribute l m ap) [] [] cp => decide (m = ("items" : Str)) && noSuper l && sameLine ap cp && f [l] | _ => false)
  | _ => false
def itAl (k : ItK) (al : Bool) : Bool := match k with | .range1 => true | .range2 => true | .range3 => true | _ => al
def ownElt (ot : Nat → OT) (c : Cn) (x : E) (l : Expr) : Bool := match x with | .slot i => (match ot i with | .ow u => u.isFr | _ => false) && onName l fun n => c.vis i n | _ => false
theorem ownElt_of {ot : Nat → OT} {c : Cn} {x : E} {l : Expr} (h : ownElt ot c x l = true) : ∃ i n p, x = .slot i ∧ l = .Name n p ∧ ot i = .ow .fr ∧ c.vis i n = true := by
  unfold ownElt at h
  split at h
  · simp only [Bool.and_eq_true] at h
    obtain ⟨h1, h2⟩ := h
    split at h1
    · rename_i u e
      unfold onName at h2
      split at h2
      · exact ⟨_, _, _, rfl, rfl, by rw [e, OT.isFr_eq h1], h2⟩
      · cases h2
    · cases h1
  · cases h
mutual
def chk (ot : Nat → OT) : E → Cn → Bool → Expr → OT → Bool → Bool
  | .slot i, c, m, a, t, al => (!m || plainTruth a) && t.isFr && ((ot i).isFr || al) && onName a fun x => c.vis i x
  | .cint i, c, m, a, t, al => !m && ((onInt a fun j => decide (j = i)) || onName a fun x => c.gl x && decide (c.ci.lookup x = some i))
  | .cstr s, c, m, a, t, al => !m && ((onStr a fun x => decide (tl x = s)) || onName a fun x => c.gl x && decide (c.cw.lookup x = some s))
  | .cbl b, c, m, a, t, al => (!m || (plainTruth a && t.isFr)) && onBl a fun x => x == b
  | .cnon, c, m, a, t, al => !m && onNon a
  | .bin op x y, c, m, a, t, al => !m && t.elem.isFr && onBin a fun l o r => decide (o = bopA op) && chk ot x c false l .fr al && chk ot y c false r .fr al
  | .neg x, c, m, a, t, al => !m && onNeg a fun l => chk ot x c false l .fr true
  | .cmp op x y, c, m, a, t, al => onCmp a fun l o r => decide (o = copA op) && !(behindInMarks (copA op) r) && chk ot x c false l .fr true && chk ot y c false r .fr true
  | .not x, c, m, a, t, al => onNot a fun l => chk ot x c m l .fr true
  | .and x y, c, m, a, t, al => onAnd a fun l r => chk ot x c m l .fr true && chk ot y c m r .fr true
  | .or x y, c, m, a, t, al => onOr a fun l r => chk ot x c m l .fr true && chk ot y c m r .fr true
  | .ite x y z, c, m, a, t, al => false
  | .idx x y, c, m, a, t, al => (!m || plainTruth a) && t.isFr && onIdx a fun l r => (chk ot x c false l .fr al || ownElt ot c x l) && chk ot y c false r .fr true
  | .slcA x, c, m, a, t, al => false
  | .slcL x y, c, m, a, t, al => false
  | .slcH x y, c, m, a, t, al => !m && t.flatE && onSlcH a fun l p => chk ot x c false l .fr al && chk ot y c false p .fr true
  | .slcB x y z, c, m, a, t, al => false
  | .slcR x, c, m, a, t, al => false
  | .tup es, c, m, a, t, al => !m && onTup a fun as => decide (es.length ≤ 1000) && chkL ot es c as t.comps al
  | .lst es, c, m, a, t, al => !m && onLst a fun as => decide (es.length ≤ 1000) && chkL ot es c as (fun _ => t.elem) al
  | .dnew b es, c, m, a, t, al => false
  | .call f es, c, m, a, t, al => (!m || (plainTruth a && t.isFr)) && onCall a fun x as => (onFn c f fun name n res =>
      decide (x = name) && decide (c.sc.names.lookup x = some .globalImplicit) && !(x == ("__debug__" : Str)) && decide (es.length = n) && (t.isFr || t.same res) && chkL ot es c as frs0 al) ||
      (onFnC c f fun name n res p u => decide (x = name) && decide (c.sc.names.lookup x = some .globalImplicit) && !(x == ("__debug__" : Str)) && decide (es.length = n) && (t.isFr || t.same res) && chkL ot es c as (otM p u) false)
  | .blt b es, c, m, a, t, al => (!m || (plainTruth a && t.isFr)) && onBlt c b a t fun as => chkL ot es c as frs0 (bltAl b al)
  | .meth mt x es, c, m, a, t, al => false
  | .comp fl tg tt k its elt cs, c, m, a, t, al => !m && onComp a fun ea ta ia fa scope =>
      blkC c.N c.sc scope (ownOf c tg) && noSet ia && tgOk (inner c scope) ot tt tg ta && decide (cs.length ≤ 1) && chk ot elt (inner c scope) false ea t.elem false &&
      chkC ot cs (inner c scope) fa && ((onIt c k ta ia fun as => chkL ot its c as frs0 (itAl k fl)) || (!fl && onItD k ta ia fun as => chkL ot its c as frs0 false))
  | .flat e, c, m, a, t, al => !m && chk ot e c false a .fr true
  | .nox e, c, m, a, t, al => false
  | .slcS x y z k, c, m, a, t, al => false
  | .dnT k, c, m, a, t, al => false
  | .dnN, c, m, a, t, al => false
  | .fld n e, c, m, a, t, al => false
  | .getD x y z, c, m, a, t, al => false
def chkL (ot : Nat → OT) : List E → Cn → List Expr → (Nat → OT) → Bool → Bool
  | [], c, as, ft, al => as.isEmpty
  | e :: es, c, as, ft, al => onCons as fun a as => noStar a && chk ot e c false a (ft 0) al && chkL ot es c as (fun i => ft (i + 1)) al
def chkC (ot : Nat → OT) : List E → Cn → List Expr → Bool
  | [], c, as => as.isEmpty
  | e :: es, c, as => onCons as fun a as => chk ot e c true a .fr true && chkC ot es c as
end
section
variable {fm : Fm} {sub : Sub} {G : Gam} {k : Nat}
theorem Good.vis {X : Cx} {Wi : WX} {c : Cn} (g : Good X fm sub G k Wi c) {i : Nat} {x : Str} (h : c.vis i x = true) : X.N[i]? = some x ∧ Vis X.env.scope x ∧ (x == ("__debug__" : Str)) = false ∧ (x == ("__classdict__" : Str)) = false := by
  unfold Cn.vis at h
  simp only [Bool.and_eq_true, decide_eq_true_eq, Bool.not_eq_true'] at h
  obtain ⟨⟨⟨h1, h2⟩, h3⟩, h4⟩ := h
  refine ⟨by rw [g.N]; exact h1, ?_, h3, h4⟩
  rw [g.sc]
  unfold Vis
  split at h2
  · exact .inl ‹_›
  · exact .inr (.inl ‹_›)
  · exact .inr (.inr ‹_›)
  · cases h2
theorem Good.loc {X : Cx} {Wi : WX} {c : Cn} (g : Good X fm sub G k Wi c) {i : Nat} {x : Str} (h : c.loc i x = true) : Nm X i x ∧ (x == ("__debug__" : Str)) = false ∧ (x == ("__classdict__" : Str)) = false := by
  unfold Cn.loc at h
  simp only [Bool.and_eq_true, decide_eq_true_eq, Bool.not_eq_true'] at h
  obtain ⟨⟨⟨h1, h2⟩, h3⟩, h4⟩ := h
  have h1' : X.N[i]? = some x := by rw [g.N]; exact h1
  refine ⟨?_, h3, h4⟩
  split at h2
  · rename_i e; exact ⟨h1', .inl (by rw [g.sc]; exact e), .inr (by rw [g.sc]; exact e)⟩
  · rename_i e; exact ⟨h1', .inr (by rw [g.sc]; exact e), .inl (g.fnb x h2)⟩
  · cases h2
theorem Good.glob {X : Cx} {Wi : WX} {c : Cn} (g : Good X fm sub G k Wi c) {x : Str} (h : c.sc.names.lookup x = some .globalImplicit) : Gl X x := by
  show X.env.scope.names.lookup x = _
  rw [g.sc]; exact h
theorem Good.blt {X : Cx} {Wi : WX} {c : Cn} (g : Good X fm sub G k Wi c) {x name : Str} (h : isBuiltin c x name = true) : x = name ∧ Gl X name ∧ X.mg name = none := by
  unfold isBuiltin at h
  simp only [Bool.and_eq_true, decide_eq_true_eq] at h
  obtain ⟨⟨rfl, h2⟩, h3⟩ := h
  exact ⟨rfl, g.glob h3, g.mgB _ h2⟩
theorem Good.hu {X : Cx} {Wi : WX} {c : Cn} (g : Good X fm sub G k Wi c) : X.A.units + 64 < cLine := g.room.units
theorem tgOne_ok {X : Cx} {Wi : WX} {c : Cn} {ot : Nat → OT} (g : Good X fm sub G k Wi c) {i : Nat} {e : Expr} (h : tgOne c ot i e = true) : Tg1 X (fm.w ot) i e := by
  unfold tgOne at h
  split at h
  · simp only [Bool.and_eq_true] at h
    obtain ⟨n, _⟩ := g.loc h.1
    exact ⟨⟨_, _, rfl, n.ix, n.loc, n.fn⟩, OT.isFr_eq h.2⟩
  · cases h
theorem tgAll_ok {X : Cx} {Wi : WX} {c : Cn} {ot : Nat → OT} (g : Good X fm sub G k Wi c) : ∀ {is : List Nat} {es : List Expr}, tgAll c ot is es = true → TgL X (fm.w ot) is es
  | [], es, h => by
    unfold tgAll at h
    cases es with
    | nil => exact .nil
    | cons e es => cases h
  | i :: is, es, h => by
    unfold tgAll at h
    cases es with
    | nil => cases h
    | cons e es =>
      simp only [Bool.and_eq_true] at h
      exact .cons (tgOne_ok g h.1) (tgAll_ok g h.2)
theorem tgOk_ok {X : Cx} {Wi : WX} {c : Cn} {ot : Nat → OT} (g : Good X fm sub G k Wi c) {tt : Bool} {is : List Nat} {e : Expr} (h : tgOk c ot tt is e = true) : PG X e (tG (fm.w ot) is (bindTg tt is)) := by
  unfold tgOk at h
  cases tt with
  | true =>
    rw [if_pos rfl] at h
    split at h
    · exact dg_tup (fm := fm.w ot) g.K g.nd g.calm (tgAll_ok g h)
    · cases h
  | false =>
    rw [if_neg Bool.false_ne_true] at h
    split at h
    · exact dg_name (fm := fm.w ot) g.nd (tgOne_ok g h)
    · cases h
theorem Good.blk {X : Cx} {Wi : WX} {c : Cn} (g : Good X fm sub G k Wi c) (scope : Scope) (s : Shared) (H : Hp) (C : Addr) (cl : List (Str × Addr)) (fp : List Addr) :
    Good (X.blk s H scope (compEnvC scope cl C X.env) fp) fm sub G k W0 (inner c scope) where
  K := g.K
  N := g.N
  nd := g.nd
  sc := by show relS scope X.env.scope = relS scope c.sc; rw [g.sc]
  calm := g.calm
  room := g.room
  fnb := fun x h => h
  mgB := g.mgB
  call := g.call
  pass := fun σ pins H s e s' I q => by
    obtain ⟨_, _, _, _, _, _, _, _, _, _, _, _, q⟩ := q
    exact q
  conI := g.conI
  conW := g.conW
  xc := g.xc
  xm := g.xm
  xin := g.xin
  k2 := g.k2
  callM := g.callM
  io := g.io
  callC := g.callC
  lt0 := g.lt0
theorem Good.lk {X : Cx} {Wi : WX} {c : Cn} (g : Good X fm sub G k Wi c) (a : Addr) (o : HO) : Good X (fm.lk a o) sub G k Wi c :=
  ⟨g.K, g.N, g.nd, g.sc, g.calm, g.room, g.fnb, g.mgB, g.call, g.pass, g.conI, g.conW, g.xc, g.xm, g.xin, g.k2, g.callM, g.io, g.callC, fun h => by show fm.Lt.filter _ = []; rw [g.lt0 h]; rfl⟩
def Res (X : Cx) (fm : Fm) (sub : Sub) (G : Gam) (Wi : WX) (m : Bool) (e : E) (a : Expr) (t : OT) (al : Bool) : Prop :=
  if m then PT X a (tTT fm Wi fun ρ => ev sub G e ρ >>= isTrueD) ∧ (∀ op vs pos, a = .BoolOp op vs pos → PW X a (tTT fm Wi fun ρ => ev sub G e ρ >>= isTrueD)) else PE X a (tE fm Wi al t (ev sub G e))
theorem Res.pe {X : Cx} {Wi : WX} {e : E} {a : Expr} {t : OT} {al : Bool} (h : Res X fm sub G Wi false e a t al) : PE X a (tE fm Wi al t (ev sub G e)) := by
  unfold Res at h; rw [if_neg Bool.false_ne_true] at h; exact h
theorem Res.pt {X : Cx} {Wi : WX} {e : E} {a : Expr} {t : OT} {al : Bool} (h : Res X fm sub G Wi true e a t al) : PT X a (tTT fm Wi fun ρ => ev sub G e ρ >>= isTrueD) := by
  unfold Res at h; rw [if_pos rfl] at h; exact h.1
theorem Res.of {X : Cx} {Wi : WX} {m : Bool} {e : E} {a : Expr} {t : OT} {al : Bool} (h : PE X a (tE fm Wi al t (ev sub G e))) (hm : m = true → plainTruth a = true ∧ t = .fr) : Res X fm sub G Wi m e a t al := by
  unfold Res
  cases m with
  | false => rw [if_neg Bool.false_ne_true]; exact h
  | true =>
    rw [if_pos rfl]
    obtain ⟨h1, rfl⟩ := hm rfl
    refine ⟨dt_val h1 h, fun op vs pos e => ?_⟩
    subst e
    cases h1
theorem Res.of0 {X : Cx} {Wi : WX} {m : Bool} {e : E} {a : Expr} {t : OT} {al : Bool} (hm : m = false) (h : PE X a (tE fm Wi al t (ev sub G e))) : Res X fm sub G Wi m e a t al := .of h fun z => by rw [hm] at z; cases z
theorem Res.ofT {X : Cx} {Wi : WX} {e : E} {a : Expr} {t : OT} {al : Bool} (h : PT X a (tTT fm Wi fun ρ => ev sub G e ρ >>= isTrueD)) (hb : ∀ op vs pos, a ≠ .BoolOp op vs pos) : Res X fm sub G Wi true e a t al := by
  unfold Res; rw [if_pos rfl]; exact ⟨h, fun op vs pos e => absurd e (hb op vs pos)⟩
theorem evs_one_bind {e : E} {ρ : Rho} {α : Type} {kk : List D → R α} : (evs sub G [e] ρ >>= kk) = (ev sub G e ρ >>= fun y => kk [y]) := by
  rw [evs_one]
  cases ev sub G e ρ <;> rfl
theorem em2 {m b : Bool} (h : (!m || b) = true) : m = true → b = true := by cases m <;> simp_all
end
end L2.Py

set_option maxRecDepth 100000
set_option maxHeartbeats 4000000
namespace L2.Py
open PySem PySem.Spec PyProof.Rows TL
theorem boots : bootBuiltins "len" = some (.builtin "len") ∧ bootBuiltins "min" = some (.builtin "min") ∧ bootBuiltins "max" = some (.builtin "max") ∧ bootBuiltins "sum" = some (.builtin "sum") ∧ bootBuiltins "list" = some (.type "list") := by decide +kernel
theorem boot_t : bootBuiltins "tuple" = some (.type "tuple") := by decide +kernel
theorem boot_i : bootBuiltins "int" = some (.type "int") := by decide +kernel
theorem de_gInt {X : Cx} {fm : Fm} {Wi : WX} {al : Bool} {t : OT} {x : Str} {i : Int} {tk : Tok} {pos : Pos} (hg : Gl X x) (hm : X.mg x = some (.int i tk)) (hd : (x == ("__debug__" : Str)) = false) : PE X (.Name x pos) (tE fm Wi al t fun _ => .ok (.int i)) :=
  PE.imp (pe_glob (v := .int i) hg hm ⟨tk, rfl⟩ hd) fun σ H Q ⟨ρ, fps, er, h⟩ => h _ H [] (Same.refl _) XR.int
theorem de_gStr {X : Cx} {fm : Fm} {Wi : WX} {al : Bool} {t : OT} {x : Str} {w : W} {tk : Tok} {pos : Pos} (hg : Gl X x) (hm : X.mg x = some (.str (toS w) tk)) (hd : (x == ("__debug__" : Str)) = false) : PE X (.Name x pos) (tE fm Wi al t fun _ => .ok (.str w)) :=
  PE.imp (pe_glob (v := .str (toS w)) hg hm ⟨tk, rfl⟩ hd) fun σ H Q ⟨ρ, fps, er, h⟩ => h _ H [] (Same.refl _) XR.str
theorem onCons_of {as : List Expr} {f : Expr → List Expr → Bool} (h : onCons as f = true) : ∃ a r, as = a :: r ∧ f a r = true := by
  cases as with
  | nil => cases h
  | cons a r => exact ⟨a, r, rfl, h⟩
theorem chkL_star {ot : Nat → OT} : ∀ {es : List E} {c : Cn} {as : List Expr} {ft : Nat → OT} {al : Bool}, chkL ot es c as ft al = true → as.all noStar = true
  | [], c, as, ft, al, h => by
    rw [chkL] at h
    cases as with
    | nil => rfl
    | cons a as => cases h
  | e :: es, c, as, ft, al, h => by
    rw [chkL] at h
    obtain ⟨a, r, rfl, hh⟩ := onCons_of h
    simp only [Bool.and_eq_true] at hh
    simp only [List.all_cons, Bool.and_eq_true]
    exact ⟨hh.1.1, chkL_star hh.2⟩
theorem chkL_len {ot : Nat → OT} : ∀ {es : List E} {c : Cn} {as : List Expr} {ft : Nat → OT} {al : Bool}, chkL ot es c as ft al = true → as.length = es.length
  | [], c, as, ft, al, h => by
    rw [chkL] at h
    cases as with
    | nil => rfl
    | cons a as => cases h
  | e :: es, c, as, ft, al, h => by
    rw [chkL] at h
    obtain ⟨a, r, rfl, hh⟩ := onCons_of h
    simp only [Bool.and_eq_true] at hh
    rw [List.length_cons, List.length_cons, chkL_len hh.2]
theorem cons_of {α : Type} {l : List α} (h : l.isEmpty = false) : ∃ a r, l = a :: r := by
  cases l with
  | nil => cases h
  | cons a r => exact ⟨a, r, rfl⟩
theorem one_of {α : Type} {l : List α} (h : l.length = 1) : ∃ a, l = [a] := by
  match l, h with
  | [a], _ => exact ⟨a, rfl⟩
section
variable {fm : Fm} {sub : Sub} {G : Gam} {k : Nat} {ot : Nat → OT}
structure ResL (X : Cx) (fm : Fm) (sub : Sub) (G : Gam) (Wi : WX) (es : List E) (as : List Expr) (ft : Nat → OT) (al : Bool) : Prop where
  pa : PA X as (tL fm Wi al ft (evs sub G es))
  one : ∀ a, as = [a] → ∃ e, es = [e] ∧ PE X a (tE fm Wi al (ft 0) (ev sub G e))
  star : as.all noStar = true
  len : as.length = es.length
theorem blt_ok {X : Cx} {Wi : WX} {c : Cn} {b : Blt} {a : Expr} {t : OT} {al : Bool} {es : List E} {f : List Expr → Bool} (g : Good X fm sub G k Wi c) (hf : ∀ as, f as = true → ResL X (fm.w ot) sub G Wi es as frs0 (bltAl b al)) (h : onBlt c b a t f = true) : PE X a (tE (fm.w ot) Wi al t (ev sub G (.blt b es))) := by
  refine de_eq (f := fun ρ => evs sub G es ρ >>= bltD sub b) (fun ρ => by rw [ev]) ?_
  unfold onBlt at h
  split at h
  · rename_i x _ as _
    split at h
    · simp only [Bool.and_eq_true, Bool.not_eq_true'] at h
      obtain ⟨⟨h4, h5⟩, h6⟩ := h
      obtain ⟨rfl, gl, mg⟩ := g.blt h4
      obtain ⟨b, bs, rfl⟩ := cons_of h5
      exact de_callB (fm := fm.w ot) call_lenAny gl mg boots.1 (by decide +kernel) (by decide +kernel) (hf _ h6).star (hf _ h6).pa (do_len (fm := fm.w ot) g.K)
    · cases h
    · cases h
    · simp only [Bool.and_eq_true, Bool.not_eq_true'] at h
      obtain ⟨⟨h4, h5⟩, h6⟩ := h
      obtain ⟨rfl, gl, mg⟩ := g.blt h4
      obtain ⟨b, bs, rfl⟩ := cons_of h5
      exact de_callB (fm := fm.w ot) (call_min2 g.calm) gl mg boots.2.1 (by decide +kernel) (by decide +kernel) (hf _ h6).star (hf _ h6).pa do_min2
    · simp only [Bool.and_eq_true, Bool.not_eq_true'] at h
      obtain ⟨⟨h4, h5⟩, h6⟩ := h
      obtain ⟨rfl, gl, mg⟩ := g.blt h4
      obtain ⟨b, bs, rfl⟩ := cons_of h5
      exact de_callB (fm := fm.w ot) (call_max2 g.calm) gl mg boots.2.2.1 (by decide +kernel) (by decide +kernel) (hf _ h6).star (hf _ h6).pa do_max2
    · simp only [Bool.and_eq_true, Bool.not_eq_true'] at h
      obtain ⟨⟨⟨h4, h7⟩, h5⟩, h6⟩ := h
      obtain ⟨rfl, gl, mg⟩ := g.blt h4
      obtain ⟨b, bs, rfl⟩ := cons_of h5
      exact de_callTy (fm := fm.w ot) (call_listAny g.calm) gl mg boots.2.2.2.2 (by decide +kernel) (by decide +kernel) (hf _ h6).star (hf _ h6).pa (do_list (fm := fm.w ot) g.K (OT.isFr_eq h7) id)
    · cases h
    · cases h
    · simp only [Bool.and_eq_true, Bool.not_eq_true'] at h
      obtain ⟨⟨⟨h4, h7⟩, h5⟩, h6⟩ := h
      obtain ⟨rfl, gl, mg⟩ := g.blt h4
      obtain ⟨b, bs, rfl⟩ := cons_of h5
      obtain rfl := OT.isFr_eq h7
      exact de_callTy (fm := fm.w ot) call_tuple_of gl mg boot_t (by decide +kernel) (by decide +kernel) (hf _ h6).star (hf _ h6).pa (do_tuple (fm := fm.w ot) g.K id)
    · cases h
    · cases h
    · cases h
    · simp only [Bool.and_eq_true, Bool.not_eq_true'] at h
      obtain ⟨⟨h4, h5⟩, h6⟩ := h
      obtain ⟨rfl, gl, mg⟩ := g.blt h4
      obtain ⟨b, bs, rfl⟩ := cons_of h5
      exact de_callTy (fm := fm.w ot) (call_int1.or call_int_str) gl mg boot_i (by decide +kernel) (by decide +kernel) (hf _ h6).star (hf _ h6).pa do_int
    · cases h
    · simp only [Bool.and_eq_true] at h
      obtain ⟨h4, h5⟩ := h
      obtain ⟨rfl, gl, mg⟩ := g.blt h4
      split at h5
      · rename_i l y _ z _ hz
        simp only [Bool.and_eq_true, decide_eq_true_eq] at h5
        obtain ⟨⟨rfl, h6⟩, h8⟩ := h5
        obtain ⟨_, gl2, mg2⟩ := g.blt h6
        obtain ⟨e, rfl, pe⟩ := (hf _ h8).one _ rfl
        have st := (hf _ h8).star
        simp only [List.all_cons, Bool.and_eq_true] at st
        exact de_eq (fun ρ => evs_one_bind) (de_isi1 (fm := fm.w ot) g.K hz gl mg gl2 mg2 st.1 pe)
      · cases h5
    · cases h
    · cases h
    · cases h
    · cases h
    · cases h
    · simp only [Bool.and_eq_true] at h
      obtain ⟨h4, h5⟩ := h
      obtain ⟨rfl, gl, mg⟩ := g.blt h4
      split at h5
      · simp only [Bool.and_eq_true] at h5
        obtain ⟨⟨h6, h8⟩, h9⟩ := h5
        obtain ⟨rfl, gl2, mg2⟩ := g.blt h6
        obtain ⟨e, rfl, pe⟩ := (hf _ h9).one _ rfl
        exact de_eq (fun ρ => evs_one_bind) (de_lenSet (fm := fm.w ot) g.K g.calm g.hu gl mg gl2 mg2 pe h8)
      · cases h5
    · simp only [Bool.and_eq_true] at h
      obtain ⟨h4, h5⟩ := h
      obtain ⟨rfl, gl, mg⟩ := g.blt h4
      split at h5
      · simp only [Bool.and_eq_true] at h5
        obtain ⟨⟨h6, h8⟩, h9⟩ := h5
        obtain ⟨rfl, gl2, mg2⟩ := g.blt h6
        obtain ⟨e, rfl, pe⟩ := (hf _ h9).one _ rfl
        exact de_eq (fun ρ => evs_one_bind) (de_lenSetT (fm := fm.w ot) g.calm gl mg gl2 mg2 pe h8)
      · cases h5
    · cases h
    · cases h
    · simp only [Bool.and_eq_true] at h
      obtain ⟨h4, h5⟩ := h
      obtain ⟨rfl, gl, mg⟩ := g.blt h4
      split at h5
      · rename_i l y1 _ y2 _ _ _ z1 _ z2 _ hz1 hz2
        simp only [Bool.and_eq_true, decide_eq_true_eq] at h5
        obtain ⟨⟨⟨⟨rfl, h6⟩, rfl⟩, h9⟩, h8⟩ := h5
        obtain ⟨_, gl2, mg2⟩ := g.blt h6
        obtain ⟨_, gl3, mg3⟩ := g.blt h9
        obtain ⟨e, rfl, pe⟩ := (hf _ h8).one _ rfl
        have st := (hf _ h8).star
        simp only [List.all_cons, Bool.and_eq_true] at st
        exact de_eq (fun ρ => evs_one_bind) (de_isi2 (fm := fm.w ot) g.K hz1 hz2 gl mg gl2 mg2 gl3 mg3 st.1 pe)
      · cases h5
    · cases h
  · cases h
theorem it_ok {X : Cx} {Wi : WX} {c : Cn} {kk : ItK} {ta ia : Expr} {al : Bool} {its : List E} {f : List Expr → Bool} (g : Good X fm sub G k Wi c) (hf : ∀ as, f as = true → ResL X (fm.w ot) sub G Wi its as frs0 (itAl kk al)) (h : onIt c kk ta ia f = true) : PI X ta ia (tI (fm.w ot) Wi al fun ρ => evs sub G its ρ >>= itD kk) := by
  unfold onIt at h
  split at h
  · obtain ⟨e, rfl, pe⟩ := (hf _ h).one _ rfl
    refine PI.imp (di_val (tg := ta) pe g.K) fun σ H Q z => ?_
    have e : (fun ρ => evs sub G [e] ρ >>= itD .val) = fun ρ => ev sub G e ρ >>= itV := funext fun ρ => evs_one_bind
    rw [e] at z; exact z
  · split at h
    · simp only [Bool.and_eq_true] at h
      obtain ⟨ha, hc⟩ := h
      obtain ⟨rfl, gl, mg⟩ := g.blt ha
      have st := (hf _ hc).star
      simp only [List.all_cons, Bool.and_eq_true] at st
      exact di_range1 gl mg (hf _ hc).pa st.1
    · cases h
  · split at h
    · simp only [Bool.and_eq_true] at h
      obtain ⟨ha, hc⟩ := h
      obtain ⟨rfl, gl, mg⟩ := g.blt ha
      have st := (hf _ hc).star
      simp only [List.all_cons, Bool.and_eq_true] at st
      exact di_range2 gl mg (hf _ hc).pa st.1 st.2.1
    · cases h
  · cases h
  · cases h
  · cases h
  · cases h
  · cases h
theorem itD_ok {X : Cx} {Wi : WX} {kk : ItK} {ta ia : Expr} {its : List E} {f : List Expr → Bool} (hf : ∀ as, f as = true → ResL X (fm.w ot) sub G Wi its as frs0 false) (h : onItD kk ta ia f = true) :
    ∃ Jd e, its = [e] ∧ DWalk kk Jd ∧ PI X ta ia (iDG X Jd (tE (fm.w ot) Wi false .fr (ev sub G e))) := by
  unfold onItD at h
  split at h
  · obtain ⟨e, rfl, pe⟩ := (hf _ h).one _ rfl
    exact ⟨JK, e, rfl, walk_K, pi_gK pe⟩
  · simp only [Bool.and_eq_true] at h
    obtain ⟨h1, h2⟩ := h
    split at h2
    · simp only [Bool.and_eq_true, decide_eq_true_eq] at h2
      obtain ⟨⟨⟨h3, h4⟩, h5⟩, h6⟩ := h2
      subst h3
      obtain ⟨e, rfl, pe⟩ := (hf _ h6).one _ rfl
      cases ta <;> first | (cases h1; done) | exact ⟨JI, e, rfl, walk_I, pi_gI pe (super_of h4) h5⟩
    · cases h2
  · cases h
theorem mt_of {m : Bool} {a : Expr} {t : OT} (h1 : (!m || (plainTruth a && t.isFr)) = true) : m = true → plainTruth a = true ∧ t = .fr := fun z => by
  have := em2 h1 z
  simp only [Bool.and_eq_true] at this
  exact ⟨this.1, OT.isFr_eq this.2⟩
mutual
theorem chk_ok {fm : Fm} : ∀ (e : E) (X : Cx) (Wi : WX) (c : Cn) (m : Bool) (a : Expr) (t : OT) (al : Bool), Good X fm sub G k Wi c → chk ot e c m a t al = true → Res X (fm.w ot) sub G Wi m e a t al
  | .slot i, X, Wi, c, m, a, t, al, g, h => by
    simp only [chk, Bool.and_eq_true] at h
    obtain ⟨⟨⟨h1, h2⟩, h3⟩, h4⟩ := h
    unfold onName at h4
    split at h4
    · obtain ⟨q1, q2, q3, q4⟩ := g.vis h4
      obtain rfl := OT.isFr_eq h2
      refine Res.of ?_ fun z => ⟨em2 h1 z, rfl⟩
      refine de_eq (fun ρ => by rw [ev]) ?_
      cases al with
      | false => exact de_slot q1 q2 q3 q4 (OT.isFr_eq (by simpa using h3))
      | true => exact de_slotA q1 q2 q3 q4
    · cases h4
  | .cint i, X, Wi, c, m, a, t, al, g, h => by
    simp only [chk, Bool.and_eq_true, Bool.not_eq_true'] at h
    obtain ⟨h1, h2⟩ := h
    rcases (Bool.or_eq_true _ _).mp h2 with h2 | h2
    · unfold onInt at h2
      split at h2
      · have e := of_decide_eq_true h2
        subst e
        exact Res.of0 h1 (de_eq (fun ρ => by rw [ev]) de_int)
      · cases h2
    · unfold onName at h2
      split at h2
      · simp only [Cn.gl, Bool.and_eq_true, decide_eq_true_eq, Bool.not_eq_true'] at h2
        obtain ⟨⟨h3, h4⟩, h5⟩ := h2
        obtain ⟨tk, hm⟩ := g.conI _ _ h5
        exact Res.of0 h1 (de_eq (fun ρ => by rw [ev]) (de_gInt (g.glob h3) hm h4))
      · cases h2
  | .cstr s, X, Wi, c, m, a, t, al, g, h => by
    simp only [chk, Bool.and_eq_true, Bool.not_eq_true'] at h
    obtain ⟨h1, h2⟩ := h
    rcases (Bool.or_eq_true _ _).mp h2 with h2 | h2
    · unfold onStr at h2
      split at h2
      · have e := of_decide_eq_true h2
        subst e
        exact Res.of0 h1 (de_eq (fun ρ => by rw [ev]) de_str)
      · cases h2
    · unfold onName at h2
      split at h2
      · simp only [Cn.gl, Bool.and_eq_true, decide_eq_true_eq, Bool.not_eq_true'] at h2
        obtain ⟨⟨h3, h4⟩, h5⟩ := h2
        obtain ⟨tk, hm⟩ := g.conW _ _ h5
        exact Res.of0 h1 (de_eq (fun ρ => by rw [ev]) (de_gStr (g.glob h3) hm h4))
      · cases h2
  | .cbl b, X, Wi, c, m, a, t, al, g, h => by
    simp only [chk, Bool.and_eq_true] at h
    obtain ⟨h1, h2⟩ := h
    unfold onBl at h2
    split at h2
    · have e := eq_of_beq h2
      subst e
      refine Res.of (de_eq (fun ρ => by rw [ev]) de_bl) fun z => ?_
      have := em2 h1 z
      simp only [Bool.and_eq_true] at this
      exact ⟨this.1, OT.isFr_eq this.2⟩
    · cases h2
  | .cnon, X, Wi, c, m, a, t, al, g, h => by
    simp only [chk, Bool.and_eq_true, Bool.not_eq_true'] at h
    obtain ⟨h1, h2⟩ := h
    unfold onNon at h2
    split at h2
    · exact Res.of0 h1 (de_eq (fun ρ => by rw [ev]) de_non)
    · cases h2
  | .bin op x y, X, Wi, c, m, a, t, al, g, h => by
    simp only [chk, Bool.and_eq_true, Bool.not_eq_true'] at h
    obtain ⟨⟨h1, h2⟩, h3⟩ := h
    unfold onBin at h3
    split at h3
    · simp only [Bool.and_eq_true, decide_eq_true_eq] at h3
      obtain ⟨⟨rfl, h4⟩, h5⟩ := h3
      refine Res.of0 h1 (de_eq (fun ρ => by rw [ev]) ?_)
      have q := de_bin (t := t) (op := op) (pos := by assumption) (OT.isFr_eq h2) (chk_ok x X Wi c _ _ _ _ g h4).pe (chk_ok y X Wi c _ _ _ _ g h5).pe
      rw [Bool.or_self] at q
      exact q
    · cases h3
  | .neg x, X, Wi, c, m, a, t, al, g, h => by
    simp only [chk, Bool.and_eq_true, Bool.not_eq_true'] at h
    obtain ⟨h1, h3⟩ := h
    unfold onNeg at h3
    split at h3
    · exact Res.of0 h1 (de_eq (fun ρ => by rw [ev] <;> rfl) (de_neg (chk_ok x X Wi c _ _ _ _ g h3).pe))
    · cases h3
  | .cmp op x y, X, Wi, c, m, a, t, al, g, h => by
    simp only [chk] at h
    unfold onCmp at h
    split at h
    · simp only [Bool.and_eq_true, decide_eq_true_eq, Bool.not_eq_true'] at h
      obtain ⟨⟨⟨rfl, h2⟩, h4⟩, h5⟩ := h
      cases m with
      | false => exact Res.of0 rfl (de_eq (fun ρ => by rw [ev]) (de_cmp g.K g.hu h2 (chk_ok x X Wi c _ _ _ _ g h4).pe (chk_ok y X Wi c _ _ _ _ g h5).pe))
      | true =>
        refine Res.ofT ?_ fun _ _ _ z => nomatch z
        have q := dt_cmp (fm := fm.w ot) (pos := by assumption) g.K g.hu h2 (chk_ok x X Wi c _ _ _ _ g h4).pe (chk_ok y X Wi c _ _ _ _ g h5).pe
        have e : (fun ρ => ev sub G (.cmp op x y) ρ >>= isTrueD) = fun ρ => (do let x ← ev sub G x ρ; let y ← ev sub G y ρ; cmpD op x y) >>= isTrueD := funext fun ρ => by rw [ev]
        rw [e]
        exact q
    · cases h
  | .not x, X, Wi, c, m, a, t, al, g, h => by
    simp only [chk] at h
    unfold onNot at h
    split at h
    · cases m with
      | false => exact Res.of0 rfl (de_eq (fun ρ => by rw [ev]) (de_not (chk_ok x X Wi c _ _ _ _ g h).pe))
      | true =>
        refine Res.ofT ?_ fun _ _ _ z => nomatch z
        have q := dt_not (pos := by assumption) (chk_ok x X Wi c _ _ _ _ g h).pt
        have e : (fun ρ => ev sub G (.not x) ρ >>= isTrueD) = fun ρ => (ev sub G x ρ >>= isTrueD) >>= fun c => .ok (!c) := funext fun ρ => by rw [ev]; exact ev_not
        rw [e]
        exact q
    · cases h
  | .and x y, X, Wi, c, m, a, t, al, g, h => by
    simp only [chk] at h
    have e : (fun ρ => ev sub G (.and x y) ρ >>= isTrueD) = fun ρ => (ev sub G x ρ >>= isTrueD) >>= fun c => if c then ev sub G y ρ >>= isTrueD else .ok false := funext fun ρ => by rw [ev]; exact ev_and
    unfold onAnd at h
    split at h
    · simp only [Bool.and_eq_true] at h
      cases m with
      | false => exact Res.of0 rfl (de_eq (fun ρ => by rw [ev] <;> rfl) (de_and (g := ev sub G y) (chk_ok x X Wi c _ _ _ _ g h.1).pe (de_one (al := true) (chk_ok y X Wi c _ _ _ _ g h.2).pe)))
      | true =>
        have q := dw_and (chk_ok x X Wi c _ _ _ _ g h.1).pt (dw_and1 (pos := by assumption) (chk_ok y X Wi c _ _ _ _ g h.2).pt)
        unfold Res
        rw [if_pos rfl, e]
        exact ⟨q.pt, fun op vs pos e => by cases e; exact q⟩
    · simp only [Bool.and_eq_true] at h
      cases m with
      | false => exact Res.of0 rfl (de_eq (fun ρ => by rw [ev] <;> rfl) (de_and (g := ev sub G y) (chk_ok x X Wi c _ _ _ _ g h.1).pe (de_bv (al := true) (chk_ok y X Wi c _ _ _ _ g h.2).pe)))
      | true =>
        have r := chk_ok y X Wi c _ _ _ _ g h.2
        unfold Res at r
        rw [if_pos rfl] at r
        have q := dw_and (chk_ok x X Wi c _ _ _ _ g h.1).pt (r.2 _ _ _ rfl)
        unfold Res
        rw [if_pos rfl, e]
        exact ⟨q.pt, fun op vs pos e => by cases e; exact q⟩
    · cases h
  | .or x y, X, Wi, c, m, a, t, al, g, h => by
    simp only [chk] at h
    have e : (fun ρ => ev sub G (.or x y) ρ >>= isTrueD) = fun ρ => (ev sub G x ρ >>= isTrueD) >>= fun c => if c then .ok true else ev sub G y ρ >>= isTrueD := funext fun ρ => by rw [ev]; exact ev_or
    unfold onOr at h
    split at h
    · simp only [Bool.and_eq_true] at h
      cases m with
      | false => exact Res.of0 rfl (de_eq (fun ρ => by rw [ev] <;> rfl) (de_or (g := ev sub G y) (chk_ok x X Wi c _ _ _ _ g h.1).pe (de_one (al := true) (chk_ok y X Wi c _ _ _ _ g h.2).pe)))
      | true =>
        have q := dw_or (chk_ok x X Wi c _ _ _ _ g h.1).pt (dw_or1 (pos := by assumption) (chk_ok y X Wi c _ _ _ _ g h.2).pt)
        unfold Res
        rw [if_pos rfl, e]
        exact ⟨q.pt, fun op vs pos e => by cases e; exact q⟩
    · simp only [Bool.and_eq_true] at h
      cases m with
      | false => exact Res.of0 rfl (de_eq (fun ρ => by rw [ev] <;> rfl) (de_or (g := ev sub G y) (chk_ok x X Wi c _ _ _ _ g h.1).pe (de_bv (al := true) (chk_ok y X Wi c _ _ _ _ g h.2).pe)))
      | true =>
        have r := chk_ok y X Wi c _ _ _ _ g h.2
        unfold Res at r
        rw [if_pos rfl] at r
        have q := dw_or (chk_ok x X Wi c _ _ _ _ g h.1).pt (r.2 _ _ _ rfl)
        unfold Res
        rw [if_pos rfl, e]
        exact ⟨q.pt, fun op vs pos e => by cases e; exact q⟩
    · cases h
  | .ite x y z, X, Wi, c, m, a, t, al, g, h => by
    rw [chk] at h
    cases h
  | .idx x y, X, Wi, c, m, a, t, al, g, h => by
    simp only [chk, Bool.and_eq_true] at h
    obtain ⟨⟨h1, h2⟩, h3⟩ := h
    unfold onIdx at h3
    split at h3
    · simp only [Bool.and_eq_true] at h3
      obtain rfl := OT.isFr_eq h2
      rcases Bool.or_eq_true _ _ ▸ h3.2.1 with h4 | h4
      · exact Res.of (de_eq (fun ρ => by rw [ev]) (de_idx g.K g.hu h3.1 (chk_ok x X Wi c _ _ _ _ g h4).pe (chk_ok y X Wi c _ _ _ _ g h3.2.2).pe)) fun z => ⟨em2 h1 z, rfl⟩
      · obtain ⟨i, n, p, rfl, rfl, ho, hv⟩ := ownElt_of h4
        obtain ⟨q1, q2, q3, q4⟩ := g.vis hv
        exact Res.of (de_eq (fun ρ => by rw [ev, ev]) (de_idxOw g.K g.hu h3.1 q1 q2 q3 q4 ho (chk_ok y X Wi c _ _ _ _ g h3.2.2).pe)) fun z => ⟨em2 h1 z, rfl⟩
    · cases h3
  | .slcA x, X, Wi, c, m, a, t, al, g, h => by
    rw [chk] at h
    cases h
  | .slcL x y, X, Wi, c, m, a, t, al, g, h => by
    rw [chk] at h
    cases h
  | .slcH x y, X, Wi, c, m, a, t, al, g, h => by
    simp only [chk, Bool.and_eq_true, Bool.not_eq_true'] at h
    obtain ⟨⟨h1, h2⟩, h3⟩ := h
    unfold onSlcH at h3
    split at h3
    · simp only [Bool.and_eq_true] at h3
      exact Res.of0 h1 (de_eq (fun ρ => by rw [ev]) (de_slc g.K (OT.flatE_eq h2) (chk_ok x X Wi c _ _ _ _ g h3.1).pe do_none (do_some (chk_ok y X Wi c _ _ _ _ g h3.2).pe)))
    · cases h3
  | .slcB x y z, X, Wi, c, m, a, t, al, g, h => by
    rw [chk] at h
    cases h
  | .slcR x, X, Wi, c, m, a, t, al, g, h => by
    rw [chk] at h
    cases h
  | .dnew b es, X, Wi, c, m, a, t, al, g, h => by
    rw [chk] at h
    cases h
  | .tup es, X, Wi, c, m, a, t, al, g, h => by
    simp only [chk, Bool.and_eq_true, Bool.not_eq_true'] at h
    obtain ⟨h1, h3⟩ := h
    unfold onTup at h3
    split at h3
    · simp only [Bool.and_eq_true, decide_eq_true_eq] at h3
      exact Res.of0 h1 (de_eq (fun ρ => by rw [ev]) (de_tup (chkL_ok es X Wi c _ _ _ g h3.2).pa fun ρ ds e => by rw [evs_len e]; exact h3.1))
    · cases h3
  | .lst es, X, Wi, c, m, a, t, al, g, h => by
    simp only [chk, Bool.and_eq_true, Bool.not_eq_true'] at h
    obtain ⟨h1, h3⟩ := h
    unfold onLst at h3
    split at h3
    · simp only [Bool.and_eq_true, decide_eq_true_eq] at h3
      exact Res.of0 h1 (de_eq (fun ρ => by rw [ev]) (de_lst (chkL_ok es X Wi c _ _ _ g h3.2).pa fun ρ ds e => by rw [evs_len e]; exact h3.1))
    · cases h3
  | .call f es, X, Wi, c, m, a, t, al, g, h => by
    rw [chk, Bool.and_eq_true] at h
    obtain ⟨h1, h3⟩ := h
    unfold onCall at h3
    split at h3
    · rw [Bool.and_eq_true, Bool.not_eq_true'] at h3
      obtain ⟨h8, h3⟩ := h3
      rw [Bool.or_eq_true] at h3
      rcases h3 with h3 | h3
      · unfold onFn at h3
        split at h3
        · rename_i name n res hf
          simp only [Bool.and_eq_true, decide_eq_true_eq, Bool.not_eq_true', Bool.or_eq_true] at h3
          obtain ⟨hn0, ⟨⟨⟨⟨rfl, h4⟩, h5⟩, h6⟩, h7⟩, h9⟩ := h3
          obtain ⟨fa, fd, ps, F, mg, kp, bd⟩ := g.call _ _ _ _ hf hn0
          obtain ⟨b, bs, rfl⟩ := cons_of h8
          have r := chkL_ok es X Wi c _ _ _ g h9
          refine Res.of (de_eq (fun ρ => by rw [ev]) ?_) (mt_of h1)
          exact de_call (fm := fm.w ot) g.K F g.room (g.glob h4) mg kp bd g.pass h5 r.star r.pa (fun ρ ds e => by rw [evs_len e]; exact h6) (h7.imp OT.isFr_eq (OT.same_eq _ _)) id
        · cases h3
      · unfold onFnC at h3
        split at h3
        · rename_i name n res p u hf
          simp only [Bool.and_eq_true, decide_eq_true_eq, Bool.not_eq_true', Bool.or_eq_true] at h3
          obtain ⟨hn0, ⟨⟨⟨⟨rfl, h4⟩, h5⟩, h6⟩, h7⟩, h9⟩ := h3
          obtain ⟨fa, fd, ps, F, mg, kp, bd⟩ := g.callC _ _ _ _ _ _ hf
          obtain ⟨b, bs, rfl⟩ := cons_of h8
          have r := chkL_ok es X Wi c _ _ _ g h9
          refine Res.of (de_eq (fun ρ => by rw [ev]) ?_) (mt_of h1)
          exact de_callN (fm := fm.w ot) g.K F g.room (g.glob h4) mg kp bd g.pass h5 r.star r.pa (fun ρ ds e => by rw [evs_len e]; exact h6) (h7.imp OT.isFr_eq (OT.same_eq _ _))
        · cases h3
    · cases h3
  | .blt b es, X, Wi, c, m, a, t, al, g, h => by
    rw [chk, Bool.and_eq_true] at h
    exact Res.of (blt_ok g (fun as z => chkL_ok es X Wi c _ _ _ g z) h.2) (mt_of h.1)
  | .meth mt x es, X, Wi, c, m, a, t, al, g, h => by
    rw [chk] at h
    cases h
  | .comp fl tg tt kk its elt cs, X, Wi, c, m, a, t, al, g, h => by
    rw [chk, Bool.and_eq_true, Bool.not_eq_true'] at h
    obtain ⟨h1, h3⟩ := h
    unfold onComp at h3
    split at h3
    · rename_i ea ta ia fa scope _
      simp only [Bool.and_eq_true, decide_eq_true_eq] at h3
      obtain ⟨⟨⟨⟨⟨⟨h4, h5⟩, h6⟩, h10⟩, h7⟩, h8⟩, h9⟩ := h3
      have bok : BlkOk X.N X.env.scope scope (ownOf c tg) := by
        rw [g.N, g.sc]; exact blkOk_by h4
      have how : (ownOf c tg).map (·.2) = tg := by
        unfold ownOf
        rw [List.map_map]
        have : ((fun x => x.2) ∘ fun i => (c.N.getD i "", i)) = (id : Nat → Nat) := rfl
        rw [this, List.map_id]
      rcases (Bool.or_eq_true _ _).mp h9 with h9 | h9
      · have hi := it_ok (al := fl) g (fun as z => chkL_ok its X Wi c _ _ _ g z) h9
        have hts : ∀ (s : Shared) (H : Hp) (C : Addr) (cl : List (Str × Addr)) (fp : List Addr), PTs (X.blk s H scope (compEnvC scope cl C X.env) fp) fa (tTT (fm.w ot) W0 (evc sub G cs)) := fun s H C cl fp => chkC_ok cs _ W0 (inner c scope) fa (g.blk scope s H C cl fp) h10 h8
        have q := de_comp (fm := fm.w ot) (Wi := Wi) (t := t) (al1 := fl) (pos := by assumption) g.calm g.nd hi bok how (fun s H C cl fp => tgOk_ok (g.blk scope s H C cl fp) h6) hts (fun s H C cl fp => (chk_ok elt _ W0 (inner c scope) _ _ _ _ (g.blk scope s H C cl fp) h7).pe) id h5
        refine Res.of0 h1 (de_al (al1 := false) (fun z => nomatch z) (de_eq (fun ρ => ?_) q))
        rw [ev]
        cases evs sub G its ρ <;> rfl
      · simp only [Bool.and_eq_true, Bool.not_eq_true'] at h9
        obtain ⟨rfl, h11⟩ := h9
        obtain ⟨Jd, e0, rfl, w, hi⟩ := itD_ok (fun as z => chkL_ok its X Wi c _ _ _ g z) h11
        have q := de_compD (fm := fm.w ot) (fl := false) (Wi := Wi) (t := t) (p := evc sub G cs) (h := ev sub G elt) (pos := by assumption) w g.calm g.nd hi bok how (fun x s H C cl fp => tgOk_ok ((g.blk scope s H C cl fp).lk x.1 x.2) h6)
          (fun x s H C cl fp => chkC_ok cs _ W0 (inner c scope) fa ((g.blk scope s H C cl fp).lk x.1 x.2) h10 h8) (fun x s H C cl fp => (chk_ok elt _ W0 (inner c scope) _ _ _ _ ((g.blk scope s H C cl fp).lk x.1 x.2) h7).pe) h5
        refine Res.of0 h1 (de_al (al1 := false) (fun z => nomatch z) (de_eq (fun ρ => ?_) q))
        rw [ev, evs_one]
        cases ev sub G e0 ρ <;> rfl
    · cases h3
  | .slcS x y z k, X, Wi, c, m, a, t, al, g, h => by
    rw [chk] at h
    cases h
  | .dnT x, X, Wi, c, m, a, t, al, g, h => by
    rw [chk] at h
    cases h
  | .fld n e, X, Wi, c, m, a, t, al, g, h => by
    rw [chk] at h
    cases h
  | .dnN, X, Wi, c, m, a, t, al, g, h => by
    rw [chk] at h
    cases h
  | .getD x y z, X, Wi, c, m, a, t, al, g, h => by
    rw [chk] at h
    cases h
  | .nox e, X, Wi, c, m, a, t, al, g, h => by
    rw [chk] at h
    cases h
  | .flat e, X, Wi, c, m, a, t, al, g, h => by
    simp only [chk, Bool.and_eq_true, Bool.not_eq_true'] at h
    exact Res.of0 h.1 (de_eq (fun ρ => by rw [ev]) (de_flat (chk_ok e X Wi c _ _ _ _ g h.2).pe))
theorem chkL_ok {fm : Fm} : ∀ (es : List E) (X : Cx) (Wi : WX) (c : Cn) (as : List Expr) (ft : Nat → OT) (al : Bool), Good X fm sub G k Wi c → chkL ot es c as ft al = true → ResL X (fm.w ot) sub G Wi es as ft al
  | [], X, Wi, c, as, ft, al, g, h => by
    rw [chkL] at h
    cases as with
    | nil =>
      have e : evs sub G [] = fun _ => .ok [] := funext fun ρ => by rw [evs]
      exact ⟨by rw [e]; exact dl_nil, (fun a e => nomatch e), rfl, rfl⟩
    | cons a as => cases h
  | e :: es, X, Wi, c, as, ft, al, g, h => by
    have st := chkL_star h
    have ln := chkL_len h
    rw [chkL] at h
    obtain ⟨a, as, rfl, hh⟩ := onCons_of h
    simp only [Bool.and_eq_true] at hh
    have q1 := (chk_ok e X Wi c _ _ _ _ g hh.1.2).pe
    have q := dl_cons q1 (chkL_ok es X Wi c _ _ _ g hh.2).pa hh.1.1
    rw [Bool.or_self] at q
    have e' : evs sub G (e :: es) = fun ρ => (do let x ← ev sub G e ρ; let xs ← evs sub G es ρ; pure (x :: xs)) := funext fun ρ => by rw [evs]
    refine ⟨by rw [e']; exact q, fun b eb => ?_, st, ln⟩
    injection eb with eb1 eb2
    subst eb1 eb2
    cases es with
    | nil => exact ⟨e, rfl, q1⟩
    | cons e2 es => rw [List.length_cons, List.length_cons, List.length_cons] at ln; simp at ln
theorem chkC_ok {fm : Fm} : ∀ (cs : List E) (X : Cx) (Wi : WX) (c : Cn) (as : List Expr), Good X fm sub G k Wi c → cs.length ≤ 1 → chkC ot cs c as = true → PTs X as (tTT (fm.w ot) Wi (evc sub G cs))
  | [], X, Wi, c, as, g, hl, h => by
    rw [chkC] at h
    cases as with
    | nil =>
      have e : evc sub G [] = fun _ => .ok true := funext fun ρ => by rw [evc]
      rw [e]; exact dts_nil
    | cons a as => cases h
  | e :: es, X, Wi, c, as, g, hl, h => by
    rw [chkC] at h
    obtain ⟨a, as, rfl, hh⟩ := onCons_of h
    simp only [Bool.and_eq_true] at hh
    cases es with
    | nil =>
      have h2 := hh.2
      rw [chkC] at h2
      cases as with
      | nil =>
        have q := pts_one (chk_ok e X Wi c _ _ _ _ g hh.1).pt
        have e' : evc sub G [e] = fun ρ => ev sub G e ρ >>= isTrueD := funext fun ρ => evc_one
        rw [e']; exact q
      | cons b bs => cases h2
    | cons e2 es => simp at hl
end
end
end L2.Py

set_option maxRecDepth 100000
set_option maxHeartbeats 4000000
namespace L2.Py
open PySem PySem.Spec PyProof.Rows TL
abbrev Flo := Option (List OT)
def otf (l : List OT) : Nat → OT := fun i => l.getD i .fr
def onFrz {α : Type} (s : S) (f : Nat → α) (g : α) : α := match s with | .frz i => f i | _ => g
def onConsS (sts : List Stmt) (f : Stmt → List Stmt → Option Flo) : Option Flo := match sts with | [] => none | st :: r => f st r
def contF (fl : Option Flo) (f : List OT → Option Flo) (e : Bool) : Option Flo := match fl with | none => none | some none => if e then some none else none | some (some l) => f l
def iffB (b : Bool) (x : Flo) : Option Flo := if b then some x else none
def onAsg (st : Stmt) (f : Str → Pos → Expr → Pos → Bool) : Bool := match st with | .Assign [.Name x pp] e p => f x pp e p | _ => false
def onAsgT (st : Stmt) (f : List Expr → Expr → Bool) : Bool := match st with | .Assign [.Tuple es _ _] e _ => f es e | _ => false
def onApp (st : Stmt) (f : Str → Expr → Bool) : Bool := match st with | .Expr (.Call (.Attribute (.Name x _) m ap) [e] [] cp) _ => decide (m = ("append" : Str)) && sameLine ap cp && f x e | _ => false
def onIf (st : Stmt) (f : Expr → List Stmt → List Stmt → Option Flo) : Option Flo := match st with | .If c a b _ => f c a b | _ => none
def onList1 (a : Expr) (f : Str → Str → Bool) : Bool := match a with | .Call (.Name nm _) [.Name y _] [] _ => f nm y | _ => false
def isValC (e : E) : Bool := match e with | .comp _ _ _ .val _ _ _ => true | _ => false
def onFor (st : Stmt) (f : Expr → Expr → List Stmt → Option Flo) : Option Flo := match st with | .For t i a [] _ => f t i a | _ => none
def onRet (st : Stmt) (f : Expr → Bool) : Bool := match st with | .Return (some e) _ => f e | _ => false
def isSlot (e : E) (f : Nat → Bool) : Bool := match e with | .slot i => f i | _ => false
def isCompE (e : E) : Bool := match e with | .comp _ _ _ _ _ _ _ => true | _ => false
def isOw (t : OT) : Bool := match t with | .ow _ => true | _ => false
def owOf (t : OT) : OT := match t with | .ow u => u | _ => .fr
def lcLine (c : Cn) (x : Str) (pp p : Pos) (e : Expr) : Bool := match e with
  | .ListComp _ _ scope lp => decide (c.sc.kind = .function) && decide (c.sc.names.lookup x = some .local) && (pp.line == lp.line) && !(scope.names.any fun (n, k) => n == x && (k == .local || k == .cell))
  | _ => false
def noSw (c : Cn) (x : Str) (e : Expr) : Bool := noComp e || (match e with | .ListComp _ _ _ _ => decide (c.sc.names.lookup x = some .cell) | _ => false)
def joinF (a b : Flo) : Option Flo := match a, b with
  | none, y => some y
  | some x, none => some (some x)
  | some x, some y => if OT.sameL x y then some (some x) else none
def loopF (fl : Option Flo) (ots : List OT) : Option Flo := match fl with
  | none => none
  | some none => some (some ots)
  | some (some l) => if OT.sameL l ots then some (some ots) else none
def bindF (fl : Option Flo) (f : Flo → Option Flo) : Option Flo := match fl with | none => none | some x => f x
def onPut (st : Stmt) (f : Str → Expr → Expr → Bool) : Bool := match st with | .Assign [.Subscript (.Name x _) k _] e _ => noSl k && noComp e && f x k e | _ => false
def onPutL (st : Stmt) (f : Expr → Expr → Expr → Bool) : Bool := match st with | .Assign [.Subscript pe k _] e _ => noSl k && noComp e && f pe k e | _ => false
def isStop (s : S) : Bool := match s with | .stop => true | _ => false
def mtName (m : Mt) : Str := match m with | .append => "append" | .insert => "insert" | .pop0 => "pop" | _ => "clear"
def mtArg (m : Mt) (as : List Expr) : Bool := match m with | .append => !as.isEmpty | .insert => !as.isEmpty | .clear => as.isEmpty | .pop0 => as.isEmpty | _ => false
def onMut (st : Stmt) (m : Mt) (f : Expr → List Expr → Bool) : Bool := match st with | .Expr (.Call (.Attribute pe n ap) es [] cp) _ => decide (n = mtName m) && sameLine ap cp && noSuper pe && decide (es.length < 30) && mtArg m es && f pe es | _ => false
def unO : Nat → OT → Option OT
  | 0, t => some t
  | n + 1, t => match t with | .ow u => unO n u | _ => none
theorem unO_eq : ∀ {n : Nat} {o t : OT}, unO n o = some t → o = owN n t
  | 0, o, t, h => Option.some.inj h
  | n + 1, o, t, h => by
    unfold unO at h
    split at h
    · show _ = OT.ow (owN n t)
      rw [unO_eq h]
    · cases h
def onOw (o : Option OT) (f : OT → Bool) : Bool := match o with | some (.ow t) => f t | _ => false
def chkP (ot : Nat → OT) (c : Cn) (i : Nat) : List E → Expr → Bool
  | [], a => onName a fun x => c.vis i x
  | k :: r, a => onIdx a fun l e => chkP ot c i r l && chk ot k c false e .fr true && pureE k
def chkMv (ots : List OT) (c : Cn) : List E → List Expr → (Nat → OT) → Option (List Nat)
  | [], as, ft => if as.isEmpty then some [] else none
  | e :: es, as, ft => match as with
    | [] => none
    | a :: r => match chkMv ots c es r (fun i => ft (i + 1)) with
      | none => none
      | some ms => match e with
        | .slot i => if !(otf ots i).isFr && (otf ots i).same (ft 0) && !ms.contains i && onName a (fun x => c.vis i x) then some (i :: ms) else if noStar a && chk (otf ots) e c false a (ft 0) false then some ms else none
        | _ => if noStar a && chk (otf ots) e c false a (ft 0) false then some ms else none
def mvIn (ots : List OT) (c : Cn) (e : E) (a : Expr) (t : OT) : Option (List Nat) :=
  if noStar a && chk (otf ots) e c false a t false then some [] else match e with
  | .slot i => if (otf ots i).same t && onName a (fun x => c.vis i x) then some [i] else none
  | .tup es => match a with
    | .Tuple as _ _ => if decide (es.length ≤ 1000) then chkMv ots c es as t.comps else none
    | _ => none
  | _ => none
def chkMvN (ots : List OT) (c : Cn) : List E → List Expr → (Nat → OT) → Option (List Nat)
  | [], as, ft => if as.isEmpty then some [] else none
  | e :: es, as, ft => match as with
    | [] => none
    | a :: r => match chkMvN ots c es r (fun i => ft (i + 1)) with
      | none => none
      | some ms => match mvIn ots c e a (ft 0) with
        | none => none
        | some m1 => if m1.all (fun i => !ms.contains i) then some (m1 ++ ms) else none
def retTupN (ots : List OT) (c : Cn) (res : OT) (e : E) (a : Expr) : Bool := match e with | .tup es => onTup a fun as => decide (es.length ≤ 1000) && (chkMvN ots c es as res.comps).isSome | _ => false
def retTup (ots : List OT) (c : Cn) (res : OT) (e : E) (a : Expr) : Bool := match e with | .tup es => onTup a fun as => decide (es.length ≤ 1000) && (chkMv ots c es as res.comps).isSome | _ => false
def retLst (ots : List OT) (c : Cn) (res : OT) (e : E) (a : Expr) : Bool := match e, res with | .lst es, .ow u => onLst a fun as => decide (es.length ≤ 1000) && (chkMv ots c es as (fun _ => u)).isSome | _, _ => false
def Cn.notio (c : Cn) (i : Nat) : Bool := match c.lio with | none => true | some (l, _) => l != i
def Cn.nio (c : Cn) (i : Nat) (t : OT) : Bool := t.isFr || c.notio i
def Cn.lioAt (c : Cn) (ots : List OT) : Bool := match c.lio with | none => true | some (i, t) => (otf ots i).same t && !t.isFr
def isPop0 (m : Mt) : Bool := match m with | .pop0 => true | _ => false
mutual
def chkS (res : OT) (c : Cn) : S → List OT → Stmt → Option Flo
  | .pass, ots, st => none
  | .asg i t e, ots, st => iffB (onAsg st fun x pp a p => c.nio i t && c.loc i x && decide (i < ots.length) && chk (otf ots) e c false a t false && (noSw c x a || (isCompE e && lcLine c x pp p a))) (some (ots.set i t))
  | .asgF i t e, ots, st => iffB (onAsg st fun x pp a p => c.nio i t && c.loc i x && decide (i < ots.length) && ((chk (otf ots) e c false a t true && noComp a) || (isValC e && lcLine c x pp p a && chk frs0 e c false a t false))) (some (ots.set i t))
  | .asgT is e, ots, st => iffB (onAsgT st fun es a => tgAll c (otf ots) is es && noComp a && noTup a && chk (otf ots) e c false a .fr false) (some ots)
  | .asgO is ts e, ots, st => none
  | .inc i e, ots, st => none
  | .app i e, ots, st => iffB (onApp st fun x a => c.loc i x && isOw (otf ots i) && noStar a && chk (otf ots) e c false a (owOf (otf ots i)) false) (some ots)
  | .iff p a b, ots, st => onIf st fun pa aa ba => if chk (otf ots) p c true pa .fr true || chk frs0 p c true pa .fr true then bindF (chkSs res c a ots aa) fun f1 => bindF (chkSs res c b ots ba) fun f2 => joinF f1 f2 else none
  | .whl p b, ots, st => none
  | .frh tt tg fl k its b, ots, st => onFor st fun ta ia ba => if noSet ia && tgOk c (otf ots) tt tg ta && onIt c k ta ia (fun as => chkL (otf ots) its c as frs0 (itAl k false)) then loopF (chkSs res c b ots ba) ots else none
  | .frd tt tg k e b, ots, st => none
  | .ret e, ots, st => iffB (onRet st fun a => (c.lio.isNone && res.isFr && chk frs0 e c false a .fr false) || (c.lioAt ots && isSlot e (fun i => c.notio i && (otf ots i).same res && onName a fun x => c.vis i x)) || (c.lioAt ots && chk (otf ots) e c false a res false) || (c.lio.isNone && retTup ots c res e a) || (c.lio.isNone && retLst ots c res e a) || (c.lio.isNone && retTupN ots c res e a)) none
  | .retN, ots, st => none
  | .put i path k v, ots, st => iffB (onPut st fun x ke e => path.isEmpty && c.vis i x && (otf ots i).same (.ow .fr) && chk (otf ots) k c false ke .fr true && chk (otf ots) v c false e .fr false) (some ots)
  | .putF i t path k v, ots, st => iffB (onPutL st fun pe ke e => chkP (otf ots) c i path.reverse pe && onOw (unO path.length (otf ots i)) (fun u => u.same t) && chk (otf ots) k c false ke .fr true && chk (otf ots) v c false e t true) (some ots)
  | .lstMv i j, ots, st => iffB (onAsg st fun x pp a p => c.notio i && c.loc i x && decide (i < ots.length) && decide (j < ots.length) && decide (i ≠ j) && isOw (otf ots j) && onList1 a fun nm y => isBuiltin c nm "list" && c.vis j y) (some ((ots.set j .fr).set i (otf ots j)))
  | .putL i path k v, ots, st => iffB (onPutL st fun pe ke e => chkP (otf ots) c i path.reverse pe && onOw (unO path.length (otf ots i)) (fun t => t.isFr) && chk (otf ots) k c false ke .fr true && chk (otf ots) v c false e .fr false) (some ots)
  | .putP i path k v, ots, st => none
  | .mut i path m args, ots, st => iffB (onMut st m fun pe es => (mutOk m || isPop0 m) && chkP (otf ots) c i path.reverse pe && onOw (unO path.length (otf ots i)) fun t => chkL (otf ots) args c es (argO t m) false) (some ots)
  | .pop j i path args, ots, st => none
  | .setd i k v, ots, st => none
  | .dapp i k v, ots, st => none
  | .swp i a b, ots, st => none
  | .asgD i j es ks, ots, st => none
  | .asgC i ts f es, ots, st => none
  | .asgCO i t ts f es, ots, st => none
  | .clrW i x, ots, st => none
  | .drop e, ots, st => none
  | .raise k es, ots, st => none
  | .raiseF k ts es, ots, st => none
  | .tryX b hs, ots, st => none
  | .callM f es i, ots, st => none
  | .callP j k f es i, ots, st => none
  | .tryB b ks q j v, ots, st => none
  | .tryO b hs ks, ots, st => none
  | _, _, _ => none
def chkSs (res : OT) (c : Cn) : List S → List OT → List Stmt → Option Flo
  | [], ots, sts => iffB sts.isEmpty (some ots)
  | s :: ss, ots, sts => if isStop s then some none else onFrz s (fun i => if i < ots.length then chkSs res c ss (ots.set i .fr) sts else none) (onConsS sts fun st r => contF (chkS res c s ots st) (fun l => chkSs res c ss l r) (ss.isEmpty && r.isEmpty))
end
theorem otf_set {l : List OT} {i : Nat} {t : OT} (h : i < l.length) : otf (l.set i t) = otSet (otf l) i t := by
  funext j
  unfold otf otSet
  rw [List.getD_eq_getElem?_getD, List.getElem?_set]
  by_cases e : i = j
  · subst e; simp [h]
  · rw [if_neg e, if_neg (Ne.symm e)]
    exact (List.getD_eq_getElem?_getD ..).symm
theorem isOw_eq {t : OT} (h : isOw t = true) : t = .ow (owOf t) := by
  cases t <;> first | rfl | cases h
theorem iffB_of {b : Bool} {x y : Flo} (h : iffB b x = some y) : b = true ∧ x = y := by
  unfold iffB at h
  split at h
  · rename_i e; exact ⟨e, Option.some.inj h⟩
  · cases h
section
variable {fm : Fm} {sub : Sub} {G : Gam} {k : Nat} {X : Cx} {Wi : WX} {c : Cn} {res : OT}
theorem comp_parts {ot : Nat → OT} {fl tt : Bool} {tg : List Nat} {kk : ItK} {its : List E} {elt : E} {cs : List E} {m : Bool} {a : Expr} {t : OT} {al : Bool} (g : Good X fm sub G k Wi c) (h : chk ot (.comp fl tg tt kk its elt cs) c m a t al = true) :
    ∃ ea ta ia fa scope pos, a = .ListComp ea [⟨ta, ia, fa, 0⟩] scope pos ∧ BlkOk X.N X.env.scope scope (ownOf c tg) ∧ (ownOf c tg).map (·.2) = tg ∧ noSet ia = true ∧
      ((PI X ta ia (tI (fm.w ot) Wi fl fun ρ => evs sub G its ρ >>= itD kk) ∧
      (∀ (s : Shared) (H : Hp) (C : Addr) (cl : List (Str × Addr)) (fp : List Addr), PG (X.blk s H scope (compEnvC scope cl C X.env) fp) ta (tG (fm.w ot) tg (bindTg tt tg))) ∧
      (∀ (s : Shared) (H : Hp) (C : Addr) (cl : List (Str × Addr)) (fp : List Addr), PTs (X.blk s H scope (compEnvC scope cl C X.env) fp) fa (tTT (fm.w ot) W0 (evc sub G cs))) ∧
      (∀ (s : Shared) (H : Hp) (C : Addr) (cl : List (Str × Addr)) (fp : List Addr), PE (X.blk s H scope (compEnvC scope cl C X.env) fp) ea (tE (fm.w ot) W0 false t.elem (ev sub G elt)))) ∨
      ∃ Jd e, fl = false ∧ its = [e] ∧ DWalk kk Jd ∧ PI X ta ia (iDG X Jd (tE (fm.w ot) Wi false .fr (ev sub G e))) ∧
      (∀ (x : Addr × HO) (s : Shared) (H : Hp) (C : Addr) (cl : List (Str × Addr)) (fp : List Addr), PG (X.blk s H scope (compEnvC scope cl C X.env) fp) ta (tG ((fm.w ot).lk x.1 x.2) tg (bindTg tt tg))) ∧
      (∀ (x : Addr × HO) (s : Shared) (H : Hp) (C : Addr) (cl : List (Str × Addr)) (fp : List Addr), PTs (X.blk s H scope (compEnvC scope cl C X.env) fp) fa (tTT ((fm.w ot).lk x.1 x.2) W0 (evc sub G cs))) ∧
      (∀ (x : Addr × HO) (s : Shared) (H : Hp) (C : Addr) (cl : List (Str × Addr)) (fp : List Addr), PE (X.blk s H scope (compEnvC scope cl C X.env) fp) ea (tE ((fm.w ot).lk x.1 x.2) W0 false t.elem (ev sub G elt)))) := by
  rw [chk, Bool.and_eq_true] at h
  obtain ⟨h1, h3⟩ := h
  unfold onComp at h3
  split at h3
  · rename_i ea ta ia fa scope pos
    simp only [Bool.and_eq_true, decide_eq_true_eq] at h3
    obtain ⟨⟨⟨⟨⟨⟨h4, h5⟩, h6⟩, h10⟩, h7⟩, h8⟩, h9⟩ := h3
    have bok : BlkOk X.N X.env.scope scope (ownOf c tg) := by
      rw [g.N, g.sc]; exact blkOk_by h4
    have how : (ownOf c tg).map (·.2) = tg := by
      unfold ownOf
      rw [List.map_map]
      have : ((fun x => x.2) ∘ fun i => (c.N.getD i "", i)) = (id : Nat → Nat) := rfl
      rw [this, List.map_id]
    refine ⟨ea, ta, ia, fa, scope, pos, rfl, bok, how, h5, ?_⟩
    rcases (Bool.or_eq_true _ _).mp h9 with h9 | h9
    · exact .inl ⟨it_ok (al := fl) g (fun as z => chkL_ok its X Wi c _ _ _ g z) h9, fun s H C cl fp => tgOk_ok (g.blk scope s H C cl fp) h6, fun s H C cl fp => chkC_ok cs _ W0 (inner c scope) fa (g.blk scope s H C cl fp) h10 h8,
        fun s H C cl fp => (chk_ok elt _ W0 (inner c scope) _ _ _ _ (g.blk scope s H C cl fp) h7).pe⟩
    · simp only [Bool.and_eq_true, Bool.not_eq_true'] at h9
      obtain ⟨e1, h11⟩ := h9
      obtain ⟨Jd, e0, e2, w, hi⟩ := itD_ok (fun as z => chkL_ok its X Wi c _ _ _ g z) h11
      exact .inr ⟨Jd, e0, e1, e2, w, hi, fun x s H C cl fp => tgOk_ok ((g.blk scope s H C cl fp).lk x.1 x.2) h6,
        fun x s H C cl fp => chkC_ok cs _ W0 (inner c scope) fa ((g.blk scope s H C cl fp).lk x.1 x.2) h10 h8, fun x s H C cl fp => (chk_ok elt _ W0 (inner c scope) _ _ _ _ ((g.blk scope s H C cl fp).lk x.1 x.2) h7).pe⟩
  · cases h3
def ResS (X : Cx) (fm : Fm) (sub : Sub) (G : Gam) (Wi : WX) (res : OT) (ots : List OT) (fl : Flo) (st : Stmt) (s : S) : Prop :=
  ∀ ot', (fl = none ∨ ∃ l, fl = some l ∧ ot' = otf l) → PS X st (tB fm Wi res (otf ots) ot' (run sub G s))
def ResSs (X : Cx) (fm : Fm) (sub : Sub) (G : Gam) (Wi : WX) (res : OT) (ots : List OT) (fl : Flo) (sts : List Stmt) (ss : List S) : Prop :=
  ∀ ot', (fl = none ∨ ∃ l, fl = some l ∧ ot' = otf l) → PSs X sts (tB fm Wi res (otf ots) ot' (runs sub G ss))
theorem ps_eq {st : Stmt} {ot ot' : Nat → OT} {f f' : Rho → Out} (h : ∀ ρ, f' ρ = f ρ) (p : PS X st (tB fm Wi res ot ot' f)) : PS X st (tB fm Wi res ot ot' f') := by
  have e : f' = f := funext h
  rw [e]; exact p
theorem pss_eq {st : List Stmt} {ot ot' : Nat → OT} {f f' : Rho → Out} (h : ∀ ρ, f' ρ = f ρ) (p : PSs X st (tB fm Wi res ot ot' f)) : PSs X st (tB fm Wi res ot ot' f') := by
  have e : f' = f := funext h
  rw [e]; exact p
theorem ResS.one {ots l : List OT} {st : Stmt} {s : S} (p : PS X st (tB fm Wi res (otf ots) (otf l) (run sub G s))) : ResS X fm sub G Wi res ots (some l) st s := fun ot' h => by
  rcases h with h | ⟨l', h, rfl⟩
  · cases h
  · injection h with h
    subst h
    exact p
theorem onRet_of {st : Stmt} {f : Expr → Bool} (h : onRet st f = true) : ∃ e p, st = .Return (some e) p ∧ f e = true := by
  unfold onRet at h
  split at h
  · exact ⟨_, _, rfl, h⟩
  · cases h
theorem Good.notio (g : Good X fm sub G k Wi c) {i : Nat} (h : c.notio i = true) : ∀ a u, fm.io ≠ some (i, a, u) := fun a u e => by
  have := g.io i a u e
  unfold Cn.notio at h
  rw [this] at h
  simp at h
theorem Good.nio (g : Good X fm sub G k Wi c) {i : Nat} {t : OT} (h : c.nio i t = true) : NioS fm i t := by
  unfold Cn.nio at h
  rcases (Bool.or_eq_true _ _).mp h with h | h
  · exact .inl (OT.isFr_eq h)
  · exact .inr (g.notio h)
theorem Good.noio (g : Good X fm sub G k Wi c) (h : c.lio.isNone = true) : fm.io = none := by
  cases e : fm.io with
  | none => rfl
  | some q =>
    obtain ⟨i, a, t⟩ := q
    have := g.io i a t e
    rw [this] at h
    cases h
theorem Good.iot (g : Good X fm sub G k Wi c) {ots : List OT} (h : c.lioAt ots = true) : IoT fm (otf ots) := fun i a t e => by
  have := g.io i a t e
  unfold Cn.lioAt at h
  rw [this] at h
  simp only [Bool.and_eq_true, Bool.not_eq_true'] at h
  exact ⟨OT.same_eq _ _ h.1, fun z => by rw [z] at h; cases h.2⟩
theorem asg_ok {i : Nat} {t : OT} {e : E} {ots : List OT} {st : Stmt} (g : Good X fm sub G k Wi c) (h : (onAsg st fun x pp a p => c.nio i t && c.loc i x && decide (i < ots.length) && chk (otf ots) e c false a t false && (noSw c x a || (isCompE e && lcLine c x pp p a))) = true) :
    PS X st (tB fm Wi res (otf ots) (otf (ots.set i t)) (run sub G (.asg i t e))) := by
  unfold onAsg at h
  split at h
  · rename_i x pp a p
    simp only [Bool.and_eq_true, decide_eq_true_eq, Bool.or_eq_true] at h
    obtain ⟨⟨⟨⟨h0, h1⟩, h2⟩, h3⟩, h4⟩ := h
    have hio := g.nio h0
    obtain ⟨nm, hd, hcd⟩ := g.loc h1
    rw [otf_set h2]
    rcases h4 with h4 | h4
    · unfold noSw at h4
      rcases Bool.or_eq_true _ _ ▸ h4 with h4 | h4
      · exact ps_eq (fun ρ => by rw [run]) (d_set g.nd nm (chk_ok e X Wi c _ _ _ _ g h3).pe h4 hio)
      · split at h4
        · rw [decide_eq_true_eq] at h4
          refine ps_eq (fun ρ => by rw [run]) (d_setS g.nd nm (chk_ok e X Wi c _ _ _ _ g h3).pe ?_ hio)
          have hk : X.env.kindOf x = some .cell := by
            unfold Env.kindOf
            rw [g.sc]; exact h4
          unfold swapsWith
          dsimp only
          rw [hk, show (some NameKind.cell == some NameKind.local) = false from rfl, Bool.and_false, Bool.false_and, Bool.false_and]
        · cases h4
    · obtain ⟨h5, h4⟩ := h4
      unfold lcLine at h4
      split at h4
      · rename_i e1 e2 scope lp
        simp only [Bool.and_eq_true, decide_eq_true_eq, Bool.not_eq_true'] at h4
        obtain ⟨⟨⟨k1, k2⟩, k3⟩, k4⟩ := h4
        cases e with
        | comp fl tg tt kk its elt cs =>
          obtain ⟨ea, ta, ia, fa, scope', pos, ea1, bok, how, hs, hor⟩ := comp_parts g h3
          injection ea1 with z1 z2 z3 z4
          subst z1 z2 z3 z4
          rcases hor with ⟨hi, hg, hts, he⟩ | ⟨Jd, e0, e1, e2, w, hi, hg, hts, he⟩
          · refine ps_eq (fun ρ => ?_) (d_setLc (fm := fm) (al1 := fl) (fl := fl) g.calm g.nd nm.ix (by rw [g.sc]; exact k2) (sw_true (by rw [g.sc]; exact k1) (by rw [g.sc]; exact k2) k3 k4) hi bok how hg hts he id hs hio)
            rw [run, ev]
            cases evs sub G its ρ <;> rfl
          · subst e1 e2
            refine ps_eq (fun ρ => ?_) (d_setLcD (fm := fm) (fl := false) w g.calm g.nd nm.ix (by rw [g.sc]; exact k2) (sw_true (by rw [g.sc]; exact k1) (by rw [g.sc]; exact k2) k3 k4) hi bok how hg hts he hs hio)
            rw [run, ev, evs_one]
            cases ev sub G e0 ρ <;> rfl
        | _ => cases h5
      · cases h4
  · cases h
theorem asgFR_ok {i : Nat} {t : OT} {e : E} {ots : List OT} {x : Str} {pp p : Pos} {a : Expr} (g : Good X fm sub G k Wi c) (h0 : c.nio i t = true) (nm : Nm X i x) (h5 : isValC e = true) (h4 : lcLine c x pp p a = true) (h3 : chk frs0 e c false a t false = true) :
    PS X (.Assign [.Name x pp] a p) (tB fm Wi res (otf ots) (otSet (otf ots) i t) (run sub G (.asgF i t e))) := by
  have hio := g.nio h0
  unfold lcLine at h4
  split at h4
  · rename_i e1 e2 scope lp
    simp only [Bool.and_eq_true, decide_eq_true_eq, Bool.not_eq_true'] at h4
    obtain ⟨⟨⟨k1, k2⟩, k3⟩, k4⟩ := h4
    cases e with
    | comp fl tg tt kk its elt cs =>
      obtain ⟨ea, ta, ia, fa, scope', pos, ea1, bok, how, hs, hor⟩ := comp_parts g h3
      injection ea1 with z1 z2 z3 z4
      subst z1 z2 z3 z4
      rcases hor with ⟨hi, hg, hts, he⟩ | ⟨Jd, e0, e1, e2, w, hi, hg, hts, he⟩
      · refine ps_eq (fun ρ => ?_) (d_setLcR (fm := fm) (al1 := fl) (fl := fl) g.calm g.nd nm.ix (by rw [g.sc]; exact k2) (sw_true (by rw [g.sc]; exact k1) (by rw [g.sc]; exact k2) k3 k4) hi bok how hg hts he id hs hio)
        rw [run, ev]
        cases evs sub G its ρ <;> rfl
      · exfalso
        cases kk with
        | val => rcases w.only (.tup []) with ⟨b, es, z⟩ | z <;> cases z
        | _ => cases h5
    | _ => cases h5
  · cases h4
theorem iff_pt {ots : List OT} {p : E} {pa : Expr} (g : Good X fm sub G k Wi c) (h : (chk (otf ots) p c true pa .fr true || chk frs0 p c true pa .fr true) = true) : PT X pa (tTT (fm.w (otf ots)) Wi fun ρ => ev sub G p ρ >>= isTrueD) := by
  rcases Bool.or_eq_true _ _ ▸ h with h | h
  · exact (chk_ok p X Wi c _ _ _ _ g h).pt
  · exact pt_lend (chk_ok p X Wi c _ _ _ _ g h).pt
theorem tgAll_w {ot : Nat → OT} (g : Good X fm sub G k Wi c) {is : List Nat} {es : List Expr} (h : tgAll c ot is es = true) : TgL X (fm.w ot) is es := tgAll_ok g h
theorem dS_stop {sts : List Stmt} {ot ot' : Nat → OT} : PSs X sts (tB fm Wi res ot ot' fun _ => .stk) := ⟨fun pins s σ H En I ⟨ρ, fps, er, h⟩ => h.elim⟩
theorem evs_snoc {k : E} {ρ : Rho} : ∀ {p : List E}, evs sub G (p ++ [k]) ρ = (do let ps ← evs sub G p ρ; let x ← ev sub G k ρ; R.ok (ps ++ [x]))
  | [] => by
    show evs sub G [k] ρ = _
    rw [evs, evs, evs]
    cases ev sub G k ρ <;> rfl
  | e :: es => by
    show evs sub G (e :: (es ++ [k])) ρ = _
    rw [evs, evs, evs_snoc]
    cases ev sub G e ρ with
    | ok x =>
      cases evs sub G es ρ with
      | ok xs => cases ev sub G k ρ <;> rfl
      | exn c p => rfl
      | stk => rfl
    | exn c p => rfl
    | stk => rfl
theorem pureL_all : ∀ {es : List E}, (∀ e ∈ es, pureE e = true) → pureL es = true
  | [], _ => rfl
  | e :: es, h => by
    simp only [pureL, Bool.and_eq_true]
    exact ⟨h e List.mem_cons_self, pureL_all fun x hx => h x (List.mem_cons_of_mem _ hx)⟩
theorem path_ok {ot : Nat → OT} {i : Nat} (g : Good X fm sub G k Wi c) : ∀ {r : List E} {a : Expr}, chkP ot c i r a = true → PE X a (tP (fm.w ot) i (evs sub G r.reverse)) ∧ ∀ e ∈ r, pureE e = true
  | [], a, h => by
    unfold chkP onName at h
    split at h
    · obtain ⟨q1, q2, q3, q4⟩ := g.vis h
      have e : evs sub G ([] : List E).reverse = fun _ => .ok [] := funext fun ρ => by rw [List.reverse_nil, evs]
      rw [e]
      exact ⟨dp_name (fm := fm.w ot) q1 q2 q3 q4, fun e h => nomatch h⟩
    · cases h
  | x :: r, a, h => by
    unfold chkP onIdx at h
    split at h
    · simp only [Bool.and_eq_true] at h
      obtain ⟨h0, ⟨h1, h2⟩, h3⟩ := h
      obtain ⟨q1, q2⟩ := path_ok g h1
      have e : evs sub G (x :: r).reverse = fun ρ => (do let ps ← evs sub G r.reverse ρ; let y ← ev sub G x ρ; R.ok (ps ++ [y])) := funext fun ρ => by rw [List.reverse_cons, evs_snoc]
      rw [e]
      exact ⟨dp_idx (fm := fm.w ot) g.K h0 q1 (chk_ok x X Wi c _ _ _ _ g h2).pe, fun e he => by
        rcases List.mem_cons.mp he with rfl | he
        · exact h3
        · exact q2 e he⟩
    · cases h
theorem mv_ok {ots : List OT} (g : Good X fm sub G k Wi c) : ∀ {es : List E} {as : List Expr} {ft : Nat → OT} {ms : List Nat}, chkMv ots c es as ft = some ms → PA X as (tLM (fm.w (otf ots)) Wi ms ft (evs sub G es))
  | [], as, ft, ms, h => by
    unfold chkMv at h
    split at h
    · rename_i h1
      injection h with h
      subst h
      cases as with
      | nil =>
        have e : evs sub G ([] : List E) = fun _ => .ok [] := funext fun ρ => by rw [evs]
        rw [e]
        exact dm_nil
      | cons a r => cases h1
    · cases h
  | e :: es, as, ft, ms, h => by
    unfold chkMv at h
    cases as with
    | nil => cases h
    | cons a r =>
      dsimp only at h
      cases hm : chkMv ots c es r (fun i => ft (i + 1)) with
      | none => rw [hm] at h; cases h
      | some m0 =>
        rw [hm] at h
        dsimp only at h
        have ih := mv_ok g hm
        have ev1 : evs sub G (e :: es) = fun ρ => (do let x ← ev sub G e ρ; let xs ← evs sub G es ρ; pure (x :: xs)) := funext fun ρ => by rw [evs]
        have fresh : (if noStar a && chk (otf ots) e c false a (ft 0) false then some m0 else none) = some ms → PA X (a :: r) (tLM (fm.w (otf ots)) Wi ms ft (evs sub G (e :: es))) := fun h => by
          split at h
          · rename_i h1
            simp only [Bool.and_eq_true] at h1
            injection h with h
            subst h
            rw [ev1]
            exact dm_cons (chk_ok e X Wi c _ _ _ _ g h1.2).pe ih h1.1
          · cases h
        split at h
        · rename_i i
          split at h
          · rename_i h1
            simp only [Bool.and_eq_true, Bool.not_eq_true'] at h1
            obtain ⟨⟨⟨h1, h2⟩, h3⟩, h4⟩ := h1
            injection h with h
            subst h
            rw [ev1]
            unfold onName at h4
            split at h4
            · obtain ⟨q1, q2, q3, q4⟩ := g.vis h4
              have e2 : (fun ρ => (do let x ← ev sub G (.slot i) ρ; let xs ← evs sub G es ρ; pure (x :: xs))) = fun ρ => (do let x ← ρ.get i; let xs ← evs sub G es ρ; (pure (x :: xs) : R (List D))) := funext fun ρ => by rw [ev]
              rw [e2]
              exact dm_mv q1 q2 q3 q4 (OT.same_eq _ _ h2) (fun z => by rw [List.contains_iff_mem.mpr z] at h3; cases h3) ih
            · cases h4
          · exact fresh h
        · exact fresh h
theorem mvIn_ok {ots : List OT} (g : Good X fm sub G k Wi c) {e : E} {a : Expr} {t : OT} {ms : List Nat} (h : mvIn ots c e a t = some ms) : noStar a = true ∧ PE X a (tEM (fm.w (otf ots)) Wi ms t (ev sub G e)) := by
  unfold mvIn at h
  split at h
  · rename_i h1
    simp only [Bool.and_eq_true] at h1
    injection h with h
    subst h
    exact ⟨h1.1, tEM_of (chk_ok e X Wi c _ _ _ _ g h1.2).pe⟩
  · split at h
    · rename_i i _
      split at h
      · rename_i h1
        simp only [Bool.and_eq_true] at h1
        injection h with h
        subst h
        obtain ⟨h2, h4⟩ := h1
        unfold onName at h4
        split at h4
        · obtain ⟨q1, q2, q3, q4⟩ := g.vis h4
          have e2 : ev sub G (.slot i) = fun ρ => ρ.get i := funext fun ρ => by rw [ev]
          rw [e2]
          exact ⟨rfl, dm_slot q1 q2 q3 q4 (OT.same_eq _ _ h2)⟩
        · cases h4
      · cases h
    · rename_i es _
      split at h
      · split at h
        · rename_i h1
          have h1 := of_decide_eq_true h1
          have e2 : ev sub G (.tup es) = fun ρ => (do let xs ← evs sub G es ρ; pure (D.tup xs)) := funext fun ρ => by rw [ev]
          rw [e2]
          exact ⟨rfl, dm_tup (mv_ok g h) fun ρ ds e => by rw [evs_len e]; exact h1⟩
        · cases h
      · cases h
    · cases h
theorem mvN_ok {ots : List OT} (g : Good X fm sub G k Wi c) : ∀ {es : List E} {as : List Expr} {ft : Nat → OT} {ms : List Nat}, chkMvN ots c es as ft = some ms → PA X as (tLM (fm.w (otf ots)) Wi ms ft (evs sub G es))
  | [], as, ft, ms, h => by
    unfold chkMvN at h
    split at h
    · rename_i h1
      injection h with h
      subst h
      cases as with
      | nil =>
        have e : evs sub G ([] : List E) = fun _ => .ok [] := funext fun ρ => by rw [evs]
        rw [e]
        exact dm_nil
      | cons a r => cases h1
    · cases h
  | e :: es, as, ft, ms, h => by
    unfold chkMvN at h
    cases as with
    | nil => cases h
    | cons a r =>
      dsimp only at h
      cases hm : chkMvN ots c es r (fun i => ft (i + 1)) with
      | none => rw [hm] at h; cases h
      | some m0 =>
        rw [hm] at h
        dsimp only at h
        cases h1 : mvIn ots c e a (ft 0) with
        | none => rw [h1] at h; cases h
        | some m1 =>
          rw [h1] at h
          dsimp only at h
          split at h
          · rename_i hd
            injection h with h
            subst h
            obtain ⟨q1, q2⟩ := mvIn_ok g h1
            have ev1 : evs sub G (e :: es) = fun ρ => (do let x ← ev sub G e ρ; let xs ← evs sub G es ρ; pure (x :: xs)) := funext fun ρ => by rw [evs]
            rw [ev1]
            exact dm_consM q2 (mvN_ok g hm) q1 fun i hi z => by
              have := List.all_eq_true.mp hd i hi
              rw [List.contains_iff_mem.mpr z] at this
              cases this
          · cases h
structure OwnS (X : Cx) (fm : Fm) (Wi : WX) : Prop where
  own : PassesOwn (model X.prog X.w) X.A X.env X.xe
  tk : Takes X Wi
  ex : X.ex = []
  st : X.stack = X.env :: X.outer
  fr : X.env.frame = some X.env.locals
  ca : fm.ca = caK X.K
theorem OwnS.lk {X : Cx} {fm : Fm} {Wi : WX} (o : OwnS X fm Wi) (a : Addr) (u : HO) : OwnS X (fm.lk a u) Wi := ⟨o.own, o.tk, o.ex, o.st, o.fr, o.ca⟩
mutual
theorem chkS_ok {fm : Fm} {X : Cx} {Wi : WX} (g : Good X fm sub G k Wi c) (own : OwnS X fm Wi) : ∀ (s : S) (ots : List OT) (st : Stmt) (fl : Flo), chkS res c s ots st = some fl → ResS X fm sub G Wi res ots fl st s
  | .pass, ots, st, fl, h => by
    rw [chkS] at h
    cases h
  | .asg i t e, ots, st, fl, h => by
    rw [chkS] at h
    obtain ⟨hh, ee⟩ := iffB_of h
    clear h
    subst ee
    have h := hh
    clear hh
    exact ResS.one (asg_ok g h)
  | .asgF i t e, ots, st, fl, h => by
    rw [chkS] at h
    obtain ⟨hh, ee⟩ := iffB_of h
    clear h
    subst ee
    have h := hh
    clear hh
    unfold onAsg at h
    split at h
    · simp only [Bool.and_eq_true, decide_eq_true_eq, Bool.or_eq_true] at h
      obtain ⟨⟨⟨h0, h1⟩, h2⟩, h3⟩ := h
      obtain ⟨nm, hd, hcd⟩ := g.loc h1
      refine ResS.one ?_
      rw [otf_set h2]
      rcases h3 with ⟨h3, h4⟩ | ⟨⟨h5, h4⟩, h3⟩
      · exact ps_eq (fun ρ => by rw [run]) (d_setF g.nd nm (chk_ok e X Wi c _ _ _ _ g h3).pe h4 (g.nio h0))
      · exact asgFR_ok g h0 nm h5 h4 h3
    · cases h
  | .asgT is e, ots, st, fl, h => by
    rw [chkS] at h
    obtain ⟨hh, ee⟩ := iffB_of h
    clear h
    subst ee
    have h := hh
    clear hh
    unfold onAsgT at h
    split at h
    · simp only [Bool.and_eq_true] at h
      obtain ⟨⟨⟨h1, h2⟩, h3⟩, h4⟩ := h
      exact ResS.one (ps_eq (fun ρ => by rw [run] <;> rfl) (d_asgT (fm := fm) g.K g.nd g.calm (tgAll_w g h1) (chk_ok e X Wi c _ _ _ _ g h4).pe h2 h3))
    · cases h
  | .asgO is ts e, ots, st, fl, h => by
    rw [chkS] at h
    cases h
  | .inc i e, ots, st, fl, h => by
    rw [chkS] at h
    cases h
  | .app i e, ots, st, fl, h => by
    rw [chkS] at h
    obtain ⟨hh, ee⟩ := iffB_of h
    clear h
    subst ee
    have h := hh
    clear hh
    unfold onApp at h
    split at h
    · simp only [Bool.and_eq_true, decide_eq_true_eq] at h
      obtain ⟨⟨rfl, h0⟩, ⟨⟨h1, h2⟩, h3⟩, h4⟩ := h
      obtain ⟨nm, hd, hcd⟩ := g.loc h1
      exact ResS.one (ps_eq (fun ρ => by rw [run] <;> rfl) (d_append (fm := fm) g.K nm hd hcd (isOw_eq h2) (chk_ok e X Wi c _ _ _ _ g h4).pe h3 h0))
    · cases h
  | .iff p a b, ots, st, fl, h => by
    rw [chkS] at h
    unfold onIf at h
    split at h
    · dsimp only at h
      split at h
      · rename_i h1
        have q := iff_pt (ots := ots) g h1
        rename_i ca aa ba _
        cases ha : chkSs res c a ots aa with
        | none => rw [ha] at h; cases h
        | some f1 =>
          rw [ha] at h
          cases hb : chkSs res c b ots ba with
          | none =>
            have h : bindF (chkSs res c b ots ba) (fun f2 => joinF f1 f2) = some fl := h
            rw [hb] at h; cases h
          | some f2 =>
            have h : bindF (chkSs res c b ots ba) (fun f2 => joinF f1 f2) = some fl := h
            rw [hb] at h
            have h : joinF f1 f2 = some fl := h
            have r1 := chkSs_ok g own a ots aa f1 ha
            have r2 := chkSs_ok g own b ots ba f2 hb
            intro ot' hot
            refine ps_eq (fun ρ => by rw [run]) (d_if q (r1 ot' ?_) (r2 ot' ?_))
            · unfold joinF at h
              split at h
              · exact .inl rfl
              · injection h with h; subst h; exact hot
              · split at h
                · injection h with h; subst h; exact hot
                · cases h
            · unfold joinF at h
              split at h
              · injection h with h; subst h; exact hot
              · exact .inl rfl
              · split at h
                · rename_i e
                  have e := OT.sameL_eq _ _ e
                  injection h with h
                  rw [← h] at hot
                  rw [← e]
                  exact hot
                · cases h
      · cases h
    · cases h
  | .whl p b, ots, st, fl, h => by
    rw [chkS] at h
    cases h
  | .frh tt tg fl' kk its b, ots, st, fl, h => by
    rw [chkS] at h
    unfold onFor at h
    split at h
    · dsimp only at h
      split at h
      · rename_i h1
        simp only [Bool.and_eq_true] at h1
        obtain ⟨⟨h1, h2⟩, h3⟩ := h1
        rename_i ta ia ba _
        have hi := it_ok (al := false) (ot := otf ots) (its := its) g (fun as z => chkL_ok its X Wi c _ _ _ g z) h3
        have hg := tgOk_ok g h2
        cases hb : chkSs res c b ots ba with
        | none => rw [hb] at h; cases h
        | some f2 =>
          rw [hb] at h
          have r2 := chkSs_ok g own b ots ba f2 hb
          have key : fl = some ots ∧ (f2 = none ∨ f2 = some ots) := by
            unfold loopF at h
            split at h
            · cases h
            · rename_i e; injection e with e; injection h with h; exact ⟨h.symm, .inl e⟩
            · rename_i e
              injection e with e
              split at h
              · rename_i e2
                have e2 := OT.sameL_eq _ _ e2
                injection h with h
                exact ⟨h.symm, .inr (by rw [e, e2])⟩
              · cases h
          obtain ⟨rfl, k2⟩ := key
          refine ResS.one (ps_eq (fun ρ => ?_) (d_for (fl := fl') own.own g.calm hi hg (r2 _ ?_) h1))
          · rw [run]
            cases evs sub G its ρ <;> rfl
          · rcases k2 with k2 | k2
            · exact .inl k2
            · exact .inr ⟨ots, k2, rfl⟩
      · cases h
    · cases h
  | .frd tt tg kk e b, ots, st, fl, h => by
    rw [chkS] at h
    cases h
  | .ret e, ots, st, fl, h => by
    rw [chkS] at h
    obtain ⟨hh, ee⟩ := iffB_of h
    clear h
    subst ee
    have h := hh
    clear hh
    obtain ⟨a, p, ee, hh⟩ := onRet_of h
    clear h
    subst ee
    have h := hh
    clear hh
    intro ot' _
    simp only [Bool.or_eq_true, Bool.and_eq_true] at h
    rcases h with ((((⟨⟨h0, h1⟩, h2⟩ | ⟨h0, h⟩) | ⟨h0, h⟩) | ⟨h0, h⟩) | ⟨h0, h⟩) | ⟨h0, h⟩
    · obtain rfl := OT.isFr_eq h1
      exact ps_eq (fun ρ => by rw [run]) (d_retF (fm := fm) (chk_ok e X Wi c _ _ _ _ g h2).pe (g.noio h0))
    · unfold isSlot at h
      split at h
      · simp only [Bool.and_eq_true] at h
        obtain ⟨⟨h5, h1⟩, h2⟩ := h
        unfold onName at h2
        split at h2
        · obtain ⟨q1, q2, q3, q4⟩ := g.vis h2
          exact ps_eq (fun ρ => by rw [run, ev]) (d_retM q1 q2 q3 q4 (OT.same_eq _ _ h1) (g.iot h0) (g.notio h5))
        · cases h2
      · cases h
    · exact ps_eq (fun ρ => by rw [run]) (d_ret (chk_ok e X Wi c _ _ _ _ g h).pe (g.iot h0))
    · unfold retTup at h
      split at h
      · rename_i es
        unfold onTup at h
        split at h
        · simp only [Bool.and_eq_true, decide_eq_true_eq] at h
          obtain ⟨h1, h2⟩ := h
          obtain ⟨ms, hms⟩ := Option.isSome_iff_exists.mp h2
          exact ps_eq (fun ρ => by rw [run, ev]) (d_retT (fm := fm) (mv_ok g hms) (fun ρ ds e => by rw [evs_len e]; exact h1) (g.noio h0))
        · cases h
      · cases h
    · unfold retLst at h
      split at h
      · rename_i es u
        unfold onLst at h
        split at h
        · simp only [Bool.and_eq_true, decide_eq_true_eq] at h
          obtain ⟨h1, h2⟩ := h
          obtain ⟨ms, hms⟩ := Option.isSome_iff_exists.mp h2
          exact ps_eq (fun ρ => by rw [run, ev]) (d_retL (fm := fm) (mv_ok g hms) (fun ρ ds e => by rw [evs_len e]; exact h1) (g.noio h0))
        · cases h
      · cases h
    · unfold retTupN at h
      split at h
      · rename_i es
        unfold onTup at h
        split at h
        · simp only [Bool.and_eq_true, decide_eq_true_eq] at h
          obtain ⟨h1, h2⟩ := h
          obtain ⟨ms, hms⟩ := Option.isSome_iff_exists.mp h2
          exact ps_eq (fun ρ => by rw [run, ev]) (d_retT (fm := fm) (mvN_ok g hms) (fun ρ ds e => by rw [evs_len e]; exact h1) (g.noio h0))
        · cases h
      · cases h
  | .retN, ots, st, fl, h => by
    rw [chkS] at h
    cases h
  | .drop e, ots, st, fl, h => by
    rw [chkS] at h
    cases h
  | .mut i path m args, ots, st, fl, h => by
    rw [chkS] at h
    obtain ⟨hh, ee⟩ := iffB_of h
    clear h
    subst ee
    have h := hh
    clear hh
    unfold onMut at h
    split at h
    · rename_i pe n ap es cp _
      simp only [Bool.and_eq_true, decide_eq_true_eq] at h
      obtain ⟨⟨⟨⟨⟨rfl, h0⟩, h1⟩, h2⟩, ha⟩, ⟨h3, h4⟩, h5⟩ := h
      unfold onOw at h5
      split at h5
      · rename_i t ht
        have ho := unO_eq ht
        obtain ⟨q1, q2⟩ := path_ok g h4
        rw [List.reverse_reverse] at q1
        have hn : ∀ ρ, NoX (evs sub G path ρ) := fun ρ => pureL_noX path ρ (pureL_all fun e he => q2 e (List.mem_reverse.mpr he))
        have hl : ∀ ρ ps, evs sub G path ρ = .ok ps → ps.length = path.length := fun ρ ps e => evs_len e
        have rl := chkL_ok args X Wi c _ _ _ g h5
        refine ResS.one ?_
        have er : ∀ ρ, run sub G (.mut i path m args) ρ = mutRun i (evs sub G path) m (evs sub G args) ρ := fun ρ => by rw [run] <;> rfl
        cases m <;> first | (cases h3; done) | skip
        rotate_left 3
        · cases es with
          | cons e es => cases ha
          | nil =>
            have el := rl.len
            have ea : args = [] := List.length_eq_zero_iff.mp el.symm
            subst ea
            exact ps_eq (fun ρ => (er ρ).trans (by rw [show evs sub G ([] : List E) = fun _ => .ok [] from funext fun ρ => by rw [evs]])) (d_pop0 (fm := fm) (n := path.length) g.K q1 hn hl ho h1 h0)
        · cases es with
          | nil => cases ha
          | cons e es => exact ps_eq er (d_mutA (fm := fm) (n := path.length) mtL_append rfl F.slot_list_append F.type_list_append g.K q1 hn hl ho rl.pa rl.star h1 h0 h2)
        · cases es with
          | nil => cases ha
          | cons e es => exact ps_eq er (d_mutA (fm := fm) (n := path.length) mtL_insert rfl F.slot_list_insert F.type_list_insert g.K q1 hn hl ho rl.pa rl.star h1 h0 h2)
        · cases es with
          | cons e es => cases ha
          | nil =>
            have el := rl.len
            have ea : args = [] := List.length_eq_zero_iff.mp el.symm
            subst ea
            exact ps_eq (fun ρ => (er ρ).trans (by rw [show evs sub G ([] : List E) = fun _ => .ok [] from funext fun ρ => by rw [evs]])) (d_mut0 (fm := fm) (n := path.length) mtL_clear rfl F.slot_list_clear F.type_list_clear g.K q1 hn hl ho h1 h0)
      · cases h5
    · cases h
  | .putF i t path kk v, ots, st, fl, h => by
    rw [chkS] at h
    obtain ⟨hh, ee⟩ := iffB_of h
    clear h
    subst ee
    have h := hh
    clear hh
    unfold onPutL at h
    split at h
    · simp only [Bool.and_eq_true] at h
      obtain ⟨⟨h1, h2⟩, ⟨⟨h5, h6⟩, h7⟩, h8⟩ := h
      unfold onOw at h6
      split at h6
      · rename_i u ht
        have ho := unO_eq ht
        obtain rfl := OT.same_eq _ _ h6
        obtain ⟨q1, q2⟩ := path_ok g h5
        rw [List.reverse_reverse] at q1
        have hn : ∀ ρ, NoX (evs sub G path ρ) := fun ρ => pureL_noX path ρ (pureL_all fun e he => q2 e (List.mem_reverse.mpr he))
        have hl : ∀ ρ ps, evs sub G path ρ = .ok ps → ps.length = path.length := fun ρ ps e => evs_len e
        exact ResS.one (ps_eq (fun ρ => by rw [run] <;> rfl) (d_putF (fm := fm) (n := path.length) q1 hn hl ho (chk_ok v X Wi c _ _ _ _ g h8).pe (chk_ok kk X Wi c _ _ _ _ g h7).pe h1 h2))
      · cases h6
    · cases h
  | .lstMv i j, ots, st, fl, h => by
    rw [chkS] at h
    obtain ⟨hh, ee⟩ := iffB_of h
    clear h
    subst ee
    have h := hh
    clear hh
    unfold onAsg at h
    split at h
    · rename_i x pp a p
      simp only [Bool.and_eq_true, decide_eq_true_eq] at h
      obtain ⟨⟨⟨⟨⟨⟨h0, h1⟩, h2⟩, h3⟩, h4⟩, h5⟩, h6⟩ := h
      obtain ⟨nm, hd, hcd⟩ := g.loc h1
      unfold onList1 at h6
      split at h6
      · rw [Bool.and_eq_true] at h6
        obtain ⟨rfl, gl, mg⟩ := g.blt h6.1
        obtain ⟨q1, q2, q3, q4⟩ := g.vis h6.2
        unfold isOw at h5
        split at h5
        · rename_i u hu
          refine ResS.one ?_
          rw [otf_set (by rw [List.length_set]; exact h2), otf_set h3, hu]
          exact ps_eq (fun ρ => by rw [run] <;> rfl) (d_lstMv (fm := fm) g.calm g.nd nm q1 q2 q3 q4 h4 hu gl mg (g.notio h0))
        · cases h5
      · cases h6
    · cases h
  | .putL i path kk v, ots, st, fl, h => by
    rw [chkS] at h
    obtain ⟨hh, ee⟩ := iffB_of h
    clear h
    subst ee
    have h := hh
    clear hh
    unfold onPutL at h
    split at h
    · simp only [Bool.and_eq_true] at h
      obtain ⟨⟨h1, h2⟩, ⟨⟨h5, h6⟩, h7⟩, h8⟩ := h
      unfold onOw at h6
      split at h6
      · rename_i t ht
        have ho := unO_eq ht
        obtain rfl := OT.isFr_eq h6
        obtain ⟨q1, q2⟩ := path_ok g h5
        rw [List.reverse_reverse] at q1
        have hn : ∀ ρ, NoX (evs sub G path ρ) := fun ρ => pureL_noX path ρ (pureL_all fun e he => q2 e (List.mem_reverse.mpr he))
        have hl : ∀ ρ ps, evs sub G path ρ = .ok ps → ps.length = path.length := fun ρ ps e => evs_len e
        exact ResS.one (ps_eq (fun ρ => by rw [run] <;> rfl) (d_putL (fm := fm) (n := path.length) q1 hn hl ho (chk_ok v X Wi c _ _ _ _ g h8).pe (chk_ok kk X Wi c _ _ _ _ g h7).pe h1 h2))
      · cases h6
    · cases h
  | .putP i path kk v, ots, st, fl, h => by
    rw [chkS] at h
    cases h
  | .frz _, ots, st, fl, h => by rw [chkS] at h <;> first | cases h | (intros; contradiction)
  | .put i path kk v, ots, st, fl, h => by
    rw [chkS] at h
    obtain ⟨hh, ee⟩ := iffB_of h
    clear h
    subst ee
    have h := hh
    clear hh
    unfold onPut at h
    split at h
    · simp only [Bool.and_eq_true, List.isEmpty_iff] at h
      obtain ⟨⟨h1, h2⟩, ⟨⟨⟨rfl, h5⟩, h6⟩, h7⟩, h8⟩ := h
      obtain ⟨q1, q2, q3, q4⟩ := g.vis h5
      refine ResS.one (ps_eq (fun ρ => ?_) (d_put (fm := fm) g.K (by have := g.hu; omega) q1 q2 q3 q4 (OT.same_eq _ _ h6) (chk_ok v X Wi c _ _ _ _ g h8).pe (chk_ok kk X Wi c _ _ _ _ g h7).pe h1 h2))
      rw [run]
      unfold putRun
      cases ev sub G v ρ with
      | ok y =>
        rw [ofR_ok, ofR_ok]
        cases ρ.get i with
        | ok x =>
          rw [ofR_ok, ofR_ok, evs, ofR_ok]
          cases ev sub G kk ρ <;> rfl
        | exn c p => rfl
        | stk => rfl
      | exn c p => rfl
      | stk => rfl
    · cases h
  | .stop, ots, st, fl, h => by rw [chkS] at h <;> first | cases h | (intros; contradiction)
  | .pop j i path args, ots, st, fl, h => by
    rw [chkS] at h
    cases h
  | .setd i kk v, ots, st, fl, h => by
    rw [chkS] at h
    cases h
  | .swp i x y, ots, st, fl, h => by
    rw [chkS] at h
    cases h
  | .asgD i j es ks, ots, st, fl, h => by
    rw [chkS] at h
    cases h
  | .dapp i kk v, ots, st, fl, h => by
    rw [chkS] at h
    cases h
  | .asgC i ts f es, ots, st, fl, h => by
    rw [chkS] at h
    cases h
  | .clrW i x, ots, st, fl, h => by
    rw [chkS] at h
    cases h
  | .asgCO i t ts f es, ots, st, fl, h => by
    rw [chkS] at h
    cases h
  | .raise q es, ots, st, fl, h => by
    rw [chkS] at h
    cases h
  | .raiseF q ts es, ots, st, fl, h => by
    rw [chkS] at h
    cases h
  | .tryX b hs, ots, st, fl, h => by
    rw [chkS] at h
    cases h
  | .tryO b hs ks, ots, st, fl, h => by
    rw [chkS] at h
    cases h
  | .tryB b ks q j v, ots, st, fl, h => by
    rw [chkS] at h
    cases h
  | .callM f es i, ots, st, fl, h => by
    rw [chkS] at h
    cases h
  | .callP j k1 f es i, ots, st, fl, h => by
    rw [chkS] at h
    cases h
theorem chkSs_ok {fm : Fm} {X : Cx} {Wi : WX} (g : Good X fm sub G k Wi c) (own : OwnS X fm Wi) : ∀ (ss : List S) (ots : List OT) (sts : List Stmt) (fl : Flo), chkSs res c ss ots sts = some fl → ResSs X fm sub G Wi res ots fl sts ss
  | [], ots, sts, fl, h => by
    rw [chkSs] at h
    obtain ⟨hh, ee⟩ := iffB_of h
    clear h
    subst ee
    have h := hh
    clear hh
    cases sts with
    | nil =>
      intro ot' hot
      rcases hot with hot | ⟨l, hot, rfl⟩
      · cases hot
      · injection hot with hot
        subst hot
        exact pss_eq (fun ρ => by rw [runs]) dS_nil
    | cons a b => cases h
  | s :: ss, ots, sts, fl, h => by
    rw [chkSs] at h
    have fin : onConsS sts (fun st r => contF (chkS res c s ots st) (fun l => chkSs res c ss l r) (ss.isEmpty && r.isEmpty)) = some fl → ResSs X fm sub G Wi res ots fl sts (s :: ss) := fun h => by
      cases sts with
      | nil => cases h
      | cons st r =>
        have h : contF (chkS res c s ots st) (fun l => chkSs res c ss l r) (ss.isEmpty && r.isEmpty) = some fl := h
        intro ot' hot
        have eq : ∀ ρ, runs sub G (s :: ss) ρ = (match run sub G s ρ with | .next ρ' => runs sub G ss ρ' | o => o) := fun ρ => by rw [runs] <;> (cases run sub G s ρ <;> rfl)
        cases hs : chkS res c s ots st with
        | none => rw [hs] at h; cases h
        | some f1 =>
          rw [hs] at h
          have r1 := chkS_ok g own s ots st f1 hs
          cases f1 with
          | none =>
            unfold contF at h
            dsimp only at h
            split at h
            · rename_i e
              simp only [Bool.and_eq_true, List.isEmpty_iff] at e
              obtain ⟨rfl, rfl⟩ := e
              exact pss_eq eq (dS_cons (r1 ot' (.inl rfl)) (pss_eq (fun ρ => by rw [runs]) dS_nil))
            · cases h
          | some l =>
            have h : chkSs res c ss l r = some fl := h
            exact pss_eq eq (dS_cons (r1 (otf l) (.inr ⟨l, rfl, rfl⟩)) (chkSs_ok g own ss l r fl h ot' hot))
    by_cases hst : isStop s = true
    · have es : s = .stop := by cases s <;> first | rfl | cases hst
      subst es
      intro ot' _
      have e : ∀ ρ, runs sub G (.stop :: ss) ρ = .stk := fun ρ => by rw [runs, run] <;> (intros; contradiction)
      exact pss_eq e dS_stop
    rw [if_neg hst] at h
    unfold onFrz at h
    split at h
    · rename_i i
      dsimp only at h
      split at h
      · rename_i hi
        intro ot' hot
        have q := chkSs_ok g own ss _ sts fl h ot' hot
        rw [otf_set hi] at q
        refine pss_eq (fun ρ => ?_) (dS_frz i q)
        rw [runs, run]
      · cases h
    · exact fin h
end
end
end L2.Py

set_option maxRecDepth 100000
set_option maxHeartbeats 4000000
namespace L2.Py
open PySem PySem.Spec PyProof.Rows TL
structure Dd where
  name : Str
  ps : List Str
  N : List Str
  d : Def
  res : OT
  st : Stmt
  lt : Option (Nat × OT) := none
  cs : Option (Nat × OT) := none
def Dd.sig (e : Dd) : Str × Nat × OT := (e.name, if e.lt.isSome || e.cs.isSome then 0 else e.ps.length, e.res)
def Dd.sigC (e : Dd) : Option (Str × Nat × OT × Nat × OT) := e.cs.map fun q => (e.name, e.ps.length, e.res, q.1, q.2)
abbrev Sgs := List (Option (Str × Nat × OT × Nat × OT))
def Dd.sigM (e : Dd) : Option (Str × Nat × OT × Nat × OT) := e.lt.map fun q => (e.name, e.ps.length, e.res, q.1, q.2)
structure Gc where
  ci : List (Str × Int)
  cw : List (Str × W)
  xm : List Nat := []
  xt : List Nat := []
def subX (xm : List Nat) : Sub := fun c k => decide (c ∈ xm) && (c == k || k == 0)
theorem subX_mem {xm : List Nat} {c : Nat} (h : subX xm c c = true) : c ∈ xm := by
  unfold subX at h
  rw [Bool.and_eq_true, decide_eq_true_eq] at h
  exact h.1
theorem subX_of {xm : List Nat} {c : Nat} (h : c ∈ xm) : subX xm c c = true := by
  unfold subX
  rw [decide_eq_true h]
  simp
structure GcOk (K : PySem.W.Frag) (mg : Str → Option Value) (sub : Sub) (gc : Gc) : Prop where
  xc : XcOk K mg sub gc.xt
  xm : ∀ k ∈ gc.xm, sub k k = true
  xf : ∀ c, sub c c = true → fldNames c ≠ [] → XFs K mg c
  ci : ∀ x i, gc.ci.lookup x = some i → ∃ t, mg x = some (.int i t)
  cw : ∀ x w, gc.cw.lookup x = some w → ∃ t, mg x = some (.str (toS w) t)
def Dd.cn (e : Dd) (gc : Gc) (fns : List (Str × Nat × OT)) (fnm fnc : Sgs) : Cn := { N := e.N, sc := defScope e.st, fnb := fun _ => true, fns := fns, ci := gc.ci, cw := gc.cw, xm := gc.xm, xt := gc.xt, lio := e.lt, fnm := fnm, fnc := fnc, lt0 := e.lt.isNone && e.cs.isNone }
def endOk (p : Nat) (t : OT) (f : Option Flo) : Bool := match f with
  | none => false
  | some none => true
  | some (some l) => (otf l p).same t
def Dd.chk (e : Dd) (gc : Gc) (fns : List (Str × Nat × OT)) (fnm fnc : Sgs) : Bool :=
  scC e.N e.ps (defScope e.st) && decide (e.d.nps = e.ps.length) && decide (e.d.nsl = e.N.length) && (match e.lt with
  | none => e.d.io.isEmpty && (match e.cs with
    | none => (chkSs e.res (e.cn gc fns fnm fnc) e.d.body (List.replicate e.N.length .fr) (defBody e.st)).isSome
    | some (p, t) => decide (p < e.ps.length) && !t.isFr && (chkSs e.res (e.cn gc fns fnm fnc) e.d.body ((List.replicate e.N.length .fr).set p t) (defBody e.st)).isSome)
  | some (p, t) => decide (e.d.io = [p]) && e.cs.isNone && decide (p < e.ps.length) && !t.isFr && endOk p t (chkSs e.res (e.cn gc fns fnm fnc) e.d.body ((List.replicate e.N.length .fr).set p t) (defBody e.st)))
theorem chk_n {e : Dd} {gc : Gc} {fns : List (Str × Nat × OT)} {fnm fnc : Sgs} (h : e.chk gc fns fnm fnc = true) (hl : e.lt = none) (hc : e.cs = none) :
    (((scC e.N e.ps (defScope e.st) = true ∧ e.d.nps = e.ps.length) ∧ e.d.nsl = e.N.length) ∧ e.d.io.isEmpty = true) ∧ (chkSs e.res (e.cn gc fns fnm fnc) e.d.body (List.replicate e.N.length .fr) (defBody e.st)).isSome = true := by
  unfold Dd.chk at h
  rw [hl, hc] at h
  simp only [Bool.and_eq_true, decide_eq_true_eq] at h
  obtain ⟨⟨⟨h1, h2⟩, h3⟩, h4, h5⟩ := h
  exact ⟨⟨⟨⟨h1, h2⟩, h3⟩, h4⟩, h5⟩
theorem chk_c {e : Dd} {gc : Gc} {fns : List (Str × Nat × OT)} {fnm fnc : Sgs} {p : Nat} {t : OT} (h : e.chk gc fns fnm fnc = true) (hl : e.lt = none) (hc : e.cs = some (p, t)) :
    (((scC e.N e.ps (defScope e.st) = true ∧ e.d.nps = e.ps.length) ∧ e.d.nsl = e.N.length) ∧ e.d.io.isEmpty = true ∧ p < e.ps.length ∧ t ≠ .fr) ∧ (chkSs e.res (e.cn gc fns fnm fnc) e.d.body ((List.replicate e.N.length .fr).set p t) (defBody e.st)).isSome = true := by
  unfold Dd.chk at h
  rw [hl, hc] at h
  simp only [Bool.and_eq_true, decide_eq_true_eq, Bool.not_eq_true'] at h
  obtain ⟨⟨⟨h1, h2⟩, h3⟩, h4, ⟨h6, h7⟩, h5⟩ := h
  exact ⟨⟨⟨⟨h1, h2⟩, h3⟩, h4, h6, fun z => by rw [z] at h7; cases h7⟩, h5⟩
theorem chk_m {e : Dd} {gc : Gc} {fns : List (Str × Nat × OT)} {fnm fnc : Sgs} {p : Nat} {t : OT} (h : e.chk gc fns fnm fnc = true) (hl : e.lt = some (p, t)) :
    (((scC e.N e.ps (defScope e.st) = true ∧ e.d.nps = e.ps.length) ∧ e.d.nsl = e.N.length) ∧ e.d.io = [p] ∧ p < e.ps.length ∧ t ≠ .fr) ∧ ∃ fl, chkSs e.res (e.cn gc fns fnm fnc) e.d.body ((List.replicate e.N.length .fr).set p t) (defBody e.st) = some fl ∧ ∃ ot' : Nat → OT, (fl = none ∨ ∃ l, fl = some l ∧ ot' = otf l) ∧ ot' p = t := by
  unfold Dd.chk at h
  rw [hl] at h
  simp only [Bool.and_eq_true, decide_eq_true_eq, Bool.not_eq_true'] at h
  obtain ⟨⟨⟨h1, h2⟩, h3⟩, ⟨⟨⟨h4, _⟩, h6⟩, h7⟩, h5⟩ := h
  refine ⟨⟨⟨⟨h1, h2⟩, h3⟩, h4, h6, fun z => by rw [z] at h7; cases h7⟩, ?_⟩
  unfold endOk at h5
  split at h5
  · cases h5
  · rename_i e5
    exact ⟨_, e5, otM p t, .inl rfl, if_pos rfl⟩
  · rename_i l e5
    exact ⟨_, e5, otf l, .inr ⟨l, rfl, rfl⟩, OT.same_eq _ _ h5⟩
section
variable {P : Program} {w : World} {K : PySem.W.Frag} {mg : Str → Option Value} {base : Heap} {sub : Sub} {G : Gam} {ca : Nat → Addr}
theorem otf_rep (n : Nat) : otf (List.replicate n .fr) = frs0 := by
  funext i
  unfold otf
  rw [List.getD_eq_getElem?_getD, List.getElem?_replicate]
  split <;> rfl
theorem entry_get {nsl : Nat} {xs : List D} {i : Nat} {d : D} (h : (entry nsl xs)[i]? = some (some d)) : xs[i]? = some d := by
  unfold entry at h
  by_cases hi : i < xs.length
  · rw [List.getElem?_append_left (by simpa using hi), List.getElem?_map] at h
    rw [Option.map_eq_some_iff] at h
    obtain ⟨a, h1, h2⟩ := h
    injection h2 with h2
    rw [h1, h2]
  · rw [List.getElem?_append_right (by simpa using hi), List.getElem?_replicate] at h
    split at h <;> cases h
theorem start_get {N : List Str} {vs : List V} {i : Nat} {v : V} (h : vs[i]? = some v) : (start N vs)[i]? = some (some v) := by
  have hi : i < vs.length := (List.getElem?_eq_some_iff.mp h).1
  unfold start
  rw [List.getElem?_append_left (by simpa using hi), List.getElem?_map, h]
  rfl
theorem def_ok {x qual : Str} {f : Addr} {fd : FuncData} {k : Nat} {e : Dd} {fns : List (Str × Nat × OT)} {fnm fnc : Sgs} {gc : Gc} (F : Fun K x qual e.st f fd) (h : e.chk gc fns fnm fnc = true) (hlt : e.lt = none) (hcs : e.cs = none) (hk2 : 2 ≤ k) (hgc : GcOk K mg sub gc) (hca : ca = caK K)
    (hcall : ∀ f name n res, fns[f]? = some (name, n, res) → 0 < n → ∃ fa fd ps, FnOk P w K mg base (L2.CX P w) k fa fd ps (spD ⟨K, w⟩ ca (G f) n res) ∧ mg name = some (.ref fa) ∧ PySem.W.keepIn K (.ref fa) = true ∧ Binds K fd ps [])
    (hcallM : ∀ f name n res p t, fnm[f]? = some (some (name, n, res, p, t)) → ∃ fa fd ps, FnOk P w K mg base (L2.CX P w) k fa fd ps (spM ⟨K, w⟩ ca (G f) n res p t) ∧ mg name = some (.ref fa) ∧ PySem.W.keepIn K (.ref fa) = true ∧ Binds K fd ps [])
    (hcallC : ∀ f name n res p t, fnc[f]? = some (some (name, n, res, p, t)) → ∃ fa fd ps, FnOk P w K mg base (L2.CX P w) k fa fd ps (spC ⟨K, w⟩ ca (G f) n res p t) ∧ mg name = some (.ref fa) ∧ PySem.W.keepIn K (.ref fa) = true ∧ Binds K fd ps [])
    (hmg : ∀ x ∈ bltNames, mg x = none) : FnOk P w K mg base (L2.CX P w) (k + 1) f fd e.ps (spD ⟨K, w⟩ ca (runDef sub G e.d) e.ps.length e.res) := by
  obtain ⟨⟨⟨⟨h1, h2⟩, h3⟩, h4⟩, h5⟩ := chk_n h hlt hcs
  obtain ⟨fl, hfl⟩ := Option.isSome_iff_exists.mp h5
  refine F.okX (fnScope_by h1) (fun vs H Q E hsp => ?_) fun cdv A outer s H vs Q E hr hsp => ?_
  · obtain ⟨ds, B, rep, hl, _⟩ := hsp
    rw [RepL.length rep]; exact hl
  · obtain ⟨ds, B, rep, hl, hm⟩ := hsp
    generalize hX : cxOf (L2.CX P w) P w K mg base e.N qual (defScope e.st) f cdv A outer s H E = X
    have g : Good X ⟨⟨K, w⟩, H, [], B, frs0, ca, none⟩ sub G k (fun cls dx _ H' => E cls dx H') (e.cn gc fns fnm fnc) := by
      subst hX
      exact ⟨rfl, rfl, (fnScope_by h1).nd, rfl, rfl, hr, fun _ _ => rfl, hmg, hcall, passAt (takes_of rfl rfl rfl rfl), hgc.ci, hgc.cw, hgc.xc, hgc.xm, (fun q h1 h2 => (hgc.xf q h1 h2).xin), hk2, hcallM, (fun i a t e => nomatch e), hcallC, fun _ => rfl⟩
    have own : OwnS X ⟨⟨K, w⟩, H, [], B, frs0, ca, none⟩ (fun cls dx _ H' => E cls dx H') := by
      subst hX
      exact ⟨passes_of rfl, takes_of rfl rfl rfl rfl, rfl, rfl, rfl, hca⟩
    have r := chkSs_ok (res := e.res) g own e.d.body _ _ fl hfl
    obtain ⟨ot', hot⟩ : ∃ ot', fl = none ∨ ∃ l, fl = some l ∧ ot' = otf l := by
      cases fl with
      | none => exact ⟨frs0, .inl rfl⟩
      | some l => exact ⟨otf l, .inr ⟨l, rfl, rfl⟩⟩
    refine ⟨_, r ot' hot, entry e.d.nsl ds, nof, ?_, ?_⟩
    · have hvl : vs.length = ds.length := RepL.length rep
      have hN : ds.length ≤ e.N.length := by
        have := congrArg List.length (fnScope_by h1).pre
        rw [List.length_take] at this
        omega
      refine ⟨?_, ?_, fun _ _ _ => rfl, fun _ => List.nodup_nil, fun i j a _ h => (nomatch h), fun i a h => (nomatch h), fun i a h => (nomatch h), fun a o e _ => e, fun a h => (nomatch h), fun i a t e => nomatch e⟩
      · unfold start entry
        rw [List.length_append, List.length_append, List.length_map, List.length_map, List.length_replicate, List.length_replicate, hvl, h3]
      · intro i d hi
        obtain ⟨v, hv, rv⟩ := RepL.get rep (entry_get hi)
        refine ⟨v, start_get hv, ?_⟩
        show Rep ⟨K, w⟩ H _ d (otf _ i) v []
        rw [otf_rep]
        exact Rep.leaves _ _ _ _ (Leaves.same (Same.refl _) fun a _ z => ⟨.inl z, fun i h => nomatch h⟩) rv
    · have hlen : ds.length = e.d.nps := by rw [hl, h2]
      unfold runDef at hm
      rw [if_pos hlen] at hm
      cases eo : runs sub G e.d.body (entry e.d.nsl ds) with
      | next ρ =>
        rw [eo] at hm
        intro σ' H' fps' er _
        refine hm .non H' [] (fun a o e => er.frame a o e (by simp)) List.nodup_nil (fun a h => nomatch h) ?_
        simp only [Rep]
        exact ⟨trivial, trivial⟩
      | ret d ρ =>
        rw [eo] at hm
        rintro v H' ⟨fp, fq, q1, _, q2, q3, _, q4⟩
        refine hm v H' fp (fun a o e => q1 a o e (by simp)) q2 (fun a ha => (q3 a ha).resolve_right (by simp)) (Rep.leaves _ _ _ _ (Leaves.same (Same.refl _) fun a _ z => ⟨?_, z.2.1⟩) q4)
        rcases z.1 with z | z | z
        · exact .inl z
        · exact .inr z
        · cases z
      | exn c ps ρ =>
        rw [eo] at hm
        exact fun cls dx σ' H' er _ ex => hm cls dx H' (fun a o e => er.frame a o e (by simp)) ex
      | stk => rw [eo] at hm; exact hm
theorem getM {K : KF} {H : Hp} {F : Addr → Prop} {t : OT} : ∀ {p : Nat} {ds : List D} {vs : List V} {fp : List Addr}, RepL K H F ds (otM p t) vs fp → p < ds.length → ∀ {i : Nat} {d : D}, ds[i]? = some d → ∃ v, vs[i]? = some v ∧ Rep K H F d (otM p t i) v (if i = p then fp else [])
  | p, [], vs, fp, r, hp, i, d, hd => by cases hd
  | 0, x :: ds, vs, fp, r, hp, i, d, hd => by
    obtain ⟨v, vr, f1, f2, rfl, rfl, h1, h2⟩ := r.uncons
    have h2 : RepL K H F ds frs0 vr f2 := h2
    obtain ⟨rfl, h2⟩ := RepL.fr_nil h2
    cases i with
    | zero =>
      injection hd with hd
      subst hd
      exact ⟨v, rfl, by rw [if_pos rfl, List.append_nil]; exact h1⟩
    | succ i =>
      obtain ⟨u, e1, q⟩ := RepL.get h2 (show ds[i]? = some d from hd)
      exact ⟨u, e1, by rw [if_neg (by omega)]; exact q⟩
  | p + 1, x :: ds, vs, fp, r, hp, i, d, hd => by
    obtain ⟨v, vr, f1, f2, rfl, rfl, h1, h2⟩ := r.uncons
    have e : (fun n => otM (p + 1) t (n + 1)) = otM p t := funext fun n => by
      unfold otM
      by_cases h : n = p
      · rw [if_pos h, if_pos (by omega)]
      · rw [if_neg h, if_neg (by omega)]
    rw [e] at h2
    have h1 : Rep K H F x .fr v f1 := h1
    obtain ⟨rfl, h1⟩ := Rep.fr_nil h1
    cases i with
    | zero =>
      injection hd with hd
      subst hd
      exact ⟨v, rfl, by rw [if_neg (by omega)]; exact h1⟩
    | succ i =>
      obtain ⟨u, e1, q⟩ := getM h2 (by rw [List.length_cons] at hp; omega) (show ds[i]? = some d from hd)
      refine ⟨u, e1, ?_⟩
      have e3 : otM (p + 1) t (i + 1) = otM p t i := congrFun e i
      rw [e3]
      by_cases h : i = p
      · rw [if_pos h] at q
        rw [if_pos (by omega)]
        exact q
      · rw [if_neg h] at q
        rw [if_neg (by omega)]
        exact q
theorem lentD_one {d x : D} (h : lentD [d] = .ok x) : x = d := by
  unfold lentD at h
  split at h <;> first | (cases h; done) | skip
  all_goals (rename_i e; injection h with h; injection e with e _; rw [← h, e])
theorem outs_one {p : Nat} {ρ : Rho} {x : D} (h : lentD (outs [p] ρ) = .ok x) : ρ[p]? = some (some x) := by
  unfold outs at h
  rw [List.map_cons, List.map_nil] at h
  split at h
  · rename_i d e
    rw [lentD_one h, e]
  · cases h
theorem def_okM {x qual : Str} {f : Addr} {fd : FuncData} {k : Nat} {e : Dd} {fns : List (Str × Nat × OT)} {fnm fnc : Sgs} {gc : Gc} {p : Nat} {t : OT} (F : Fun K x qual e.st f fd) (h : e.chk gc fns fnm fnc = true) (hlt : e.lt = some (p, t)) (hk2 : 2 ≤ k) (hgc : GcOk K mg sub gc) (hca : ca = caK K)
    (hcall : ∀ f name n res, fns[f]? = some (name, n, res) → 0 < n → ∃ fa fd ps, FnOk P w K mg base (L2.CX P w) k fa fd ps (spD ⟨K, w⟩ ca (G f) n res) ∧ mg name = some (.ref fa) ∧ PySem.W.keepIn K (.ref fa) = true ∧ Binds K fd ps [])
    (hcallM : ∀ f name n res p t, fnm[f]? = some (some (name, n, res, p, t)) → ∃ fa fd ps, FnOk P w K mg base (L2.CX P w) k fa fd ps (spM ⟨K, w⟩ ca (G f) n res p t) ∧ mg name = some (.ref fa) ∧ PySem.W.keepIn K (.ref fa) = true ∧ Binds K fd ps [])
    (hcallC : ∀ f name n res p t, fnc[f]? = some (some (name, n, res, p, t)) → ∃ fa fd ps, FnOk P w K mg base (L2.CX P w) k fa fd ps (spC ⟨K, w⟩ ca (G f) n res p t) ∧ mg name = some (.ref fa) ∧ PySem.W.keepIn K (.ref fa) = true ∧ Binds K fd ps [])
    (hmg : ∀ x ∈ bltNames, mg x = none) : FnOk P w K mg base (L2.CX P w) (k + 1) f fd e.ps (spM ⟨K, w⟩ ca (runDef sub G e.d) e.ps.length e.res p t) := by
  obtain ⟨⟨⟨⟨h1, h2⟩, h3⟩, h4, h6, ht⟩, fl, hfl, ot', hot, hop⟩ := chk_m h hlt
  refine F.okX (fnScope_by h1) (fun vs H Q E hsp => ?_) fun cdv A outer s H vs Q E hr hsp => ?_
  · obtain ⟨ds, B, fp, u, rep, nd, hl, _⟩ := hsp
    rw [RepL.length rep]; exact hl
  · obtain ⟨ds, B, fp, u, rep, nd, hl, hu, hm⟩ := hsp
    generalize hX : cxOf (L2.CX P w) P w K mg base e.N qual (defScope e.st) f cdv A outer s H E = X
    have g : Good X ⟨⟨K, w⟩, H, fp, B, frs0, ca, some (p, u, t)⟩ sub G k (fun cls dx _ H' => E cls dx H') (e.cn gc fns fnm fnc) := by
      subst hX
      exact ⟨rfl, rfl, (fnScope_by h1).nd, rfl, rfl, hr, fun _ _ => rfl, hmg, hcall, passAt (takes_of rfl rfl rfl rfl), hgc.ci, hgc.cw, hgc.xc, hgc.xm, (fun q h1 h2 => (hgc.xf q h1 h2).xin), hk2, hcallM, (fun i a t' e' => by
        injection e' with e'
        injection e' with e1 e2
        injection e2 with e2 e3
        subst e1 e3
        exact hlt), hcallC, (fun z => by
        have z : (e.lt.isNone && e.cs.isNone) = true := z
        rw [hlt] at z
        cases z)⟩
    have own : OwnS X ⟨⟨K, w⟩, H, fp, B, frs0, ca, some (p, u, t)⟩ (fun cls dx _ H' => E cls dx H') := by
      subst hX
      exact ⟨passes_of rfl, takes_of rfl rfl rfl rfl, rfl, rfl, rfl, hca⟩
    have r := chkSs_ok (res := e.res) g own e.d.body _ _ fl hfl
    have hN : ds.length ≤ e.N.length := by
      have := congrArg List.length (fnScope_by h1).pre
      rw [List.length_take] at this
      omega
    have hpd : p < ds.length := by omega
    have trk : ∀ b ∈ fp, H b ≠ none := RepL.trk _ _ _ _ rep
    let fps0 : Fps := fun i => if i = p then fp else []
    have mem0 : ∀ {i b}, b ∈ fps0 i → i = p ∧ b ∈ fp := fun {i b} hb => by
      have hb : b ∈ (if i = p then fp else []) := hb
      split at hb
      · exact ⟨‹_›, hb⟩
      · cases hb
    have eot : otf ((List.replicate e.N.length OT.fr).set p t) = otM p t := by
      rw [otf_set (by rw [List.length_replicate]; omega), otf_rep]
      funext i
      unfold otSet otM
      split <;> rfl
    refine ⟨_, r ot' hot, entry e.d.nsl ds, fps0, ?_, ?_⟩
    · have hvl : vs.length = ds.length := RepL.length rep
      rw [eot]
      refine ⟨?_, ?_, fun i _ hi => ?_, fun i => ?_, fun i j b hij h1 h2 => ?_, fun i b hb => .inr (mem0 hb).2, fun i b hb => trk b (mem0 hb).2, fun a o e _ => e, fun b hb => trk b hb, fun i a t' e' hi d hd => ?_⟩
      · unfold start entry
        rw [List.length_append, List.length_append, List.length_map, List.length_map, List.length_replicate, List.length_replicate, hvl, h3]
      · intro i d hi
        obtain ⟨v, hv, rv⟩ := getM rep hpd (entry_get hi)
        refine ⟨v, start_get hv, ?_⟩
        exact Rep.leaves _ _ _ _ (Leaves.same (Same.refl _) fun b _ z => ⟨.inl z.1, fun i hi => z.2 (mem0 hi).2⟩) rv
      · have hi : otM p t i = .fr := hi
        unfold otM at hi
        show (if i = p then fp else []) = []
        split at hi
        · exact absurd hi ht
        · rename_i ne; exact if_neg ne
      · show (if i = p then fp else []).Nodup
        split
        · exact nd
        · exact List.nodup_nil
      · exact hij ((mem0 h1).1.trans (mem0 h2).1.symm)
      · injection e' with e'
        injection e' with e1 e2
        injection e2 with e2 e3
        subst e1 e2
        exact start_get hu
    · have hlen : ds.length = e.d.nps := by rw [hl, h2]
      unfold runDef at hm
      rw [if_pos hlen] at hm
      have nn : ∀ {H' : Hp}, (∀ b o, H b = some o → b ∉ fp → H' b = some o) → (∀ b ∈ fp, H' b ≠ none) → ∀ b, H b ≠ none → H' b ≠ none := fun {H'} q1 q0 b hb => by
        by_cases hf : b ∈ fp
        · exact q0 b hf
        · cases eb : H b with
          | none => exact absurd eb hb
          | some o => rw [q1 b o eb hf]; exact fun z => nomatch z
      cases eo : runs sub G e.d.body (entry e.d.nsl ds) with
      | next ρ =>
        rw [eo] at hm
        intro σ' H' fps' er _
        refine hm .non H' [] (fps' p) (fun b o e n => er.frame b o e n) (nn (fun b o e n => er.frame b o e n) fun b hb => er.lent b hb) List.nodup_nil (er.nd p) (fun b hb => nomatch hb) (fun b hb => er.new p b (hb.resolve_left fun z => nomatch z)) ?_ fun x hx => ?_
        · simp only [Rep]
          exact ⟨trivial, trivial⟩
        · rw [h4] at hx
          have hx := outs_one hx
          obtain ⟨v, e1, rv⟩ := er.rep p x hx
          have rv : Rep ⟨K, w⟩ H' _ x (ot' p) v (fps' p) := rv
          have e2 := er.io p u t rfl (by show ot' p ≠ .fr; rw [hop]; exact ht) x hx
          rw [e2] at e1
          injection e1 with e1
          injection e1 with e1
          rw [← e1, hop] at rv
          exact Rep.leaves _ _ _ _ (Leaves.same (Same.refl _) fun b _ z => ⟨z.1, (fun h => nomatch h), z.2 p⟩) rv
      | ret d ρ =>
        rw [eo] at hm
        rintro v H' ⟨f1, fq, q1, q0, q2, q3, q5, q4⟩
        obtain ⟨p1, p2, p3⟩ := q5
        refine hm v H' f1 fq q1 (nn q1 q0) q2 p1 (fun b hb hq => (p2 b hq).1 hb) (fun b hb => hb.elim (q3 b) fun z => (p2 b z).2) q4 fun x hx => ?_
        rw [h4] at hx
        exact p3 x (outs_one hx)
      | exn c ps ρ =>
        rw [eo] at hm
        exact fun cls dx σ' H' er _ ex => hm cls dx H' (fun b o e n => er.frame b o e n) (nn (fun b o e n => er.frame b o e n) fun b hb => er.lent b hb) ex
      | stk => rw [eo] at hm; exact hm
theorem def_okC {x qual : Str} {f : Addr} {fd : FuncData} {k : Nat} {e : Dd} {fns : List (Str × Nat × OT)} {fnm fnc : Sgs} {gc : Gc} {p : Nat} {t : OT} (F : Fun K x qual e.st f fd) (h : e.chk gc fns fnm fnc = true) (hlt : e.lt = none) (hcs : e.cs = some (p, t)) (hk2 : 2 ≤ k) (hgc : GcOk K mg sub gc) (hca : ca = caK K)
    (hcall : ∀ f name n res, fns[f]? = some (name, n, res) → 0 < n → ∃ fa fd ps, FnOk P w K mg base (L2.CX P w) k fa fd ps (spD ⟨K, w⟩ ca (G f) n res) ∧ mg name = some (.ref fa) ∧ PySem.W.keepIn K (.ref fa) = true ∧ Binds K fd ps [])
    (hcallM : ∀ f name n res p t, fnm[f]? = some (some (name, n, res, p, t)) → ∃ fa fd ps, FnOk P w K mg base (L2.CX P w) k fa fd ps (spM ⟨K, w⟩ ca (G f) n res p t) ∧ mg name = some (.ref fa) ∧ PySem.W.keepIn K (.ref fa) = true ∧ Binds K fd ps [])
    (hcallC : ∀ f name n res p t, fnc[f]? = some (some (name, n, res, p, t)) → ∃ fa fd ps, FnOk P w K mg base (L2.CX P w) k fa fd ps (spC ⟨K, w⟩ ca (G f) n res p t) ∧ mg name = some (.ref fa) ∧ PySem.W.keepIn K (.ref fa) = true ∧ Binds K fd ps [])
    (hmg : ∀ x ∈ bltNames, mg x = none) : FnOk P w K mg base (L2.CX P w) (k + 1) f fd e.ps (spC ⟨K, w⟩ ca (runDef sub G e.d) e.ps.length e.res p t) := by
  obtain ⟨⟨⟨⟨h1, h2⟩, h3⟩, h4, h6, ht⟩, h5⟩ := chk_c h hlt hcs
  obtain ⟨fl, hfl⟩ := Option.isSome_iff_exists.mp h5
  refine F.okX (fnScope_by h1) (fun vs H Q E hsp => ?_) fun cdv A outer s H vs Q E hr hsp => ?_
  · obtain ⟨ds, B, fp, rep, nd, hl, _⟩ := hsp
    rw [RepL.length rep]; exact hl
  · obtain ⟨ds, B, fp, rep, nd, hl, hm⟩ := hsp
    generalize hX : cxOf (L2.CX P w) P w K mg base e.N qual (defScope e.st) f cdv A outer s H E = X
    have g : Good X ⟨⟨K, w⟩, H, fp, B, frs0, ca, none⟩ sub G k (fun cls dx _ H' => E cls dx H') (e.cn gc fns fnm fnc) := by
      subst hX
      exact ⟨rfl, rfl, (fnScope_by h1).nd, rfl, rfl, hr, fun _ _ => rfl, hmg, hcall, passAt (takes_of rfl rfl rfl rfl), hgc.ci, hgc.cw, hgc.xc, hgc.xm, (fun q h1 h2 => (hgc.xf q h1 h2).xin), hk2, hcallM, (fun i a t e => nomatch e), hcallC, (fun z => by
        have z : (e.lt.isNone && e.cs.isNone) = true := z
        rw [hlt, hcs] at z
        cases z)⟩
    have own : OwnS X ⟨⟨K, w⟩, H, fp, B, frs0, ca, none⟩ (fun cls dx _ H' => E cls dx H') := by
      subst hX
      exact ⟨passes_of rfl, takes_of rfl rfl rfl rfl, rfl, rfl, rfl, hca⟩
    have r := chkSs_ok (res := e.res) g own e.d.body _ _ fl hfl
    obtain ⟨ot', hot⟩ : ∃ ot', fl = none ∨ ∃ l, fl = some l ∧ ot' = otf l := by
      cases fl with
      | none => exact ⟨frs0, .inl rfl⟩
      | some l => exact ⟨otf l, .inr ⟨l, rfl, rfl⟩⟩
    have hN : ds.length ≤ e.N.length := by
      have := congrArg List.length (fnScope_by h1).pre
      rw [List.length_take] at this
      omega
    have hpd : p < ds.length := by omega
    have trk : ∀ b ∈ fp, H b ≠ none := RepL.trk _ _ _ _ rep
    let fps0 : Fps := fun i => if i = p then fp else []
    have mem0 : ∀ {i b}, b ∈ fps0 i → i = p ∧ b ∈ fp := fun {i b} hb => by
      have hb : b ∈ (if i = p then fp else []) := hb
      split at hb
      · exact ⟨‹_›, hb⟩
      · cases hb
    have eot : otf ((List.replicate e.N.length OT.fr).set p t) = otM p t := by
      rw [otf_set (by rw [List.length_replicate]; omega), otf_rep]
      funext i
      unfold otSet otM
      split <;> rfl
    refine ⟨_, r ot' hot, entry e.d.nsl ds, fps0, ?_, ?_⟩
    · have hvl : vs.length = ds.length := RepL.length rep
      rw [eot]
      refine ⟨?_, ?_, fun i _ hi => ?_, fun i => ?_, fun i j b hij h1 h2 => ?_, fun i b hb => .inr (mem0 hb).2, fun i b hb => trk b (mem0 hb).2, fun a o e _ => e, fun b hb => trk b hb, fun i a t' e' => nomatch e'⟩
      · unfold start entry
        rw [List.length_append, List.length_append, List.length_map, List.length_map, List.length_replicate, List.length_replicate, hvl, h3]
      · intro i d hi
        obtain ⟨v, hv, rv⟩ := getM rep hpd (entry_get hi)
        refine ⟨v, start_get hv, ?_⟩
        exact Rep.leaves _ _ _ _ (Leaves.same (Same.refl _) fun b _ z => ⟨.inl z.1, fun i hi => z.2 (mem0 hi).2⟩) rv
      · have hi : otM p t i = .fr := hi
        unfold otM at hi
        show (if i = p then fp else []) = []
        split at hi
        · exact absurd hi ht
        · rename_i ne; exact if_neg ne
      · show (if i = p then fp else []).Nodup
        split
        · exact nd
        · exact List.nodup_nil
      · exact hij ((mem0 h1).1.trans (mem0 h2).1.symm)
    · have hlen : ds.length = e.d.nps := by rw [hl, h2]
      unfold runDef at hm
      rw [if_pos hlen] at hm
      cases eo : runs sub G e.d.body (entry e.d.nsl ds) with
      | next ρ =>
        rw [eo] at hm
        intro σ' H' fps' er _
        refine hm .non H' [] (fun b o e n => er.frame b o e n) List.nodup_nil (fun b hb => nomatch hb) ?_
        simp only [Rep]
        exact ⟨trivial, trivial⟩
      | ret d ρ =>
        rw [eo] at hm
        rintro v H' ⟨f1, fq, q1, q0, q2, q3, q5, q4⟩
        exact hm v H' f1 q1 q2 q3 (Rep.leaves _ _ _ _ (Leaves.same (Same.refl _) fun b _ z => ⟨z.1, z.2.1⟩) q4)
      | exn c ps ρ =>
        rw [eo] at hm
        exact fun cls dx σ' H' er _ ex => hm cls dx H' (fun b o e n => er.frame b o e n) ex
      | stk => rw [eo] at hm; exact hm
structure At (K : PySem.W.Frag) (mg : Str → Option Value) (e : Dd) (fa : Addr) (fd : FuncData) : Prop where
  fn : Fun K e.name e.name e.st fa fd
  mgf : mg e.name = some (.ref fa)
  bd : Binds K fd e.ps []
def chkAll (gc : Gc) (tb : List Dd) : Bool := (List.range tb.length).all fun i => match tb[i]? with | some e => e.chk gc ((tb.take i).map Dd.sig) ((tb.take i).map Dd.sigM) ((tb.take i).map Dd.sigC) | none => true
theorem chkAll_at {gc : Gc} {tb : List Dd} (h : chkAll gc tb = true) {i : Nat} {e : Dd} (he : tb[i]? = some e) : e.chk gc ((tb.take i).map Dd.sig) ((tb.take i).map Dd.sigM) ((tb.take i).map Dd.sigC) = true := by
  unfold chkAll at h
  have hi : i < tb.length := (List.getElem?_eq_some_iff.mp he).1
  have q := List.all_eq_true.mp h i (List.mem_range.mpr hi)
  rw [he] at q
  exact q
theorem link {gc : Gc} {tb : List Dd} (hchk : chkAll gc tb = true) (hgc : GcOk K mg sub gc) (hca : ca = caK K) (hat : ∀ (i : Nat) (e : Dd), tb[i]? = some e → ∃ fa fd, At K mg e fa fd) (hmg : ∀ x ∈ bltNames, mg x = none) :
    ∀ (i : Nat) (e : Dd), tb[i]? = some e → ∀ fa fd, At K mg e fa fd → (e.lt = none → e.cs = none → FnOk P w K mg base (L2.CX P w) (i + 3) fa fd e.ps (spD ⟨K, w⟩ ca (sem sub (tb.map Dd.d) (i + 1) i) e.ps.length e.res)) ∧
      (∀ p t, e.lt = some (p, t) → FnOk P w K mg base (L2.CX P w) (i + 3) fa fd e.ps (spM ⟨K, w⟩ ca (sem sub (tb.map Dd.d) (i + 1) i) e.ps.length e.res p t)) ∧
      ∀ p t, e.lt = none → e.cs = some (p, t) → FnOk P w K mg base (L2.CX P w) (i + 3) fa fd e.ps (spC ⟨K, w⟩ ca (sem sub (tb.map Dd.d) (i + 1) i) e.ps.length e.res p t) := by
  intro i
  induction i using Nat.strongRecOn with
  | _ i ih =>
    intro e he fa fd A
    have hd : (tb.map Dd.d)[i]? = some e.d := by rw [List.getElem?_map, he]; rfl
    have es : sem sub (tb.map Dd.d) (i + 1) i = runDef sub (sem sub (tb.map Dd.d) i) e.d := funext fun xs => sem_at hd (Nat.lt_succ_self i) xs
    rw [es]
    have at_ : ∀ {f : Nat} {α : Type} {s : Dd → α} {y : α}, ((tb.take i).map s)[f]? = some y → ∃ e2, f < i ∧ tb[f]? = some e2 ∧ s e2 = y := fun {f α s y} hf => by
      rw [List.getElem?_map, Option.map_eq_some_iff] at hf
      obtain ⟨e2, h1, h2⟩ := hf
      have hfi : f < i := by
        have := (List.getElem?_eq_some_iff.mp h1).1
        rw [List.length_take] at this
        omega
      rw [List.getElem?_take_of_lt hfi] at h1
      exact ⟨e2, hfi, h1, h2⟩
    have es2 : ∀ {f : Nat} {e2 : Dd}, f < i → tb[f]? = some e2 → sem sub (tb.map Dd.d) i f = sem sub (tb.map Dd.d) (f + 1) f := fun {f e2} hfi h1 => by
      have hd2 : (tb.map Dd.d)[f]? = some e2.d := by rw [List.getElem?_map, h1]; rfl
      exact funext fun xs => by rw [sem_at hd2 hfi, sem_at hd2 (Nat.lt_succ_self f)]
    have hcall : ∀ f name n res, ((tb.take i).map Dd.sig)[f]? = some (name, n, res) → 0 < n → ∃ fa fd ps, FnOk P w K mg base (L2.CX P w) (i + 2) fa fd ps (spD ⟨K, w⟩ ca (sem sub (tb.map Dd.d) i f) n res) ∧ mg name = some (.ref fa) ∧ PySem.W.keepIn K (.ref fa) = true ∧ Binds K fd ps [] := fun f name n res hf hn => by
      obtain ⟨e2, hfi, h1, h2⟩ := at_ hf
      unfold Dd.sig at h2
      injection h2 with h2 h3
      injection h3 with h3 h4
      have hl2 : e2.lt = none := by
        cases el : e2.lt with
        | none => rfl
        | some q =>
          rw [el] at h3
          have h3 : 0 = n := h3
          omega
      have hc2 : e2.cs = none := by
        cases ec : e2.cs with
        | none => rfl
        | some q =>
          rw [hl2, ec] at h3
          have h3 : 0 = n := h3
          omega
      rw [hl2, hc2] at h3
      have h3 : e2.ps.length = n := h3
      subst h2 h3 h4
      obtain ⟨fa2, fd2, A2⟩ := hat f e2 h1
      rw [es2 hfi h1]
      exact ⟨fa2, fd2, e2.ps, ((ih f hfi e2 h1 fa2 fd2 A2).1 hl2 hc2).mono (by omega), A2.mgf, A2.fn.kp, A2.bd⟩
    have hcallM : ∀ f name n res p t, ((tb.take i).map Dd.sigM)[f]? = some (some (name, n, res, p, t)) → ∃ fa fd ps, FnOk P w K mg base (L2.CX P w) (i + 2) fa fd ps (spM ⟨K, w⟩ ca (sem sub (tb.map Dd.d) i f) n res p t) ∧ mg name = some (.ref fa) ∧ PySem.W.keepIn K (.ref fa) = true ∧ Binds K fd ps [] := fun f name n res p t hf => by
      obtain ⟨e2, hfi, h1, h2⟩ := at_ hf
      unfold Dd.sigM at h2
      rw [Option.map_eq_some_iff] at h2
      obtain ⟨⟨p2, t2⟩, hl2, h2⟩ := h2
      injection h2 with h2 h3
      injection h3 with h3 h4
      injection h4 with h4 h5
      injection h5 with h5 h6
      subst h2 h3 h4 h5 h6
      obtain ⟨fa2, fd2, A2⟩ := hat f e2 h1
      rw [es2 hfi h1]
      exact ⟨fa2, fd2, e2.ps, ((ih f hfi e2 h1 fa2 fd2 A2).2.1 p2 t2 hl2).mono (by omega), A2.mgf, A2.fn.kp, A2.bd⟩
    have hcallC : ∀ f name n res p t, ((tb.take i).map Dd.sigC)[f]? = some (some (name, n, res, p, t)) → ∃ fa fd ps, FnOk P w K mg base (L2.CX P w) (i + 2) fa fd ps (spC ⟨K, w⟩ ca (sem sub (tb.map Dd.d) i f) n res p t) ∧ mg name = some (.ref fa) ∧ PySem.W.keepIn K (.ref fa) = true ∧ Binds K fd ps [] := fun f name n res p t hf => by
      obtain ⟨e2, hfi, h1, h2⟩ := at_ hf
      unfold Dd.sigC at h2
      rw [Option.map_eq_some_iff] at h2
      obtain ⟨⟨p2, t2⟩, hc2, h2⟩ := h2
      injection h2 with h2 h3
      injection h3 with h3 h4
      injection h4 with h4 h5
      injection h5 with h5 h6
      subst h2 h3 h4 h5 h6
      have hl2 : e2.lt = none := by
        cases el : e2.lt with
        | none => rfl
        | some q =>
          obtain ⟨q1, q2⟩ := q
          have := chkAll_at hchk h1
          unfold Dd.chk at this
          rw [el, hc2] at this
          simp at this
      obtain ⟨fa2, fd2, A2⟩ := hat f e2 h1
      rw [es2 hfi h1]
      exact ⟨fa2, fd2, e2.ps, ((ih f hfi e2 h1 fa2 fd2 A2).2.2 p2 t2 hl2 hc2).mono (by omega), A2.mgf, A2.fn.kp, A2.bd⟩
    exact ⟨fun hl hc => def_ok (fns := (tb.take i).map Dd.sig) (fnm := (tb.take i).map Dd.sigM) (fnc := (tb.take i).map Dd.sigC) A.fn (chkAll_at hchk he) hl hc (by omega) hgc hca hcall hcallM hcallC hmg,
      fun p t hl => def_okM (fns := (tb.take i).map Dd.sig) (fnm := (tb.take i).map Dd.sigM) (fnc := (tb.take i).map Dd.sigC) A.fn (chkAll_at hchk he) hl (by omega) hgc hca hcall hcallM hcallC hmg,
      fun p t hl hc => def_okC (fns := (tb.take i).map Dd.sig) (fnm := (tb.take i).map Dd.sigM) (fnc := (tb.take i).map Dd.sigC) A.fn (chkAll_at hchk he) hl hc (by omega) hgc hca hcall hcallM hcallC hmg⟩
end
def AtL (K : PySem.W.Frag) (mg : Str → Option Value) : List Dd → Prop
  | [] => True
  | e :: es => (∃ fa fd, At K mg e fa fd) ∧ AtL K mg es
theorem AtL.get {K : PySem.W.Frag} {mg : Str → Option Value} : ∀ {tb : List Dd}, AtL K mg tb → ∀ (i : Nat) (e : Dd), tb[i]? = some e → ∃ fa fd, At K mg e fa fd
  | [], _, i, e, h => by simp at h
  | d :: ds, a, i, e, h => by
    cases i with
    | zero =>
      simp at h
      subst h
      exact a.1
    | succ i => exact AtL.get a.2 i e (by simpa using h)
def NoL (mg : Str → Option Value) : List Str → Prop
  | [] => True
  | x :: xs => mg x = none ∧ NoL mg xs
theorem NoL.get {mg : Str → Option Value} : ∀ {xs : List Str}, NoL mg xs → ∀ x ∈ xs, mg x = none
  | [], _, x, h => nomatch h
  | y :: ys, a, x, h => by
    rcases List.mem_cons.mp h with rfl | h
    · exact a.1
    · exact NoL.get a.2 x h
def CiL (mg : Str → Option Value) : List (Str × Int) → Prop
  | [] => True
  | c :: cs => (∃ t, mg c.1 = some (.int c.2 t)) ∧ CiL mg cs
theorem CiL.get {mg : Str → Option Value} : ∀ {cs : List (Str × Int)}, CiL mg cs → ∀ x i, cs.lookup x = some i → ∃ t, mg x = some (.int i t)
  | [], _, x, i, h => by cases h
  | (y, j) :: cs, a, x, i, h => by
    rw [List.lookup_cons] at h
    split at h
    · rename_i e
      injection h with h
      rw [eq_of_beq e, ← h]
      exact a.1
    · exact CiL.get a.2 x i h
def CwL (mg : Str → Option Value) : List (Str × W) → Prop
  | [] => True
  | c :: cs => (∃ t, mg c.1 = some (.str (toS c.2) t)) ∧ CwL mg cs
theorem CwL.get {mg : Str → Option Value} : ∀ {cs : List (Str × W)}, CwL mg cs → ∀ x i, cs.lookup x = some i → ∃ t, mg x = some (.str (toS i) t)
  | [], _, x, i, h => by cases h
  | (y, j) :: cs, a, x, i, h => by
    rw [List.lookup_cons] at h
    split at h
    · rename_i e
      injection h with h
      rw [eq_of_beq e, ← h]
      exact a.1
    · exact CwL.get a.2 x i h
def XmL (K : PySem.W.Frag) (mg : Str → Option Value) : List Nat → Prop
  | [] => True
  | c :: cs => XMk K mg c ∧ XmL K mg cs
theorem XmL.get {K : PySem.W.Frag} {mg : Str → Option Value} : ∀ {cs : List Nat}, XmL K mg cs → ∀ c ∈ cs, XMk K mg c
  | [], _, c, h => nomatch h
  | y :: ys, a, x, h => by
    rcases List.mem_cons.mp h with rfl | h
    · exact a.1
    · exact XmL.get a.2 x h
def XtL (K : PySem.W.Frag) (mg : Str → Option Value) : List Nat → Prop
  | [] => True
  | c :: cs => XTs K mg c ∧ XtL K mg cs
theorem XtL.get {K : PySem.W.Frag} {mg : Str → Option Value} : ∀ {cs : List Nat}, XtL K mg cs → ∀ c ∈ cs, XTs K mg c
  | [], _, c, h => nomatch h
  | y :: ys, a, x, h => by
    rcases List.mem_cons.mp h with rfl | h
    · exact a.1
    · exact XtL.get a.2 x h
def XfL (K : PySem.W.Frag) (mg : Str → Option Value) : List Nat → Prop
  | [] => True
  | c :: cs => (fldNames c ≠ [] → XFs K mg c) ∧ XfL K mg cs
theorem XfL.get {K : PySem.W.Frag} {mg : Str → Option Value} : ∀ {cs : List Nat}, XfL K mg cs → ∀ c ∈ cs, fldNames c ≠ [] → XFs K mg c
  | [], _, c, h => nomatch h
  | y :: ys, a, x, h => by
    rcases List.mem_cons.mp h with rfl | h
    · exact a.1
    · exact XfL.get a.2 x h
def RelL1 (K : PySem.W.Frag) (c : Nat) : List Nat → Prop
  | [] => True
  | k :: ks => (PySem.W.subIn K (.ref (caK K c)) (.ref (caK K k)) = some (c == k || k == 0) ∧ PySem.W.kitOne K (.ref (caK K c)) (.ref (caK K k)) = some (c == k || k == 0)) ∧ RelL1 K c ks
theorem RelL1.get {K : PySem.W.Frag} {c : Nat} : ∀ {cs : List Nat}, RelL1 K c cs → ∀ k ∈ cs, PySem.W.subIn K (.ref (caK K c)) (.ref (caK K k)) = some (c == k || k == 0) ∧ PySem.W.kitOne K (.ref (caK K c)) (.ref (caK K k)) = some (c == k || k == 0)
  | [], _, c, h => nomatch h
  | y :: ys, a, x, h => by
    rcases List.mem_cons.mp h with rfl | h
    · exact a.1
    · exact RelL1.get a.2 x h
def RelL (K : PySem.W.Frag) (xt : List Nat) : List Nat → Prop
  | [] => True
  | c :: cs => RelL1 K c xt ∧ RelL K xt cs
theorem RelL.get {K : PySem.W.Frag} {xt : List Nat} : ∀ {cs : List Nat}, RelL K xt cs → ∀ c ∈ cs, RelL1 K c xt
  | [], _, c, h => nomatch h
  | y :: ys, a, x, h => by
    rcases List.mem_cons.mp h with rfl | h
    · exact a.1
    · exact RelL.get a.2 x h
theorem gcOk_by {K : PySem.W.Frag} {mg : Str → Option Value} {gc : Gc} (h1 : XmL K mg gc.xm) (h2 : XtL K mg gc.xt) (h3 : RelL K gc.xt gc.xm) (h6 : XfL K mg gc.xm) (h4 : CiL mg gc.ci) (h5 : CwL mg gc.cw) : GcOk K mg (subX gc.xm) gc := by
  have e : ∀ c k, subX gc.xm c c = true → subX gc.xm c k = (c == k || k == 0) := fun c k h => by
    unfold subX
    rw [decide_eq_true (subX_mem h), Bool.true_and]
  exact ⟨⟨fun c h => h1.get c (subX_mem h), fun k h => h2.get k h, fun c k h hk => by rw [e c k h]; exact ((h3.get c (subX_mem h)).get k hk).1, fun c k h hk => by rw [e c k h]; exact ((h3.get c (subX_mem h)).get k hk).2⟩, fun k h => subX_of h, fun c h => h6.get c (subX_mem h), h4.get, h5.get⟩
theorem law_walk {l : PySem.W.OpenLaw} {q : Program} {loose : List Str} {XP : (Str → Option Value) → Heap → Prop} {YP : World → Heap → Prop} {d : DefRec} {K : Params → PySem.W.Frag} {x : Str} {gc : Gc} {tb : List Dd} {n : Nat} {e : Dd} {sub : Sub}
    (hn : l.most = some 63) (hdf : d.params.defaults = []) (hk : tb[n]? = some e) (hname : e.name = d.name) (hps : e.ps = [x] ∧ e.lt = none ∧ e.cs = none) (hr : Room (n + 3) callerA)
    (hY : ∀ (w : World) (h : Heap), YP w h → (K w.params).In h) (hchk : chkAll gc tb = true)
    (F : ∀ (w : World) (mg : Str → Option Value) (h : Heap), (K w.params).In h → h.Ns mainGlobals mg → (∀ (i : Nat) (e : Dd), tb[i]? = some e → ∃ fa fd, At (K w.params) mg e fa fd) ∧ (∀ x ∈ bltNames, mg x = none) ∧ GcOk (K w.params) mg sub gc ∧ ∀ fa fd, At (K w.params) mg e fa fd → ∀ (s : Shared) (u : Value), BindsTo s fd ⟨[u], []⟩ [(x, u)])
    (hlaw : ∀ ns : List Int, ns.length ≤ 63 → (∀ z ∈ ns, Builtin.Int.intBits z ≤ 1048576) → ∃ r, sem sub (tb.map Dd.d) (n + 1) n [.scr ns] = .ok (.bl true, r)) :
    PySem.W.WalkO q loose XP YP l.row.toRowW d [] (fun f vs => PySem.call f vs) := by
  refine L2.walk_ofB (n := 63) (k := n + 3) (x := x) (CX := fun w => L2.CX l.prog w) (sp := fun w => spD ⟨K w.params, w⟩ (caK (K w.params)) (sem sub (tb.map Dd.d) (n + 1) n) 1 e.res) hn (by decide) hdf hr hY (fun w mg fa h KX G hmg => ?_) (fun w H a ns hl hb hO hS => ?_) fun w H s ex s' z => ?_
  · obtain ⟨hat, hz, hgc, hbt⟩ := F w mg h KX G
    obtain ⟨fa', fd, A⟩ := hat n e hk
    have e1 : fa' = fa := by
      have := A.mgf
      rw [hname, hmg] at this
      injection this with this
      injection this with this
      exact this.symm
    subst e1
    refine ⟨fd, hbt _ fd A, fun base _ _ => ?_⟩
    have := link (P := l.prog) (w := w) (base := base) (sub := sub) (ca := caK (K w.params)) hchk hgc rfl hat hz n e hk fa' fd A
    have this := this.1 hps.2.1 hps.2.2
    rw [hps.1] at this
    exact this
  · obtain ⟨r, hr⟩ := hlaw ns hl hb
    refine ⟨[.scr ns], fun _ => True, ?_, rfl, ?_⟩
    · refine RepL.cons (f1 := []) (f2 := []) ?_ RepL.nil
      simp only [Rep]
      refine ⟨⟨a, rfl, ?_⟩, trivial⟩
      rcases hS with (h | h) | h
      · rcases hO a with z | ⟨o, xs, z⟩
        · rw [z] at h; cases h
        · rw [z] at h; cases h
      · exact .inl h
      · exact .inr h
    · rw [hr]
      intro v H' fp _ _ _ rep
      have rep : Rep _ _ _ (.bl true) _ _ _ := rep
      simp only [Rep] at rep
      exact rep.1
  · obtain ⟨_, _, _, _, _, _, _, _, _, _, _, _, z⟩ := z
    exact z
end L2.Py

set_option maxRecDepth 100000
set_option maxHeartbeats 1000000
namespace L2.Py
open PySem PySem.Spec PyProof.Rows TL
theorem noExn_ok {α : Type} (a : α) : noExn (R.ok a) = .ok a := rfl
theorem smallR {i j : Int} (h1 : -(2 ^ 64) < j) (h2 : j < 2 ^ 64) : smallF i j = true := by
  unfold smallF
  simp only [Bool.or_eq_true, Bool.and_eq_true, decide_eq_true_eq]
  exact .inr ⟨h1, h2⟩
theorem smallL {i j : Int} (h1 : -(2 ^ 64) < i) (h2 : i < 2 ^ 64) : smallF i j = true := by
  unfold smallF
  simp only [Bool.or_eq_true, Bool.and_eq_true, decide_eq_true_eq]
  exact .inl ⟨h1, h2⟩
@[simp] theorem d_sub (i j : Int) : binD .sub (.int i) (.int j) = .ok (.int (i - j)) := rfl
@[simp] theorem d_add (i j : Int) : binD .add (.int i) (.int j) = .ok (.int (i + j)) := rfl
theorem d_mul {i j : Int} (h : smallF i j = true) : binD .mul (.int i) (.int j) = .ok (.int (i * j)) := by
  show (if smallF i j then _ else _) = _
  rw [if_pos h]
theorem d_fdiv {i j : Int} (h1 : 0 < j) (h2 : j < 1073741824) : binD .fdiv (.int i) (.int j) = .ok (.int (i / j)) := by
  show (if decide (0 < j) && decide (j < 1073741824) then _ else _) = _
  rw [if_pos (by simp [h1, h2])]
theorem d_mod {i j : Int} (h1 : 0 < j) : binD .mod (.int i) (.int j) = .ok (.int (i % j)) := by
  show (if 0 < j then _ else _) = _
  rw [if_pos h1]
theorem d_cat {s t : W} (h : s.length + t.length ≤ lim) : binD .add (.str s) (.str t) = .ok (.str (s ++ t)) := by
  show (if _ then _ else _) = _
  rw [if_pos h]
@[simp] theorem eqD_str (a b : W) : eqD (.str a) (.str b) = .ok (a == b) := rfl
@[simp] theorem eqD_int (a b : Int) : eqD (.int a) (.int b) = .ok (a == b) := rfl
theorem atD_some {α : Type} {xs : List α} {i : Int} {a : α} (h0 : 0 ≤ i) (h : xs[i.toNat]? = some a) : atD xs i = .ok a := by
  have hl : i.toNat < xs.length := (List.getElem?_eq_some_iff.mp h).1
  unfold atD ixOf
  rw [if_pos h0, if_pos (by omega)]
  simp only [Option.bind_some, h]
  rfl
theorem atD_nat {α : Type} {xs : List α} {i : Nat} {a : α} (h : xs[i]? = some a) : atD xs (i : Int) = .ok a := atD_some (by omega) (by simpa using h)
theorem begins_take : ∀ {p a : W}, begins p a = true ↔ a.take p.length = p
  | [], a => by simp [begins]
  | x :: xs, [] => by simp [begins]
  | x :: xs, y :: ys => by
    simp only [begins, Bool.and_eq_true, beq_iff_eq, begins_take (p := xs) (a := ys), List.length_cons, List.take_succ_cons, List.cons.injEq]
    constructor
    · rintro ⟨rfl, h⟩; exact ⟨rfl, h⟩
    · rintro ⟨rfl, h⟩; exact ⟨rfl, h⟩
theorem slB_nat (n d k : Nat) : slB n d (some (k : Int)) = min k n := by
  unfold slB
  dsimp only
  rw [if_neg (by omega)]
  simp
theorem cutH {α : Type} (xs : List α) (k : Nat) : cutL xs none (some (k : Int)) = xs.take k := by
  unfold cutL
  rw [slB_nat]
  show (xs.drop 0).take (min k xs.length - 0) = _
  rw [List.drop_zero, Nat.sub_zero]
  by_cases h : k ≤ xs.length
  · rw [Nat.min_eq_left h]
  · rw [Nat.min_eq_right (by omega), List.take_of_length_le (Nat.le_refl _), List.take_of_length_le (by omega)]
end L2.Py

set_option maxRecDepth 100000
set_option maxHeartbeats 1000000
namespace L2.Py
open PySem PySem.Spec PyProof.Rows TL
def D_l_cell_at : Def := { nps := 2, nsl := 2, body := [
  .iff (.cmp .lt (.slot 1) (.blt .len [(.slot 0)])) [.ret (.idx (.slot 0) (.slot 1))] [],
  .ret (.cint 0)] }
def B_l_word_1 : List S := [.asg 3 .fr (.bin .add (.slot 3) (.idx (.slot 1) (.bin .mod (.bin .add (.slot 0) (.bin .mul (.slot 4) (.slot 4))) (.blt .len [(.slot 1)])))), .asg 0 .fr (.bin .fdiv (.slot 0) (.blt .len [(.slot 1)]))]
def D_l_word : Def := { nps := 1, nsl := 5, body := [
  .asg 1 .fr (.idx (.lst [(.cstr [97, 98]), (.cstr [97]), (.cstr [97, 98, 99, 100, 101, 102, 103, 104, 105, 106, 107, 108, 109, 110, 111, 112, 113, 114, 115, 116, 117, 118, 119, 120, 121, 122])]) (.bin .mod (.slot 0) (.cint 3))),
  .asg 2 .fr (.idx (.lst [(.cint 0), (.cint 1), (.cint 1), (.cint 2), (.cint 3), (.cint 4)]) (.bin .mod (.bin .fdiv (.slot 0) (.cint 3)) (.cint 6))),
  .iff (.cmp .eq (.bin .mod (.bin .fdiv (.slot 0) (.cint 18)) (.cint 12)) (.cint 5)) [.asg 2 .fr (.bin .mod (.bin .fdiv (.slot 0) (.cint 216)) (.cint 41)), .asg 0 .fr (.bin .fdiv (.slot 0) (.cint 41))] [],
  .asg 0 .fr (.bin .fdiv (.slot 0) (.cint 216)),
  .asg 3 .fr (.cstr []),
  .frh false [4] false .range1 [(.slot 2)] B_l_word_1,
  .ret (.slot 3)] }
section
variable {sub : Sub} {G : Gam}
def cellAt (ns : List Int) (k : Int) : Int := ns.getD k.toNat 0
theorem len_scr (ns : List Int) : bltD sub .len [.scr ns] = .ok (.int ns.length) := rfl
theorem cell_run (ns : List Int) (k : Int) (h0 : 0 ≤ k) : runDef sub G D_l_cell_at [.scr ns, .int k] = .ok (.int (cellAt ns k), []) := by
  have c : cmpD .lt (.int k) (.int (ns.length : Int)) = .ok (.bl (decide (k < ns.length))) := rfl
  unfold runDef
  simp only [D_l_cell_at, entry, outs, runs, run, ev, evs, Rho.get, Rho.put, List.length_cons, List.length_nil, List.map_cons, List.map_nil, List.replicate, List.cons_append, List.nil_append, List.getElem?_cons_zero, List.getElem?_cons_succ, List.set_cons_zero, List.set_cons_succ, ok_bind, ofR_ok, pure_ok, isTrueD, len_scr, c]
  by_cases h : k < ns.length
  · have e : ns[k.toNat]? = some (cellAt ns k) := by
      unfold cellAt
      rw [List.getD_eq_getElem?_getD, List.getElem?_eq_getElem (by omega)]
      rfl
    have e2 : idxD (.scr ns) (.int k) = .ok (.int (cellAt ns k)) := by
      show (do let n ← atD ns k; pure (D.int n) : R D) = _
      rw [atD_some h0 e]; rfl
    simp only [h, decide_true, if_true, e2, ofR_ok]
  · have e : cellAt ns k = 0 := by
      unfold cellAt
      rw [List.getD_eq_getElem?_getD, List.getElem?_eq_none (by omega)]
      rfl
    simp only [h, decide_false, Bool.false_eq_true, if_false, e]
    rfl
theorem len_str {s : W} (h : s.length ≤ lim) : bltD sub .len [.str s] = .ok (.int s.length) := by
  show (if s.length ≤ lim then _ else _) = _
  rw [if_pos h]
theorem idx_str {s : W} {k : Int} (hl : s.length ≤ lim) (h0 : 0 ≤ k) (h1 : k < s.length) : ∃ c, s[k.toNat]? = some c ∧ idxD (.str s) (.int k) = .ok (.str [c]) := by
  have e := List.getElem?_eq_getElem (l := s) (i := k.toNat) (by omega)
  refine ⟨_, e, ?_⟩
  show (if s.length ≤ lim then (do let c ← atD s k; pure (D.str [c]) : R D) else .stk) = _
  rw [if_pos hl, atD_some h0 e]
  rfl
theorem bind1 (i : Nat) (d : D) (ρ : Rho) : bindFl false false [i] d ρ = .ok (ρ.put i d) := rfl
theorem forR_cons {f : D → Rho → R Rho} {b : Rho → Out} {d : D} {ds : List D} {ρ ρ1 : Rho} (h : f d ρ = .ok ρ1) : forR f b (d :: ds) ρ = (match b ρ1 with | .next ρ2 => forR f b ds ρ2 | o => o) := by
  rw [forR, h]; rfl
def letters (w : W) : Prop := ∀ c ∈ w, 97 ≤ c ∧ c ≤ 122
theorem word_loop (L : W) (hLt : letters L) (hL : 0 < L.length) (hL2 : L.length ≤ 26) (z : D) : ∀ (n : Nat) (lo : Int) (r : Int) (w : W) (k : Option D), 0 ≤ lo → lo + n ≤ 100 → w.length + n ≤ 100 → letters w →
    ∃ r' w' k', w'.length = w.length + n ∧ letters w' ∧ forR (fun d r => bindFl false false [4] d r) (fun r => runs sub G B_l_word_1 r) (upto lo n) [some (.int r), some (.str L), some z, some (.str w), k] = .next [some (.int r'), some (.str L), some z, some (.str w'), k']
  | 0, lo, r, w, k, _, _, _, hw => ⟨r, w, k, rfl, hw, rfl⟩
  | n + 1, lo, r, w, k, h0, h1, h2, hw => by
    have hl : L.length ≤ lim := by unfold lim; omega
    have e1 : smallF lo lo = true := smallL (by omega) (by omega)
    have hp : (0 : Int) < (L.length : Int) := by omega
    obtain ⟨c, ec, e2⟩ := idx_str (k := (r + lo * lo) % (L.length : Int)) hl (Int.emod_nonneg _ (by omega)) (Int.emod_lt_of_pos _ hp)
    have e3 : binD .add (.str w) (.str [c]) = .ok (.str (w ++ [c])) := d_cat (by simp; unfold lim; omega)
    obtain ⟨r', w', k', q1, qw, q2⟩ := word_loop L hLt hL hL2 z n (lo + 1) (r / L.length) (w ++ [c]) (some (.int lo)) (by omega) (by omega) (by simp; omega) (fun x hx => by
      rcases List.mem_append.mp hx with hx | hx
      · exact hw x hx
      · rw [List.mem_singleton.mp hx]; exact hLt c (List.mem_of_getElem? ec))
    refine ⟨r', w', k', by rw [q1, List.length_append]; simp; omega, qw, ?_⟩
    rw [upto, forR_cons (bind1 4 _ _)]
    rw [← q2]
    simp only [B_l_word_1, entry, outs, runs, run, ev, evs, Rho.get, Rho.put, List.length_cons, List.length_nil, List.map_cons, List.map_nil, List.replicate, List.cons_append, List.nil_append, List.getElem?_cons_zero, List.getElem?_cons_succ, List.set_cons_zero, List.set_cons_succ, ok_bind, ofR_ok, pure_ok, isTrueD, len_str hl, d_mul e1, d_add, d_mod hp, e2, e3, d_fdiv hp (show (L.length : Int) < 1073741824 by omega)]
theorem three (r : Int) (a b c : D) : ∃ d, (d = a ∨ d = b ∨ d = c) ∧ idxD (.lst [a, b, c]) (.int (r % 3)) = .ok d := by
  have h1 : 0 ≤ r % 3 := by omega
  have h2 : r % 3 < 3 := by omega
  show ∃ d, _ ∧ atD [a, b, c] (r % 3) = .ok d
  have : r % 3 = 0 ∨ r % 3 = 1 ∨ r % 3 = 2 := by omega
  rcases this with e | e | e
  · exact ⟨a, .inl rfl, by rw [e]; rfl⟩
  · exact ⟨b, .inr (.inl rfl), by rw [e]; rfl⟩
  · exact ⟨c, .inr (.inr rfl), by rw [e]; rfl⟩
theorem six (r : Int) : ∃ z : Int, 0 ≤ z ∧ z ≤ 40 ∧ idxD (.lst [.int 0, .int 1, .int 1, .int 2, .int 3, .int 4]) (.int (r % 6)) = .ok (.int z) := by
  show ∃ z : Int, _ ∧ _ ∧ atD [D.int 0, .int 1, .int 1, .int 2, .int 3, .int 4] (r % 6) = .ok (.int z)
  have : r % 6 = 0 ∨ r % 6 = 1 ∨ r % 6 = 2 ∨ r % 6 = 3 ∨ r % 6 = 4 ∨ r % 6 = 5 := by omega
  rcases this with e | e | e | e | e | e
  · exact ⟨0, by omega, by omega, by rw [e]; rfl⟩
  · exact ⟨1, by omega, by omega, by rw [e]; rfl⟩
  · exact ⟨1, by omega, by omega, by rw [e]; rfl⟩
  · exact ⟨2, by omega, by omega, by rw [e]; rfl⟩
  · exact ⟨3, by omega, by omega, by rw [e]; rfl⟩
  · exact ⟨4, by omega, by omega, by rw [e]; rfl⟩
theorem word_runL (r : Int) : ∃ w : W, w.length ≤ 40 ∧ letters w ∧ runDef sub G D_l_word [.int r] = .ok (.str w, []) := by
  obtain ⟨d, hd, e1⟩ := three r (.str [97, 98]) (.str [97]) (.str [97, 98, 99, 100, 101, 102, 103, 104, 105, 106, 107, 108, 109, 110, 111, 112, 113, 114, 115, 116, 117, 118, 119, 120, 121, 122])
  obtain ⟨L, rfl, hL, hLt⟩ : ∃ L : W, d = .str L ∧ (0 < L.length ∧ L.length ≤ 26) ∧ letters L := by
    rcases hd with rfl | rfl | rfl
    · exact ⟨_, rfl, by simp, by unfold letters; decide⟩
    · exact ⟨_, rfl, by simp, by unfold letters; decide⟩
    · exact ⟨_, rfl, by simp, by unfold letters; decide⟩
  obtain ⟨z, z0, z1, e2⟩ := six (r / 3)
  have fin : ∀ (r z : Int), 0 ≤ z → z ≤ 40 → ∃ w : W, w.length ≤ 40 ∧ letters w ∧ ∃ ρ, runs sub G [.asg 0 .fr (.bin .fdiv (.slot 0) (.cint 216)), .asg 3 .fr (.cstr []), .frh false [4] false .range1 [(.slot 2)] B_l_word_1, .ret (.slot 3)] [some (.int r), some (.str L), some (.int z), none, none] = .ret (.str w) ρ := fun r z h0 h1 => by
    obtain ⟨r', w', k', q1, qw, q2⟩ := word_loop (sub := sub) (G := G) L hLt hL.1 hL.2 (.int z) z.toNat 0 (r / 216) [] none (by omega) (by omega) (by simp; omega) (fun _ h => nomatch h)
    refine ⟨w', by rw [q1]; simp; omega, qw, [some (.int r'), some (.str L), some (.int z), some (.str w'), k'], ?_⟩
    have e3 : itD .range1 [.int z] = .ok (upto 0 z.toNat) := by
      show (if small62 z then _ else _) = _
      rw [if_pos (by unfold small62; simp; omega)]
    simp only [entry, outs, runs, run, ev, evs, Rho.get, Rho.put, List.length_cons, List.length_nil, List.map_cons, List.map_nil, List.replicate, List.cons_append, List.nil_append, List.getElem?_cons_zero, List.getElem?_cons_succ, List.set_cons_zero, List.set_cons_succ, ok_bind, ofR_ok, pure_ok, isTrueD, d_fdiv (show (0 : Int) < 216 by decide) (by decide), e3, q2]
  have m3 : binD .mod (.int r) (.int 3) = .ok (.int (r % 3)) := d_mod (by decide)
  have f3 : binD .fdiv (.int r) (.int 3) = .ok (.int (r / 3)) := d_fdiv (by decide) (by decide)
  have m6 : binD .mod (.int (r / 3)) (.int 6) = .ok (.int (r / 3 % 6)) := d_mod (by decide)
  have f18 : binD .fdiv (.int r) (.int 18) = .ok (.int (r / 18)) := d_fdiv (by decide) (by decide)
  have m12 : binD .mod (.int (r / 18)) (.int 12) = .ok (.int (r / 18 % 12)) := d_mod (by decide)
  have f216 : binD .fdiv (.int r) (.int 216) = .ok (.int (r / 216)) := d_fdiv (by decide) (by decide)
  have m41 : binD .mod (.int (r / 216)) (.int 41) = .ok (.int (r / 216 % 41)) := d_mod (by decide)
  have f41 : binD .fdiv (.int r) (.int 41) = .ok (.int (r / 41)) := d_fdiv (by decide) (by decide)
  have c5 : cmpD .eq (.int (r / 18 % 12)) (.int 5) = .ok (.bl (r / 18 % 12 == 5)) := rfl
  unfold runDef
  simp only [D_l_word, List.length_cons, List.length_nil, if_true, Nat.zero_add]
  by_cases h : (r / 18 % 12 == 5) = true
  · obtain ⟨w, hw, hlt, ρ, q⟩ := fin (r / 41) (r / 216 % 41) (by omega) (by omega)
    refine ⟨w, hw, hlt, ?_⟩
    have go : runs sub G D_l_word.body (entry 5 [.int r]) = .ret (.str w) ρ := by
      rw [← q]
      simp only [D_l_word, B_l_word_1, entry, outs, runs, run, ev, evs, Rho.get, Rho.put, List.length_cons, List.length_nil, List.map_cons, List.map_nil, List.replicate, List.cons_append, List.nil_append, List.getElem?_cons_zero, List.getElem?_cons_succ, List.set_cons_zero, List.set_cons_succ, ok_bind, ofR_ok, pure_ok, isTrueD, m3, e1, f3, m6, e2, f18, m12, c5, h, if_true, f216, m41, f41]
    simp only [D_l_word] at go
    rw [go]
    rfl
  · obtain ⟨w, hw, hlt, ρ, q⟩ := fin r z z0 z1
    refine ⟨w, hw, hlt, ?_⟩
    have go : runs sub G D_l_word.body (entry 5 [.int r]) = .ret (.str w) ρ := by
      rw [← q]
      simp only [D_l_word, B_l_word_1, entry, outs, runs, run, ev, evs, Rho.get, Rho.put, List.length_cons, List.length_nil, List.map_cons, List.map_nil, List.replicate, List.cons_append, List.nil_append, List.getElem?_cons_zero, List.getElem?_cons_succ, List.set_cons_zero, List.set_cons_succ, ok_bind, ofR_ok, pure_ok, isTrueD, m3, e1, f3, m6, e2, f18, m12, c5, h, Bool.false_eq_true, if_false]
    simp only [D_l_word] at go
    rw [go]
    rfl
theorem word_run (r : Int) : ∃ w : W, w.length ≤ 40 ∧ runDef sub G D_l_word [.int r] = .ok (.str w, []) := let ⟨w, h1, _, h2⟩ := word_runL r; ⟨w, h1, h2⟩
end
end L2.Py

set_option maxRecDepth 100000
set_option maxHeartbeats 1000000
namespace L2.Py
open PySem PySem.Spec PyProof.Rows TL
section
variable {sub : Sub} {G : Gam}
theorem eqI (a b : Int) : cmpD .eq (.int a) (.int b) = .ok (.bl (a == b)) := rfl
theorem neI (a b : Int) : cmpD .ne (.int a) (.int b) = .ok (.bl (!(a == b))) := rfl
theorem gtI (a b : Int) : cmpD .gt (.int a) (.int b) = .ok (.bl (decide (b < a))) := rfl
theorem eqS (a b : W) : cmpD .eq (.str a) (.str b) = .ok (.bl (a == b)) := rfl
theorem neS (a b : W) : cmpD .ne (.str a) (.str b) = .ok (.bl (!(a == b))) := rfl
theorem range1_run (i : Int) (h : small62 i = true) : itD .range1 [.int i] = .ok (upto 0 i.toNat) := by
  unfold itD
  simp only [h, if_true]
theorem range1_nat (n : Nat) (h : n ≤ 1000000) : itD .range1 [.int (n : Int)] = .ok (upto 0 n) := by
  have q := range1_run (n : Int) (by unfold small62; simp only [Bool.and_eq_true, decide_eq_true_eq]; omega)
  rwa [Int.toNat_natCast] at q
end
end L2.Py

set_option maxRecDepth 100000
set_option maxHeartbeats 2000000
namespace L2.Py
open PySem PySem.Spec PyProof.Rows TL
section
variable {sub : Sub} {G : Gam} {ρ ρ' : Rho} {ss a b : List S} {e c : E} {d : D} {i : Nat} {t : OT}
theorem runs_asg (h : ev sub G e ρ = .ok d) : runs sub G (.asg i t e :: ss) ρ = runs sub G ss (ρ.put i d) := by rw [runs, L2.Py.run, h, ofR_ok]
theorem runs_frz : runs sub G (.frz i :: ss) ρ = runs sub G ss ρ := by rw [runs, L2.Py.run]
theorem runs_ret (h : ev sub G e ρ = .ok d) : runs sub G (.ret e :: ss) ρ = .ret d ρ := by rw [runs, L2.Py.run, h, ofR_ok]
theorem runs_asgT {is : List Nat} {ds : List D} (h : ev sub G e ρ = .ok (.tup ds)) (h2 : L2.Py.putAll ρ is ds = .ok ρ') : runs sub G (.asgT is e :: ss) ρ = runs sub G ss ρ' := by rw [runs, L2.Py.run, h, ofR_ok]; dsimp only; rw [h2, ofR_ok]
theorem runs_iffT (h : ev sub G c ρ = .ok (.bl true)) : runs sub G (.iff c a b :: ss) ρ = match runs sub G a ρ with | .next ρ' => runs sub G ss ρ' | o => o := by rw [runs, L2.Py.run, h, ofR_ok, isTrueD, ofR_ok, if_pos rfl] <;> rfl
theorem runs_iffF (h : ev sub G c ρ = .ok (.bl false)) : runs sub G (.iff c a b :: ss) ρ = match runs sub G b ρ with | .next ρ' => runs sub G ss ρ' | o => o := by rw [runs, L2.Py.run, h, ofR_ok, isTrueD, ofR_ok, if_neg Bool.false_ne_true] <;> rfl
theorem runs_skip (h : ev sub G c ρ = .ok (.bl false)) : runs sub G (.iff c a [] :: ss) ρ = runs sub G ss ρ := by rw [runs_iffF h, runs]
theorem runs_then (h : ev sub G c ρ = .ok (.bl true)) (h2 : runs sub G a ρ = .next ρ') : runs sub G (.iff c a b :: ss) ρ = runs sub G ss ρ' := by rw [runs_iffT h, h2]
theorem runs_thenR (h : ev sub G c ρ = .ok (.bl true)) (h2 : runs sub G a ρ = .ret d ρ') : runs sub G (.iff c a b :: ss) ρ = .ret d ρ' := by rw [runs_iffT h, h2]
theorem runs_else (h : ev sub G c ρ = .ok (.bl false)) (h2 : runs sub G b ρ = .next ρ') : runs sub G (.iff c a b :: ss) ρ = runs sub G ss ρ' := by rw [runs_iffF h, h2]
theorem runs_frh {tt fl : Bool} {tg : List Nat} {k : ItK} {its : List E} {xs ds : List D} (h1 : evs sub G its ρ = .ok xs) (h2 : itD k xs = .ok ds) :
    runs sub G (.frh tt tg fl k its b :: ss) ρ = match forR (fun d r => bindFl fl tt tg d r) (fun r => runs sub G b r) ds ρ with | .next ρ' => runs sub G ss ρ' | o => o := by rw [runs, L2.Py.run, h1, ofR_ok, h2, ofR_ok] <;> rfl
theorem runs_frhN {tt fl : Bool} {tg : List Nat} {k : ItK} {its : List E} {xs ds : List D} (h1 : evs sub G its ρ = .ok xs) (h2 : itD k xs = .ok ds) (h3 : forR (fun d r => bindFl fl tt tg d r) (fun r => runs sub G b r) ds ρ = .next ρ') :
    runs sub G (.frh tt tg fl k its b :: ss) ρ = runs sub G ss ρ' := by rw [runs_frh h1 h2, h3]
theorem runs_mut {x x' : D} {xs ps as : List D} {path args : List E} {m : Mt} (h1 : ρ.get i = .ok x) (h2 : evs sub G path ρ = .ok ps) (h3 : atPath ps x = .ok (.lst xs)) (h4 : evs sub G args ρ = .ok as) (h5 : updAt (mutD m as) ps x = .ok x') :
    runs sub G (.mut i path m args :: ss) ρ = runs sub G ss (ρ.put i x') := by rw [runs, L2.Py.run, h1, ofR_ok, h2, ofR_ok, h3, ofR_ok]; dsimp only; rw [h4, ofR_ok, h5, ofR_ok]
theorem runs_app {xs : List D} (h1 : ρ.get i = .ok (.lst xs)) (h2 : ev sub G e ρ = .ok d) (h3 : xs.length < lim) : runs sub G (.app i e :: ss) ρ = runs sub G ss (ρ.put i (.lst (xs ++ [d]))) := by rw [runs, L2.Py.run, h1, ofR_ok]; dsimp only; rw [h2, ofR_ok, if_pos h3]
theorem run_def {D0 : Def} {xs : List D} (hn : xs.length = D0.nps) (ho : D0.io = []) (h : runs sub G D0.body (entry D0.nsl xs) = .ret d ρ) : runDef sub G D0 xs = .ok (d, []) := by
  unfold runDef
  rw [if_pos hn, h]
  show R.ok (d, outs D0.io ρ) = _
  rw [ho]; rfl
end
section
variable {sub : Sub} {G : Gam}
theorem compF {α : Type} {elt : Rho → R D} {keep : Rho → R Bool} {bd : D → R Rho} (f g : α → D) (p : α → Bool) : ∀ (xs : List α), (∀ x ∈ xs, ∃ ρ, bd (f x) = .ok ρ ∧ keep ρ = .ok (p x) ∧ (p x = true → elt ρ = .ok (g x))) → compL elt keep bd (xs.map f) = .ok ((xs.filter p).map g)
  | [], _ => rfl
  | x :: xs, h => by
    obtain ⟨ρ, h1, h2, h3⟩ := h x List.mem_cons_self
    have ih := compF f g p xs fun y hy => h y (List.mem_cons_of_mem _ hy)
    rw [List.map_cons, compL, h1, ok_bind, h2, ok_bind]
    by_cases hp : p x = true
    · rw [if_pos hp, h3 hp, ok_bind, ih, List.filter_cons_of_pos hp]
      rfl
    · rw [if_neg hp, ih, List.filter_cons_of_neg hp]
theorem ev_comp {fl t : Bool} {tg : List Nat} {k : ItK} {its : List E} {elt : E} {cs : List E} {ρ : Rho} {xs ds ys : List D} (h1 : evs sub G its ρ = .ok xs) (h2 : itD k xs = .ok ds)
    (h3 : compL (fun r => ev sub G elt r) (fun r => evc sub G cs r) (fun d => bindFl fl t tg d (wipeE ρ tg)) ds = .ok ys) (h4 : ys.length ≤ lim) : ev sub G (.comp fl tg t k its elt cs) ρ = .ok (.lst ys) := by
  rw [ev, h1, ok_bind, h2, ok_bind, h3, noExn_ok, ok_bind, if_pos h4]
  rfl
end
abbrev Pr := Int × W
abbrev Sp4 := Int × W × W × Int
def dPr (p : Pr) : D := .tup [.int p.1, .str p.2]
def dSt (s : Sp4) : D := .tup [.int s.1, .str s.2.1, .str s.2.2.1, .int s.2.2.2]
structure Scr where
  sg : W
  rm : Int
  bs : List Pr
  ss : List Sp4
  es : List Pr
  deriving DecidableEq
def Scr.d (S : Scr) : D := .tup [.str S.sg, .int S.rm, .lst (S.bs.map dPr), .lst (S.ss.map dSt), .lst (S.es.map dPr)]
theorem eqv_pr (p q : Pr) : (dPr p).eqv (dPr q) = decide (p = q) := by
  obtain ⟨a, b⟩ := p
  obtain ⟨c, d⟩ := q
  simp only [dPr, D.eqv, eqvL, List.isEmpty, Bool.and_true]
  by_cases h1 : a = c <;> by_cases h2 : b = d <;> simp [h1, h2]
theorem eqv_st (p q : Sp4) : (dSt p).eqv (dSt q) = decide (p = q) := by
  obtain ⟨a, b, c, d⟩ := p
  obtain ⟨a', b', c', d'⟩ := q
  simp only [dSt, D.eqv, eqvL, List.isEmpty, Bool.and_true]
  by_cases h1 : a = a' <;> by_cases h2 : b = b' <;> by_cases h3 : c = c' <;> by_cases h4 : d = d' <;> simp [h1, h2, h3, h4]
theorem eqvL_of {α : Type} [DecidableEq α] {f : α → D} (h : ∀ p q, (f p).eqv (f q) = decide (p = q)) : ∀ xs ys : List α, eqvL (xs.map f) (ys.map f) = decide (xs = ys)
  | [], [] => by simp [eqvL]
  | [], y :: ys => by simp [eqvL]
  | x :: xs, [] => by simp [eqvL]
  | x :: xs, y :: ys => by
    simp only [List.map_cons, eqvL, h, eqvL_of h xs ys]
    by_cases h1 : x = y <;> by_cases h2 : xs = ys <;> simp [h1, h2]
theorem any_of {α : Type} [DecidableEq α] {f : α → D} (h : ∀ p q, (f p).eqv (f q) = decide (p = q)) (x : α) : ∀ xs : List α, ((xs.map f).any fun y => y.eqv (f x)) = decide (x ∈ xs)
  | [] => by simp
  | y :: ys => by
    rw [List.map_cons, List.any_cons, h, any_of h x ys]
    by_cases h1 : y = x
    · simp [h1]
    · have h2 : ¬ x = y := fun z => h1 z.symm
      simp [h1, h2]
theorem plainN_pr (p : Pr) (n : Nat) : (dPr p).plainN (n + 1) = true := by simp [dPr, D.plainN, plainLN]
theorem plainN_st (p : Sp4) (n : Nat) : (dSt p).plainN (n + 1) = true := by simp [dSt, D.plainN, plainLN]
theorem plainL_of {α : Type} {f : α → D} {n : Nat} (h : ∀ p, (f p).plainN n = true) : ∀ xs : List α, plainLN (xs.map f) n = true
  | [] => rfl
  | x :: xs => by rw [List.map_cons, plainLN, h, plainL_of h xs]; rfl
theorem Scr.plain (S : Scr) : S.d.plain = true := by
  simp [Scr.d, D.plain, D.plainN, plainLN, plainL_of (f := dPr) (fun p => plainN_pr p 17), plainL_of (f := dSt) (fun p => plainN_st p 17)]
theorem Scr.eqv (S T : Scr) : S.d.eqv T.d = decide (S = T) := by
  obtain ⟨a, b, c, d, e⟩ := S
  obtain ⟨a', b', c', d', e'⟩ := T
  simp only [Scr.d, D.eqv, eqvL, List.isEmpty, Bool.and_true, eqvL_of eqv_pr, eqvL_of eqv_st]
  by_cases h1 : a = a' <;> by_cases h2 : b = b' <;> by_cases h3 : c = c' <;> by_cases h4 : d = d' <;> by_cases h5 : e = e' <;> simp [h1, h2, h3, h4, h5]
theorem Scr.eq (S T : Scr) : cmpD .eq S.d T.d = .ok (.bl (decide (S = T))) := by
  show (eqD S.d T.d >>= fun r => R.ok (D.bl r)) = _
  unfold eqD
  rw [S.plain, T.plain, Scr.eqv]
  simp only [Bool.and_self, if_true, ok_bind]
theorem Scr.ne (S T : Scr) : cmpD .ne S.d T.d = .ok (.bl (!decide (S = T))) := by
  show (eqD S.d T.d >>= fun r => R.ok (D.bl (!r))) = _
  unfold eqD
  rw [S.plain, T.plain, Scr.eqv]
  simp only [Bool.and_self, if_true, ok_bind]
theorem notin_pr (p : Pr) (xs : List Pr) : cmpD .notin (dPr p) (.lst (xs.map dPr)) = .ok (.bl (!decide (p ∈ xs))) := by
  show (inD (dPr p) (.lst (xs.map dPr)) >>= fun r => R.ok (D.bl (!r))) = _
  unfold inD
  dsimp only
  rw [show (dPr p).plain = true from plainN_pr p 19, show plainL (xs.map dPr) = true from plainL_of (fun p => plainN_pr p 19) xs, any_of eqv_pr]
  exact congrArg (fun b => R.ok (D.bl (!b))) (decide_eq_decide.mpr Iff.rfl)
theorem notin_st (p : Sp4) (xs : List Sp4) : cmpD .notin (dSt p) (.lst (xs.map dSt)) = .ok (.bl (!decide (p ∈ xs))) := by
  show (inD (dSt p) (.lst (xs.map dSt)) >>= fun r => R.ok (D.bl (!r))) = _
  unfold inD
  dsimp only
  rw [show (dSt p).plain = true from plainN_st p 19, show plainL (xs.map dSt) = true from plainL_of (fun p => plainN_st p 19) xs, any_of eqv_st]
  exact congrArg (fun b => R.ok (D.bl (!b))) (decide_eq_decide.mpr Iff.rfl)
def okL (wl : Nat) (w : W) : Prop := w.length ≤ wl ∧ letters w
abbrev okW (w : W) : Prop := okL 40 w
structure WFL (wl : Nat) (S : Scr) (most : Int) : Prop where
  sg : 0 < S.sg.length ∧ S.sg.length ≤ 7
  sgl : letters S.sg
  rm : 0 ≤ S.rm ∧ S.rm ≤ most
  bs : ∀ p ∈ S.bs, (0 ≤ p.1 ∧ p.1 < S.rm) ∧ okL wl p.2
  ss : ∀ p ∈ S.ss, (0 ≤ p.1 ∧ p.1 < S.rm) ∧ (∃ c ∈ S.sg, p.2.1 = [c]) ∧ okL wl p.2.2.1 ∧ (0 ≤ p.2.2.2 ∧ p.2.2.2 < S.rm)
  es : ∀ p ∈ S.es, (0 ≤ p.1 ∧ p.1 < S.rm) ∧ okL wl p.2
  nb : S.bs.Nodup
  ns : S.ss.Nodup
  ne : S.es.Nodup
  len : S.bs.length ≤ 63 ∧ S.ss.length ≤ 300 ∧ S.es.length ≤ 100 ∧ S.ss.length + S.es.length ≤ 400 ∧ S.bs.length + S.ss.length ≤ 363
section
variable {sub : Sub} {G : Gam}
structure LI (sg : W) (rm : Int) (B : List Pr) (T : List Sp4) (N : List Pr) (n : Nat) : Prop where
  bs : ∀ p ∈ B, (0 ≤ p.1 ∧ p.1 < rm) ∧ okW p.2
  ss : ∀ p ∈ T, (0 ≤ p.1 ∧ p.1 < rm) ∧ (∃ c ∈ sg, p.2.1 = [c]) ∧ okW p.2.2.1 ∧ (0 ≤ p.2.2.2 ∧ p.2.2.2 < rm)
  es : ∀ p ∈ N, (0 ≤ p.1 ∧ p.1 < rm) ∧ okW p.2
  nb : B.Nodup
  ns : T.Nodup
  ne : N.Nodup
  len : B.length + T.length + N.length ≤ n
theorem LI.nil (sg : W) (rm : Int) : LI sg rm [] [] [] 0 := ⟨by simp, by simp, by simp, by simp, by simp, by simp, by simp⟩
theorem LI.up {sg : W} {rm : Int} {B : List Pr} {T : List Sp4} {N : List Pr} {n : Nat} (h : LI sg rm B T N n) : LI sg rm B T N (n + 1) := ⟨h.bs, h.ss, h.es, h.nb, h.ns, h.ne, by have := h.len; omega⟩
theorem mem_snoc {α : Type} {P : α → Prop} {xs : List α} {x : α} (h : ∀ y ∈ xs, P y) (hx : P x) : ∀ y ∈ xs ++ [x], P y := fun y hy => by
  rcases List.mem_append.mp hy with hy | hy
  · exact h y hy
  · rw [List.mem_singleton.mp hy]; exact hx
theorem nodup_snoc {α : Type} {xs : List α} {x : α} (h : xs.Nodup) (hx : x ∉ xs) : (xs ++ [x]).Nodup :=
  List.nodup_append.mpr ⟨h, List.nodup_cons.mpr ⟨by simp, List.nodup_nil⟩, fun a ha b hb e => hx (by rw [← List.mem_singleton.mp hb, ← e]; exact ha)⟩
theorem LI.addB {sg : W} {rm : Int} {B : List Pr} {T : List Sp4} {N : List Pr} {n : Nat} {p : Pr} (h : LI sg rm B T N n) (hp : (0 ≤ p.1 ∧ p.1 < rm) ∧ okW p.2) (hn : p ∉ B) : LI sg rm (B ++ [p]) T N (n + 1) :=
  ⟨mem_snoc h.bs hp, h.ss, h.es, nodup_snoc h.nb hn, h.ns, h.ne, by have := h.len; simp; omega⟩
theorem LI.addT {sg : W} {rm : Int} {B : List Pr} {T : List Sp4} {N : List Pr} {n : Nat} {p : Sp4} (h : LI sg rm B T N n) (hp : (0 ≤ p.1 ∧ p.1 < rm) ∧ (∃ c ∈ sg, p.2.1 = [c]) ∧ okW p.2.2.1 ∧ (0 ≤ p.2.2.2 ∧ p.2.2.2 < rm)) (hn : p ∉ T) : LI sg rm B (T ++ [p]) N (n + 1) :=
  ⟨h.bs, mem_snoc h.ss hp, h.es, h.nb, nodup_snoc h.ns hn, h.ne, by have := h.len; simp; omega⟩
theorem LI.addN {sg : W} {rm : Int} {B : List Pr} {T : List Sp4} {N : List Pr} {n : Nat} {p : Pr} (h : LI sg rm B T N n) (hp : (0 ≤ p.1 ∧ p.1 < rm) ∧ okW p.2) (hn : p ∉ N) : LI sg rm B T (N ++ [p]) (n + 1) :=
  ⟨h.bs, h.ss, mem_snoc h.es hp, h.nb, h.ns, nodup_snoc h.ne hn, by have := h.len; simp; omega⟩
theorem map_snoc {α : Type} (f : α → D) (xs : List α) (x : α) : xs.map f ++ [f x] = (xs ++ [x]).map f := by simp
end
end L2.Py

set_option maxRecDepth 100000
set_option maxHeartbeats 2000000
namespace L2.Py
open PySem PySem.Spec PyProof.Rows TL
section
variable {sub : Sub} {G : Gam}
theorem runs_put {ρ : Rho} {ss : List S} {i : Nat} {k v : E} {x y kd x' : D} (h1 : ev sub G v ρ = .ok y) (h2 : ρ.get i = .ok x) (h3 : ev sub G k ρ = .ok kd) (h4 : putD kd y x = .ok x') : runs sub G (.put i [] k v :: ss) ρ = runs sub G ss (ρ.put i x') := by
  rw [runs, L2.Py.run, h1, ofR_ok, h2, ofR_ok, evs, ofR_ok, h3, ofR_ok]
  show (match Out.ofR ρ (putD kd y x) _ with | .next ρ' => _ | o => o) = _
  rw [h4]
  rfl
def addN {α : Type} [DecidableEq α] (acc : List α) (x : α) : List α := if x ∈ acc then acc else acc ++ [x]
def once {α : Type} [DecidableEq α] (xs : List α) : List α := xs.foldl addN []
def ent {α : Type} (f : α → D) (x : α) : D := .tup [f x, .bl true]
section
variable {α : Type} [DecidableEq α] {f : α → D} (hf : ∀ p q, (f p).eqv (f q) = decide (p = q))
include hf
end
end
end L2.Py

set_option maxRecDepth 100000
set_option maxHeartbeats 2000000
namespace L2.Py
open PySem PySem.Spec PyProof.Rows TL
section
variable {sub : Sub} {G : Gam} {ρ ρ' ρ'' : Rho} {b ss : List S} {hs : List Hx} {c : Nat} {ps : List D} {e : E}
theorem runs_asgF {i : Nat} {t : OT} {d : D} (h : ev sub G e ρ = .ok d) (h2 : d.ownAt t = true) : runs sub G (.asgF i t e :: ss) ρ = runs sub G ss (ρ.put i d) := by
  rw [runs, L2.Py.run, h]
  show (match (if d.ownAt t = true then Out.next (ρ.put i d) else .stk) with | .next ρ' => runs sub G ss ρ' | o => o) = _
  rw [if_pos h2]
end
end L2.Py

set_option maxRecDepth 100000
set_option maxHeartbeats 2000000
namespace L2.Py.C13
open PySem PySem.Spec PyProof.Rows TL L2.Py
def D_l_digits_at (l_cell_at : Nat) : Def := { nps := 2, nsl := 4, body := [
  .asg 2 .fr (.call l_cell_at [(.slot 0), (.slot 1)]),
  .iff (.cmp .eq (.bin .mod (.bin .fdiv (.call l_cell_at [(.slot 0), (.cint 0)]) (.cint 3)) (.cint 2)) (.cint 0)) [.ret (.slot 2)] [],
  .asg 3 .fr (.bin .mod (.bin .add (.bin .add (.bin .mul (.slot 2) (.cint 48271)) (.bin .mul (.slot 1) (.cint 69621))) (.cint 11)) (.cint 2147483629)),
  .asg 3 .fr (.bin .mod (.bin .mul (.slot 3) (.slot 3)) (.cint 2147483587)),
  .ret (.bin .add (.bin .mul (.slot 3) (.cint 2147483563)) (.bin .mod (.bin .mul (.slot 3) (.slot 3)) (.cint 2147483563)))] }
section
variable {sub : Sub} {G : Gam} {ρ : Rho}
theorem ev_and2 {a b : E} {x y : Bool} (h1 : ev sub G a ρ = .ok (.bl x)) (h2 : x = true → ev sub G b ρ = .ok (.bl y)) : ev sub G (.and a b) ρ = .ok (.bl (x && y)) := by
  cases x with
  | true => simp only [entry, outs, runs, L2.Py.run, ev, evs, Rho.get, Rho.put, wipeE, L2.Py.putAll, List.length_cons, List.length_nil, List.map_cons, List.map_nil, List.replicate, List.cons_append, List.nil_append, List.getElem?_cons_zero, List.getElem?_cons_succ, List.set_cons_zero, List.set_cons_succ, ok_bind, ofR_ok, pure_ok, isTrueD, h1, h2 rfl, if_true, Bool.true_and]
  | false => simp only [entry, outs, runs, L2.Py.run, ev, evs, Rho.get, Rho.put, wipeE, L2.Py.putAll, List.length_cons, List.length_nil, List.map_cons, List.map_nil, List.replicate, List.cons_append, List.nil_append, List.getElem?_cons_zero, List.getElem?_cons_succ, List.set_cons_zero, List.set_cons_succ, ok_bind, ofR_ok, pure_ok, isTrueD, h1, Bool.false_eq_true, if_false, Bool.false_and]
theorem ev_or2 {a b : E} {x y : Bool} (h1 : ev sub G a ρ = .ok (.bl x)) (h2 : x = false → ev sub G b ρ = .ok (.bl y)) : ev sub G (.or a b) ρ = .ok (.bl (x || y)) := by
  cases x with
  | true => simp only [entry, outs, runs, L2.Py.run, ev, evs, Rho.get, Rho.put, wipeE, L2.Py.putAll, List.length_cons, List.length_nil, List.map_cons, List.map_nil, List.replicate, List.cons_append, List.nil_append, List.getElem?_cons_zero, List.getElem?_cons_succ, List.set_cons_zero, List.set_cons_succ, ok_bind, ofR_ok, pure_ok, isTrueD, h1, if_true, Bool.true_or]
  | false => simp only [entry, outs, runs, L2.Py.run, ev, evs, Rho.get, Rho.put, wipeE, L2.Py.putAll, List.length_cons, List.length_nil, List.map_cons, List.map_nil, List.replicate, List.cons_append, List.nil_append, List.getElem?_cons_zero, List.getElem?_cons_succ, List.set_cons_zero, List.set_cons_succ, ok_bind, ofR_ok, pure_ok, isTrueD, h1, h2 rfl, Bool.false_eq_true, if_false, Bool.false_or]
theorem ev_not2 {a : E} {x : Bool} (h1 : ev sub G a ρ = .ok (.bl x)) : ev sub G (.not a) ρ = .ok (.bl (!x)) := by simp only [entry, outs, runs, L2.Py.run, ev, evs, Rho.get, Rho.put, wipeE, L2.Py.putAll, List.length_cons, List.length_nil, List.map_cons, List.map_nil, List.replicate, List.cons_append, List.nil_append, List.getElem?_cons_zero, List.getElem?_cons_succ, List.set_cons_zero, List.set_cons_succ, ok_bind, ofR_ok, pure_ok, isTrueD, h1]
theorem digits_run (ic : Nat) (ns : List Int) (hc : ∀ k : Int, 0 ≤ k → G ic [.scr ns, .int k] = .ok (.int (cellAt ns k), [])) (k : Int) (hk : 0 ≤ k) : ∃ z : Int, runDef sub G (D_l_digits_at ic) [.scr ns, .int k] = .ok (.int z, []) := by
  have f3 := fun x => @d_fdiv x 3 (by decide) (by decide)
  have m2 := fun x => @d_mod x 2 (by decide)
  have q1 : ev sub G (.call ic [(.slot 0), (.slot 1)]) [some (.scr ns), some (.int k), none, none] = .ok (.int (cellAt ns k)) := by simp only [entry, outs, runs, L2.Py.run, ev, evs, Rho.get, Rho.put, wipeE, L2.Py.putAll, List.length_cons, List.length_nil, List.map_cons, List.map_nil, List.replicate, List.cons_append, List.nil_append, List.getElem?_cons_zero, List.getElem?_cons_succ, List.set_cons_zero, List.set_cons_succ, ok_bind, ofR_ok, pure_ok, isTrueD, hc k hk]
  have c0 : ev sub G (.cmp .eq (.bin .mod (.bin .fdiv (.call ic [(.slot 0), (.cint 0)]) (.cint 3)) (.cint 2)) (.cint 0)) [some (.scr ns), some (.int k), some (.int (cellAt ns k)), none] = .ok (.bl (cellAt ns 0 / 3 % 2 == 0)) := by
    simp only [entry, outs, runs, L2.Py.run, ev, evs, Rho.get, Rho.put, wipeE, L2.Py.putAll, List.length_cons, List.length_nil, List.map_cons, List.map_nil, List.replicate, List.cons_append, List.nil_append, List.getElem?_cons_zero, List.getElem?_cons_succ, List.set_cons_zero, List.set_cons_succ, ok_bind, ofR_ok, pure_ok, isTrueD, hc 0 (by decide), f3, m2, eqI]
  by_cases h : (cellAt ns 0 / 3 % 2 == 0) = true
  · rw [h] at c0
    exact ⟨_, run_def (ρ := [some (.scr ns), some (.int k), some (.int (cellAt ns k)), none]) rfl rfl ((runs_asg q1).trans (runs_thenR c0 (runs_ret rfl)))⟩
  · rw [Bool.not_eq_true] at h
    rw [h] at c0
    obtain ⟨u, hu0, hu1, hu⟩ : ∃ u : Int, 0 ≤ u ∧ u < 2147483629 ∧ u = (cellAt ns k * 48271 + k * 69621 + 11) % 2147483629 := ⟨_, by omega, by omega, rfl⟩
    obtain ⟨w, hw0, hw1, hw⟩ : ∃ w : Int, 0 ≤ w ∧ w < 2147483587 ∧ w = u * u % 2147483587 := ⟨_, by omega, by omega, rfl⟩
    have q3 : ev sub G (.bin .mod (.bin .add (.bin .add (.bin .mul (.slot 2) (.cint 48271)) (.bin .mul (.slot 1) (.cint 69621))) (.cint 11)) (.cint 2147483629)) [some (.scr ns), some (.int k), some (.int (cellAt ns k)), none] = .ok (.int u) := by
      simp only [entry, outs, runs, L2.Py.run, ev, evs, Rho.get, Rho.put, wipeE, L2.Py.putAll, List.length_cons, List.length_nil, List.map_cons, List.map_nil, List.replicate, List.cons_append, List.nil_append, List.getElem?_cons_zero, List.getElem?_cons_succ, List.set_cons_zero, List.set_cons_succ, ok_bind, ofR_ok, pure_ok, isTrueD, d_mul (show smallF (cellAt ns k) 48271 = true from smallR (by decide) (by decide)), d_mul (show smallF k 69621 = true from smallR (by decide) (by decide)), d_add, d_mod (show (0 : Int) < 2147483629 by decide), hu]
    have uu := d_mul (show smallF u u = true from smallR (by omega) (by omega))
    have q4 : ev sub G (.bin .mod (.bin .mul (.slot 3) (.slot 3)) (.cint 2147483587)) [some (.scr ns), some (.int k), some (.int (cellAt ns k)), some (.int u)] = .ok (.int w) := by
      simp only [entry, outs, runs, L2.Py.run, ev, evs, Rho.get, Rho.put, wipeE, L2.Py.putAll, List.length_cons, List.length_nil, List.map_cons, List.map_nil, List.replicate, List.cons_append, List.nil_append, List.getElem?_cons_zero, List.getElem?_cons_succ, List.set_cons_zero, List.set_cons_succ, ok_bind, ofR_ok, pure_ok, isTrueD, uu, d_mod (show (0 : Int) < 2147483587 by decide), hw]
    have ww := d_mul (show smallF w w = true from smallR (by omega) (by omega))
    refine ⟨w * 2147483563 + w * w % 2147483563, run_def (ρ := [some (.scr ns), some (.int k), some (.int (cellAt ns k)), some (.int w)]) rfl rfl ((runs_asg q1).trans ((runs_skip c0).trans ((runs_asg q3).trans ((runs_asg q4).trans (runs_ret ?_)))))⟩
    simp only [entry, outs, runs, L2.Py.run, ev, evs, Rho.get, Rho.put, wipeE, L2.Py.putAll, List.length_cons, List.length_nil, List.map_cons, List.map_nil, List.replicate, List.cons_append, List.nil_append, List.getElem?_cons_zero, List.getElem?_cons_succ, List.set_cons_zero, List.set_cons_succ, ok_bind, ofR_ok, pure_ok, isTrueD, ww, d_mul (show smallF w 2147483563 = true from smallR (by decide) (by decide)), d_add, d_mod (show (0 : Int) < 2147483563 by decide)]
structure LQ (B : List Pr) (T : List Sp4) (N : List Pr) (n : Nat) : Prop where
  bs : ∀ p ∈ B, p.2.length ≤ 40
  ss : ∀ p ∈ T, p.2.1.length ≤ 1 ∧ p.2.2.1.length ≤ 40
  es : ∀ p ∈ N, p.2.length ≤ 40
  len : B.length + T.length + N.length ≤ n
theorem LQ.up {B : List Pr} {T : List Sp4} {N : List Pr} {n m : Nat} (h : LQ B T N n) (hm : n ≤ m) : LQ B T N m := ⟨h.bs, h.ss, h.es, by have := h.len; omega⟩
theorem LQ.addB {B : List Pr} {T : List Sp4} {N : List Pr} {n : Nat} {p : Pr} (h : LQ B T N n) (hp : p.2.length ≤ 40) : LQ (B ++ [p]) T N (n + 1) := ⟨mem_snoc h.bs hp, h.ss, h.es, by have := h.len; simp; omega⟩
theorem LQ.addT {B : List Pr} {T : List Sp4} {N : List Pr} {n : Nat} {p : Sp4} (h : LQ B T N n) (hp : p.2.1.length ≤ 1 ∧ p.2.2.1.length ≤ 40) : LQ B (T ++ [p]) N (n + 1) := ⟨h.bs, mem_snoc h.ss hp, h.es, by have := h.len; simp; omega⟩
theorem LQ.addN {B : List Pr} {T : List Sp4} {N : List Pr} {n : Nat} {p : Pr} (h : LQ B T N n) (hp : p.2.length ≤ 40) : LQ B T (N ++ [p]) (n + 1) := ⟨h.bs, h.ss, mem_snoc h.es hp, by have := h.len; simp; omega⟩
end
end L2.Py.C13

set_option maxRecDepth 100000
set_option maxHeartbeats 2000000
namespace L2.Py
open PySem PySem.Spec PyProof.Rows TL
abbrev Mv := Int × Int
inductive Rch (st : List Int) (mv : List Mv) : Int → Prop
  | start {x : Int} : x ∈ st → Rch st mv x
  | step {l h : Int} : Rch st mv l → (l, h) ∈ mv → Rch st mv h
theorem mem_addN {acc : List Int} {x y : Int} : y ∈ addN acc x ↔ y ∈ acc ∨ y = x := by
  unfold addN
  split
  · rename_i h
    exact ⟨.inl, fun z => z.elim id fun e => e ▸ h⟩
  · simp
theorem nodup_addN {acc : List Int} {x : Int} (h : acc.Nodup) : (addN acc x).Nodup := by
  unfold addN
  split
  · exact h
  · rename_i hx; exact nodup_snoc h hx
section
variable {sub : Sub} {G : Gam}
abbrev Ce := Int × Option Nat
def ceV (v : Option Nat) : D := match v with | none => .non | some i => .int i
def entO (e : Ce) : D := .tup [.int e.1, ceV e.2]
def keysO (es : List Ce) : List Int := es.map (·.1)
structure CI (st : List Int) (mv : List Mv) (es : List Ce) : Prop where
  has : ∀ x ∈ st, x ∈ keysO es
  nd : (keysO es).Nodup
  why : ∀ (p : Nat) (k : Int) (v : Option Nat), es[p]? = some (k, v) → (v = none ∧ k ∈ st) ∨ ∃ (i : Nat) (l : Int) (q : Nat), v = some i ∧ mv[i]? = some (l, k) ∧ q < p ∧ (keysO es)[q]? = some l
theorem CI.sound {st : List Int} {mv : List Mv} {es : List Ce} (h : CI st mv es) : ∀ (p : Nat) (k : Int), (keysO es)[p]? = some k → Rch st mv k := by
  intro p
  induction p using Nat.strongRecOn with
  | _ p ih =>
    intro k hk
    unfold keysO at hk
    rw [List.getElem?_map, Option.map_eq_some_iff] at hk
    obtain ⟨⟨k', v⟩, h1, rfl⟩ := hk
    rcases h.why p k' v h1 with ⟨_, hs⟩ | ⟨i, l, q, _, hm, hq, hl⟩
    · exact .start hs
    · exact .step (ih q hq l hl) (List.mem_of_getElem? hm)
theorem CI.add {st : List Int} {mv : List Mv} {es : List Ce} (h : CI st mv es) {i : Nat} {l x : Int} {q : Nat} (hm : mv[i]? = some (l, x)) (hq : (keysO es)[q]? = some l) (hx : x ∉ keysO es) : CI st mv (es ++ [(x, some i)]) where
  has := fun y hy => by unfold keysO; rw [List.map_append]; exact List.mem_append_left _ (h.has y hy)
  nd := by unfold keysO; rw [List.map_append]; exact nodup_snoc h.nd hx
  why := fun p k v hp => by
    have old : ∀ {q : Nat} {l : Int}, (keysO es)[q]? = some l → (keysO (es ++ [(x, some i)]))[q]? = some l := fun {q l} e => by
      unfold keysO at e ⊢
      rw [List.map_append, List.getElem?_append_left (List.getElem?_eq_some_iff.mp e).1]
      exact e
    by_cases hlt : p < es.length
    · rw [List.getElem?_append_left hlt] at hp
      rcases h.why p k v hp with w | ⟨i', l', q', h1, h2, h3, h4⟩
      · exact .inl w
      · exact .inr ⟨i', l', q', h1, h2, h3, old h4⟩
    · rw [List.getElem?_append_right (by omega)] at hp
      have hp0 : p - es.length = 0 := by
        have := (List.getElem?_eq_some_iff.mp hp).1
        simp at this
        omega
      rw [hp0] at hp
      have hp : some (x, some i) = some (k, v) := hp
      injection hp with hp
      injection hp with e1 e2
      subst e1 e2
      have hql : q < es.length := by
        have := (List.getElem?_eq_some_iff.mp hq).1
        simpa [keysO] using this
      exact .inr ⟨i, l, q, rfl, hm, by omega, old hq⟩
theorem nodup_len : ∀ (n : Nat) (V ks : List Int), V.length = n → ks.Nodup → (∀ x ∈ ks, x ∈ V) → ks.length ≤ n
  | 0, V, ks, hV, nd, hk => by
    cases ks with
    | nil => simp
    | cons x xs => have := hk x List.mem_cons_self; rw [List.length_eq_zero_iff.mp hV] at this; cases this
  | n + 1, V, ks, hV, nd, hk => by
    cases ks with
    | nil => simp
    | cons x xs =>
      have hx := hk x List.mem_cons_self
      have nd' := List.nodup_cons.mp nd
      have := nodup_len n (V.erase x) xs (by rw [List.length_erase_of_mem hx]; omega) nd'.2 (fun y hy => (List.mem_erase_of_ne (fun e => nd'.1 (by rw [← e]; exact hy))).mpr (hk y (List.mem_cons_of_mem _ hy)))
      rw [List.length_cons]; omega
def bwd (s : Sp4) : Mv := (s.2.2.2, s.1)
abbrev Behind (S : Scr) (x : Int) : Prop := Rch (S.es.map (·.1)) (S.ss.map bwd) x
end
end L2.Py

set_option maxRecDepth 100000
set_option maxHeartbeats 2000000
namespace L2.Py
open PySem PySem.Spec PyProof.Rows TL
section
variable {sub : Sub} {G : Gam}
theorem evc_one' {e : E} {ρ : Rho} {b : Bool} (h : ev sub G e ρ = .ok (.bl b)) : evc sub G [e] ρ = .ok b := by
  rw [evc_one, h]
  rfl
end
end L2.Py

set_option maxRecDepth 100000
set_option maxHeartbeats 2000000
namespace L2.Py
open PySem PySem.Spec PyProof.Rows TL
section
variable {sub : Sub} {G : Gam} {ρ : Rho}
theorem forR_step {f : D → Rho → R Rho} {b : Rho → Out} {d : D} {ds : List D} {ρ1 ρ2 : Rho} (h1 : f d ρ = .ok ρ1) (h2 : b ρ1 = .next ρ2) : forR f b (d :: ds) ρ = forR f b ds ρ2 := by
  rw [forR_cons h1, h2]
theorem s0 (p : Sp4) : idxD (dSt p) (.int 0) = .ok (.int p.1) := rfl
theorem s1 (p : Sp4) : idxD (dSt p) (.int 1) = .ok (.str p.2.1) := rfl
theorem s2 (p : Sp4) : idxD (dSt p) (.int 2) = .ok (.str p.2.2.1) := rfl
theorem s3 (p : Sp4) : idxD (dSt p) (.int 3) = .ok (.int p.2.2.2) := rfl
theorem ltI (a b : Int) : cmpD .lt (.int a) (.int b) = .ok (.bl (decide (a < b))) := rfl
theorem CI.len {st : List Int} {mv : List Mv} {es : List Ce} (h : CI st mv es) : es.length ≤ st.length + mv.length := by
  have := nodup_len (st ++ mv.map (·.2)).length (st ++ mv.map (·.2)) (keysO es) rfl h.nd fun x hx => by
    obtain ⟨p, hp, rfl⟩ := List.getElem_of_mem hx
    have r := h.sound p _ (List.getElem?_eq_getElem hp)
    cases r with
    | start h => exact List.mem_append_left _ h
    | step _ h => exact List.mem_append_right _ (List.mem_map.mpr ⟨_, h, rfl⟩)
  rw [show (keysO es).length = es.length by simp [keysO]] at this
  simp at this
  exact this
abbrev wt (S : Scr) (room : Int) (A B : List Ce) (row : List Int) (o10 o11 : Option D) : Rho := [some S.d, some (.int room), some (.str S.sg), some (.int S.rm), some (.lst (S.bs.map dPr)), some (.lst (S.ss.map dSt)), some (.lst (S.es.map dPr)), some (.dct false (A.map entO)), some (.dct false (B.map entO)), some (.lst (row.map .int)), o10, o11]
end
end L2.Py

set_option maxRecDepth 100000
set_option maxHeartbeats 2000000
namespace L2.Py
open PySem PySem.Spec PyProof.Rows TL
section
variable {sub : Sub} {G : Gam}
theorem eqv_str (a b : W) : (D.str a).eqv (D.str b) = decide (a = b) := by
  simp only [D.eqv]
  by_cases h : a = b <;> simp [h]
theorem d_addS {s t : W} (h : s.length + t.length ≤ lim) : binD .add (.str s) (.str t) = .ok (.str (s ++ t)) := by
  unfold binD
  exact if_pos h
end
abbrev en (S : Scr) (t : W) (o7 o8 o9 o10 o11 o12 o13 o14 o15 o16 : Option D) : Rho := [some S.d, some (.str t), some (.str S.sg), some (.int S.rm), some (.lst (S.bs.map dPr)), some (.lst (S.ss.map dSt)), some (.lst (S.es.map dPr)), o7, o8, o9, o10, o11, o12, o13, o14, o15, o16]
section
variable {sub : Sub} {G : Gam}
end
end L2.Py

set_option maxRecDepth 100000
set_option maxHeartbeats 2000000
namespace L2.Py
open PySem PySem.Spec PyProof.Rows TL
section
variable {sub : Sub} {G : Gam}
end
end L2.Py

set_option maxRecDepth 100000
set_option maxHeartbeats 2000000
namespace L2.Py.C12
open PySem PySem.Spec PyProof.Rows TL
open L2.Py.C13 (ev_and2 ev_or2 ev_not2)
def B_l_word_1 : List S := [.asg 4 .fr (.bin .add (.slot 4) (.idx (.slot 2) (.bin .mod (.slot 3) (.cint 3)))), .asg 3 .fr (.bin .fdiv (.slot 3) (.cint 3))]
def D_l_word : Def := { nps := 1, nsl := 6, body := [
  .asg 1 .fr (.bin .mod (.slot 0) (.cint 4)),
  .iff (.cmp .eq (.bin .mod (.slot 0) (.cint 40)) (.cint 39)) [.asg 1 .fr (.cint 40)] [],
  .asg 2 .fr (.idx (.lst [(.cstr [97, 98, 122]), (.cstr [120, 107, 98])]) (.blt .toInt [(.cmp .eq (.bin .mod (.bin .fdiv (.slot 0) (.cint 40)) (.cint 5)) (.cint 4))])),
  .asg 3 .fr (.bin .fdiv (.slot 0) (.cint 200)),
  .asg 4 .fr (.cstr []),
  .frh false [5] false .range1 [(.slot 1)] B_l_word_1,
  .ret (.slot 4)] }
def L_l_scribe_1 (l_cell_at l_digits_at l_word : Nat) : E := (.slot 16)
def T_l_scribe_1 (l_cell_at l_digits_at l_word : Nat) : List E := [(.cmp .eq (.slcH (.slot 16) (.cint 2)) (.slcH (.slot 15) (.cint 2)))]
def L_l_scribe_2 (l_cell_at l_digits_at l_word : Nat) : E := (.slot 16)
def T_l_scribe_2 (l_cell_at l_digits_at l_word : Nat) : List E := [(.cmp .eq (.idx (.slot 16) (.cint 0)) (.slot 12))]
def B_l_scribe_1 (l_cell_at l_digits_at l_word : Nat) : List S := [.asg 10 .fr (.call l_digits_at [(.slot 0), (.slot 9)]), .asg 11 .fr (.bin .mod (.slot 10) (.cint 6)), .asg 12 .fr (.bin .mod (.bin .fdiv (.slot 10) (.cint 6)) (.blt .max2 [(.cint 1), (.slot 5)])), .asg 10 .fr (.bin .fdiv (.bin .fdiv (.slot 10) (.cint 6)) (.blt .max2 [(.cint 1), (.slot 5)])), .asg 13 .fr (.idx (.slot 4) (.bin .mod (.slot 10) (.blt .len [(.slot 4)]))), .asg 10 .fr (.bin .fdiv (.slot 10) (.blt .len [(.slot 4)])), .asg 14 .fr (.call l_word [(.bin .fdiv (.slot 10) (.blt .max2 [(.cint 1), (.slot 5)]))]), .asg 15 .fr (.tup [(.slot 12), (.slot 13), (.slot 14), (.bin .mod (.slot 10) (.blt .max2 [(.cint 1), (.slot 5)]))]), .iff (.and (.cmp .gt (.slot 5) (.cint 0)) (.and (.cmp .lt (.slot 11) (.cint 4)) (.cmp .notin (.slot 15) (.slot 7)))) [.iff (.or (.not (.slot 2)) (.cmp .eq (.blt .len [(.comp true [16] false .val [(.slot 7)] (L_l_scribe_1 l_cell_at l_digits_at l_word) (T_l_scribe_1 l_cell_at l_digits_at l_word))]) (.cint 0))) [.app 7 (.slot 15)] []] [], .iff (.and (.cmp .gt (.slot 5) (.cint 0)) (.and (.cmp .eq (.slot 11) (.cint 4)) (.cmp .notin (.tup [(.slot 12), (.slot 14)]) (.slot 8)))) [.iff (.or (.not (.slot 2)) (.cmp .eq (.blt .len [(.comp true [16] false .val [(.slot 8)] (L_l_scribe_2 l_cell_at l_digits_at l_word) (T_l_scribe_2 l_cell_at l_digits_at l_word))]) (.cint 0))) [.app 8 (.tup [(.slot 12), (.slot 14)])] []] [], .iff (.and (.cmp .gt (.slot 5) (.cint 0)) (.and (.cmp .eq (.slot 11) (.cint 5)) (.and (.cmp .notin (.tup [(.slot 12), (.slot 14)]) (.slot 6)) (.or (.cmp .eq (.blt .len [(.slot 6)]) (.cint 0)) (.not (.slot 2)))))) [.app 6 (.tup [(.slot 12), (.slot 14)])] []]
def D_l_scribe (l_cell_at l_digits_at l_word : Nat) : Def := { nps := 3, nsl := 17, body := [
  .asg 3 .fr (.call l_cell_at [(.slot 0), (.slot 1)]),
  .asg 4 .fr (.idx (.lst [(.cstr [97, 98]), (.cstr [98, 97]), (.cstr [97, 98, 99]), (.cstr [99, 97, 98]), (.cstr [97]), (.cstr [122, 121, 120, 119]), (.cstr [112, 98, 101, 97, 111])]) (.bin .mod (.slot 3) (.cint 7))),
  .asg 5 .fr (.bin .mod (.bin .fdiv (.slot 3) (.cint 7)) (.idx (.lst [(.cint 9), (.cint 5)]) (.blt .toInt [(.not (.slot 2))]))),
  .iff (.and (.slot 2) (.cmp .eq (.bin .mod (.bin .fdiv (.slot 3) (.cint 500)) (.cint 6)) (.cint 1))) [.asg 5 .fr (.bin .add (.cint 11) (.bin .mod (.bin .fdiv (.slot 3) (.cint 3000)) (.cint 4)))] [],
  .asg 6 (.ow .fr) (.lst []),
  .asg 7 (.ow .fr) (.lst []),
  .asg 8 (.ow .fr) (.lst []),
  .frh false [9] false .range2 [(.bin .add (.slot 1) (.cint 1)), (.blt .min2 [(.bin .add (.slot 1) (.cint 32)), (.blt .len [(.slot 0)])])] (B_l_scribe_1 l_cell_at l_digits_at l_word),
  .iff (.and (.cmp .gt (.slot 5) (.cint 0)) (.and (.cmp .eq (.blt .len [(.slot 6)]) (.cint 0)) (.cmp .gt (.bin .mod (.bin .fdiv (.slot 3) (.cint 45)) (.cint 8)) (.cint 0)))) [.app 6 (.tup [(.bin .mod (.bin .fdiv (.slot 3) (.cint 360)) (.slot 5)), (.call l_word [(.bin .fdiv (.slot 3) (.cint 3600))])])] [],
  .iff (.and (.cmp .gt (.slot 5) (.cint 0)) (.and (.cmp .eq (.blt .len [(.slot 8)]) (.cint 0)) (.cmp .gt (.bin .mod (.bin .fdiv (.slot 3) (.cint 45)) (.cint 8)) (.cint 1)))) [.app 8 (.tup [(.bin .mod (.bin .fdiv (.slot 3) (.cint 361)) (.slot 5)), (.call l_word [(.bin .fdiv (.slot 3) (.cint 7))])])] [],
  .ret (.tup [(.slot 4), (.slot 5), (.slot 6), (.slot 7), (.slot 8)])] }
section
variable {sub : Sub} {G : Gam} {ρ : Rho}
theorem word_loop (o0 o1 : Option D) (L : W) (hL : L.length = 3) (hLl : letters L) : ∀ (n : Nat) (lo : Int) (r : Int) (w : W) (k : Option D), w.length + n ≤ 100 → ∃ (r' : Int) (w' : W) (k' : Option D), w'.length = w.length + n ∧ (letters w → letters w') ∧
    forR (fun d r => bindFl false false [5] d r) (fun r => runs sub G B_l_word_1 r) (upto lo n) [o0, o1, some (.str L), some (.int r), some (.str w), k] = .next [o0, o1, some (.str L), some (.int r'), some (.str w'), k']
  | 0, lo, r, w, k, _ => ⟨r, w, k, rfl, id, rfl⟩
  | n + 1, lo, r, w, k, h => by
    obtain ⟨c, ec, e5⟩ := idx_str (s := L) (k := r % 3) (by rw [hL]; decide) (by omega) (by rw [hL]; omega)
    obtain ⟨r', w', k', h1, hl', h2⟩ := word_loop o0 o1 L hL hLl n (lo + 1) (r / 3) (w ++ [c]) (some (.int lo)) (by rw [List.length_append, List.length_singleton]; omega)
    refine ⟨r', w', k', by rw [h1, List.length_append, List.length_singleton]; omega, fun hw => hl' fun d hd => (List.mem_append.mp hd).elim (hw d) fun hd => by rw [List.mem_singleton.mp hd]; exact hLl c (List.mem_of_getElem? ec), ?_⟩
    have q1 : ev sub G (.bin .add (.slot 4) (.idx (.slot 2) (.bin .mod (.slot 3) (.cint 3)))) [o0, o1, some (.str L), some (.int r), some (.str w), some (.int lo)] = .ok (.str (w ++ [c])) := by
      simp only [entry, outs, runs, L2.Py.run, ev, evs, Rho.get, Rho.put, wipeE, L2.Py.putAll, List.length_cons, List.length_nil, List.map_cons, List.map_nil, List.replicate, List.cons_append, List.nil_append, List.getElem?_cons_zero, List.getElem?_cons_succ, List.set_cons_zero, List.set_cons_succ, ok_bind, ofR_ok, pure_ok, isTrueD, d_mod (show (0 : Int) < 3 by decide), e5, d_addS (s := w) (t := [c]) (by rw [List.length_singleton]; unfold lim; omega)]
    have q2 : ev sub G (.bin .fdiv (.slot 3) (.cint 3)) [o0, o1, some (.str L), some (.int r), some (.str (w ++ [c])), some (.int lo)] = .ok (.int (r / 3)) := by
      simp only [entry, outs, runs, L2.Py.run, ev, evs, Rho.get, Rho.put, wipeE, L2.Py.putAll, List.length_cons, List.length_nil, List.map_cons, List.map_nil, List.replicate, List.cons_append, List.nil_append, List.getElem?_cons_zero, List.getElem?_cons_succ, List.set_cons_zero, List.set_cons_succ, ok_bind, ofR_ok, pure_ok, isTrueD, d_fdiv (show (0 : Int) < 3 by decide) (by decide)]
    have eb : bindFl false false [5] (.int lo) [o0, o1, some (.str L), some (.int r), some (.str w), k] = .ok [o0, o1, some (.str L), some (.int r), some (.str w), some (.int lo)] := rfl
    have e1 : runs sub G B_l_word_1 [o0, o1, some (.str L), some (.int r), some (.str w), some (.int lo)] = .next [o0, o1, some (.str L), some (.int (r / 3)), some (.str (w ++ [c])), some (.int lo)] := (runs_asg q1).trans ((runs_asg q2).trans (by rw [runs] <;> rfl))
    rw [upto, forR_step eb e1]
    exact h2
theorem word_run (r : Int) : ∃ w : W, okW w ∧ runDef sub G D_l_word [.int r] = .ok (.str w, []) := by
  obtain ⟨L, hL, hLl, e2⟩ : ∃ L : W, L.length = 3 ∧ letters L ∧ ∀ z : Int, ev sub G (.idx (.lst [(.cstr [97, 98, 122]), (.cstr [120, 107, 98])]) (.blt .toInt [(.cmp .eq (.bin .mod (.bin .fdiv (.slot 0) (.cint 40)) (.cint 5)) (.cint 4))])) [some (.int r), some (.int z), none, none, none, none] = .ok (.str L) := by
    by_cases h : (r / 40 % 5 == 4) = true
    · refine ⟨[120, 107, 98], rfl, fun c hc => by simp at hc; omega, fun z => ?_⟩
      simp only [entry, outs, runs, L2.Py.run, ev, evs, Rho.get, Rho.put, wipeE, L2.Py.putAll, List.length_cons, List.length_nil, List.map_cons, List.map_nil, List.replicate, List.cons_append, List.nil_append, List.getElem?_cons_zero, List.getElem?_cons_succ, List.set_cons_zero, List.set_cons_succ, ok_bind, ofR_ok, pure_ok, isTrueD, d_fdiv (show (0 : Int) < 40 by decide) (by decide), d_mod (show (0 : Int) < 5 by decide), eqI, h]
      rfl
    · refine ⟨[97, 98, 122], rfl, fun c hc => by simp at hc; omega, fun z => ?_⟩
      rw [Bool.not_eq_true] at h
      simp only [entry, outs, runs, L2.Py.run, ev, evs, Rho.get, Rho.put, wipeE, L2.Py.putAll, List.length_cons, List.length_nil, List.map_cons, List.map_nil, List.replicate, List.cons_append, List.nil_append, List.getElem?_cons_zero, List.getElem?_cons_succ, List.set_cons_zero, List.set_cons_succ, ok_bind, ofR_ok, pure_ok, isTrueD, d_fdiv (show (0 : Int) < 40 by decide) (by decide), d_mod (show (0 : Int) < 5 by decide), eqI, h]
      rfl
  have q1 : ev sub G (.bin .mod (.slot 0) (.cint 4)) [some (.int r), none, none, none, none, none] = .ok (.int (r % 4)) := by simp only [entry, outs, runs, L2.Py.run, ev, evs, Rho.get, Rho.put, wipeE, L2.Py.putAll, List.length_cons, List.length_nil, List.map_cons, List.map_nil, List.replicate, List.cons_append, List.nil_append, List.getElem?_cons_zero, List.getElem?_cons_succ, List.set_cons_zero, List.set_cons_succ, ok_bind, ofR_ok, pure_ok, isTrueD, d_mod (show (0 : Int) < 4 by decide)]
  have c0 : ev sub G (.cmp .eq (.bin .mod (.slot 0) (.cint 40)) (.cint 39)) [some (.int r), some (.int (r % 4)), none, none, none, none] = .ok (.bl (r % 40 == 39)) := by simp only [entry, outs, runs, L2.Py.run, ev, evs, Rho.get, Rho.put, wipeE, L2.Py.putAll, List.length_cons, List.length_nil, List.map_cons, List.map_nil, List.replicate, List.cons_append, List.nil_append, List.getElem?_cons_zero, List.getElem?_cons_succ, List.set_cons_zero, List.set_cons_succ, ok_bind, ofR_ok, pure_ok, isTrueD, d_mod (show (0 : Int) < 40 by decide), eqI]
  have fin : ∀ z : Int, 0 ≤ z → z ≤ 40 → ∃ w : W, okW w ∧ ∃ ρ', runs sub G [  .asg 2 .fr (.idx (.lst [(.cstr [97, 98, 122]), (.cstr [120, 107, 98])]) (.blt .toInt [(.cmp .eq (.bin .mod (.bin .fdiv (.slot 0) (.cint 40)) (.cint 5)) (.cint 4))])),   .asg 3 .fr (.bin .fdiv (.slot 0) (.cint 200)),   .asg 4 .fr (.cstr []),   .frh false [5] false .range1 [(.slot 1)] B_l_word_1,   .ret (.slot 4)] [some (.int r), some (.int z), none, none, none, none] = .ret (.str w) ρ' := fun z h0 h1 => by
    obtain ⟨r', w', k', e1, el, e3⟩ := word_loop (sub := sub) (G := G) (some (.int r)) (some (.int z)) L hL hLl z.toNat 0 (r / 200) [] none (by simp; omega)
    have q3 : ev sub G (.bin .fdiv (.slot 0) (.cint 200)) [some (.int r), some (.int z), some (.str L), none, none, none] = .ok (.int (r / 200)) := by simp only [entry, outs, runs, L2.Py.run, ev, evs, Rho.get, Rho.put, wipeE, L2.Py.putAll, List.length_cons, List.length_nil, List.map_cons, List.map_nil, List.replicate, List.cons_append, List.nil_append, List.getElem?_cons_zero, List.getElem?_cons_succ, List.set_cons_zero, List.set_cons_succ, ok_bind, ofR_ok, pure_ok, isTrueD, d_fdiv (show (0 : Int) < 200 by decide) (by decide)]
    have e4 : itD .range1 [.int z] = .ok (upto 0 z.toNat) := by
      have := range1_nat z.toNat (by omega)
      rwa [show ((z.toNat : Nat) : Int) = z by omega] at this
    exact ⟨w', ⟨by rw [e1]; simp; omega, el fun c hc => (nomatch hc)⟩, _, (runs_asg (e2 z)).trans ((runs_asg q3).trans ((runs_asg (d := .str []) (by rw [ev])).trans ((runs_frhN (xs := [.int z]) rfl e4 e3).trans (runs_ret rfl))))⟩
  by_cases h : (r % 40 == 39) = true
  · rw [h] at c0
    obtain ⟨w, hw, ρ', e⟩ := fin 40 (by decide) (by decide)
    exact ⟨w, hw, run_def rfl rfl ((runs_asg q1).trans ((runs_then c0 ((runs_asg (d := .int 40) (by rw [ev])).trans (by rw [runs] <;> rfl))).trans e))⟩
  · rw [Bool.not_eq_true] at h
    rw [h] at c0
    obtain ⟨w, hw, ρ', e⟩ := fin (r % 4) (by omega) (by omega)
    exact ⟨w, hw, run_def rfl rfl ((runs_asg q1).trans ((runs_skip c0).trans e))⟩
abbrev ky (s : Sp4) : Int × W := (s.1, s.2.1)
structure L3 (pl : Bool) (sg : W) (rm : Int) (B : List Pr) (T : List Sp4) (N : List Pr) : Prop where
  bs : ∀ p ∈ B, (0 ≤ p.1 ∧ p.1 < rm) ∧ okW p.2
  ss : ∀ p ∈ T, (0 ≤ p.1 ∧ p.1 < rm) ∧ (∃ c ∈ sg, p.2.1 = [c]) ∧ okW p.2.2.1 ∧ (0 ≤ p.2.2.2 ∧ p.2.2.2 < rm)
  es : ∀ p ∈ N, (0 ≤ p.1 ∧ p.1 < rm) ∧ okW p.2
  nb : B.Nodup
  nt : T.Nodup
  ne : N.Nodup
  plain : pl = true → B.length ≤ 1 ∧ (T.map ky).Nodup ∧ (N.map (·.1)).Nodup
theorem nd_snoc {α : Type} {xs : List α} {x : α} (h : xs.Nodup) (hx : x ∉ xs) : (xs ++ [x]).Nodup :=
  List.nodup_append.mpr ⟨h, List.nodup_cons.mpr ⟨by simp, List.nodup_nil⟩, fun a ha b hb e => by
    rw [List.mem_singleton] at hb
    rw [e, hb] at ha
    exact hx ha⟩
variable {pl : Bool} {sg : W} {rm : Int} {B : List Pr} {T : List Sp4} {N : List Pr}
theorem L3.addB {p : Pr} (h : L3 pl sg rm B T N) (hp : (0 ≤ p.1 ∧ p.1 < rm) ∧ okW p.2) (hn : p ∉ B) (hl : pl = true → B.length = 0) : L3 pl sg rm (B ++ [p]) T N :=
  ⟨mem_snoc h.bs hp, h.ss, h.es, nd_snoc h.nb hn, h.nt, h.ne, fun z => ⟨by rw [List.length_append, hl z]; exact Nat.le_refl _, (h.plain z).2⟩⟩
theorem L3.addT {p : Sp4} (h : L3 pl sg rm B T N) (hp : (0 ≤ p.1 ∧ p.1 < rm) ∧ (∃ c ∈ sg, p.2.1 = [c]) ∧ okW p.2.2.1 ∧ (0 ≤ p.2.2.2 ∧ p.2.2.2 < rm)) (hn : p ∉ T) (hl : pl = true → ky p ∉ T.map ky) : L3 pl sg rm B (T ++ [p]) N :=
  ⟨h.bs, mem_snoc h.ss hp, h.es, h.nb, nd_snoc h.nt hn, h.ne, fun z => ⟨(h.plain z).1, by rw [List.map_append]; exact nd_snoc (h.plain z).2.1 (hl z), (h.plain z).2.2⟩⟩
theorem L3.addN {p : Pr} (h : L3 pl sg rm B T N) (hp : (0 ≤ p.1 ∧ p.1 < rm) ∧ okW p.2) (hn : p ∉ N) (hl : pl = true → p.1 ∉ N.map (·.1)) : L3 pl sg rm B T (N ++ [p]) :=
  ⟨h.bs, h.ss, mem_snoc h.es hp, h.nb, h.nt, nd_snoc h.ne hn, fun z => ⟨(h.plain z).1, (h.plain z).2.1, by rw [List.map_append]; exact nd_snoc (h.plain z).2.2 (hl z)⟩⟩
abbrev sv (sd : D) (a0 : Int) (pl : Bool) (f : Int) (sg : W) (rm : Int) (B : List Pr) (T : List Sp4) (N : List Pr) (o9 o10 o11 o12 o13 o14 o15 : Option D) : Rho := [some sd, some (.int a0), some (.bl pl), some (.int f), some (.str sg), some (.int rm), some (.lst (B.map dPr)), some (.lst (T.map dSt)), some (.lst (N.map dPr)), o9, o10, o11, o12, o13, o14, o15, none]
theorem lenL {α : Type} (g : α → D) (X : List α) : bltD sub .len [.lst (X.map g)] = .ok (.int X.length) := by
  show R.ok (D.int ((X.map g).length : Int)) = _
  rw [List.length_map]
theorem len0 {α : Type} (X : List α) : ((X.length : Int) == 0) = X.isEmpty := by
  cases X with
  | nil => rfl
  | cons x xs =>
    rw [List.length_cons]
    exact beq_false_of_ne (by omega)
theorem lenz {α : Type} {g : α → D} {X : List α} {e : E} (q : ev sub G e ρ = .ok (.lst (X.map g))) : ev sub G (.cmp .eq (.blt .len [e]) (.cint 0)) ρ = .ok (.bl X.isEmpty) := by
  simp only [ev, evs, q, ok_bind, pure_ok, ofR_ok, lenL, eqI, len0]
theorem slc2 (x : Sp4) : slcD (dSt x) none (some 2) = .ok (.tup [.int x.1, .str x.2.1]) := rfl
theorem ky_eq (x p : Sp4) : cmpD .eq (.tup [.int x.1, .str x.2.1]) (.tup [.int p.1, .str p.2.1]) = .ok (.bl (decide (ky x = ky p))) := by
  show (eqD (.tup [.int x.1, .str x.2.1]) (.tup [.int p.1, .str p.2.1]) >>= fun r => R.ok (D.bl r)) = _
  have e : (D.tup [.int x.1, .str x.2.1]).eqv (.tup [.int p.1, .str p.2.1]) = decide (ky x = ky p) := by
    have := eqv_pr (x.1, x.2.1) (p.1, p.2.1)
    exact this.trans (decide_eq_decide.mpr Iff.rfl)
  have e2 : eqD (.tup [.int x.1, .str x.2.1]) (.tup [.int p.1, .str p.2.1]) = .ok (decide (ky x = ky p)) := by
    unfold eqD
    rw [show (D.tup [.int x.1, .str x.2.1]).plain = true from plainN_pr (x.1, x.2.1) 19, show (D.tup [.int p.1, .str p.2.1]).plain = true from plainN_pr (p.1, p.2.1) 19, e]
    rfl
  rw [e2]
  rfl
theorem body_run (ic id iw : Nat) (sd : D) (a0 : Int) (hd : ∀ k : Int, 0 ≤ k → ∃ z : Int, G id [sd, .int k] = .ok (.int z, [])) (hw : ∀ r : Int, ∃ w : W, okW w ∧ G iw [.int r] = .ok (.str w, [])) (f : Int) (hsg : 0 < sg.length ∧ sg.length ≤ 5) (hrm : 0 ≤ rm ∧ rm ≤ 20)
    (h : L3 pl sg rm B T N) (hlen : B.length + T.length + N.length ≤ 1000) (k : Int) (hk : 0 ≤ k) (o10 o11 o12 o13 o14 o15 : Option D) :
    ∃ B' T' N' p10 p11 p12 p13 p14 p15, (L3 pl sg rm B' T' N' ∧ B'.length + T'.length + N'.length ≤ B.length + T.length + N.length + 1) ∧
      runs sub G (B_l_scribe_1 ic id iw) (sv sd a0 pl f sg rm B T N (some (.int k)) o10 o11 o12 o13 o14 o15) = .next (sv sd a0 pl f sg rm B' T' N' (some (.int k)) p10 p11 p12 p13 p14 p15) := by
  obtain ⟨z, ez⟩ := hd k hk
  obtain ⟨M, hM, mx⟩ : ∃ M : Int, (0 < M ∧ M ≤ 20 ∧ (0 < rm → M = rm)) ∧ bltD sub .max2 [.int 1, .int rm] = .ok (.int M) := ⟨if rm > 1 then rm else 1, by split <;> omega, rfl⟩
  have hl : bltD sub .len [.str sg] = .ok (.int sg.length) := len_str (by unfold lim; omega)
  have lp : (0 : Int) < (sg.length : Int) := by omega
  have f6 := fun x => @d_fdiv x 6 (by decide) (by decide)
  have m6 := fun x => @d_mod x 6 (by decide)
  have fM := fun x => @d_fdiv x M hM.1 (by omega)
  have mM := fun x => @d_mod x M hM.1
  have q1 : ev sub G (.call id [(.slot 0), (.slot 9)]) (sv sd a0 pl f sg rm B T N (some (.int k)) o10 o11 o12 o13 o14 o15) = .ok (.int z) := by simp only [entry, outs, runs, L2.Py.run, ev, evs, Rho.get, Rho.put, wipeE, L2.Py.putAll, List.length_cons, List.length_nil, List.map_cons, List.map_nil, List.replicate, List.cons_append, List.nil_append, List.getElem?_cons_zero, List.getElem?_cons_succ, List.set_cons_zero, List.set_cons_succ, ok_bind, ofR_ok, pure_ok, isTrueD, ez]
  obtain ⟨wy, hwy⟩ : ∃ wy, wy = z % 6 := ⟨_, rfl⟩
  obtain ⟨ro, hro⟩ : ∃ ro, ro = z / 6 % M := ⟨_, rfl⟩
  obtain ⟨z2, hz2⟩ : ∃ z2, z2 = z / 6 / M := ⟨_, rfl⟩
  have q2 : ev sub G (.bin .mod (.slot 10) (.cint 6)) (sv sd a0 pl f sg rm B T N (some (.int k)) (some (.int z)) o11 o12 o13 o14 o15) = .ok (.int wy) := by simp only [entry, outs, runs, L2.Py.run, ev, evs, Rho.get, Rho.put, wipeE, L2.Py.putAll, List.length_cons, List.length_nil, List.map_cons, List.map_nil, List.replicate, List.cons_append, List.nil_append, List.getElem?_cons_zero, List.getElem?_cons_succ, List.set_cons_zero, List.set_cons_succ, ok_bind, ofR_ok, pure_ok, isTrueD, m6, hwy]
  have q3 : ev sub G (.bin .mod (.bin .fdiv (.slot 10) (.cint 6)) (.blt .max2 [(.cint 1), (.slot 5)])) (sv sd a0 pl f sg rm B T N (some (.int k)) (some (.int z)) (some (.int wy)) o12 o13 o14 o15) = .ok (.int ro) := by simp only [entry, outs, runs, L2.Py.run, ev, evs, Rho.get, Rho.put, wipeE, L2.Py.putAll, List.length_cons, List.length_nil, List.map_cons, List.map_nil, List.replicate, List.cons_append, List.nil_append, List.getElem?_cons_zero, List.getElem?_cons_succ, List.set_cons_zero, List.set_cons_succ, ok_bind, ofR_ok, pure_ok, isTrueD, f6, mx, mM, hro]
  have q4 : ev sub G (.bin .fdiv (.bin .fdiv (.slot 10) (.cint 6)) (.blt .max2 [(.cint 1), (.slot 5)])) (sv sd a0 pl f sg rm B T N (some (.int k)) (some (.int z)) (some (.int wy)) (some (.int ro)) o13 o14 o15) = .ok (.int z2) := by simp only [entry, outs, runs, L2.Py.run, ev, evs, Rho.get, Rho.put, wipeE, L2.Py.putAll, List.length_cons, List.length_nil, List.map_cons, List.map_nil, List.replicate, List.cons_append, List.nil_append, List.getElem?_cons_zero, List.getElem?_cons_succ, List.set_cons_zero, List.set_cons_succ, ok_bind, ofR_ok, pure_ok, isTrueD, f6, mx, fM, hz2]
  obtain ⟨cc, ec, e5⟩ := idx_str (s := sg) (k := z2 % (sg.length : Int)) (by unfold lim; omega) (Int.emod_nonneg _ (by omega)) (Int.emod_lt_of_pos _ lp)
  have q5 : ev sub G (.idx (.slot 4) (.bin .mod (.slot 10) (.blt .len [(.slot 4)]))) (sv sd a0 pl f sg rm B T N (some (.int k)) (some (.int z2)) (some (.int wy)) (some (.int ro)) o13 o14 o15) = .ok (.str [cc]) := by simp only [entry, outs, runs, L2.Py.run, ev, evs, Rho.get, Rho.put, wipeE, L2.Py.putAll, List.length_cons, List.length_nil, List.map_cons, List.map_nil, List.replicate, List.cons_append, List.nil_append, List.getElem?_cons_zero, List.getElem?_cons_succ, List.set_cons_zero, List.set_cons_succ, ok_bind, ofR_ok, pure_ok, isTrueD, hl, d_mod lp, e5]
  obtain ⟨z3, hz3⟩ : ∃ z3, z3 = z2 / (sg.length : Int) := ⟨_, rfl⟩
  have q6 : ev sub G (.bin .fdiv (.slot 10) (.blt .len [(.slot 4)])) (sv sd a0 pl f sg rm B T N (some (.int k)) (some (.int z2)) (some (.int wy)) (some (.int ro)) (some (.str [cc])) o14 o15) = .ok (.int z3) := by simp only [entry, outs, runs, L2.Py.run, ev, evs, Rho.get, Rho.put, wipeE, L2.Py.putAll, List.length_cons, List.length_nil, List.map_cons, List.map_nil, List.replicate, List.cons_append, List.nil_append, List.getElem?_cons_zero, List.getElem?_cons_succ, List.set_cons_zero, List.set_cons_succ, ok_bind, ofR_ok, pure_ok, isTrueD, hl, d_fdiv lp (show (sg.length : Int) < 1073741824 by omega), hz3]
  obtain ⟨w, wl, ew⟩ := hw (z3 / M)
  have q7 : ev sub G (.call iw [(.bin .fdiv (.slot 10) (.blt .max2 [(.cint 1), (.slot 5)]))]) (sv sd a0 pl f sg rm B T N (some (.int k)) (some (.int z3)) (some (.int wy)) (some (.int ro)) (some (.str [cc])) o14 o15) = .ok (.str w) := by simp only [entry, outs, runs, L2.Py.run, ev, evs, Rho.get, Rho.put, wipeE, L2.Py.putAll, List.length_cons, List.length_nil, List.map_cons, List.map_nil, List.replicate, List.cons_append, List.nil_append, List.getElem?_cons_zero, List.getElem?_cons_succ, List.set_cons_zero, List.set_cons_succ, ok_bind, ofR_ok, pure_ok, isTrueD, mx, fM, ew]
  obtain ⟨p, hp⟩ : ∃ p : Sp4, p = (ro, [cc], w, z3 % M) := ⟨_, rfl⟩
  have hp1 : p.1 = ro := by rw [hp]
  have hp2 : p.2.1 = [cc] := by rw [hp]
  have q8 : ev sub G (.tup [(.slot 12), (.slot 13), (.slot 14), (.bin .mod (.slot 10) (.blt .max2 [(.cint 1), (.slot 5)]))]) (sv sd a0 pl f sg rm B T N (some (.int k)) (some (.int z3)) (some (.int wy)) (some (.int ro)) (some (.str [cc])) (some (.str w)) o15) = .ok (dSt p) := by
    rw [hp]
    simp only [entry, outs, runs, L2.Py.run, ev, evs, Rho.get, Rho.put, wipeE, L2.Py.putAll, List.length_cons, List.length_nil, List.map_cons, List.map_nil, List.replicate, List.cons_append, List.nil_append, List.getElem?_cons_zero, List.getElem?_cons_succ, List.set_cons_zero, List.set_cons_succ, ok_bind, ofR_ok, pure_ok, isTrueD, mx, mM]
    all_goals rfl
  have hroom : 0 < rm → 0 ≤ ro ∧ ro < rm := fun h0 => by
    rw [hro, hM.2.2 h0]
    exact ⟨Int.emod_nonneg _ (by omega), Int.emod_lt_of_pos _ h0⟩
  have hpok : 0 < rm → (0 ≤ p.1 ∧ p.1 < rm) ∧ (∃ c ∈ sg, p.2.1 = [c]) ∧ okW p.2.2.1 ∧ (0 ≤ p.2.2.2 ∧ p.2.2.2 < rm) := fun h0 => by
    have e := hM.2.2 h0
    rw [hp]
    refine ⟨hroom h0, ⟨cc, List.mem_of_getElem? ec, rfl⟩, wl, ?_⟩
    show 0 ≤ z3 % M ∧ z3 % M < rm
    rw [e]
    exact ⟨Int.emod_nonneg _ (by omega), Int.emod_lt_of_pos _ h0⟩
  -- the lists as they grow
  have g0 : ∀ B T N, ev sub G (.cmp .gt (.slot 5) (.cint 0)) (sv sd a0 pl f sg rm B T N (some (.int k)) (some (.int z3)) (some (.int wy)) (some (.int ro)) (some (.str [cc])) (some (.str w)) (some (dSt p))) = .ok (.bl (decide (0 < rm))) := fun B T N => by
    simp only [entry, outs, runs, L2.Py.run, ev, evs, Rho.get, Rho.put, wipeE, L2.Py.putAll, List.length_cons, List.length_nil, List.map_cons, List.map_nil, List.replicate, List.cons_append, List.nil_append, List.getElem?_cons_zero, List.getElem?_cons_succ, List.set_cons_zero, List.set_cons_succ, ok_bind, ofR_ok, pure_ok, isTrueD]
    rfl
  have gp : ∀ B T N, ev sub G (.not (.slot 2)) (sv sd a0 pl f sg rm B T N (some (.int k)) (some (.int z3)) (some (.int wy)) (some (.int ro)) (some (.str [cc])) (some (.str w)) (some (dSt p))) = .ok (.bl (!pl)) := fun B T N => ev_not2 (by rw [ev]; rfl)
  obtain ⟨T1, h1, n1, r1⟩ : ∃ T1, L3 pl sg rm B T1 N ∧ T1.length ≤ T.length + (if wy < 4 then 1 else 0) ∧ ∀ rest : List S, runs sub G (.iff (.and (.cmp .gt (.slot 5) (.cint 0)) (.and (.cmp .lt (.slot 11) (.cint 4)) (.cmp .notin (.slot 15) (.slot 7)))) [.iff (.or (.not (.slot 2)) (.cmp .eq (.blt .len [(.comp true [16] false .val [(.slot 7)] (L_l_scribe_1 ic id iw) (T_l_scribe_1 ic id iw))]) (.cint 0))) [.app 7 (.slot 15)] []] [] :: rest) (sv sd a0 pl f sg rm B T N (some (.int k)) (some (.int z3)) (some (.int wy)) (some (.int ro)) (some (.str [cc])) (some (.str w)) (some (dSt p))) =
      runs sub G rest (sv sd a0 pl f sg rm B T1 N (some (.int k)) (some (.int z3)) (some (.int wy)) (some (.int ro)) (some (.str [cc])) (some (.str w)) (some (dSt p))) := by
    have c : ev sub G (.and (.cmp .gt (.slot 5) (.cint 0)) (.and (.cmp .lt (.slot 11) (.cint 4)) (.cmp .notin (.slot 15) (.slot 7)))) (sv sd a0 pl f sg rm B T N (some (.int k)) (some (.int z3)) (some (.int wy)) (some (.int ro)) (some (.str [cc])) (some (.str w)) (some (dSt p))) = .ok (.bl (decide (0 < rm) && (decide (wy < 4) && !decide (p ∈ T)))) :=
      ev_and2 (g0 B T N) fun _ => ev_and2 (by simp only [entry, outs, runs, L2.Py.run, ev, evs, Rho.get, Rho.put, wipeE, L2.Py.putAll, List.length_cons, List.length_nil, List.map_cons, List.map_nil, List.replicate, List.cons_append, List.nil_append, List.getElem?_cons_zero, List.getElem?_cons_succ, List.set_cons_zero, List.set_cons_succ, ok_bind, ofR_ok, pure_ok, isTrueD] <;> rfl) fun _ => by
        simp only [entry, outs, runs, L2.Py.run, ev, evs, Rho.get, Rho.put, wipeE, L2.Py.putAll, List.length_cons, List.length_nil, List.map_cons, List.map_nil, List.replicate, List.cons_append, List.nil_append, List.getElem?_cons_zero, List.getElem?_cons_succ, List.set_cons_zero, List.set_cons_succ, ok_bind, ofR_ok, pure_ok, isTrueD, notin_st p T]
    have c2 : ev sub G (.or (.not (.slot 2)) (.cmp .eq (.blt .len [(.comp true [16] false .val [(.slot 7)] (L_l_scribe_1 ic id iw) (T_l_scribe_1 ic id iw))]) (.cint 0))) (sv sd a0 pl f sg rm B T N (some (.int k)) (some (.int z3)) (some (.int wy)) (some (.int ro)) (some (.str [cc])) (some (.str w)) (some (dSt p))) = .ok (.bl (!pl || (T.filter fun x => decide (ky x = ky p)).isEmpty)) := by
      refine ev_or2 (gp B T N) fun _ => ?_
      have q : ev sub G (.comp true [16] false .val [(.slot 7)] (L_l_scribe_1 ic id iw) (T_l_scribe_1 ic id iw)) (sv sd a0 pl f sg rm B T N (some (.int k)) (some (.int z3)) (some (.int wy)) (some (.int ro)) (some (.str [cc])) (some (.str w)) (some (dSt p))) = .ok (.lst ((T.filter fun x => decide (ky x = ky p)).map dSt)) := by
        refine ev_comp (xs := [.lst (T.map dSt)]) (ds := T.map dSt) rfl rfl ?_ (by rw [List.length_map]; have := List.length_filter_le (fun x => decide (ky x = ky p)) T; unfold lim; omega)
        refine compF dSt dSt _ T fun x hx => ⟨[some sd, some (.int a0), some (.bl pl), some (.int f), some (.str sg), some (.int rm), some (.lst (B.map dPr)), some (.lst (T.map dSt)), some (.lst (N.map dPr)), some (.int k), some (.int z3), some (.int wy), some (.int ro), some (.str [cc]), some (.str w), some (dSt p), some (dSt x)], rfl, ?_, fun _ => rfl⟩
        refine evc_one' ?_
        simp only [entry, outs, runs, L2.Py.run, ev, evs, Rho.get, Rho.put, wipeE, L2.Py.putAll, List.length_cons, List.length_nil, List.map_cons, List.map_nil, List.replicate, List.cons_append, List.nil_append, List.getElem?_cons_zero, List.getElem?_cons_succ, List.set_cons_zero, List.set_cons_succ, ok_bind, ofR_ok, pure_ok, isTrueD, oneI, slc2 x, slc2 p, ky_eq x p]
      exact lenz q
    cases hb : (decide (0 < rm) && (decide (wy < 4) && !decide (p ∈ T))) with
    | false =>
      rw [hb] at c
      exact ⟨T, h, Nat.le_add_right _ _, fun rest => runs_skip c⟩
    | true =>
      rw [hb] at c
      simp only [Bool.and_eq_true, decide_eq_true_eq, Bool.not_eq_true', decide_eq_false_iff_not] at hb
      obtain ⟨hr, hy, hn⟩ := hb
      cases hb2 : (!pl || (T.filter fun x => decide (ky x = ky p)).isEmpty) with
      | false =>
        rw [hb2] at c2
        exact ⟨T, h, Nat.le_add_right _ _, fun rest => runs_then c ((runs_skip c2).trans (by rw [runs]))⟩
      | true =>
        rw [hb2] at c2
        refine ⟨T ++ [p], h.addT (hpok hr) hn (fun e => ?_), by rw [List.length_append, if_pos hy]; exact Nat.le_refl _, fun rest => runs_then c ((runs_then c2 ((runs_app (xs := T.map dSt) (d := dSt p) rfl rfl (by rw [List.length_map]; unfold lim; omega)).trans (by rw [map_snoc, runs] <;> rfl))).trans (by rw [runs] <;> rfl))⟩
        rw [e] at hb2
        simp only [Bool.not_true, Bool.false_or, List.isEmpty_iff] at hb2
        intro hm
        obtain ⟨y, hy1, hy2⟩ := List.mem_map.mp hm
        have := List.filter_eq_nil_iff.mp hb2 y hy1
        simp only [decide_eq_true_eq] at this
        exact this hy2
  obtain ⟨N1, h2, n2, r2⟩ : ∃ N1, L3 pl sg rm B T1 N1 ∧ N1.length ≤ N.length + (if wy = 4 then 1 else 0) ∧ ∀ rest : List S, runs sub G (.iff (.and (.cmp .gt (.slot 5) (.cint 0)) (.and (.cmp .eq (.slot 11) (.cint 4)) (.cmp .notin (.tup [(.slot 12), (.slot 14)]) (.slot 8)))) [.iff (.or (.not (.slot 2)) (.cmp .eq (.blt .len [(.comp true [16] false .val [(.slot 8)] (L_l_scribe_2 ic id iw) (T_l_scribe_2 ic id iw))]) (.cint 0))) [.app 8 (.tup [(.slot 12), (.slot 14)])] []] [] :: rest) (sv sd a0 pl f sg rm B T1 N (some (.int k)) (some (.int z3)) (some (.int wy)) (some (.int ro)) (some (.str [cc])) (some (.str w)) (some (dSt p))) =
      runs sub G rest (sv sd a0 pl f sg rm B T1 N1 (some (.int k)) (some (.int z3)) (some (.int wy)) (some (.int ro)) (some (.str [cc])) (some (.str w)) (some (dSt p))) := by
    have c : ev sub G (.and (.cmp .gt (.slot 5) (.cint 0)) (.and (.cmp .eq (.slot 11) (.cint 4)) (.cmp .notin (.tup [(.slot 12), (.slot 14)]) (.slot 8)))) (sv sd a0 pl f sg rm B T1 N (some (.int k)) (some (.int z3)) (some (.int wy)) (some (.int ro)) (some (.str [cc])) (some (.str w)) (some (dSt p))) = .ok (.bl (decide (0 < rm) && ((wy == 4) && !decide (((ro, w) : Pr) ∈ N)))) :=
      ev_and2 (g0 B T1 N) fun _ => ev_and2 (by simp only [entry, outs, runs, L2.Py.run, ev, evs, Rho.get, Rho.put, wipeE, L2.Py.putAll, List.length_cons, List.length_nil, List.map_cons, List.map_nil, List.replicate, List.cons_append, List.nil_append, List.getElem?_cons_zero, List.getElem?_cons_succ, List.set_cons_zero, List.set_cons_succ, ok_bind, ofR_ok, pure_ok, isTrueD, eqI]) fun _ => by
        simp only [entry, outs, runs, L2.Py.run, ev, evs, Rho.get, Rho.put, wipeE, L2.Py.putAll, List.length_cons, List.length_nil, List.map_cons, List.map_nil, List.replicate, List.cons_append, List.nil_append, List.getElem?_cons_zero, List.getElem?_cons_succ, List.set_cons_zero, List.set_cons_succ, ok_bind, ofR_ok, pure_ok, isTrueD, show cmpD .notin (.tup [.int ro, .str w]) (.lst (N.map dPr)) = .ok (.bl (!decide (((ro, w) : Pr) ∈ N))) from notin_pr (ro, w) N]
    have c2 : ev sub G (.or (.not (.slot 2)) (.cmp .eq (.blt .len [(.comp true [16] false .val [(.slot 8)] (L_l_scribe_2 ic id iw) (T_l_scribe_2 ic id iw))]) (.cint 0))) (sv sd a0 pl f sg rm B T1 N (some (.int k)) (some (.int z3)) (some (.int wy)) (some (.int ro)) (some (.str [cc])) (some (.str w)) (some (dSt p))) = .ok (.bl (!pl || (N.filter fun x => x.1 == ro).isEmpty)) := by
      refine ev_or2 (gp B T1 N) fun _ => ?_
      have q : ev sub G (.comp true [16] false .val [(.slot 8)] (L_l_scribe_2 ic id iw) (T_l_scribe_2 ic id iw)) (sv sd a0 pl f sg rm B T1 N (some (.int k)) (some (.int z3)) (some (.int wy)) (some (.int ro)) (some (.str [cc])) (some (.str w)) (some (dSt p))) = .ok (.lst ((N.filter fun x => x.1 == ro).map dPr)) := by
        refine ev_comp (xs := [.lst (N.map dPr)]) (ds := N.map dPr) rfl rfl ?_ (by rw [List.length_map]; have := List.length_filter_le (fun x : Pr => x.1 == ro) N; unfold lim; omega)
        refine compF dPr dPr _ N fun x hx => ⟨[some sd, some (.int a0), some (.bl pl), some (.int f), some (.str sg), some (.int rm), some (.lst (B.map dPr)), some (.lst (T1.map dSt)), some (.lst (N.map dPr)), some (.int k), some (.int z3), some (.int wy), some (.int ro), some (.str [cc]), some (.str w), some (dSt p), some (dPr x)], rfl, ?_, fun _ => rfl⟩
        refine evc_one' ?_
        simp only [entry, outs, runs, L2.Py.run, ev, evs, Rho.get, Rho.put, wipeE, L2.Py.putAll, List.length_cons, List.length_nil, List.map_cons, List.map_nil, List.replicate, List.cons_append, List.nil_append, List.getElem?_cons_zero, List.getElem?_cons_succ, List.set_cons_zero, List.set_cons_succ, ok_bind, ofR_ok, pure_ok, isTrueD, show idxD (dPr x) (.int 0) = .ok (.int x.1) from rfl, eqI]
      exact lenz q
    cases hb : (decide (0 < rm) && ((wy == 4) && !decide (((ro, w) : Pr) ∈ N))) with
    | false =>
      rw [hb] at c
      exact ⟨N, h1, Nat.le_add_right _ _, fun rest => runs_skip c⟩
    | true =>
      rw [hb] at c
      simp only [Bool.and_eq_true, decide_eq_true_eq, Bool.not_eq_true', decide_eq_false_iff_not, beq_iff_eq] at hb
      obtain ⟨hr, hy, hn⟩ := hb
      cases hb2 : (!pl || (N.filter fun x => x.1 == ro).isEmpty) with
      | false =>
        rw [hb2] at c2
        exact ⟨N, h1, Nat.le_add_right _ _, fun rest => runs_then c ((runs_skip c2).trans (by rw [runs]))⟩
      | true =>
        rw [hb2] at c2
        refine ⟨N ++ [(ro, w)], h1.addN ⟨hroom hr, wl⟩ hn (fun e => ?_), by rw [List.length_append, if_pos hy]; exact Nat.le_refl _, fun rest => runs_then c ((runs_then c2 ((runs_app (xs := N.map dPr) (d := dPr (ro, w)) rfl rfl (by rw [List.length_map]; unfold lim; omega)).trans (by rw [map_snoc, runs] <;> rfl))).trans (by rw [runs] <;> rfl))⟩
        rw [e] at hb2
        simp only [Bool.not_true, Bool.false_or, List.isEmpty_iff] at hb2
        intro hm
        obtain ⟨y, hy1, hy2⟩ := List.mem_map.mp hm
        have := List.filter_eq_nil_iff.mp hb2 y hy1
        simp only [beq_iff_eq] at this
        exact this hy2
  obtain ⟨B1, h3, n3, r3⟩ : ∃ B1, L3 pl sg rm B1 T1 N1 ∧ B1.length ≤ B.length + (if wy = 5 then 1 else 0) ∧ runs sub G [.iff (.and (.cmp .gt (.slot 5) (.cint 0)) (.and (.cmp .eq (.slot 11) (.cint 5)) (.and (.cmp .notin (.tup [(.slot 12), (.slot 14)]) (.slot 6)) (.or (.cmp .eq (.blt .len [(.slot 6)]) (.cint 0)) (.not (.slot 2)))))) [.app 6 (.tup [(.slot 12), (.slot 14)])] []] (sv sd a0 pl f sg rm B T1 N1 (some (.int k)) (some (.int z3)) (some (.int wy)) (some (.int ro)) (some (.str [cc])) (some (.str w)) (some (dSt p))) =
      .next (sv sd a0 pl f sg rm B1 T1 N1 (some (.int k)) (some (.int z3)) (some (.int wy)) (some (.int ro)) (some (.str [cc])) (some (.str w)) (some (dSt p))) := by
    have c : ev sub G (.and (.cmp .gt (.slot 5) (.cint 0)) (.and (.cmp .eq (.slot 11) (.cint 5)) (.and (.cmp .notin (.tup [(.slot 12), (.slot 14)]) (.slot 6)) (.or (.cmp .eq (.blt .len [(.slot 6)]) (.cint 0)) (.not (.slot 2)))))) (sv sd a0 pl f sg rm B T1 N1 (some (.int k)) (some (.int z3)) (some (.int wy)) (some (.int ro)) (some (.str [cc])) (some (.str w)) (some (dSt p))) = .ok (.bl (decide (0 < rm) && ((wy == 5) && (!decide (((ro, w) : Pr) ∈ B) && (B.isEmpty || !pl))))) :=
      ev_and2 (g0 B T1 N1) fun _ => ev_and2 (by simp only [entry, outs, runs, L2.Py.run, ev, evs, Rho.get, Rho.put, wipeE, L2.Py.putAll, List.length_cons, List.length_nil, List.map_cons, List.map_nil, List.replicate, List.cons_append, List.nil_append, List.getElem?_cons_zero, List.getElem?_cons_succ, List.set_cons_zero, List.set_cons_succ, ok_bind, ofR_ok, pure_ok, isTrueD, eqI]) fun _ => ev_and2 (by
        simp only [entry, outs, runs, L2.Py.run, ev, evs, Rho.get, Rho.put, wipeE, L2.Py.putAll, List.length_cons, List.length_nil, List.map_cons, List.map_nil, List.replicate, List.cons_append, List.nil_append, List.getElem?_cons_zero, List.getElem?_cons_succ, List.set_cons_zero, List.set_cons_succ, ok_bind, ofR_ok, pure_ok, isTrueD, show cmpD .notin (.tup [.int ro, .str w]) (.lst (B.map dPr)) = .ok (.bl (!decide (((ro, w) : Pr) ∈ B))) from notin_pr (ro, w) B]) fun _ => ev_or2 (by
        simp only [entry, outs, runs, L2.Py.run, ev, evs, Rho.get, Rho.put, wipeE, L2.Py.putAll, List.length_cons, List.length_nil, List.map_cons, List.map_nil, List.replicate, List.cons_append, List.nil_append, List.getElem?_cons_zero, List.getElem?_cons_succ, List.set_cons_zero, List.set_cons_succ, ok_bind, ofR_ok, pure_ok, isTrueD, lenL, eqI, len0]) fun _ => gp B T1 N1
    cases hb : (decide (0 < rm) && ((wy == 5) && (!decide (((ro, w) : Pr) ∈ B) && (B.isEmpty || !pl)))) with
    | false =>
      rw [hb] at c
      exact ⟨B, h2, Nat.le_add_right _ _, (runs_skip c).trans (by rw [runs])⟩
    | true =>
      rw [hb] at c
      simp only [Bool.and_eq_true, decide_eq_true_eq, Bool.not_eq_true', decide_eq_false_iff_not, beq_iff_eq, Bool.or_eq_true, List.isEmpty_iff] at hb
      obtain ⟨hr, hy, hn, hz⟩ := hb
      refine ⟨B ++ [(ro, w)], h2.addB ⟨hroom hr, wl⟩ hn (fun e => ?_), by rw [List.length_append, if_pos hy]; exact Nat.le_refl _, (runs_then c ((runs_app (xs := B.map dPr) (d := dPr (ro, w)) rfl rfl (by rw [List.length_map]; unfold lim; omega)).trans (by rw [map_snoc, runs] <;> rfl))).trans (by rw [runs] <;> rfl)⟩
      rcases hz with hz | hz
      · rw [hz]; rfl
      · rw [e] at hz; cases hz
  refine ⟨B1, T1, N1, _, _, _, _, _, _, ⟨h3, ?_⟩, (runs_asg q1).trans ((runs_asg q2).trans ((runs_asg q3).trans ((runs_asg q4).trans ((runs_asg q5).trans ((runs_asg q6).trans ((runs_asg q7).trans ((runs_asg q8).trans ((r1 _).trans ((r2 _).trans r3)))))))))⟩
  split at n1 <;> split at n2 <;> split at n3 <;> omega
end
end L2.Py.C12

set_option maxRecDepth 100000
set_option maxHeartbeats 2000000
namespace L2.Py.C12
open PySem PySem.Spec PyProof.Rows TL
open L2.Py.C13 (ev_and2 ev_or2 ev_not2)
section
variable {sub : Sub} {G : Gam} {ρ : Rho}
theorem loop_run (ic id iw : Nat) (sd : D) (a0 : Int) (hd : ∀ k : Int, 0 ≤ k → ∃ z : Int, G id [sd, .int k] = .ok (.int z, [])) (hw : ∀ r : Int, ∃ w : W, okW w ∧ G iw [.int r] = .ok (.str w, [])) (f : Int) {pl : Bool} {sg : W} {rm : Int} (hsg : 0 < sg.length ∧ sg.length ≤ 5) (hrm : 0 ≤ rm ∧ rm ≤ 20) : ∀ (m n : Nat) (lo : Int) (B : List Pr) (T : List Sp4) (N : List Pr) (o9 o10 o11 o12 o13 o14 o15 : Option D), 0 ≤ lo → n + m ≤ 1000 → B.length + T.length + N.length ≤ n → L3 pl sg rm B T N →
    ∃ B' T' N' p9 p10 p11 p12 p13 p14 p15, (L3 pl sg rm B' T' N' ∧ B'.length + T'.length + N'.length ≤ n + m) ∧ forR (fun d r => bindFl false false [9] d r) (fun r => runs sub G (B_l_scribe_1 ic id iw) r) (upto lo m) (sv sd a0 pl f sg rm B T N o9 o10 o11 o12 o13 o14 o15) = .next (sv sd a0 pl f sg rm B' T' N' p9 p10 p11 p12 p13 p14 p15)
  | 0, n, lo, B, T, N, o9, o10, o11, o12, o13, o14, o15, _, _, hn, h => ⟨B, T, N, o9, o10, o11, o12, o13, o14, o15, ⟨h, hn⟩, rfl⟩
  | m + 1, n, lo, B, T, N, o9, o10, o11, o12, o13, o14, o15, h0, hn, hl, h => by
    obtain ⟨B1, T1, N1, p10, p11, p12, p13, p14, p15, ⟨h1, hl1⟩, e1⟩ := body_run (sub := sub) ic id iw sd a0 hd hw f hsg hrm h (by omega) lo h0 o10 o11 o12 o13 o14 o15
    obtain ⟨B2, T2, N2, r9, r10, r11, r12, r13, r14, r15, ⟨h2, hl2⟩, e2⟩ := loop_run ic id iw sd a0 hd hw f hsg hrm m (n + 1) (lo + 1) B1 T1 N1 (some (.int lo)) p10 p11 p12 p13 p14 p15 (by omega) (by omega) (by omega) h1
    refine ⟨B2, T2, N2, r9, r10, r11, r12, r13, r14, r15, ⟨h2, by omega⟩, ?_⟩
    rw [upto, forR_cons (bind1 9 _ _)]
    show (match runs sub G (B_l_scribe_1 ic id iw) (sv sd a0 pl f sg rm B T N (some (.int lo)) o10 o11 o12 o13 o14 o15) with | .next ρ2 => _ | o => o) = _
    rw [e1]
    exact e2
theorem signs7 (f : Int) : ∃ sg : W, (0 < sg.length ∧ sg.length ≤ 5) ∧ sg.Nodup ∧ (∀ c ∈ sg, 97 ≤ c ∧ c ≤ 122) ∧ idxD (.lst [.str [97, 98], .str [98, 97], .str [97, 98, 99], .str [99, 97, 98], .str [97], .str [122, 121, 120, 119], .str [112, 98, 101, 97, 111]]) (.int (f % 7)) = .ok (.str sg) := by
  have h : f % 7 = 0 ∨ f % 7 = 1 ∨ f % 7 = 2 ∨ f % 7 = 3 ∨ f % 7 = 4 ∨ f % 7 = 5 ∨ f % 7 = 6 := by omega
  rcases h with e | e | e | e | e | e | e
  · exact ⟨[97, 98], by decide, by decide, by decide, by rw [e]; rfl⟩
  · exact ⟨[98, 97], by decide, by decide, by decide, by rw [e]; rfl⟩
  · exact ⟨[97, 98, 99], by decide, by decide, by decide, by rw [e]; rfl⟩
  · exact ⟨[99, 97, 98], by decide, by decide, by decide, by rw [e]; rfl⟩
  · exact ⟨[97], by decide, by decide, by decide, by rw [e]; rfl⟩
  · exact ⟨[122, 121, 120, 119], by decide, by decide, by decide, by rw [e]; rfl⟩
  · exact ⟨[112, 98, 101, 97, 111], by decide, by decide, by decide, by rw [e]; rfl⟩
theorem scribe_run (ic id iw : Nat) (ns : List Int) (a0 : Int) (ha : 0 ≤ a0 ∧ a0 ≤ 100) (pl : Bool) (hn : ns.length ≤ 1000) (hc : ∀ k : Int, 0 ≤ k → G ic [.scr ns, .int k] = .ok (.int (cellAt ns k), [])) (hd : ∀ k : Int, 0 ≤ k → ∃ z : Int, G id [.scr ns, .int k] = .ok (.int z, [])) (hw : ∀ r : Int, ∃ w : W, okW w ∧ G iw [.int r] = .ok (.str w, [])) :
    ∃ S : Scr, (L3 pl S.sg S.rm S.bs S.ss S.es ∧ S.bs.length + S.ss.length + S.es.length ≤ 33) ∧ ((0 < S.sg.length ∧ S.sg.length ≤ 5) ∧ S.sg.Nodup ∧ (∀ c ∈ S.sg, 97 ≤ c ∧ c ≤ 122)) ∧ (0 ≤ S.rm ∧ S.rm ≤ 14) ∧ runDef sub G (D_l_scribe ic id iw) [.scr ns, .int a0, .bl pl] = .ok (S.d, []) := by
  obtain ⟨f, hf⟩ : ∃ f, f = cellAt ns a0 := ⟨_, rfl⟩
  have q1 : ev sub G (.call ic [(.slot 0), (.slot 1)]) [some (.scr ns), some (.int a0), some (.bl pl), none, none, none, none, none, none, none, none, none, none, none, none, none, none] = .ok (.int f) := by simp only [entry, outs, runs, L2.Py.run, ev, evs, Rho.get, Rho.put, wipeE, L2.Py.putAll, List.length_cons, List.length_nil, List.map_cons, List.map_nil, List.replicate, List.cons_append, List.nil_append, List.getElem?_cons_zero, List.getElem?_cons_succ, List.set_cons_zero, List.set_cons_succ, ok_bind, ofR_ok, pure_ok, isTrueD, hc a0 ha.1, hf]
  obtain ⟨sg, hsg, hnd, hch, e4⟩ := signs7 f
  have q2 : ev sub G (.idx (.lst [(.cstr [97, 98]), (.cstr [98, 97]), (.cstr [97, 98, 99]), (.cstr [99, 97, 98]), (.cstr [97]), (.cstr [122, 121, 120, 119]), (.cstr [112, 98, 101, 97, 111])]) (.bin .mod (.slot 3) (.cint 7))) [some (.scr ns), some (.int a0), some (.bl pl), some (.int f), none, none, none, none, none, none, none, none, none, none, none, none, none] = .ok (.str sg) := by
    simp only [entry, outs, runs, L2.Py.run, ev, evs, Rho.get, Rho.put, wipeE, L2.Py.putAll, List.length_cons, List.length_nil, List.map_cons, List.map_nil, List.replicate, List.cons_append, List.nil_append, List.getElem?_cons_zero, List.getElem?_cons_succ, List.set_cons_zero, List.set_cons_succ, ok_bind, ofR_ok, pure_ok, isTrueD, @d_mod f 7 (by decide), e4]
  obtain ⟨r0, hr0, q3⟩ : ∃ r0 : Int, (0 ≤ r0 ∧ r0 ≤ 8) ∧ ev sub G (.bin .mod (.bin .fdiv (.slot 3) (.cint 7)) (.idx (.lst [(.cint 9), (.cint 5)]) (.blt .toInt [(.not (.slot 2))]))) [some (.scr ns), some (.int a0), some (.bl pl), some (.int f), some (.str sg), none, none, none, none, none, none, none, none, none, none, none, none] = .ok (.int r0) := by
    cases pl with
    | false =>
      refine ⟨f / 7 % 5, by omega, ?_⟩
      have e : bltD sub .toInt [.bl (!false)] = .ok (.int 1) := rfl
      have e2 : idxD (.lst [.int 9, .int 5]) (.int 1) = .ok (.int 5) := rfl
      simp only [entry, outs, runs, L2.Py.run, ev, evs, Rho.get, Rho.put, wipeE, L2.Py.putAll, List.length_cons, List.length_nil, List.map_cons, List.map_nil, List.replicate, List.cons_append, List.nil_append, List.getElem?_cons_zero, List.getElem?_cons_succ, List.set_cons_zero, List.set_cons_succ, ok_bind, ofR_ok, pure_ok, isTrueD, @d_fdiv f 7 (by decide) (by decide), e, e2, fun x => @d_mod x 5 (by decide)]
      all_goals rfl
    | true =>
      refine ⟨f / 7 % 9, by omega, ?_⟩
      have e : bltD sub .toInt [.bl (!true)] = .ok (.int 0) := rfl
      have e2 : idxD (.lst [.int 9, .int 5]) (.int 0) = .ok (.int 9) := rfl
      simp only [entry, outs, runs, L2.Py.run, ev, evs, Rho.get, Rho.put, wipeE, L2.Py.putAll, List.length_cons, List.length_nil, List.map_cons, List.map_nil, List.replicate, List.cons_append, List.nil_append, List.getElem?_cons_zero, List.getElem?_cons_succ, List.set_cons_zero, List.set_cons_succ, ok_bind, ofR_ok, pure_ok, isTrueD, @d_fdiv f 7 (by decide) (by decide), e, e2, fun x => @d_mod x 9 (by decide)]
      all_goals rfl
  obtain ⟨rm, hrm, q5⟩ : ∃ rm : Int, (0 ≤ rm ∧ rm ≤ 14) ∧ ∀ rest : List S, runs sub G (.iff (.and (.slot 2) (.cmp .eq (.bin .mod (.bin .fdiv (.slot 3) (.cint 500)) (.cint 6)) (.cint 1))) [.asg 5 .fr (.bin .add (.cint 11) (.bin .mod (.bin .fdiv (.slot 3) (.cint 3000)) (.cint 4)))] [] :: rest) [some (.scr ns), some (.int a0), some (.bl pl), some (.int f), some (.str sg), some (.int r0), none, none, none, none, none, none, none, none, none, none, none] =
      runs sub G rest [some (.scr ns), some (.int a0), some (.bl pl), some (.int f), some (.str sg), some (.int rm), none, none, none, none, none, none, none, none, none, none, none] := by
    have c : ev sub G (.and (.slot 2) (.cmp .eq (.bin .mod (.bin .fdiv (.slot 3) (.cint 500)) (.cint 6)) (.cint 1))) [some (.scr ns), some (.int a0), some (.bl pl), some (.int f), some (.str sg), some (.int r0), none, none, none, none, none, none, none, none, none, none, none] = .ok (.bl (pl && (f / 500 % 6 == 1))) :=
      ev_and2 (by rw [ev]; rfl) fun _ => by simp only [entry, outs, runs, L2.Py.run, ev, evs, Rho.get, Rho.put, wipeE, L2.Py.putAll, List.length_cons, List.length_nil, List.map_cons, List.map_nil, List.replicate, List.cons_append, List.nil_append, List.getElem?_cons_zero, List.getElem?_cons_succ, List.set_cons_zero, List.set_cons_succ, ok_bind, ofR_ok, pure_ok, isTrueD, @d_fdiv f 500 (by decide) (by decide), fun x => @d_mod x 6 (by decide), eqI]
    cases hb : (pl && (f / 500 % 6 == 1)) with
    | false =>
      rw [hb] at c
      exact ⟨r0, by omega, fun rest => runs_skip c⟩
    | true =>
      rw [hb] at c
      refine ⟨11 + f / 3000 % 4, by omega, fun rest => runs_then c ((runs_asg (d := .int (11 + f / 3000 % 4)) ?_).trans (by rw [runs] <;> rfl))⟩
      simp only [entry, outs, runs, L2.Py.run, ev, evs, Rho.get, Rho.put, wipeE, L2.Py.putAll, List.length_cons, List.length_nil, List.map_cons, List.map_nil, List.replicate, List.cons_append, List.nil_append, List.getElem?_cons_zero, List.getElem?_cons_succ, List.set_cons_zero, List.set_cons_succ, ok_bind, ofR_ok, pure_ok, isTrueD, @d_fdiv f 3000 (by decide) (by decide), fun x => @d_mod x 4 (by decide), d_add]
  obtain ⟨top, htop, e6⟩ : ∃ top : Int, (0 ≤ top ∧ top ≤ a0 + 32) ∧ bltD sub .min2 [.int (a0 + 32), .int ns.length] = .ok (.int top) := ⟨if (ns.length : Int) < a0 + 32 then ns.length else a0 + 32, by split <;> omega, rfl⟩
  have q4 : evs sub G [(.bin .add (.slot 1) (.cint 1)), (.blt .min2 [(.bin .add (.slot 1) (.cint 32)), (.blt .len [(.slot 0)])])] (sv (.scr ns) a0 pl f sg rm [] [] [] none none none none none none none) = .ok [.int (a0 + 1), .int top] := by
    simp only [entry, outs, runs, L2.Py.run, ev, evs, Rho.get, Rho.put, wipeE, L2.Py.putAll, List.length_cons, List.length_nil, List.map_cons, List.map_nil, List.replicate, List.cons_append, List.nil_append, List.getElem?_cons_zero, List.getElem?_cons_succ, List.set_cons_zero, List.set_cons_succ, ok_bind, ofR_ok, pure_ok, isTrueD, d_add, len_scr, e6]
  have e3 : itD .range2 [.int (a0 + 1), .int top] = .ok (upto (a0 + 1) (top - (a0 + 1)).toNat) := if_pos (by
    unfold small62
    simp
    omega)
  obtain ⟨B, T, N, p9, p10, p11, p12, p13, p14, p15, ⟨hI, hlen⟩, lp⟩ := loop_run (sub := sub) ic id iw (.scr ns) a0 hd hw f (pl := pl) hsg (show 0 ≤ rm ∧ rm ≤ 20 by omega) (top - (a0 + 1)).toNat 0 (a0 + 1) [] [] [] none none none none none none none (by omega) (by omega) (Nat.le_refl _) ⟨by simp, by simp, by simp, List.nodup_nil, List.nodup_nil, List.nodup_nil, fun _ => ⟨Nat.zero_le _, List.nodup_nil, List.nodup_nil⟩⟩
  have g0 : ∀ B T N, ev sub G (.cmp .gt (.slot 5) (.cint 0)) (sv (.scr ns) a0 pl f sg rm B T N p9 p10 p11 p12 p13 p14 p15) = .ok (.bl (decide (0 < rm))) := fun B T N => by simp only [entry, outs, runs, L2.Py.run, ev, evs, Rho.get, Rho.put, wipeE, L2.Py.putAll, List.length_cons, List.length_nil, List.map_cons, List.map_nil, List.replicate, List.cons_append, List.nil_append, List.getElem?_cons_zero, List.getElem?_cons_succ, List.set_cons_zero, List.set_cons_succ, ok_bind, ofR_ok, pure_ok, isTrueD, gtI]
  have f45 := @d_fdiv f 45 (by decide) (by decide)
  have m8 := fun x => @d_mod x 8 (by decide)
  obtain ⟨B1, h1, n1, r1⟩ : ∃ B1, L3 pl sg rm B1 T N ∧ B1.length ≤ B.length + 1 ∧ ∀ rest : List S, runs sub G (.iff (.and (.cmp .gt (.slot 5) (.cint 0)) (.and (.cmp .eq (.blt .len [(.slot 6)]) (.cint 0)) (.cmp .gt (.bin .mod (.bin .fdiv (.slot 3) (.cint 45)) (.cint 8)) (.cint 0)))) [.app 6 (.tup [(.bin .mod (.bin .fdiv (.slot 3) (.cint 360)) (.slot 5)), (.call iw [(.bin .fdiv (.slot 3) (.cint 3600))])])] [] :: rest) (sv (.scr ns) a0 pl f sg rm B T N p9 p10 p11 p12 p13 p14 p15) = runs sub G rest (sv (.scr ns) a0 pl f sg rm B1 T N p9 p10 p11 p12 p13 p14 p15) := by
    have c : ev sub G (.and (.cmp .gt (.slot 5) (.cint 0)) (.and (.cmp .eq (.blt .len [(.slot 6)]) (.cint 0)) (.cmp .gt (.bin .mod (.bin .fdiv (.slot 3) (.cint 45)) (.cint 8)) (.cint 0)))) (sv (.scr ns) a0 pl f sg rm B T N p9 p10 p11 p12 p13 p14 p15) = .ok (.bl (decide (0 < rm) && (B.isEmpty && decide (0 < f / 45 % 8)))) :=
      ev_and2 (g0 B T N) fun _ => ev_and2 (lenz (g := dPr) rfl) fun _ => by simp only [entry, outs, runs, L2.Py.run, ev, evs, Rho.get, Rho.put, wipeE, L2.Py.putAll, List.length_cons, List.length_nil, List.map_cons, List.map_nil, List.replicate, List.cons_append, List.nil_append, List.getElem?_cons_zero, List.getElem?_cons_succ, List.set_cons_zero, List.set_cons_succ, ok_bind, ofR_ok, pure_ok, isTrueD, f45, m8, gtI]
    cases hb : (decide (0 < rm) && (B.isEmpty && decide (0 < f / 45 % 8))) with
    | false =>
      rw [hb] at c
      exact ⟨B, hI, by omega, fun rest => runs_skip c⟩
    | true =>
      rw [hb] at c
      simp only [Bool.and_eq_true, decide_eq_true_eq, List.isEmpty_iff] at hb
      obtain ⟨hr, hB, _⟩ := hb
      obtain ⟨w, wl, ew⟩ := hw (f / 3600)
      refine ⟨B ++ [(f / 360 % rm, w)], hI.addB ⟨⟨Int.emod_nonneg _ (by omega), Int.emod_lt_of_pos _ hr⟩, wl⟩ (by rw [hB]; exact List.not_mem_nil) (fun _ => by rw [hB]; rfl), by rw [List.length_append]; exact Nat.le_refl _, fun rest => runs_then c ((runs_app (xs := B.map dPr) (d := dPr (f / 360 % rm, w)) rfl ?_ (by rw [List.length_map]; unfold lim; omega)).trans (by rw [map_snoc, runs] <;> rfl))⟩
      simp only [entry, outs, runs, L2.Py.run, ev, evs, Rho.get, Rho.put, wipeE, L2.Py.putAll, List.length_cons, List.length_nil, List.map_cons, List.map_nil, List.replicate, List.cons_append, List.nil_append, List.getElem?_cons_zero, List.getElem?_cons_succ, List.set_cons_zero, List.set_cons_succ, ok_bind, ofR_ok, pure_ok, isTrueD, @d_fdiv f 360 (by decide) (by decide), d_mod hr, @d_fdiv f 3600 (by decide) (by decide), ew]
      all_goals rfl
  obtain ⟨N1, h2, n2, r2⟩ : ∃ N1, L3 pl sg rm B1 T N1 ∧ N1.length ≤ N.length + 1 ∧ ∀ rest : List S, runs sub G (.iff (.and (.cmp .gt (.slot 5) (.cint 0)) (.and (.cmp .eq (.blt .len [(.slot 8)]) (.cint 0)) (.cmp .gt (.bin .mod (.bin .fdiv (.slot 3) (.cint 45)) (.cint 8)) (.cint 1)))) [.app 8 (.tup [(.bin .mod (.bin .fdiv (.slot 3) (.cint 361)) (.slot 5)), (.call iw [(.bin .fdiv (.slot 3) (.cint 7))])])] [] :: rest) (sv (.scr ns) a0 pl f sg rm B1 T N p9 p10 p11 p12 p13 p14 p15) = runs sub G rest (sv (.scr ns) a0 pl f sg rm B1 T N1 p9 p10 p11 p12 p13 p14 p15) := by
    have c : ev sub G (.and (.cmp .gt (.slot 5) (.cint 0)) (.and (.cmp .eq (.blt .len [(.slot 8)]) (.cint 0)) (.cmp .gt (.bin .mod (.bin .fdiv (.slot 3) (.cint 45)) (.cint 8)) (.cint 1)))) (sv (.scr ns) a0 pl f sg rm B1 T N p9 p10 p11 p12 p13 p14 p15) = .ok (.bl (decide (0 < rm) && (N.isEmpty && decide (1 < f / 45 % 8)))) :=
      ev_and2 (g0 B1 T N) fun _ => ev_and2 (lenz (g := dPr) rfl) fun _ => by simp only [entry, outs, runs, L2.Py.run, ev, evs, Rho.get, Rho.put, wipeE, L2.Py.putAll, List.length_cons, List.length_nil, List.map_cons, List.map_nil, List.replicate, List.cons_append, List.nil_append, List.getElem?_cons_zero, List.getElem?_cons_succ, List.set_cons_zero, List.set_cons_succ, ok_bind, ofR_ok, pure_ok, isTrueD, f45, m8, gtI]
    cases hb : (decide (0 < rm) && (N.isEmpty && decide (1 < f / 45 % 8))) with
    | false =>
      rw [hb] at c
      exact ⟨N, h1, by omega, fun rest => runs_skip c⟩
    | true =>
      rw [hb] at c
      simp only [Bool.and_eq_true, decide_eq_true_eq, List.isEmpty_iff] at hb
      obtain ⟨hr, hN, _⟩ := hb
      obtain ⟨w, wl, ew⟩ := hw (f / 7)
      refine ⟨N ++ [(f / 361 % rm, w)], h1.addN ⟨⟨Int.emod_nonneg _ (by omega), Int.emod_lt_of_pos _ hr⟩, wl⟩ (by rw [hN]; exact List.not_mem_nil) (fun _ => by rw [hN]; exact List.not_mem_nil), by rw [List.length_append]; exact Nat.le_refl _, fun rest => runs_then c ((runs_app (xs := N.map dPr) (d := dPr (f / 361 % rm, w)) rfl ?_ (by rw [List.length_map]; unfold lim; omega)).trans (by rw [map_snoc, runs] <;> rfl))⟩
      simp only [entry, outs, runs, L2.Py.run, ev, evs, Rho.get, Rho.put, wipeE, L2.Py.putAll, List.length_cons, List.length_nil, List.map_cons, List.map_nil, List.replicate, List.cons_append, List.nil_append, List.getElem?_cons_zero, List.getElem?_cons_succ, List.set_cons_zero, List.set_cons_succ, ok_bind, ofR_ok, pure_ok, isTrueD, @d_fdiv f 361 (by decide) (by decide), d_mod hr, @d_fdiv f 7 (by decide) (by decide), ew]
      all_goals rfl
  exact ⟨⟨sg, rm, B1, T, N1⟩, ⟨h2, show B1.length + T.length + N1.length ≤ 33 by omega⟩, ⟨hsg, hnd, hch⟩, hrm, run_def rfl rfl ((runs_asg q1).trans ((runs_asg q2).trans ((runs_asg q3).trans ((q5 _).trans ((runs_asg (d := .lst []) rfl).trans ((runs_asg (d := .lst []) rfl).trans ((runs_asg (d := .lst []) rfl).trans ((runs_frhN q4 e3 lp).trans ((r1 _).trans ((r2 _).trans (runs_ret rfl))))))))))) ⟩
end
end L2.Py.C12

set_option maxRecDepth 100000
set_option maxHeartbeats 2000000
namespace L2.Py
open PySem PySem.Spec PyProof.Rows TL
def B_l_due_1 : List S := [.iff (.cmp .isin (.slcH (.slot 2) (.cint 2)) (.slot 1)) [.ret (.cbl false)] [], .app 1 (.slcH (.slot 2) (.cint 2))]
def B_l_due_2 : List S := [.iff (.cmp .isin (.idx (.slot 4) (.cint 0)) (.slot 3)) [.ret (.cbl false)] [], .app 3 (.idx (.slot 4) (.cint 0))]
def D_l_due : Def := { nps := 1, nsl := 5, body := [
  .asg 1 (.ow .fr) (.lst []),
  .frh false [2] false .val [(.idx (.slot 0) (.cint 3))] B_l_due_1,
  .asg 3 (.ow .fr) (.lst []),
  .frh false [4] false .val [(.idx (.slot 0) (.cint 4))] B_l_due_2,
  .ret (.cmp .lt (.blt .len [(.idx (.slot 0) (.cint 2))]) (.cint 2))] }
abbrev keyS (s : Sp4) : Pr := (s.1, s.2.1)
section
variable {sub : Sub} {G : Gam} {ρ : Rho}
theorem runs_frhR {ρ' : Rho} {ss b : List S} {d : D} {tt fl : Bool} {tg : List Nat} {k : ItK} {its : List E} {xs ds : List D} (h1 : evs sub G its ρ = .ok xs) (h2 : itD k xs = .ok ds) (h3 : forR (fun d r => bindFl fl tt tg d r) (fun r => runs sub G b r) ds ρ = .ret d ρ') :
    runs sub G (.frh tt tg fl k its b :: ss) ρ = .ret d ρ' := by rw [runs_frh h1 h2, h3]
theorem dedup_len {α : Type} [DecidableEq α] {g : α → D} (hg : ∀ p q, (g p).eqv (g q) = decide (p = q)) : ∀ ks : List α, (dedup (ks.map g)).length ≤ ks.length ∧ ((dedup (ks.map g)).length = ks.length ↔ ks.Nodup)
  | [] => ⟨Nat.le_refl _, ⟨fun _ => List.nodup_nil, fun _ => rfl⟩⟩
  | x :: xs => by
    obtain ⟨U, e, _, hU⟩ := dedup_of hg xs
    obtain ⟨h1, h2⟩ := dedup_len hg xs
    have a : ((dedup (xs.map g)).any fun y => y.eqv (g x)) = decide (x ∈ xs) := by
      rw [e, any_of hg x U]
      exact decide_eq_decide.mpr (hU x)
    rw [List.map_cons, dedup, a]
    by_cases h : x ∈ xs
    · rw [decide_eq_true h, if_pos rfl, List.length_cons]
      refine ⟨by omega, ⟨fun z => by omega, fun z => absurd h (List.nodup_cons.mp z).1⟩⟩
    · rw [decide_eq_false h, if_neg Bool.false_ne_true, List.length_cons, List.length_cons]
      refine ⟨by omega, ⟨fun z => List.nodup_cons.mpr ⟨h, h2.mp (by omega)⟩, fun z => by rw [h2.mpr (List.nodup_cons.mp z).2]⟩⟩
end
end L2.Py

set_option maxRecDepth 100000
set_option maxHeartbeats 1000000
namespace L2.Py
section
variable {sub : Sub} {G : Gam} {ρ : Rho} {a b c l h k : E} {es : List E} {x y z w : D} {xs r : List D}
theorem eBin {op : Bop} (h1 : ev sub G a ρ = .ok x) (h2 : ev sub G b ρ = .ok y) (h3 : binD op x y = .ok z) : ev sub G (.bin op a b) ρ = .ok z := by
  rw [ev, h1, ok_bind, h2, ok_bind, h3]
theorem eCmp {op : Cop} (h1 : ev sub G a ρ = .ok x) (h2 : ev sub G b ρ = .ok y) (h3 : cmpD op x y = .ok z) : ev sub G (.cmp op a b) ρ = .ok z := by
  rw [ev, h1, ok_bind, h2, ok_bind, h3]
theorem eIdx (h1 : ev sub G a ρ = .ok x) (h2 : ev sub G b ρ = .ok y) (h3 : idxD x y = .ok z) : ev sub G (.idx a b) ρ = .ok z := by
  rw [ev, h1, ok_bind, h2, ok_bind, h3]
theorem eCall {f : Nat} (h1 : evs sub G es ρ = .ok xs) (h2 : G f xs = .ok (z, r)) : ev sub G (.call f es) ρ = .ok z := by
  rw [ev, h1, ok_bind, h2, ok_bind, pure_ok]
theorem eBlt {f : Blt} (h1 : evs sub G es ρ = .ok xs) (h2 : bltD sub f xs = .ok z) : ev sub G (.blt f es) ρ = .ok z := by
  rw [ev, h1, ok_bind, h2]
theorem eTup (h1 : evs sub G es ρ = .ok xs) : ev sub G (.tup es) ρ = .ok (.tup xs) := by
  rw [ev, h1, ok_bind, pure_ok]
theorem eLst (h1 : evs sub G es ρ = .ok xs) : ev sub G (.lst es) ρ = .ok (.lst xs) := by
  rw [ev, h1, ok_bind, pure_ok]
theorem eFlat (h1 : ev sub G a ρ = .ok x) (h2 : x.noMut = true) : ev sub G (.flat a) ρ = .ok x := by
  rw [ev, h1, ok_bind, if_pos h2, pure_ok]
theorem eSlcH {i : Int} (h1 : ev sub G a ρ = .ok x) (h2 : ev sub G l ρ = .ok (.int i)) (h3 : slcD x none (some i) = .ok z) : ev sub G (.slcH a l) ρ = .ok z := by
  rw [ev, h1, ok_bind, ok_bind, h2, ok_bind, show oneI (.int i) = .ok (some i) from rfl, ok_bind, h3]
theorem eNeg {i : Int} (h1 : ev sub G a ρ = .ok (.int i)) : ev sub G (.neg a) ρ = .ok (.int (-i)) := by
  rw [ev, h1, ok_bind]
theorem eNot {t : Bool} (h1 : ev sub G a ρ = .ok (.bl t)) : ev sub G (.not a) ρ = .ok (.bl (!t)) := by
  rw [ev, h1, ok_bind]; rfl
theorem eAnd {t u : Bool} (h1 : ev sub G a ρ = .ok (.bl t)) (h2 : t = true → ev sub G b ρ = .ok (.bl u)) : ev sub G (.and a b) ρ = .ok (.bl (t && u)) := by
  rw [ev, h1, ok_bind]
  cases t with
  | false => rfl
  | true =>
    rw [show isTrueD (.bl true) = .ok true from rfl, ok_bind, if_pos rfl, h2 rfl]
    rfl
theorem eOr {t u : Bool} (h1 : ev sub G a ρ = .ok (.bl t)) (h2 : t = false → ev sub G b ρ = .ok (.bl u)) : ev sub G (.or a b) ρ = .ok (.bl (t || u)) := by
  rw [ev, h1, ok_bind]
  cases t with
  | true => rfl
  | false =>
    rw [show isTrueD (.bl false) = .ok false from rfl, ok_bind, if_neg (by decide), h2 rfl]
    rfl
theorem es0 : evs sub G [] ρ = .ok [] := by rw [evs]
theorem esC (h1 : ev sub G a ρ = .ok x) (h2 : evs sub G es ρ = .ok xs) : evs sub G (a :: es) ρ = .ok (x :: xs) := by
  rw [evs, h1, ok_bind, h2, ok_bind, pure_ok]
theorem es1 (h1 : ev sub G a ρ = .ok x) : evs sub G [a] ρ = .ok [x] := esC h1 es0
theorem es2 (h1 : ev sub G a ρ = .ok x) (h2 : ev sub G b ρ = .ok y) : evs sub G [a, b] ρ = .ok [x, y] := esC h1 (es1 h2)
theorem es3 (h1 : ev sub G a ρ = .ok x) (h2 : ev sub G b ρ = .ok y) (h3 : ev sub G c ρ = .ok z) : evs sub G [a, b, c] ρ = .ok [x, y, z] := esC h1 (es2 h2 h3)
variable {n : Nat} {ps : List D} {ss : List S}
end
end L2.Py

set_option maxRecDepth 100000
set_option maxHeartbeats 4000000
namespace L2.Py
open PySem PySem.Spec PyProof.Rows TL
def D_is_room : Def := { nps := 2, nsl := 2, body := [
  .ret (.and (.blt (.isi [.int]) [(.slot 0)]) (.and (.not (.blt (.isi [.bool]) [(.slot 0)])) (.and (.cmp .ge (.slot 0) (.cint 0)) (.cmp .lt (.slot 0) (.slot 1)))))] }
def L_is_word_1 : E := (.slot 1)
def T_is_word_1 : List E := [(.cmp .notin (.slot 1) (.cstr [97, 98, 99, 100, 101, 102, 103, 104, 105, 106, 107, 108, 109, 110, 111, 112, 113, 114, 115, 116, 117, 118, 119, 120, 121, 122]))]
def D_is_word : Def := { nps := 1, nsl := 2, body := [
  .ret (.and (.blt (.isi [.str]) [(.slot 0)]) (.cmp .eq (.blt .len [(.comp false [1] false .val [(.slot 0)] L_is_word_1 T_is_word_1)]) (.cint 0)))] }
def D_are_signs (is_word : Nat) : Def := { nps := 1, nsl := 1, body := [
  .ret (.and (.call is_word [(.slot 0)]) (.and (.cmp .lt (.cint 0) (.blt .len [(.slot 0)])) (.cmp .eq (.blt .lenSetT [(.slot 0)]) (.blt .len [(.slot 0)]))))] }
def D_is_pair (is_room is_word : Nat) : Def := { nps := 2, nsl := 2, body := [
  .ret (.and (.blt (.isi [.tuple]) [(.slot 0)]) (.and (.cmp .eq (.blt .len [(.slot 0)]) (.cint 2)) (.and (.call is_room [(.idx (.slot 0) (.cint 0)), (.slot 1)]) (.call is_word [(.idx (.slot 0) (.cint 1))]))))] }
def D_is_step (is_room is_pair : Nat) : Def := { nps := 3, nsl := 3, body := [
  .iff (.or (.not (.blt (.isi [.tuple]) [(.slot 0)])) (.or (.cmp .ne (.blt .len [(.slot 0)]) (.cint 4)) (.not (.call is_pair [(.tup [(.idx (.slot 0) (.cint 0)), (.idx (.slot 0) (.cint 2))]), (.slot 2)])))) [.ret (.cbl false)] [],
  .ret (.and (.call is_room [(.idx (.slot 0) (.cint 3)), (.slot 2)]) (.and (.blt (.isi [.str]) [(.idx (.slot 0) (.cint 1))]) (.and (.cmp .eq (.blt .len [(.idx (.slot 0) (.cint 1))]) (.cint 1)) (.cmp .isin (.idx (.slot 0) (.cint 1)) (.slot 1)))))] }
def B_is_scribe_1 (is_room are_signs is_pair is_step : Nat) : List S := [.iff (.not (.blt (.isi [.list]) [(.slot 6)])) [.ret (.cbl false)] []]
def B_is_scribe_2 (is_room are_signs is_pair is_step : Nat) : List S := [.iff (.not (.call is_pair [(.slot 7), (.slot 2)])) [.ret (.cbl false)] []]
def B_is_scribe_3 (is_room are_signs is_pair is_step : Nat) : List S := [.iff (.not (.call is_step [(.slot 8), (.slot 1), (.slot 2)])) [.ret (.cbl false)] []]
def D_is_scribe (is_room are_signs is_pair is_step : Nat) : Def := { nps := 1, nsl := 9, body := [
  .iff (.or (.not (.blt (.isi [.tuple]) [(.slot 0)])) (.or (.cmp .ne (.blt .len [(.slot 0)]) (.cint 5)) (.not (.call are_signs [(.idx (.slot 0) (.cint 0))])))) [.ret (.cbl false)] [],
  .asgT [1, 2, 3, 4, 5] (.slot 0),
  .iff (.not (.call is_room [(.slot 2), (.bin .add (.cint 200) (.cint 1))])) [.ret (.cbl false)] [],
  .frh false [6] false .val [(.lst [(.slot 3), (.slot 4), (.slot 5)])] (B_is_scribe_1 is_room are_signs is_pair is_step),
  .frh false [7] false .val [(.bin .add (.slot 3) (.slot 5))] (B_is_scribe_2 is_room are_signs is_pair is_step),
  .frh false [8] false .val [(.slot 4)] (B_is_scribe_3 is_room are_signs is_pair is_step),
  .ret (.and (.cmp .eq (.blt .lenSet [(.slot 3)]) (.blt .len [(.slot 3)])) (.and (.cmp .eq (.blt .lenSet [(.slot 4)]) (.blt .len [(.slot 4)])) (.cmp .eq (.blt .lenSet [(.slot 5)]) (.blt .len [(.slot 5)]))))] }
structure Vd (L : Nat) (S : Scr) : Prop where
  sg : letters S.sg ∧ S.sg.length ≤ L ∧ S.sg ≠ [] ∧ S.sg.Nodup
  rm : 0 ≤ S.rm ∧ S.rm ≤ 200
  bs : ∀ p ∈ S.bs, (0 ≤ p.1 ∧ p.1 < S.rm) ∧ letters p.2 ∧ p.2.length ≤ L
  ss : ∀ p ∈ S.ss, (0 ≤ p.1 ∧ p.1 < S.rm) ∧ (∃ c ∈ S.sg, p.2.1 = [c]) ∧ (letters p.2.2.1 ∧ p.2.2.1.length ≤ L) ∧ (0 ≤ p.2.2.2 ∧ p.2.2.2 < S.rm)
  es : ∀ p ∈ S.es, (0 ≤ p.1 ∧ p.1 < S.rm) ∧ letters p.2 ∧ p.2.length ≤ L
  nb : S.bs.Nodup
  ns : S.ss.Nodup
  ne : S.es.Nodup
  ln : S.bs.length ≤ 76 ∧ S.ss.length ≤ 76 ∧ S.es.length ≤ 76
section
variable {sub : Sub} {G : Gam} {ρ : Rho}
theorem strC {s : W} : ev sub G (.cstr s) ρ = .ok (.str s) := by rw [ev]
theorem intC {s : Int} : ev sub G (.cint s) ρ = .ok (.int s) := by rw [ev]
end
end L2.Py

set_option maxRecDepth 100000
set_option maxHeartbeats 4000000
namespace L2.Py
open PySem PySem.Spec PyProof.Rows TL
def lcB (c : Nat) : Bool := decide (97 ≤ c) && decide (c ≤ 122)
def letB (w : W) : Bool := w.all lcB
def abcL : W := [97, 98, 99, 100, 101, 102, 103, 104, 105, 106, 107, 108, 109, 110, 111, 112, 113, 114, 115, 116, 117, 118, 119, 120, 121, 122]
theorem abc_has (c : Nat) : abcL.contains c = lcB c := by
  by_cases h : 97 ≤ c ∧ c ≤ 122
  · have : ∀ c, 97 ≤ c → c ≤ 122 → abcL.contains c = true := by
      intro c h1 h2
      have : c = 97 ∨ c = 98 ∨ c = 99 ∨ c = 100 ∨ c = 101 ∨ c = 102 ∨ c = 103 ∨ c = 104 ∨ c = 105 ∨ c = 106 ∨ c = 107 ∨ c = 108 ∨ c = 109 ∨ c = 110 ∨ c = 111 ∨ c = 112 ∨ c = 113 ∨ c = 114 ∨ c = 115 ∨ c = 116 ∨ c = 117 ∨ c = 118 ∨ c = 119 ∨ c = 120 ∨ c = 121 ∨ c = 122 := by omega
      rcases this with rfl | rfl | rfl | rfl | rfl | rfl | rfl | rfl | rfl | rfl | rfl | rfl | rfl | rfl | rfl | rfl | rfl | rfl | rfl | rfl | rfl | rfl | rfl | rfl | rfl | rfl <;> rfl
    rw [this c h.1 h.2]
    unfold lcB
    rw [decide_eq_true h.1, decide_eq_true h.2]; rfl
  · have e : lcB c = false := by
      unfold lcB
      rw [Bool.and_eq_false_iff, decide_eq_false_iff_not, decide_eq_false_iff_not]
      omega
    rw [e]
    rw [← Bool.not_eq_true]
    intro z
    have := List.contains_iff_mem.mp z
    unfold abcL at this
    simp only [List.mem_cons, List.not_mem_nil, or_false] at this
    omega
section
variable {sub : Sub} {G : Gam} {ρ : Rho}
theorem notin_comp {i j : Nat} {w L : W} (hij : i ≠ j) (hj : j < ρ.length) (hi : ev sub G (.slot i) ρ = .ok (.str w)) (hl : w.length ≤ 1000000) :
    ev sub G (.comp false [j] false .val [(.slot i)] (.slot j) [(.cmp .notin (.slot j) (.cstr L))]) ρ = .ok (.lst ((w.filter fun c => !L.contains c).map fun c => .str [c])) := by
  refine ev_comp (xs := [.str w]) (ds := w.map fun c => .str [c]) (es1 hi) rfl (compF (fun c => .str [c]) (fun c => .str [c]) _ w fun c hc => ⟨(wipeE ρ [j]).put j (.str [c]), rfl, ?_, fun _ => ?_⟩) (by
    rw [List.length_map]
    have := List.length_filter_le (fun c => !L.contains c) w
    unfold lim; omega)
  · have g : ev sub G (.slot j) ((wipeE ρ [j]).put j (.str [c])) = .ok (.str [c]) := by
      rw [ev]
      unfold Rho.get Rho.put wipeE
      rw [List.getElem?_set_self (by simpa [wipeE] using hj)]
    rw [evc, eCmp g strC (z := .bl (!L.contains c)) rfl, ok_bind]
    cases h : !L.contains c <;> rfl
  · rw [ev]
    unfold Rho.get Rho.put wipeE
    rw [List.getElem?_set_self (by simpa [wipeE] using hj)]
theorem len_lst (xs : List D) : bltD sub .len [.lst xs] = .ok (.int (xs.length : Nat)) := rfl
theorem fil_zero (w : W) (p : Nat → Bool) : decide (((w.filter fun c => !p c).length : Int) = 0) = w.all p := by
  by_cases h : w.all p = true
  · rw [h, decide_eq_true_eq]
    have : (w.filter fun c => !p c) = [] := List.filter_eq_nil_iff.mpr fun c hc => by
      have := List.all_eq_true.mp h c hc
      simp [this]
    rw [this]; rfl
  · rw [Bool.not_eq_true] at h
    rw [h, decide_eq_false_iff_not]
    obtain ⟨c, hc, hp⟩ := List.all_eq_false.mp h
    have : c ∈ w.filter fun c => !p c := List.mem_filter.mpr ⟨hc, by simpa using hp⟩
    have := List.length_pos_of_mem this
    omega
theorem isI_str (i : W) : bltD sub (.isi [.str]) [.str i] = .ok (.bl true) := rfl
theorem eqI' (a b : Int) : cmpD .eq (.int a) (.int b) = .ok (.bl (decide (a = b))) := by
  show R.ok (D.bl (a == b)) = _
  by_cases h : a = b
  · rw [decide_eq_true h, h]; simp
  · rw [decide_eq_false h, beq_eq_false_iff_ne.mpr h]
theorem is_word_run (w : W) (hl : w.length ≤ 1000000) : runDef sub G D_is_word [.str w] = .ok (.bl (letB w), []) := by
  have c1 := notin_comp (sub := sub) (G := G) (ρ := entry 2 [.str w]) (i := 0) (j := 1) (w := w) (L := abcL) (by decide) (show 1 < 2 by decide) rfl hl
  have e : decide (((w.filter fun c => !abcL.contains c).length : Int) = 0) = letB w := by
    have : (fun c => !abcL.contains c) = fun c => !lcB c := funext fun c => by rw [abc_has]
    rw [this, fil_zero]; rfl
  refine run_def rfl rfl (runs_ret ?_)
  have := eAnd (eBlt (es1 (sub := sub) (G := G) (ρ := entry 2 [.str w]) (a := .slot 0) (x := .str w) rfl) (isI_str w)) fun _ => eCmp (eBlt (es1 c1) (len_lst _)) (intC (s := 0)) (eqI' _ 0)
  rw [Bool.true_and, List.length_map, e] at this
  exact this
theorem allLoop {α O : Type} {f : α → D} {bd : D → Rho → R Rho} {b : Rho → Out} {ρ : O → Rho} {q : α → Bool} : ∀ (xs : List α), (∀ x ∈ xs, ∀ o : O, ∃ ρ1 o', bd (f x) (ρ o) = .ok ρ1 ∧ (q x = true → b ρ1 = .next (ρ o')) ∧ (q x = false → ∃ ρ2, b ρ1 = .ret (.bl false) ρ2)) →
    ∀ o : O, (xs.all q = true ∧ ∃ o', forR bd b (xs.map f) (ρ o) = .next (ρ o')) ∨ (xs.all q = false ∧ ∃ ρ2, forR bd b (xs.map f) (ρ o) = .ret (.bl false) ρ2)
  | [], _, o => .inl ⟨rfl, o, rfl⟩
  | x :: xs, h, o => by
    obtain ⟨ρ1, o1, e1, e2, e3⟩ := h x List.mem_cons_self o
    rw [List.map_cons, forR_cons e1, List.all_cons]
    cases hq : q x with
    | true =>
      rw [e2 hq, Bool.true_and]
      exact allLoop xs (fun y hy => h y (List.mem_cons_of_mem _ hy)) o1
    | false =>
      obtain ⟨ρ2, e4⟩ := e3 hq
      rw [e4, Bool.false_and]
      exact .inr ⟨rfl, ρ2, rfl⟩
theorem dedup_w (w : W) : decide ((dedup (w.map fun c => D.str [c])).length = w.length) = decide w.Nodup := by
  have := (dedup_len (g := D.str) (fun p q => by simp only [D.eqv]; by_cases h : p = q <;> simp [h]) (w.map fun c => [c])).2
  rw [List.map_map, List.length_map] at this
  have e : (w.map fun c => [c]).Nodup ↔ w.Nodup := by
    constructor
    · intro h
      exact List.Pairwise.of_map (fun c => [c]) (fun a b hab e => hab (by rw [e])) h
    · intro h
      exact List.Pairwise.map _ (fun a b hab e => hab (by injection e)) h
  exact decide_eq_decide.mpr (Iff.trans this e)
end
end L2.Py

set_option maxRecDepth 100000
set_option maxHeartbeats 2000000
namespace L2.Py
open PySem PySem.Spec PyProof.Rows TL
section
variable {κ β : Type} [DecidableEq κ]
def alook : List (κ × β) → κ → Option β
  | [], _ => none
  | e :: es, k => if e.1 = k then some e.2 else alook es k
def arepl : List (κ × β) → κ → β → List (κ × β)
  | [], _, _ => []
  | e :: es, k, v => if e.1 = k then (e.1, v) :: arepl es k v else e :: arepl es k v
def aput (es : List (κ × β)) (k : κ) (v : β) : List (κ × β) := if (alook es k).isSome then arepl es k v else es ++ [(k, v)]
variable {fk : κ → D} {fv : β → D} (hk : ∀ a b, (fk a).eqv (fk b) = decide (a = b))
include hk
omit hk
theorem alook_mem (k : κ) : ∀ es : List (κ × β), (alook es k).isSome = decide (k ∈ es.map (·.1))
  | [] => rfl
  | e :: es => by
    rw [alook]
    by_cases h : e.1 = k
    · rw [if_pos h, List.map_cons]; simp [h]
    · rw [if_neg h, alook_mem k es, List.map_cons]
      have h' : ¬ k = e.1 := fun z => h z.symm
      simp [h']
theorem aput_keys (es : List (κ × β)) (k : κ) (v : β) : (aput es k v).map (·.1) = if k ∈ es.map (·.1) then es.map (·.1) else es.map (·.1) ++ [k] := by
  have : ∀ es : List (κ × β), (arepl es k v).map (·.1) = es.map (·.1) := fun es => by
    induction es with
    | nil => rfl
    | cons e es ih => rw [arepl]; split <;> simp [ih]
  unfold aput
  rw [alook_mem]
  split
  · rename_i h; rw [this, if_pos (by simpa using h)]
  · rename_i h; rw [if_neg (by simpa using h), List.map_append]; rfl
end
section
variable {κ γ : Type} [DecidableEq κ]
def agrow : List (κ × List γ) → κ → γ → List (κ × List γ)
  | [], k, v => [(k, [v])]
  | e :: es, k, v => if e.1 = k then (e.1, e.2 ++ [v]) :: es else e :: agrow es k v
theorem agrow_len (k : κ) (v : γ) : ∀ es : List (κ × List γ), (agrow es k v).length ≤ es.length + 1
  | [] => by simp [agrow]
  | e :: es => by
    rw [agrow]
    have := agrow_len k v es
    split <;> simp <;> omega
theorem agrow_lens (k : κ) (v : γ) (n : Nat) : ∀ es : List (κ × List γ), (∀ e ∈ es, e.2.length ≤ n) → ∀ e ∈ agrow es k v, e.2.length ≤ n + 1
  | [], _ => fun e he => by
    obtain rfl : e = (k, [v]) := by simpa [agrow] using he
    simp
  | x :: es, h => fun e he => by
    rw [agrow] at he
    split at he
    · rcases List.mem_cons.mp he with rfl | he
      · have := h x List.mem_cons_self; simp; omega
      · have := h e (List.mem_cons_of_mem _ he); omega
    · rcases List.mem_cons.mp he with rfl | he
      · have := h e List.mem_cons_self; omega
      · exact agrow_lens k v n es (fun e he => h e (List.mem_cons_of_mem _ he)) e he
variable {fk : κ → D} {fg : γ → D} (hk : ∀ a b, (fk a).eqv (fk b) = decide (a = b))
include hk
end
structure WT (wl : Nat) (S : Scr) (most : Int) : Prop where
  rm : 0 ≤ S.rm ∧ S.rm ≤ most
  bs : ∀ p ∈ S.bs, (0 ≤ p.1 ∧ p.1 < S.rm) ∧ p.2.length ≤ wl ∧ True
  ss : ∀ p ∈ S.ss, (0 ≤ p.1 ∧ p.1 < S.rm) ∧ (∃ c, p.2.1 = [c]) ∧ (p.2.2.1.length ≤ wl ∧ True) ∧ (0 ≤ p.2.2.2 ∧ p.2.2.2 < S.rm)
  es : ∀ p ∈ S.es, (0 ≤ p.1 ∧ p.1 < S.rm) ∧ p.2.length ≤ wl ∧ True
  len : S.bs.length ≤ 1000 ∧ S.ss.length ≤ 1000 ∧ S.es.length ≤ 1000
theorem WFL.wt {wl : Nat} {S : Scr} {m : Int} (w : WFL wl S m) : WT wl S m :=
  ⟨w.rm, fun p h => ⟨(w.bs p h).1, (w.bs p h).2.1, trivial⟩, fun p h => ⟨(w.ss p h).1, (w.ss p h).2.1.imp fun c hc => hc.2, ⟨(w.ss p h).2.2.1.1, trivial⟩, (w.ss p h).2.2.2⟩, fun p h => ⟨(w.es p h).1, (w.es p h).2.1, trivial⟩, by have := w.len; omega⟩
abbrev Pp := Int × Int
abbrev Ix := Nat × Nat
abbrev Tw := List (Pp × List Ix)
section
variable {sub : Sub} {G : Gam}
def sideOf (b : Bool) (s : Sp4) : Int := if b then s.2.2.2 else s.1
def twStep (b : Bool) (p : Sp4 × Nat) (es : Tw) (q : Sp4 × Nat) : Tw := if p.1.2.1 = q.1.2.1 then agrow es (sideOf b p.1, sideOf b q.1) (p.2, q.2) else es
def twRow (b : Bool) (ss : List Sp4) (es : Tw) (p : Sp4 × Nat) : Tw := ss.zipIdx.foldl (twStep b p) es
structure TwI (es : Tw) (n : Nat) : Prop where
  len : es.length ≤ n
  lens : ∀ e ∈ es, e.2.length ≤ n
theorem TwI.step {b : Bool} {p : Sp4 × Nat} {es : Tw} {n : Nat} (h : TwI es n) (q : Sp4 × Nat) : TwI (twStep b p es q) (n + 1) := by
  unfold twStep
  split
  · exact ⟨Nat.le_trans (agrow_len _ _ es) (by have := h.len; omega), agrow_lens _ _ n es h.lens⟩
  · exact ⟨by have := h.len; omega, fun e he => by have := h.lens e he; omega⟩
def TwH (b : Bool) (ss : List Sp4) (k : Pp) (x : Ix) : Prop := ∃ s t, ss[x.1]? = some s ∧ ss[x.2]? = some t ∧ s.2.1 = t.2.1 ∧ (sideOf b s, sideOf b t) = k
end
end L2.Py

set_option maxRecDepth 100000
set_option maxHeartbeats 2000000
namespace L2.Py
open PySem PySem.Spec PyProof.Rows TL
section
variable {S : Scr} {m : Int}
theorem behind_es {p : Pr} (h : p ∈ S.es) : Behind S p.1 := .start (List.mem_map.mpr ⟨p, h, rfl⟩)
theorem behind_ss {s : Sp4} (h : s ∈ S.ss) (a : Behind S s.2.2.2) : Behind S s.1 := .step a (List.mem_map.mpr ⟨s, h, rfl⟩)
end
end L2.Py

set_option maxRecDepth 100000
set_option maxHeartbeats 2000000
namespace L2.Py
open PySem PySem.Spec PyProof.Rows TL
section
variable {sub : Sub} {G : Gam} {ρ : Rho}
end
end L2.Py

set_option maxRecDepth 100000
set_option maxHeartbeats 2000000
namespace L2.Py
open PySem PySem.Spec PyProof.Rows TL
section
variable {sub : Sub} {G : Gam} {ρ : Rho}
theorem forR_ret {f : D → Rho → R Rho} {b : Rho → Out} {d v : D} {ds : List D} {ρ ρ1 ρ2 : Rho} (h1 : f d ρ = .ok ρ1) (h2 : b ρ1 = .ret v ρ2) : forR f b (d :: ds) ρ = .ret v ρ2 := by rw [forR_cons h1, h2]
end
theorem only {α : Type} {l : List α} {y : α} (hn : l.Nodup) (h : ∀ z, z ∈ l ↔ z = y) : l = [y] := by
  cases l with
  | nil => exact absurd ((h y).mpr rfl) List.not_mem_nil
  | cons a r =>
    have e := (h a).mp List.mem_cons_self
    subst e
    cases r with
    | nil => rfl
    | cons b r =>
      have e := (h b).mp (List.mem_cons_of_mem _ List.mem_cons_self)
      subst e
      exact absurd List.mem_cons_self (List.nodup_cons.mp hn).1
theorem none_of {α : Type} {l : List α} (h : ∀ z, z ∉ l) : l = [] := List.eq_nil_iff_forall_not_mem.mpr h
section
variable {sub : Sub} {G : Gam} {ρ : Rho}
end
end L2.Py

set_option maxRecDepth 100000
set_option maxHeartbeats 2000000
namespace L2.Py
open PySem PySem.Spec PyProof.Rows TL
def lcp : W → W → W
  | x :: a, y :: b => if x = y then x :: lcp a b else []
  | _, _ => []
theorem begins_cons {x y : Nat} {a b : W} : begins (x :: a) (y :: b) = true ↔ x = y ∧ begins a b = true := by
  simp only [begins, Bool.and_eq_true, beq_iff_eq]
theorem begins_trans {p q r : W} (h1 : begins p q = true) (h2 : begins q r = true) : begins p r = true := by
  rw [begins_take] at h1 h2 ⊢
  have hl : p.length ≤ q.length := by rw [← h1, List.length_take]; exact Nat.min_le_right _ _
  have : (r.take q.length).take p.length = p := by rw [h2, h1]
  rw [List.take_take, Nat.min_eq_left hl] at this
  exact this
theorem begins_add {p q r : W} (h : begins q r = true) : begins (p ++ q) (p ++ r) = true := by
  induction p with
  | nil => exact h
  | cons x p ih => exact begins_cons.mpr ⟨rfl, ih⟩
def upd (h : Int → W) (x : Int) (w : W) : Int → W := fun y => if y = x then w else h y
theorem upd_same {h : Int → W} {x : Int} {w : W} : upd h x w x = w := if_pos rfl
theorem upd_ne {h : Int → W} {x y : Int} {w : W} (e : y ≠ x) : upd h x w y = h y := if_neg e
def cutS (T : List Sp4) (K : List Int) (f h : Int → W) : Int → W := T.foldl (fun h s => if s.2.2.2 ∈ K then upd h s.1 (lcp (h s.1) (s.2.2.1 ++ f s.2.2.2)) else h) h
inductive Wt (S : Scr) : Int → W → Prop
  | fin {e : Pr} : e ∈ S.es → Wt S e.1 e.2
  | go {s : Sp4} {v : W} : s ∈ S.ss → Wt S s.2.2.2 v → Wt S s.1 (s.2.2.1 ++ v)
theorem Wt.behind {S : Scr} {x : Int} {w : W} (h : Wt S x w) : Behind S x := by
  induction h with
  | fin he => exact behind_es he
  | go hs _ ih => exact behind_ss hs ih
structure Cl (S : Scr) (g : Int → W) : Prop where
  fin : ∀ e ∈ S.es, begins (g e.1) e.2 = true
  go : ∀ s ∈ S.ss, Behind S s.2.2.2 → begins (g s.1) (s.2.2.1 ++ g s.2.2.2) = true
theorem Cl.wt {S : Scr} {g : Int → W} (h : Cl S g) {x : Int} {w : W} (hw : Wt S x w) : begins (g x) w = true := by
  induction hw with
  | fin he => exact h.fin _ he
  | go hs hv ih => exact begins_trans (h.go _ hs hv.behind) (begins_add ih)
end L2.Py

set_option maxRecDepth 100000
set_option maxHeartbeats 14000000
namespace L2.Py
open PySem PySem.Spec PyProof.Rows TL
section
variable {sub : Sub} {G : Gam} {ρ : Rho}
structure On (S : Scr) (L : Nat) (ks : List Int) (h : Int → W) : Prop where
  nd : ks.Nodup
  wt : ∀ x ∈ ks, Wt S x (h x) ∧ (h x).length ≤ L
theorem On.put {S : Scr} {L : Nat} {ks : List Int} {h : Int → W} (o : On S L ks h) {x : Int} {w : W} (hw : Wt S x w) (hl : w.length ≤ L) : On S L (addN ks x) (upd h x w) where
  nd := nodup_addN o.nd
  wt := fun y hy => by
    by_cases e : y = x
    · subst e; rw [upd_same]; exact ⟨hw, hl⟩
    · rw [upd_ne e]
      exact o.wt y ((mem_addN.mp hy).resolve_right e)
theorem On.up {S : Scr} {L M : Nat} {ks : List Int} {h : Int → W} (o : On S L ks h) (hl : L ≤ M) : On S M ks h := ⟨o.nd, fun x hx => ⟨(o.wt x hx).1, Nat.le_trans (o.wt x hx).2 hl⟩⟩
end
end L2.Py

set_option maxRecDepth 100000
set_option maxHeartbeats 2000000
namespace L2.Py
open PySem PySem.Spec PyProof.Rows TL
section
variable {α κ : Type} [DecidableEq κ]
end
structure PI (sg : W) (rm : Int) (T : List Sp4) (N : List Pr) (n : Nat) : Prop where
  ss : ∀ p ∈ T, (0 ≤ p.1 ∧ p.1 < rm) ∧ (∃ c ∈ sg, p.2.1 = [c]) ∧ okW p.2.2.1 ∧ (0 ≤ p.2.2.2 ∧ p.2.2.2 < rm)
  es : ∀ p ∈ N, (0 ≤ p.1 ∧ p.1 < rm) ∧ okW p.2
  nt : (T.map keyS).Nodup
  nn : (N.map (·.1)).Nodup
  lt : T.length + N.length ≤ n
section
variable {sub : Sub} {G : Gam} {ρ : Rho}
end
end L2.Py

set_option maxRecDepth 400000
set_option maxHeartbeats 2000000
namespace L2.Py
open PySem PySem.Spec PyProof.Rows TL
def rgI (n : Int) : List Int := (List.range n.toNat).map fun k : Nat => (k : Int)
theorem mem_rgI {n x : Int} : x ∈ rgI n ↔ 0 ≤ x ∧ x < n := by
  unfold rgI
  constructor
  · intro h
    obtain ⟨k, hk, rfl⟩ := List.mem_map.mp h
    have := List.mem_range.mp hk
    omega
  · intro h
    exact List.mem_map.mpr ⟨x.toNat, List.mem_range.mpr (by omega), by omega⟩
theorem rgI_len (n : Int) : (rgI n).length = n.toNat := by unfold rgI; rw [List.length_map, List.length_range]
section
variable {sub : Sub} {G : Gam}
variable {S T : Scr} {wl vl : Nat}
end
end L2.Py

set_option maxRecDepth 100000
set_option maxHeartbeats 2000000
namespace L2.Py
open PySem PySem.Spec PyProof.Rows TL
theorem nodup_leA {α : Type} [DecidableEq α] : ∀ (n : Nat) (V ks : List α), V.length = n → ks.Nodup → (∀ x ∈ ks, x ∈ V) → ks.length ≤ n
  | 0, V, ks, hV, nd, hk => by
    cases ks with
    | nil => simp
    | cons x xs => have := hk x List.mem_cons_self; rw [List.length_eq_zero_iff.mp hV] at this; cases this
  | n + 1, V, ks, hV, nd, hk => by
    cases ks with
    | nil => simp
    | cons x xs =>
      have hx := hk x List.mem_cons_self
      have nd' := List.nodup_cons.mp nd
      have := nodup_leA n (V.erase x) xs (by rw [List.length_erase_of_mem hx]; omega) nd'.2 (fun y hy => (List.mem_erase_of_ne (fun e => nd'.1 (by rw [← e]; exact hy))).mpr (hk y (List.mem_cons_of_mem _ hy)))
      rw [List.length_cons]; omega
def allPp (n : Int) : List Pp := (rgI n).flatMap fun x => (rgI n).map fun y => (x, y)
theorem mem_allPp {n : Int} {p : Pp} : p ∈ allPp n ↔ (0 ≤ p.1 ∧ p.1 < n) ∧ (0 ≤ p.2 ∧ p.2 < n) := by
  obtain ⟨a, b⟩ := p
  unfold allPp
  simp only [List.mem_flatMap, List.mem_map, mem_rgI]
  constructor
  · rintro ⟨x, hx, y, hy, e⟩
    cases e
    exact ⟨hx, hy⟩
  · rintro ⟨h1, h2⟩
    exact ⟨a, h1, b, h2, rfl⟩
theorem allPp_len (n : Int) : (allPp n).length = n.toNat * n.toNat := by
  unfold allPp
  have : ∀ xs : List Int, (xs.flatMap fun x => (rgI n).map fun y => ((x, y) : Pp)).length = xs.length * n.toNat := fun xs => by
    induction xs with
    | nil => simp
    | cons x xs ih => rw [List.flatMap_cons, List.length_append, ih, List.length_map, rgI_len, List.length_cons, Nat.succ_mul]; omega
  rw [this, rgI_len]
abbrev How := W × Nat × Nat
abbrev OnL := List (Pp × How)
def tEnd : W := [101, 110, 100]
def tStep : W := [115, 116, 101, 112]
def tBeg : W := [98, 101, 103, 105, 110]
def keysN (on : OnL) : List Pp := on.map (·.1)
def lowP (ss : List Sp4) (x : Ix) : Pp := (((ss[x.1]?).map (·.1)).getD 0, ((ss[x.2]?).map (·.1)).getD 0)
def onStep (ss : List Sp4) (on : OnL) (x : Ix) : OnL := if lowP ss x ∈ keysN on then on else on ++ [(lowP ss x, (tStep, x.1, x.2))]
def OnW (S : Scr) (on : OnL) (p : Nat) (k : Pp) (h : How) : Prop :=
  (h.1 = tEnd ∧ ∃ e f, S.es[h.2.1]? = some e ∧ S.es[h.2.2]? = some f ∧ (e.1, f.1) = k) ∨
  (h.1 = tStep ∧ ∃ s t q h', S.ss[h.2.1]? = some s ∧ S.ss[h.2.2]? = some t ∧ s.2.1 = t.2.1 ∧ (s.1, t.1) = k ∧ q < p ∧ on[q]? = some ((s.2.2.2, t.2.2.2), h'))
structure OnI (S : Scr) (on : OnL) : Prop where
  nd : (keysN on).Nodup
  why : ∀ p k h, on[p]? = some (k, h) → OnW S on p k h
  fin : ∀ e ∈ S.es, ∀ f ∈ S.es, (e.1, f.1) ∈ keysN on
def OnC (S : Scr) (on : OnL) (a : Nat) : Prop := ∀ j < a, ∀ k h, on[j]? = some (k, h) → ∀ s ∈ S.ss, ∀ t ∈ S.ss, s.2.1 = t.2.1 → (s.2.2.2, t.2.2.2) = k → (s.1, t.1) ∈ keysN on
theorem keysN_app (a b : OnL) : keysN (a ++ b) = keysN a ++ keysN b := List.map_append ..
theorem OnW.mono {S : Scr} {on more : OnL} {p : Nat} {k : Pp} {h : How} (w : OnW S on p k h) : OnW S (on ++ more) p k h := by
  rcases w with w | ⟨w1, s, t, q, h', h1, h2, h3, h4, h5, h6⟩
  · exact .inl w
  · exact .inr ⟨w1, s, t, q, h', h1, h2, h3, h4, h5, by rw [List.getElem?_append_left (List.getElem?_eq_some_iff.mp h6).1]; exact h6⟩
theorem lowP_eq {ss : List Sp4} {x : Ix} {s t : Sp4} (h1 : ss[x.1]? = some s) (h2 : ss[x.2]? = some t) : lowP ss x = (s.1, t.1) := by
  unfold lowP
  rw [h1, h2]; rfl
theorem OnI.step {S : Scr} {on : OnL} {k : Pp} {h : How} {q : Nat} {x : Ix} (o : OnI S on) (hq : on[q]? = some (k, h)) (hx : TwH true S.ss k x) : OnI S (onStep S.ss on x) := by
  unfold onStep
  split
  · exact o
  · rename_i hn
    obtain ⟨s, t, h1, h2, h3, h4⟩ := hx
    have hl := lowP_eq h1 h2
    have hql := (List.getElem?_eq_some_iff.mp hq).1
    refine ⟨?_, fun p k' h' hp => ?_, fun e he f hf => by rw [keysN_app]; exact List.mem_append_left _ (o.fin e he f hf)⟩
    · rw [keysN_app]
      exact nodup_snoc o.nd hn
    · by_cases hpl : p < on.length
      · rw [List.getElem?_append_left hpl] at hp
        exact (o.why p k' h' hp).mono
      · rw [List.getElem?_append_right (by omega)] at hp
        have hp0 : p - on.length = 0 := by
          have := (List.getElem?_eq_some_iff.mp hp).1
          simp at this; omega
        rw [hp0] at hp
        injection hp with hp
        injection hp with e1 e2
        subst e1 e2
        refine .inr ⟨rfl, s, t, q, h, h1, h2, h3, hl.symm, by omega, ?_⟩
        rw [List.getElem?_append_left hql, hq]
        exact congrArg some (congrArg (·, h) h4.symm)
theorem onStep_more (ss : List Sp4) (on : OnL) (x : Ix) : ∃ more, onStep ss on x = on ++ more := by
  unfold onStep
  split
  · exact ⟨[], by simp⟩
  · exact ⟨_, rfl⟩
theorem OnI.fold {S : Scr} {k : Pp} {h : How} {q : Nat} : ∀ {xs : List Ix} {on : OnL}, OnI S on → on[q]? = some (k, h) → (∀ x ∈ xs, TwH true S.ss k x) → OnI S (xs.foldl (onStep S.ss) on)
  | [], on, o, _, _ => o
  | x :: xs, on, o, hq, hx => by
    rw [List.foldl_cons]
    obtain ⟨m, e⟩ := onStep_more S.ss on x
    exact OnI.fold (o.step hq (hx x List.mem_cons_self)) (by rw [e, List.getElem?_append_left (List.getElem?_eq_some_iff.mp hq).1]; exact hq) fun y hy => hx y (List.mem_cons_of_mem _ hy)
theorem OnI.bound {S : Scr} {wl : Nat} {m : Int} {on : OnL} (w : WT wl S m) (o : OnI S on) : ∀ k ∈ keysN on, k ∈ allPp S.rm := fun k hk => by
  obtain ⟨⟨k', h⟩, hm, rfl⟩ := List.mem_map.mp hk
  obtain ⟨p, hp, e0⟩ := List.getElem_of_mem hm
  rcases o.why p k' h (by rw [List.getElem?_eq_getElem hp, e0]) with ⟨_, e, f, h1, h2, rfl⟩ | ⟨_, s, t, q, h', h1, h2, _, rfl, _⟩
  · exact mem_allPp.mpr ⟨(w.es e (List.mem_of_getElem? h1)).1, (w.es f (List.mem_of_getElem? h2)).1⟩
  · exact mem_allPp.mpr ⟨(w.ss s (List.mem_of_getElem? h1)).1, (w.ss t (List.mem_of_getElem? h2)).1⟩
theorem OnI.len {S : Scr} {wl : Nat} {m : Int} {on : OnL} (w : WT wl S m) (o : OnI S on) : on.length ≤ S.rm.toNat * S.rm.toNat := by
  have := nodup_leA _ (allPp S.rm) (keysN on) rfl o.nd (o.bound w)
  rw [allPp_len] at this
  unfold keysN at this
  rw [List.length_map] at this
  exact this
def enStep (p q : Pr × Nat) : Pp × How := ((p.1.1, q.1.1), (tEnd, p.2, q.2))
structure EnI (es : List Pr) (on : OnL) : Prop where
  nd : (keysN on).Nodup
  why : ∀ x ∈ on, x.2.1 = tEnd ∧ ∃ e f, es[x.2.2.1]? = some e ∧ es[x.2.2.2]? = some f ∧ (e.1, f.1) = x.1
theorem mem_aput {κ β : Type} [DecidableEq κ] {es : List (κ × β)} {k : κ} {v : β} {x : κ × β} (h : x ∈ aput es k v) : x ∈ es ∨ x = (k, v) := by
  unfold aput at h
  split at h
  · have : ∀ es : List (κ × β), x ∈ arepl es k v → x ∈ es ∨ x = (k, v) := fun es => by
      induction es with
      | nil => intro h; cases h
      | cons e es ih =>
        intro h
        rw [arepl] at h
        split at h
        · rename_i he
          rcases List.mem_cons.mp h with rfl | h
          · exact .inr (by rw [he])
          · exact (ih h).imp (List.mem_cons_of_mem _) id
        · rcases List.mem_cons.mp h with rfl | h
          · exact .inl List.mem_cons_self
          · exact (ih h).imp (List.mem_cons_of_mem _) id
    exact this es h
  · rcases List.mem_append.mp h with h | h
    · exact .inl h
    · exact .inr (by simpa using h)
theorem keys_aput {on : OnL} {k : Pp} {h : How} : keysN (aput on k h) = if k ∈ keysN on then keysN on else keysN on ++ [k] := by
  unfold keysN
  rw [aput_keys]
  by_cases hk : k ∈ on.map (·.1)
  · rw [if_pos hk, if_pos hk]
  · rw [if_neg hk, if_neg hk]
theorem EnI.put {es : List Pr} {on : OnL} {p q : Pr × Nat} (h : EnI es on) (hp : es[p.2]? = some p.1) (hq : es[q.2]? = some q.1) : EnI es (aput on (enStep p q).1 (enStep p q).2) := by
  refine ⟨?_, fun x hx => ?_⟩
  · rw [keys_aput]
    split
    · exact h.nd
    · rename_i hn; exact nodup_snoc h.nd hn
  · rcases mem_aput hx with hx | rfl
    · exact h.why x hx
    · exact ⟨rfl, p.1, q.1, hp, hq, rfl⟩
section
variable {sub : Sub} {G : Gam}
end
end L2.Py

set_option maxRecDepth 100000
set_option maxHeartbeats 2000000
namespace L2.Py
open PySem PySem.Spec PyProof.Rows TL
theorem len_pp {S : Scr} {on : OnL} (nd : (keysN on).Nodup) (h : ∀ k ∈ keysN on, k ∈ allPp S.rm) : on.length ≤ S.rm.toNat * S.rm.toNat := by
  have := nodup_leA _ (allPp S.rm) (keysN on) rfl nd h
  rw [allPp_len] at this
  unfold keysN at this
  rw [List.length_map] at this
  exact this
theorem EnI.len {S : Scr} {wl : Nat} {m : Int} {on : OnL} (w : WT wl S m) (o : EnI S.es on) : on.length ≤ S.rm.toNat * S.rm.toNat := len_pp o.nd fun k hk => by
  obtain ⟨x, hm, rfl⟩ := List.mem_map.mp hk
  obtain ⟨_, e, f, h1, h2, h3⟩ := o.why x hm
  rw [← h3]
  exact mem_allPp.mpr ⟨(w.es e (List.mem_of_getElem? h1)).1, (w.es f (List.mem_of_getElem? h2)).1⟩
theorem OnC.more {S : Scr} {on more : OnL} {a : Nat} (h : OnC S on a) (ha : a ≤ on.length) : OnC S (on ++ more) a := fun j hj k h' hk s hs t ht e1 e2 => by
  rw [List.getElem?_append_left (by omega)] at hk
  rw [keysN_app]
  exact List.mem_append_left _ (h j hj k h' hk s hs t ht e1 e2)
section
variable {sub : Sub} {G : Gam}
end
end L2.Py

set_option maxRecDepth 100000
set_option maxHeartbeats 2000000
namespace L2.Py
open PySem PySem.Spec PyProof.Rows TL
inductive Fw (S : Scr) (i j : Nat) : List Nat → List Nat → Pp → Prop
  | beg {b c : Pr} : S.bs[i]? = some b → S.bs[j]? = some c → Fw S i j [] [] (b.1, c.1)
  | step {xs ys : List Nat} {x y : Nat} {s t : Sp4} : Fw S i j xs ys (s.1, t.1) → S.ss[x]? = some s → S.ss[y]? = some t → s.2.1 = t.2.1 → Fw S i j (xs ++ [x]) (ys ++ [y]) (s.2.2.2, t.2.2.2)
inductive Bw (S : Scr) (e f : Nat) : Pp → List Nat → List Nat → Prop
  | fin {x y : Pr} : S.es[e]? = some x → S.es[f]? = some y → Bw S e f (x.1, y.1) [] []
  | step {xs ys : List Nat} {x y : Nat} {s t : Sp4} : S.ss[x]? = some s → S.ss[y]? = some t → s.2.1 = t.2.1 → Bw S e f (s.2.2.2, t.2.2.2) xs ys → Bw S e f (s.1, t.1) (x :: xs) (y :: ys)
section
variable {sub : Sub} {G : Gam}
structure Grow (S : Scr) (on : OnL) (P : Nat → Nat → List Nat → List Nat → Pp → Prop) : Prop where
  beg : ∀ (p : Nat) (k : Pp) (h : How) (b c : Pr), on[p]? = some (k, h) → h.1 = tBeg → S.bs[h.2.1]? = some b → S.bs[h.2.2]? = some c → (b.1, c.1) = k → P h.2.1 h.2.2 [] [] k
  step : ∀ (p : Nat) (k : Pp) (h : How) (s t : Sp4) (q : Nat) (h' : How) (i j : Nat) (xs ys : List Nat), on[p]? = some (k, h) → h.1 = tStep → S.ss[h.2.1]? = some s → S.ss[h.2.2]? = some t → s.2.1 = t.2.1 → (s.2.2.2, t.2.2.2) = k → q < p → on[q]? = some ((s.1, t.1), h') → P i j xs ys (s.1, t.1) → P i j (xs ++ [h.2.1]) (ys ++ [h.2.2]) k
abbrev Way := Nat × List Nat × Nat
end
end L2.Py

set_option maxRecDepth 100000
set_option maxHeartbeats 2000000
namespace L2.Py
open PySem PySem.Spec PyProof.Rows TL
abbrev Gp := W × W
def gapW (a b : W) : Gp := (a.drop (lcp a b).length, b.drop (lcp a b).length)
abbrev Mo := Pp × Gp × How
def BgM (S : Scr) (on : OnL) (m : Mo) : Prop := ∃ b c, S.bs[m.2.2.2.1]? = some b ∧ S.bs[m.2.2.2.2]? = some c ∧ m.2.2.1 = tBeg ∧ m.1 = (b.1, c.1) ∧ m.1 ∈ keysN on ∧ m.2.1 = gapW b.2 c.2
def NxM (S : Scr) (on : OnL) (k : Pp) (g : Gp) (m : Mo) : Prop := ∃ s t, S.ss[m.2.2.2.1]? = some s ∧ S.ss[m.2.2.2.2]? = some t ∧ s.2.1 = t.2.1 ∧ (s.1, t.1) = k ∧ m.2.2.1 = tStep ∧ m.1 = (s.2.2.2, t.2.2.2) ∧ m.1 ∈ keysN on ∧ m.2.1 = gapW (g.1 ++ s.2.2.1) (g.2 ++ t.2.2.1)
theorem TwI.row {b : Bool} {p : Sp4 × Nat} : ∀ {qs : List (Sp4 × Nat)} {es : Tw} {n : Nat}, TwI es n → TwI (qs.foldl (twStep b p) es) (n + qs.length)
  | [], es, n, h => h
  | q :: qs, es, n, h => by
    rw [List.foldl_cons, List.length_cons, show n + (qs.length + 1) = n + 1 + qs.length by omega]
    exact TwI.row (h.step q)
theorem TwI.all {b : Bool} {ss : List Sp4} : ∀ {ps : List (Sp4 × Nat)} {es : Tw} {n : Nat}, TwI es n → TwI (ps.foldl (twRow b ss) es) (n + ps.length * ss.length)
  | [], es, n, h => by rw [List.length_nil, Nat.zero_mul]; exact h
  | p :: ps, es, n, h => by
    rw [List.foldl_cons, List.length_cons, Nat.succ_mul, show n + (ps.length * ss.length + ss.length) = n + ss.length + ps.length * ss.length by omega]
    refine TwI.all ?_
    have := TwI.row (b := b) (p := p) (qs := ss.zipIdx) h
    rw [List.length_zipIdx] at this
    exact this
section
variable {sub : Sub} {G : Gam}
end
end L2.Py

set_option maxRecDepth 100000
set_option maxHeartbeats 2000000
namespace L2.Py
open PySem PySem.Spec PyProof.Rows TL
def bsW (S : Scr) (i : Nat) : W := ((S.bs[i]?).map (·.2)).getD []
def ssW (S : Scr) (i : Nat) : W := ((S.ss[i]?).map (·.2.2.1)).getD []
def rowW (S : Scr) (xs : List Nat) : W := (xs.map (ssW S)).flatten
structure WayOk (S : Scr) (w : Way) : Prop where
  b : ∃ b, S.bs[w.1]? = some b
  s : ∀ x ∈ w.2.1, ∃ s, S.ss[x]? = some s
  e : ∃ e, S.es[w.2.2]? = some e
  len : w.2.1.length ≤ 200
section
variable {sub : Sub} {G : Gam}
theorem Fw.ok {S : Scr} {i j : Nat} {xs ys : List Nat} {k : Pp} (h : Fw S i j xs ys k) : (∃ b, S.bs[i]? = some b) ∧ (∃ c, S.bs[j]? = some c) ∧ (∀ x ∈ xs, ∃ s, S.ss[x]? = some s) ∧ (∀ y ∈ ys, ∃ s, S.ss[y]? = some s) := by
  induction h with
  | beg h1 h2 => exact ⟨⟨_, h1⟩, ⟨_, h2⟩, (fun _ h => nomatch h), (fun _ h => nomatch h)⟩
  | step h h1 h2 h3 ih =>
    refine ⟨ih.1, ih.2.1, fun x hx => ?_, fun x hx => ?_⟩
    · rcases List.mem_append.mp hx with hx | hx
      · exact ih.2.2.1 x hx
      · rw [List.mem_singleton.mp hx]; exact ⟨_, h1⟩
    · rcases List.mem_append.mp hx with hx | hx
      · exact ih.2.2.2 x hx
      · rw [List.mem_singleton.mp hx]; exact ⟨_, h2⟩
theorem Bw.ok {S : Scr} {e f : Nat} {xs ys : List Nat} {k : Pp} (h : Bw S e f k xs ys) : (∃ b, S.es[e]? = some b) ∧ (∃ c, S.es[f]? = some c) ∧ (∀ x ∈ xs, ∃ s, S.ss[x]? = some s) ∧ (∀ y ∈ ys, ∃ s, S.ss[y]? = some s) := by
  induction h with
  | fin h1 h2 => exact ⟨⟨_, h1⟩, ⟨_, h2⟩, (fun _ h => nomatch h), (fun _ h => nomatch h)⟩
  | step h1 h2 h3 h ih =>
    refine ⟨ih.1, ih.2.1, fun x hx => ?_, fun x hx => ?_⟩
    · rcases List.mem_cons.mp hx with rfl | hx
      · exact ⟨_, h1⟩
      · exact ih.2.2.1 x hx
    · rcases List.mem_cons.mp hx with rfl | hx
      · exact ⟨_, h2⟩
      · exact ih.2.2.2 x hx
theorem ways_ok {S : Scr} {i j e f : Nat} {xs ys xs' ys' : List Nat} {k : Pp} (h1 : Fw S i j xs ys k) (h2 : Bw S e f k xs' ys') (l1 : xs.length + xs'.length ≤ 200) (l2 : ys.length + ys'.length ≤ 200) : WayOk S (i, xs ++ xs', e) ∧ WayOk S (j, ys ++ ys', f) := by
  obtain ⟨a1, a2, a3, a4⟩ := h1.ok
  obtain ⟨b1, b2, b3, b4⟩ := h2.ok
  exact ⟨⟨a1, fun x hx => (List.mem_append.mp hx).elim (a3 x) (b3 x), b1, by rw [List.length_append]; exact l1⟩, ⟨a2, fun x hx => (List.mem_append.mp hx).elim (a4 x) (b4 x), b2, by rw [List.length_append]; exact l2⟩⟩
end
end L2.Py

set_option maxRecDepth 100000
set_option maxHeartbeats 2000000
namespace L2.Py
open PySem PySem.Spec PyProof.Rows TL
theorem lcp_pre (a b : W) : ∀ p : W, lcp (p ++ a) (p ++ b) = p ++ lcp a b
  | [] => rfl
  | x :: p => by
    show lcp (x :: (p ++ a)) (x :: (p ++ b)) = _
    rw [lcp, if_pos rfl, lcp_pre a b p]
    rfl
theorem gapW_pre (p a b : W) : gapW (p ++ a) (p ++ b) = gapW a b := by
  unfold gapW
  rw [lcp_pre, List.length_append, List.drop_append_of_le_length' , List.drop_append_of_le_length']
where
  List.drop_append_of_le_length' {p a : W} {n : Nat} : (p ++ a).drop (p.length + n) = a.drop n := by
    rw [← List.drop_drop, List.drop_left]
theorem gap_split : ∀ a b : W, a = lcp a b ++ (gapW a b).1 ∧ b = lcp a b ++ (gapW a b).2
  | [], b => by simp [gapW, lcp]
  | x :: a, [] => by simp [gapW, lcp]
  | x :: a, y :: b => by
    by_cases h : x = y
    · subst h
      have := gap_split a b
      have e : gapW (x :: a) (x :: b) = gapW a b := gapW_pre [x] a b
      rw [e, lcp, if_pos rfl]
      exact ⟨congrArg (x :: ·) this.1, congrArg (x :: ·) this.2⟩
    · simp [gapW, lcp, h]
theorem gapW_app (a b u v : W) : gapW (a ++ u) (b ++ v) = gapW ((gapW a b).1 ++ u) ((gapW a b).2 ++ v) := by
  have h := gap_split a b
  have e1 : a ++ u = lcp a b ++ ((gapW a b).1 ++ u) := by rw [← List.append_assoc, ← h.1]
  have e2 : b ++ v = lcp a b ++ ((gapW a b).2 ++ v) := by rw [← List.append_assoc, ← h.2]
  rw [e1, e2, gapW_pre]
def Half (g : Gp) : Prop := g.1 = [] ∨ g.2 = []
def cameL (V : List Mo) : OnL := V.map fun e => (e.1, e.2.2)
def VW (S : Scr) (V : List Mo) (p : Nat) (k : Pp) (g : Gp) (h : How) : Prop :=
  (h.1 = tBeg ∧ ∃ b c, S.bs[h.2.1]? = some b ∧ S.bs[h.2.2]? = some c ∧ (b.1, c.1) = k ∧ g = gapW b.2 c.2) ∨
  (h.1 = tStep ∧ ∃ s t q g' h', S.ss[h.2.1]? = some s ∧ S.ss[h.2.2]? = some t ∧ s.2.1 = t.2.1 ∧ (s.2.2.2, t.2.2.2) = k ∧ q < p ∧ V[q]? = some ((s.1, t.1), g', h') ∧ g = gapW (g'.1 ++ s.2.2.1) (g'.2 ++ t.2.2.1))
structure VI (S : Scr) (on : OnL) (V : List Mo) : Prop where
  nd : (V.map (·.1)).Nodup
  ino : ∀ e ∈ V, e.1 ∈ keysN on
  why : ∀ p k g h, V[p]? = some (k, g, h) → VW S V p k g h
theorem came_at {V : List Mo} {p : Nat} {k : Pp} {h : How} (e : (cameL V)[p]? = some (k, h)) : ∃ g, V[p]? = some (k, g, h) := by
  unfold cameL at e
  rw [List.getElem?_map, Option.map_eq_some_iff] at e
  obtain ⟨⟨k', g, h'⟩, e1, e2⟩ := e
  cases e2
  exact ⟨g, e1⟩
theorem nodup_at {α β : Type} {f : α → β} : ∀ {xs : List α} {i j : Nat} {x y : α}, (xs.map f).Nodup → xs[i]? = some x → xs[j]? = some y → f x = f y → i = j := fun {xs i j x y} nd hx hy e => by
  have h1 : (xs.map f)[i]? = some (f x) := by rw [List.getElem?_map, hx]; rfl
  have h2 : (xs.map f)[j]? = some (f x) := by rw [List.getElem?_map, hy, e]; rfl
  have hi := (List.getElem?_eq_some_iff.mp h1).1
  exact (List.getElem?_inj hi nd).mp (h1.trans h2.symm)
def RowG (S : Scr) (V : List Mo) (i j : Nat) (xs ys : List Nat) (k : Pp) : Prop := ∀ (p : Nat) (g : Gp) (h : How), V[p]? = some (k, g, h) → gapW (bsW S i ++ rowW S xs) (bsW S j ++ rowW S ys) = g
theorem rowW_snoc (S : Scr) (xs : List Nat) (x : Nat) : rowW S (xs ++ [x]) = rowW S xs ++ ssW S x := by
  unfold rowW
  simp
theorem bsW_at {S : Scr} {i : Nat} {b : Pr} (h : S.bs[i]? = some b) : bsW S i = b.2 := by unfold bsW; rw [h]; rfl
theorem ssW_at {S : Scr} {i : Nat} {s : Sp4} (h : S.ss[i]? = some s) : ssW S i = s.2.2.1 := by unfold ssW; rw [h]; rfl
theorem VI.grow {S : Scr} {on : OnL} {V : List Mo} (v : VI S on V) : Grow S (cameL V) (RowG S V) := by
  refine ⟨fun p k h b c hp ht h1 h2 h3 p' g h' hp' => ?_, fun p k h s t q h' i j xs ys hp ht h1 h2 h3 h4 h5 h6 hR p' g h'' hp' => ?_⟩
  · obtain ⟨g0, e⟩ := came_at hp
    obtain rfl := nodup_at v.nd e hp' rfl
    rw [e] at hp'
    cases hp'
    rcases v.why p k g h e with ⟨_, b', c', q2, q3, _, q4⟩ | ⟨q1, _⟩
    · rw [bsW_at h1, bsW_at h2]
      rw [h1] at q2
      rw [h2] at q3
      cases q2
      cases q3
      show gapW (b.2 ++ []) (c.2 ++ []) = g
      rw [List.append_nil, List.append_nil]
      exact q4.symm
    · rw [ht] at q1; exact absurd q1 (by decide)
  · obtain ⟨g0, e⟩ := came_at hp
    obtain rfl := nodup_at v.nd e hp' rfl
    rw [e] at hp'
    cases hp'
    rcases v.why p k g h e with ⟨q1, _⟩ | ⟨_, s', t', q', g', h2', q2, q3, _, _, _, q7, q8⟩
    · rw [ht] at q1; exact absurd q1 (by decide)
    · rw [h1] at q2
      rw [h2] at q3
      cases q2
      cases q3
      have := hR q' g' h2' q7
      rw [rowW_snoc, rowW_snoc, ssW_at h1, ssW_at h2, ← List.append_assoc, ← List.append_assoc, gapW_app, this]
      exact q8.symm
theorem VI.len {S : Scr} {wl : Nat} {m : Int} (w : WT wl S m) (hr : S.rm ≤ 8) {on : OnL} (o : OnI S on) {V : List Mo} (v : VI S on V) : V.length ≤ 64 := by
  have := nodup_leA _ (allPp S.rm) (V.map (·.1)) rfl v.nd fun k hk => by
    obtain ⟨e, he, rfl⟩ := List.mem_map.mp hk
    exact o.bound w _ (v.ino e he)
  rw [allPp_len, List.length_map] at this
  have h8 : S.rm.toNat ≤ 8 := by omega
  exact Nat.le_trans this (Nat.mul_le_mul h8 h8)
end L2.Py

set_option maxRecDepth 100000
set_option maxHeartbeats 2000000
namespace L2.Py
open PySem PySem.Spec PyProof.Rows TL
def TwoW (S : Scr) (v u : Way) : Prop := ∃ xs0 ys0 xs ys k, Fw S v.1 u.1 xs0 ys0 k ∧ Bw S v.2.2 u.2.2 k xs ys ∧ v.2.1 = xs0 ++ xs ∧ u.2.1 = ys0 ++ ys ∧ v.2.1.length ≤ 200 ∧ u.2.1.length ≤ 200
theorem TwoW.ok {S : Scr} {v u : Way} (h : TwoW S v u) : WayOk S v ∧ WayOk S u := by
  obtain ⟨xs0, ys0, xs, ys, k, h1, h2, h3, h4, h5, h6⟩ := h
  obtain ⟨i, p, e⟩ := v
  obtain ⟨j, q, f⟩ := u
  simp only at h1 h2 h3 h4 h5 h6
  subst h3 h4
  rw [List.length_append] at h5 h6
  exact ways_ok h1 h2 h5 h6
section
variable {sub : Sub} {G : Gam}
end
end L2.Py

set_option maxRecDepth 100000
set_option maxHeartbeats 2000000
namespace L2.Py
open PySem PySem.Spec PyProof.Rows TL
section
variable {sub : Sub} {G : Gam}
end
end L2.Py

set_option maxRecDepth 100000
set_option maxHeartbeats 2000000
namespace L2.Py
open PySem PySem.Spec PyProof.Rows TL
def Src (S : Scr) (on : OnL) (V : List Mo) (m : Mo) : Prop := BgM S on m ∨ ∃ (q : Nat) (k0 : Pp) (g0 : Gp) (h0 : How), V[q]? = some (k0, g0, h0) ∧ NxM S on k0 g0 m
def Done (V : List Mo) (m : Mo) : Prop := ∃ (p : Nat) (h : How), V[p]? = some (m.1, m.2.1, h)
structure TI (S : Scr) (on : OnL) (a : Nat) (V M : List Mo) : Prop where
  vi : VI S on V
  half : ∀ e ∈ V, Half e.2.1
  src : ∀ m ∈ M, Src S on V m
  bg : ∀ m, BgM S on m → Done V m ∨ m ∈ M
  cl : ∀ q < a, ∀ k0 g0 h0, V[q]? = some (k0, g0, h0) → (∀ m, NxM S on k0 g0 m → Done V m ∨ m ∈ M) ∧ ∀ x ∈ S.es, ∀ y ∈ S.es, (x.1, y.1) = k0 → g0.1 ++ x.2 = g0.2 ++ y.2
  le : a ≤ V.length
theorem at_more {V more : List Mo} {p : Nat} {x : Mo} (h : V[p]? = some x) : (V ++ more)[p]? = some x := by
  rw [List.getElem?_append_left (List.getElem?_eq_some_iff.mp h).1]; exact h
theorem Done.more {V more : List Mo} {m : Mo} (h : Done V m) : Done (V ++ more) m := by
  obtain ⟨p, h', e⟩ := h
  exact ⟨p, h', at_more e⟩
theorem Src.more {S : Scr} {on : OnL} {V more : List Mo} {m : Mo} (h : Src S on V m) : Src S on (V ++ more) m :=
  h.imp id fun ⟨q, k0, g0, h0, e, n⟩ => ⟨q, k0, g0, h0, at_more e, n⟩
theorem Src.ino {S : Scr} {on : OnL} {V : List Mo} {m : Mo} (h : Src S on V m) : m.1 ∈ keysN on := by
  rcases h with ⟨b, c, _, _, _, _, h, _⟩ | ⟨q, k0, g0, h0, _, s, t, _, _, _, _, _, _, h, _⟩
  · exact h
  · exact h
theorem VW.more {S : Scr} {V more : List Mo} {p : Nat} {k : Pp} {g : Gp} {h : How} (w : VW S V p k g h) : VW S (V ++ more) p k g h :=
  w.imp id fun ⟨h1, s, t, q, g', h', h2, h3, h4, h5, h6, h7, h8⟩ => ⟨h1, s, t, q, g', h', h2, h3, h4, h5, h6, at_more h7, h8⟩
theorem VI.add {S : Scr} {on : OnL} {V : List Mo} (v : VI S on V) {m : Mo} (hs : Src S on V m) (hn : m.1 ∉ V.map (·.1)) : VI S on (V ++ [m]) := by
  refine ⟨by rw [List.map_append]; exact nodup_snoc v.nd hn, fun e he => ?_, fun p k g h hp => ?_⟩
  · rcases List.mem_append.mp he with he | he
    · exact v.ino e he
    · rw [List.mem_singleton.mp he]; exact hs.ino
  · by_cases hpl : p < V.length
    · rw [List.getElem?_append_left hpl] at hp
      exact (v.why p k g h hp).more
    · rw [List.getElem?_append_right (by omega)] at hp
      have hp0 : p - V.length = 0 := by
        have := (List.getElem?_eq_some_iff.mp hp).1
        simp at this; omega
      rw [hp0] at hp
      injection hp with hp
      subst hp
      rcases hs with ⟨b, c, h1, h2, h3, h4, _, h6⟩ | ⟨q, k0, g0, h0, e, s, t, h1, h2, h3, h4, h5, h6, _, h8⟩
      · exact .inl ⟨h3, b, c, h1, h2, h4.symm, h6⟩
      · refine .inr ⟨h5, s, t, q, g0, h0, h1, h2, h3, h6.symm, ?_, ?_, h8⟩
        · have := (List.getElem?_eq_some_iff.mp e).1
          omega
        · rw [h4]; exact at_more e
theorem TI.add {S : Scr} {on : OnL} {a : Nat} {V rest : List Mo} {m : Mo} (t : TI S on a V (m :: rest)) (hn : m.1 ∉ V.map (·.1)) (hh : Half m.2.1) : TI S on a (V ++ [m]) rest := by
  have dm : Done (V ++ [m]) m := ⟨V.length, m.2.2, by simp⟩
  have step : ∀ x, Done V x ∨ x ∈ m :: rest → Done (V ++ [m]) x ∨ x ∈ rest := fun x hx => by
    rcases hx with hx | hx
    · exact .inl hx.more
    · rcases List.mem_cons.mp hx with rfl | hx
      · exact .inl dm
      · exact .inr hx
  refine ⟨t.vi.add (t.src m List.mem_cons_self) hn, fun e he => ?_, fun x hx => (t.src x (List.mem_cons_of_mem _ hx)).more, fun x hx => step x (t.bg x hx), fun q hq k0 g0 h0 e => ?_, by rw [List.length_append]; have := t.le; omega⟩
  · rcases List.mem_append.mp he with he | he
    · exact t.half e he
    · rw [List.mem_singleton.mp he]; exact hh
  · have := t.le
    rw [List.getElem?_append_left (by omega)] at e
    obtain ⟨c1, c2⟩ := t.cl q hq k0 g0 h0 e
    exact ⟨fun x hx => step x (c1 x hx), c2⟩
section
variable {sub : Sub} {G : Gam}
end
end L2.Py

set_option maxRecDepth 100000
set_option maxHeartbeats 2000000
namespace L2.Py.C11
open PySem PySem.Spec PyProof.Rows TL
def L_l_letters_1 : E := (.slot 1)
def T_l_letters_1 : List E := [(.cmp .notin (.slot 1) (.cstr [97, 98, 99, 100, 101, 102, 103, 104, 105, 106, 107, 108, 109, 110, 111, 112, 113, 114, 115, 116, 117, 118, 119, 120, 121, 122]))]
def D_l_letters : Def := { nps := 1, nsl := 2, body := [
  .iff (.not (.blt (.isi [.str]) [(.slot 0)])) [.ret (.cbl false)] [],
  .ret (.cmp .eq (.blt .len [(.comp false [1] false .val [(.slot 0)] L_l_letters_1 T_l_letters_1)]) (.cint 0))] }
def D_l_number : Def := { nps := 2, nsl := 2, body := [
  .ret (.and (.blt (.isi [.int]) [(.slot 0)]) (.and (.not (.blt (.isi [.bool]) [(.slot 0)])) (.and (.cmp .ge (.slot 0) (.cint 0)) (.cmp .lt (.slot 0) (.slot 1)))))] }
def D_l_good (l_letters l_number : Nat) : Def := { nps := 3, nsl := 3, body := [
  .iff (.or (.not (.blt (.isi [.tuple]) [(.slot 0)])) (.cmp .ne (.blt .len [(.slot 0)]) (.idx (.lst [(.cint 2), (.cint 4)]) (.blt .toInt [(.cmp .ne (.slot 2) (.cstr []))])))) [.ret (.cbl false)] [],
  .iff (.cmp .eq (.slot 2) (.cstr [])) [.ret (.and (.call l_number [(.idx (.slot 0) (.cint 0)), (.slot 1)]) (.call l_letters [(.idx (.slot 0) (.cint 1))]))] [],
  .iff (.or (.not (.call l_number [(.idx (.slot 0) (.cint 0)), (.slot 1)])) (.or (.not (.call l_letters [(.idx (.slot 0) (.cint 1))])) (.cmp .ne (.blt .len [(.idx (.slot 0) (.cint 1))]) (.cint 1)))) [.ret (.cbl false)] [],
  .ret (.and (.cmp .isin (.idx (.slot 0) (.cint 1)) (.slot 2)) (.and (.call l_letters [(.idx (.slot 0) (.cint 2))]) (.call l_number [(.idx (.slot 0) (.cint 3)), (.slot 1)])))] }
mutual
def tmB : D → Bool
  | .non => true
  | .bl _ => true
  | .int _ => true
  | .str w => decide (w.length ≤ 1000)
  | .tup xs => decide (xs.length ≤ 1000) && tmL xs
  | .lst xs => decide (xs.length ≤ 1000) && tmL xs
  | _ => false
def tmL : List D → Bool
  | [] => true
  | d :: ds => tmB d && tmL ds
end
theorem tmL_mem : ∀ {ds : List D}, tmL ds = true → ∀ d ∈ ds, tmB d = true
  | [], _, d, h => nomatch h
  | e :: ds, hd, d, h => by
    rw [tmL, Bool.and_eq_true] at hd
    rcases List.mem_cons.mp h with rfl | h
    · exact hd.1
    · exact tmL_mem hd.2 d h
def wordB : D → Bool
  | .str w => letB w
  | _ => false
def roomB (d : D) (m : Int) : Bool := match d with
  | .int i => decide (0 ≤ i) && decide (i < m)
  | _ => false
def isS : D → Bool
  | .str _ => true
  | _ => false
def isN : D → Bool
  | .int _ => true
  | .bl _ => true
  | _ => false
def isT : D → Bool
  | .tup _ => true
  | _ => false
def isL : D → Bool
  | .lst _ => true
  | _ => false
def isBl : D → Bool
  | .bl _ => true
  | _ => false
section
variable {sub : Sub} {G : Gam}
theorem isi_str {d : D} (h : tmB d = true) : bltD sub (.isi [.str]) [d] = .ok (.bl (isS d)) := by
  cases d <;> first | rfl | (unfold tmB at h; cases h)
theorem isi_int {d : D} (h : tmB d = true) : bltD sub (.isi [.int]) [d] = .ok (.bl (isN d)) := by
  cases d <;> first | rfl | (unfold tmB at h; cases h)
theorem isi_bool {d : D} (h : tmB d = true) : bltD sub (.isi [.bool]) [d] = .ok (.bl (isBl d)) := by
  cases d <;> first | rfl | (unfold tmB at h; cases h)
theorem isi_tup {d : D} (h : tmB d = true) : bltD sub (.isi [.tuple]) [d] = .ok (.bl (isT d)) := by
  cases d <;> first | rfl | (unfold tmB at h; cases h)
theorem isi_lst {d : D} (h : tmB d = true) : bltD sub (.isi [.list]) [d] = .ok (.bl (isL d)) := by
  cases d <;> first | rfl | (unfold tmB at h; cases h)
theorem str_len {w : W} (h : tmB (.str w) = true) : w.length ≤ 1000 := by
  unfold tmB at h
  exact of_decide_eq_true h
theorem is_wordD {d : D} (h : tmB d = true) : runDef sub G D_is_word [d] = .ok (.bl (wordB d), []) := by
  by_cases hs : isS d = true
  · cases d <;> first | (cases hs; done) | skip
    exact is_word_run _ (by have := str_len h; omega)
  · have hs : isS d = false := Bool.eq_false_iff.mpr hs
    have a := eBlt (sub := sub) (G := G) (ρ := entry 2 [d]) (es1 (a := .slot 0) (x := d) (by rw [ev]; rfl)) (isi_str h)
    rw [hs] at a
    have w : wordB d = false := by cases d <;> first | rfl | cases hs
    rw [w]
    exact run_def (ρ := entry 2 [d]) rfl rfl (runs_ret (eAnd a (u := false) fun z => nomatch z))
theorem lettersD {d : D} (h : tmB d = true) : runDef sub G D_l_letters [d] = .ok (.bl (wordB d), []) := by
  have a := eNot (eBlt (sub := sub) (G := G) (ρ := entry 2 [d]) (es1 (a := .slot 0) (x := d) (by rw [ev]; rfl)) (isi_str h))
  by_cases hs : isS d = true
  · cases d <;> first | (cases hs; done) | skip
    rename_i w
    have hl : w.length ≤ 1000000 := by have := str_len h; omega
    have c1 := notin_comp (sub := sub) (G := G) (ρ := entry 2 [.str w]) (i := 0) (j := 1) (w := w) (L := abcL) (by decide) (show 1 < 2 by decide) rfl hl
    have e : decide (((w.filter fun c => !abcL.contains c).length : Int) = 0) = letB w := by
      have : (fun c => !abcL.contains c) = fun c => !lcB c := funext fun c => by rw [abc_has]
      rw [this, fil_zero]
      rfl
    have := eCmp (eBlt (es1 c1) (len_lst _)) (intC (s := 0)) (eqI' _ 0)
    rw [List.length_map, e] at this
    exact run_def rfl rfl ((runs_skip a).trans (runs_ret this))
  · have hs : isS d = false := Bool.eq_false_iff.mpr hs
    rw [hs] at a
    have w : wordB d = false := by cases d <;> first | rfl | cases hs
    rw [w]
    exact run_def (ρ := entry 2 [d]) rfl rfl (runs_thenR a (runs_ret (by rw [ev])))
theorem room_ev {d : D} (h : tmB d = true) (m : Int) : ev sub G (.and (.blt (.isi [.int]) [(.slot 0)]) (.and (.not (.blt (.isi [.bool]) [(.slot 0)])) (.and (.cmp .ge (.slot 0) (.cint 0)) (.cmp .lt (.slot 0) (.slot 1))))) [some d, some (.int m)] = .ok (.bl (roomB d m)) := by
  have s0 : ev sub G (.slot 0) [some d, some (.int m)] = .ok d := by rw [ev]; rfl
  have a := eBlt (sub := sub) (G := G) (es1 s0) (isi_int h)
  have b := eNot (eBlt (sub := sub) (G := G) (es1 s0) (isi_bool h))
  by_cases hi : ∃ i, d = .int i
  · obtain ⟨i, rfl⟩ := hi
    have c : ev sub G (.cmp .ge (.slot 0) (.cint 0)) [some (.int i), some (.int m)] = .ok (.bl (decide (0 ≤ i))) := eCmp s0 (b := .cint 0) (y := .int 0) (by rw [ev]) rfl
    have e : ev sub G (.cmp .lt (.slot 0) (.slot 1)) [some (.int i), some (.int m)] = .ok (.bl (decide (i < m))) := eCmp s0 (b := .slot 1) (y := .int m) (by rw [ev]; rfl) rfl
    have r := eAnd a fun _ => eAnd b fun _ => eAnd c fun _ => e
    exact r
  · have r : roomB d m = false := by cases d <;> first | rfl | exact absurd ⟨_, rfl⟩ hi
    rw [r]
    by_cases hn : isN d = true
    · have hb : isBl d = true := by cases d <;> first | rfl | exact absurd ⟨_, rfl⟩ hi | cases hn
      rw [hb] at b
      rw [hn] at a
      exact eAnd a fun _ => eAnd b (u := false) fun z => nomatch z
    · rw [Bool.eq_false_iff.mpr hn] at a
      exact eAnd a (u := false) fun z => nomatch z
theorem is_roomD {d : D} (h : tmB d = true) (m : Int) : runDef sub G D_is_room [d, .int m] = .ok (.bl (roomB d m), []) := run_def rfl rfl (runs_ret (room_ev h m))
theorem numberD {d : D} (h : tmB d = true) (m : Int) : runDef sub G D_l_number [d, .int m] = .ok (.bl (roomB d m), []) := run_def rfl rfl (runs_ret (room_ev h m))
theorem tup_len (xs : List D) : bltD sub .len [.tup xs] = .ok (.int xs.length) := rfl
theorem tm_tup {xs : List D} (h : tmB (.tup xs) = true) : xs.length ≤ 1000 ∧ ∀ d ∈ xs, tmB d = true := by
  unfold tmB at h
  rw [Bool.and_eq_true] at h
  exact ⟨of_decide_eq_true h.1, tmL_mem h.2⟩
theorem tm_lst {xs : List D} (h : tmB (.lst xs) = true) : xs.length ≤ 1000 ∧ ∀ d ∈ xs, tmB d = true := by
  unfold tmB at h
  rw [Bool.and_eq_true] at h
  exact ⟨of_decide_eq_true h.1, tmL_mem h.2⟩
def pairB (d : D) (m : Int) : Bool := match d with
  | .tup [a, b] => roomB a m && wordB b
  | _ => false
def signB (b : D) (sg : W) : Bool := match b with
  | .str [x] => decide (x ∈ sg)
  | _ => false
def stepB (d : D) (sg : W) (m : Int) : Bool := match d with
  | .tup [a, b, c, e] => (roomB a m && wordB c) && (roomB e m && signB b sg)
  | _ => false
theorem two_of {xs : List D} (h : xs.length = 2) : ∃ a b, xs = [a, b] := by
  match xs, h with
  | [a, b], _ => exact ⟨a, b, rfl⟩
theorem four_of {xs : List D} (h : xs.length = 4) : ∃ a b c e, xs = [a, b, c, e] := by
  match xs, h with
  | [a, b, c, e], _ => exact ⟨a, b, c, e, rfl⟩
theorem pair_no {xs : List D} (h : xs.length ≠ 2) (m : Int) : pairB (.tup xs) m = false := by
  unfold pairB
  split
  · rename_i e
    injection e with e
    subst e
    exact absurd rfl h
  · rfl
theorem step_no {xs : List D} (h : xs.length ≠ 4) (sg : W) (m : Int) : stepB (.tup xs) sg m = false := by
  unfold stepB
  split
  · rename_i e
    injection e with e
    subst e
    exact absurd rfl h
  · rfl
theorem not_tup {d : D} (h : isT d = false) (m : Int) (sg : W) : pairB d m = false ∧ stepB d sg m = false := by
  cases d <;> first | exact ⟨rfl, rfl⟩ | cases h
def RoomG (G : Gam) (i : Nat) : Prop := ∀ (d : D) (m : Int), tmB d = true → G i [d, .int m] = .ok (.bl (roomB d m), [])
def WordG (G : Gam) (i : Nat) : Prop := ∀ d : D, tmB d = true → G i [d] = .ok (.bl (wordB d), [])
theorem is_pairD {ir iw : Nat} (hr : RoomG G ir) (hw : WordG G iw) {d : D} (h : tmB d = true) (m : Int) : runDef sub G (D_is_pair ir iw) [d, .int m] = .ok (.bl (pairB d m), []) := by
  have ci : ∀ (i : Int) (ρ : Rho), ev sub G (.cint i) ρ = .ok (.int i) := fun i ρ => by rw [ev]
  let ρ : Rho := [some d, some (.int m)]
  have s0 : ev sub G (.slot 0) ρ = .ok d := by rw [ev]; rfl
  have a := eBlt (sub := sub) (G := G) (es1 s0) (isi_tup h)
  refine run_def (ρ := ρ) rfl rfl (runs_ret ?_)
  by_cases ht : isT d = true
  · rw [ht] at a
    cases d <;> first | (cases ht; done) | skip
    rename_i xs
    have b : ev sub G (.cmp .eq (.blt .len [(.slot 0)]) (.cint 2)) ρ = .ok (.bl (((xs.length : Nat) : Int) == 2)) := eCmp (eBlt (es1 s0) (tup_len xs)) (ci 2 _) (eqI _ _)
    by_cases hl : xs.length = 2
    · obtain ⟨x, y, rfl⟩ := two_of hl
      have hm := (tm_tup h).2
      have c : ev sub G (.call ir [(.idx (.slot 0) (.cint 0)), (.slot 1)]) ρ = .ok (.bl (roomB x m)) := eCall (es2 (eIdx s0 (ci 0 _) (z := x) rfl) (y := .int m) (by rw [ev]; rfl)) (hr x m (hm x (by simp)))
      have e : ev sub G (.call iw [(.idx (.slot 0) (.cint 1))]) ρ = .ok (.bl (wordB y)) := eCall (es1 (eIdx s0 (ci 1 _) (z := y) rfl)) (hw y (hm y (by simp)))
      have r := eAnd a fun _ => eAnd b fun _ => eAnd c fun _ => e
      exact r
    · rw [pair_no hl]
      have z : (((xs.length : Nat) : Int) == 2) = false := by
        have : ((xs.length : Nat) : Int) ≠ 2 := by omega
        simpa using this
      rw [z] at b
      exact eAnd a fun _ => eAnd b (u := false) fun z => nomatch z
  · have ht : isT d = false := Bool.eq_false_iff.mpr ht
    rw [ht] at a
    rw [(not_tup ht m []).1]
    exact eAnd a (u := false) fun z => nomatch z
theorem one_of {w : W} (h : w.length = 1) : ∃ c, w = [c] := by
  match w, h with
  | [c], _ => exact ⟨c, rfl⟩
theorem sign_ev {ρ : Rho} {e g : E} {b : D} {sg : W} (hb : tmB b = true) (h1 : ev sub G e ρ = .ok b) (h2 : ev sub G g ρ = .ok (.str sg)) :
    ev sub G (.and (.blt (.isi [.str]) [e]) (.and (.cmp .eq (.blt .len [e]) (.cint 1)) (.cmp .isin e g))) ρ = .ok (.bl (signB b sg)) := by
  have a := eBlt (sub := sub) (G := G) (es1 h1) (isi_str hb)
  by_cases hs : isS b = true
  · rw [hs] at a
    cases b <;> first | (cases hs; done) | skip
    rename_i w
    have l : ev sub G (.cmp .eq (.blt .len [e]) (.cint 1)) ρ = .ok (.bl (((w.length : Nat) : Int) == 1)) := eCmp (eBlt (es1 h1) (len_str (by have := str_len hb; unfold lim; omega))) (b := .cint 1) (y := .int 1) (by rw [ev]) (eqI _ _)
    by_cases hl : w.length = 1
    · obtain ⟨c, rfl⟩ := one_of hl
      have i : ev sub G (.cmp .isin e g) ρ = .ok (.bl (sg.contains c)) := eCmp h1 h2 rfl
      have r := eAnd a fun _ => eAnd l fun _ => i
      have e2 : sg.contains c = decide (c ∈ sg) := by simp
      rw [e2] at r
      exact r
    · have z : (((w.length : Nat) : Int) == 1) = false := by
        have : ((w.length : Nat) : Int) ≠ 1 := by omega
        simpa using this
      rw [z] at l
      have n : signB (.str w) sg = false := by
        unfold signB
        split
        · rename_i e
          injection e with e
          subst e
          exact absurd rfl hl
        · rfl
      rw [n]
      exact eAnd a fun _ => eAnd l (u := false) fun z => nomatch z
  · have hs : isS b = false := Bool.eq_false_iff.mpr hs
    rw [hs] at a
    have n : signB b sg = false := by cases b <;> first | rfl | cases hs
    rw [n]
    exact eAnd a (u := false) fun z => nomatch z
def PairG (G : Gam) (i : Nat) : Prop := ∀ (d : D) (m : Int), tmB d = true → G i [d, .int m] = .ok (.bl (pairB d m), [])
theorem tm_pair {a c : D} (ha : tmB a = true) (hc : tmB c = true) : tmB (.tup [a, c]) = true := by
  unfold tmB
  rw [tmL, tmL, tmL, ha, hc]
  rfl
theorem is_stepD {ir ip : Nat} (hr : RoomG G ir) (hp : PairG G ip) {d : D} (h : tmB d = true) (sg : W) (m : Int) : runDef sub G (D_is_step ir ip) [d, .str sg, .int m] = .ok (.bl (stepB d sg m), []) := by
  have ci : ∀ (i : Int) (ρ : Rho), ev sub G (.cint i) ρ = .ok (.int i) := fun i ρ => by rw [ev]
  let ρ : Rho := [some d, some (.str sg), some (.int m)]
  have s0 : ev sub G (.slot 0) ρ = .ok d := by rw [ev]; rfl
  have a := eNot (eBlt (sub := sub) (G := G) (es1 s0) (isi_tup h))
  by_cases ht : isT d = true
  · rw [ht] at a
    cases d <;> first | (cases ht; done) | skip
    rename_i xs
    have b : ev sub G (.cmp .ne (.blt .len [(.slot 0)]) (.cint 4)) ρ = .ok (.bl (!(((xs.length : Nat) : Int) == 4))) := eCmp (eBlt (es1 s0) (tup_len xs)) (ci 4 _) (neI _ _)
    by_cases hl : xs.length = 4
    · obtain ⟨x, y, z, u, rfl⟩ := four_of hl
      have hm := (tm_tup h).2
      have c : ev sub G (.not (.call ip [(.tup [(.idx (.slot 0) (.cint 0)), (.idx (.slot 0) (.cint 2))]), (.slot 2)])) ρ = .ok (.bl (!(roomB x m && wordB z))) := eNot (eCall (es2 (eTup (es2 (eIdx s0 (ci 0 _) (z := x) rfl) (eIdx s0 (ci 2 _) (z := z) rfl))) (y := .int m) (by rw [ev]; rfl)) (hp (.tup [x, z]) m (tm_pair (hm x (by simp)) (hm z (by simp)))))
      have cc := eOr a fun _ => eOr b fun _ => c
      by_cases hg : (roomB x m && wordB z) = true
      · rw [hg] at cc
        have e : ev sub G (.call ir [(.idx (.slot 0) (.cint 3)), (.slot 2)]) ρ = .ok (.bl (roomB u m)) := eCall (es2 (eIdx s0 (ci 3 _) (z := u) rfl) (y := .int m) (by rw [ev]; rfl)) (hr u m (hm u (by simp)))
        have f := sign_ev (sub := sub) (G := G) (ρ := ρ) (sg := sg) (hm y (by simp)) (eIdx s0 (ci 1 _) (z := y) rfl) (g := .slot 1) (by rw [ev]; rfl)
        have r := eAnd e fun _ => f
        refine run_def (ρ := ρ) rfl rfl ((runs_skip cc).trans (runs_ret ?_))
        show _ = R.ok (D.bl ((roomB x m && wordB z) && (roomB u m && signB y sg)))
        rw [hg, Bool.true_and]
        exact r
      · have hg : (roomB x m && wordB z) = false := Bool.eq_false_iff.mpr hg
        rw [hg] at cc
        have e : stepB (.tup [x, y, z, u]) sg m = false := by
          show ((roomB x m && wordB z) && _) = false
          rw [hg, Bool.false_and]
        rw [e]
        exact run_def (ρ := ρ) rfl rfl (runs_thenR cc (runs_ret (by rw [ev])))
    · have z : (((xs.length : Nat) : Int) == 4) = false := by
        have : ((xs.length : Nat) : Int) ≠ 4 := by omega
        simpa using this
      rw [z] at b
      rw [step_no hl]
      exact run_def (ρ := ρ) rfl rfl (runs_thenR (eOr a fun _ => eOr b (u := true) fun z => nomatch z) (runs_ret (by rw [ev])))
  · have ht : isT d = false := Bool.eq_false_iff.mpr ht
    rw [ht] at a
    rw [(not_tup ht m sg).2]
    exact run_def (ρ := ρ) rfl rfl (runs_thenR (eOr a (u := true) fun z => nomatch z) (runs_ret (by rw [ev])))
theorem sign_word {b : D} {sg : W} (hl : letB sg = true) (h : signB b sg = true) : wordB b = true := by
  unfold signB at h
  split at h
  · rename_i x
    have hx := of_decide_eq_true h
    show letB [x] = true
    unfold letB at hl ⊢
    rw [List.all_cons, List.all_nil, Bool.and_true]
    exact List.all_eq_true.mp hl x hx
  · cases h
def goodB (d : D) (sg : W) (m : Int) : Bool := if sg = [] then pairB d m else stepB d sg m
theorem goodD {inn ile : Nat} (hr : RoomG G inn) (hw : WordG G ile) {d : D} (h : tmB d = true) (sg : W) (hl : letB sg = true) (m : Int) : runDef sub G (D_l_good ile inn) [d, .int m, .str sg] = .ok (.bl (goodB d sg m), []) := by
  have ci : ∀ (i : Int) (ρ : Rho), ev sub G (.cint i) ρ = .ok (.int i) := fun i ρ => by rw [ev]
  let ρ : Rho := [some d, some (.int m), some (.str sg)]
  have s0 : ev sub G (.slot 0) ρ = .ok d := by rw [ev]; rfl
  have s2 : ev sub G (.slot 2) ρ = .ok (.str sg) := by rw [ev]; rfl
  have s1 : ev sub G (.slot 1) ρ = .ok (.int m) := by rw [ev]; rfl
  have a := eNot (eBlt (sub := sub) (G := G) (es1 s0) (isi_tup h))
  have fl : ev sub G (.cbl false) ρ = .ok (.bl false) := by rw [ev]
  have c2 : ev sub G (.cmp .eq (.slot 2) (.cstr [])) ρ = .ok (.bl (sg == [])) := eCmp s2 (y := .str []) (by rw [ev]) (eqS _ _)
  have n2 : ev sub G (.cmp .ne (.slot 2) (.cstr [])) ρ = .ok (.bl (!(sg == []))) := eCmp s2 (y := .str []) (by rw [ev]) (neS _ _)
  have ls : ev sub G (.lst [(.cint 2), (.cint 4)]) ρ = .ok (.lst [.int 2, .int 4]) := eLst (es2 (ci 2 _) (ci 4 _))
  by_cases ht : isT d = true
  · rw [ht] at a
    cases d <;> first | (cases ht; done) | skip
    rename_i xs
    have hm := (tm_tup h).2
    have ln : ev sub G (.blt .len [(.slot 0)]) ρ = .ok (.int (xs.length : Nat)) := eBlt (es1 s0) (tup_len xs)
    by_cases hs : sg = []
    · have e0 : (sg == []) = true := by rw [hs]; rfl
      rw [e0] at c2 n2
      have k : ev sub G (.idx (.lst [(.cint 2), (.cint 4)]) (.blt .toInt [(.cmp .ne (.slot 2) (.cstr []))])) ρ = .ok (.int 2) := eIdx ls (eBlt (es1 n2) (z := .int 0) rfl) rfl
      have b := eCmp (op := .ne) ln k (neI _ _)
      have g : goodB (.tup xs) sg m = pairB (.tup xs) m := if_pos hs
      rw [g]
      by_cases hl2 : xs.length = 2
      · obtain ⟨x, y, rfl⟩ := two_of hl2
        have c : ev sub G (.call inn [(.idx (.slot 0) (.cint 0)), (.slot 1)]) ρ = .ok (.bl (roomB x m)) := eCall (es2 (eIdx s0 (ci 0 _) (z := x) rfl) s1) (hr x m (hm x (by simp)))
        have e : ev sub G (.call ile [(.idx (.slot 0) (.cint 1))]) ρ = .ok (.bl (wordB y)) := eCall (es1 (eIdx s0 (ci 1 _) (z := y) rfl)) (hw y (hm y (by simp)))
        have r := eAnd c fun _ => e
        exact run_def (ρ := ρ) rfl rfl ((runs_skip (eOr a fun _ => b)).trans (runs_thenR c2 (runs_ret r)))
      · rw [pair_no hl2]
        have z : (((xs.length : Nat) : Int) == 2) = false := by
          have : ((xs.length : Nat) : Int) ≠ 2 := by omega
          simpa using this
        rw [z] at b
        exact run_def (ρ := ρ) rfl rfl (runs_thenR (eOr a fun _ => b) (runs_ret fl))
    · have e0 : (sg == []) = false := by simpa using hs
      rw [e0] at c2 n2
      have k : ev sub G (.idx (.lst [(.cint 2), (.cint 4)]) (.blt .toInt [(.cmp .ne (.slot 2) (.cstr []))])) ρ = .ok (.int 4) := eIdx ls (eBlt (es1 n2) (z := .int 1) rfl) rfl
      have b := eCmp (op := .ne) ln k (neI _ _)
      have g : goodB (.tup xs) sg m = stepB (.tup xs) sg m := if_neg hs
      rw [g]
      by_cases hl4 : xs.length = 4
      · obtain ⟨x, y, z, u, rfl⟩ := four_of hl4
        have v : stepB (.tup [x, y, z, u]) sg m = ((roomB x m && wordB z) && (roomB u m && signB y sg)) := rfl
        rw [v]
        have hy := hm y (by simp)
        have c : ev sub G (.not (.call inn [(.idx (.slot 0) (.cint 0)), (.slot 1)])) ρ = .ok (.bl (!roomB x m)) := eNot (eCall (es2 (eIdx s0 (ci 0 _) (z := x) rfl) s1) (hr x m (hm x (by simp))))
        have iy : ev sub G (.idx (.slot 0) (.cint 1)) ρ = .ok y := eIdx s0 (ci 1 _) rfl
        have e : ev sub G (.not (.call ile [(.idx (.slot 0) (.cint 1))])) ρ = .ok (.bl (!wordB y)) := eNot (eCall (es1 iy) (hw y hy))
        have pre : ∀ {o : Out}, runs sub G [.iff (.or (.not (.call inn [(.idx (.slot 0) (.cint 0)), (.slot 1)])) (.or (.not (.call ile [(.idx (.slot 0) (.cint 1))])) (.cmp .ne (.blt .len [(.idx (.slot 0) (.cint 1))]) (.cint 1)))) [.ret (.cbl false)] [], .ret (.and (.cmp .isin (.idx (.slot 0) (.cint 1)) (.slot 2)) (.and (.call ile [(.idx (.slot 0) (.cint 2))]) (.call inn [(.idx (.slot 0) (.cint 3)), (.slot 1)])))] ρ = o → runs sub G (D_l_good ile inn).body ρ = o := fun {o} q => (runs_skip (eOr a fun _ => b)).trans ((runs_skip c2).trans q)
        by_cases hx : roomB x m = true
        · rw [hx] at c
          rw [hx, Bool.true_and]
          by_cases hwy : wordB y = true
          · rw [hwy] at e
            cases y <;> first | (cases hwy; done) | skip
            rename_i w
            have lw : ev sub G (.cmp .ne (.blt .len [(.idx (.slot 0) (.cint 1))]) (.cint 1)) ρ = .ok (.bl (!(((w.length : Nat) : Int) == 1))) := eCmp (eBlt (es1 iy) (len_str (by have := str_len hy; unfold lim; omega))) (ci 1 _) (neI _ _)
            by_cases h1 : w.length = 1
            · obtain ⟨q, rfl⟩ := one_of h1
              have f1 : ev sub G (.cmp .isin (.idx (.slot 0) (.cint 1)) (.slot 2)) ρ = .ok (.bl (sg.contains q)) := eCmp iy s2 rfl
              have f2 : ev sub G (.call ile [(.idx (.slot 0) (.cint 2))]) ρ = .ok (.bl (wordB z)) := eCall (es1 (eIdx s0 (ci 2 _) (z := z) rfl)) (hw z (hm z (by simp)))
              have f3 : ev sub G (.call inn [(.idx (.slot 0) (.cint 3)), (.slot 1)]) ρ = .ok (.bl (roomB u m)) := eCall (es2 (eIdx s0 (ci 3 _) (z := u) rfl) s1) (hr u m (hm u (by simp)))
              have r := eAnd f1 fun _ => eAnd f2 fun _ => f3
              have e2 : (sg.contains q && (wordB z && roomB u m)) = (wordB z && (roomB u m && signB (.str [q]) sg)) := by
                have : signB (.str [q]) sg = sg.contains q := by
                  show decide (q ∈ sg) = _
                  simp
                rw [this]
                cases sg.contains q <;> cases wordB z <;> cases roomB u m <;> rfl
              rw [e2] at r
              exact run_def (ρ := ρ) rfl rfl (pre ((runs_skip (eOr c fun _ => eOr e fun _ => lw)).trans (runs_ret r)))
            · have n : signB (.str w) sg = false := by
                unfold signB
                split
                · rename_i e
                  injection e with e
                  subst e
                  exact absurd rfl h1
                · rfl
              have z1 : (((w.length : Nat) : Int) == 1) = false := by
                have : ((w.length : Nat) : Int) ≠ 1 := by omega
                simpa using this
              rw [z1] at lw
              rw [n, Bool.and_false, Bool.and_false]
              exact run_def (ρ := ρ) rfl rfl (pre (runs_thenR (eOr c fun _ => eOr e fun _ => lw) (runs_ret fl)))
          · have hwy : wordB y = false := Bool.eq_false_iff.mpr hwy
            rw [hwy] at e
            have n : signB y sg = false := Bool.eq_false_iff.mpr fun q => by
              rw [sign_word hl q] at hwy
              cases hwy
            rw [n, Bool.and_false, Bool.and_false]
            exact run_def (ρ := ρ) rfl rfl (pre (runs_thenR (eOr c fun _ => eOr e (u := true) fun z => nomatch z) (runs_ret fl)))
        · have hx : roomB x m = false := Bool.eq_false_iff.mpr hx
          rw [hx] at c
          rw [hx, Bool.false_and, Bool.false_and]
          exact run_def (ρ := ρ) rfl rfl (pre (runs_thenR (eOr c (u := true) fun z => nomatch z) (runs_ret fl)))
      · rw [step_no hl4]
        have z : (((xs.length : Nat) : Int) == 4) = false := by
          have : ((xs.length : Nat) : Int) ≠ 4 := by omega
          simpa using this
        rw [z] at b
        exact run_def (ρ := ρ) rfl rfl (runs_thenR (eOr a fun _ => b) (runs_ret fl))
  · have ht : isT d = false := Bool.eq_false_iff.mpr ht
    rw [ht] at a
    have g : goodB d sg m = false := by
      unfold goodB
      split
      · exact (not_tup ht m sg).1
      · exact (not_tup ht m sg).2
    rw [g]
    exact run_def (ρ := ρ) rfl rfl (runs_thenR (eOr a (u := true) fun z => nomatch z) (runs_ret fl))
def signsB : D → Bool
  | .str w => letB w && (decide (0 < w.length) && decide w.Nodup)
  | _ => false
theorem are_signsD {iw : Nat} (hw : WordG G iw) {d : D} (h : tmB d = true) : runDef sub G (D_are_signs iw) [d] = .ok (.bl (signsB d), []) := by
  by_cases hs : isS d = true
  · cases d <;> first | (cases hs; done) | skip
    rename_i w
    have hlw := str_len h
    have s0 : ev sub G (.slot 0) (entry 1 [.str w]) = .ok (.str w) := by rw [ev]; rfl
    have a : ev sub G (.call iw [(.slot 0)]) (entry 1 [.str w]) = .ok (.bl (letB w)) := eCall (es1 s0) (hw _ h)
    have ln := len_str (sub := sub) (s := w) (by unfold lim; omega)
    have hl : w.length < 4000 := by omega
    have := eAnd a fun _ => eAnd (eCmp (intC (s := 0)) (eBlt (es1 s0) ln) (show cmpD .lt (.int 0) (.int w.length) = .ok (.bl (decide ((0 : Int) < w.length))) from rfl)) fun _ => eCmp (eBlt (es1 s0) (show bltD sub .lenSetT [.str w] = .ok (.int (dedup (w.map fun c => .str [c])).length) from if_pos hl)) (eBlt (es1 s0) ln) (eqI' _ _)
    have e1 : decide ((0 : Int) < w.length) = decide (0 < w.length) := decide_eq_decide.mpr (by omega)
    have e2 : decide (((dedup (w.map fun c => D.str [c])).length : Int) = w.length) = decide w.Nodup := by
      rw [← dedup_w]
      exact decide_eq_decide.mpr (by omega)
    rw [e1, e2] at this
    exact run_def rfl rfl (runs_ret this)
  · have w : wordB d = false := by cases d <;> first | rfl | exact absurd rfl hs
    have a : ev sub G (.call iw [(.slot 0)]) (entry 1 [d]) = .ok (.bl (wordB d)) := eCall (es1 (x := d) (by rw [ev]; rfl)) (hw d h)
    rw [w] at a
    have r : signsB d = false := by cases d <;> first | rfl | exact absurd rfl hs
    rw [r]
    exact run_def (ρ := entry 1 [d]) rfl rfl (runs_ret (eAnd a (u := false) fun z => nomatch z))
end
end L2.Py.C11

set_option maxRecDepth 100000
set_option maxHeartbeats 2000000
namespace L2.Py.C11
open PySem PySem.Spec PyProof.Rows TL
def rowsOf : D → List D
  | .lst xs => xs
  | _ => []
def sgOf : D → W
  | .str w => w
  | _ => []
def rmOf : D → Int
  | .int i => i
  | _ => 0
def onceB (xs : List D) : Bool := decide (((dedup xs).length : Int) = xs.length)
def validD (d : D) : Bool := match d with
  | .tup [x0, x1, x2, x3, x4] => signsB x0 && (roomB x1 201 && ((isL x2 && (isL x3 && isL x4)) && ((rowsOf x2 ++ rowsOf x4).all (fun p => pairB p (rmOf x1)) && ((rowsOf x3).all (fun s => stepB s (sgOf x0) (rmOf x1)) && (onceB (rowsOf x2) && (onceB (rowsOf x3) && onceB (rowsOf x4)))))))
  | _ => false
theorem pair_of {d : D} {m : Int} (h : pairB d m = true) : ∃ p : Pr, d = dPr p := by
  unfold pairB at h
  split at h
  · rename_i a b
    rw [Bool.and_eq_true] at h
    cases a <;> first | (cases h.1; done) | skip
    cases b <;> first | (cases h.2; done) | skip
    rename_i i w
    exact ⟨(i, w), rfl⟩
  · cases h
theorem step_of {d : D} {m : Int} {sg : W} (h : stepB d sg m = true) : ∃ s : Sp4, d = dSt s := by
  unfold stepB at h
  split at h
  · rename_i a b c e
    rw [Bool.and_eq_true, Bool.and_eq_true, Bool.and_eq_true] at h
    obtain ⟨⟨h1, h2⟩, h3, h4⟩ := h
    cases a <;> first | (cases h1; done) | skip
    cases c <;> first | (cases h2; done) | skip
    cases e <;> first | (cases h3; done) | skip
    unfold signB at h4
    split at h4
    · exact ⟨(_, [_], _, _), rfl⟩
    · cases h4
  · cases h
theorem five_of {xs : List D} (h : xs.length = 5) : ∃ a b c d e, xs = [a, b, c, d, e] := by
  match xs, h with
  | [a, b, c, d, e], _ => exact ⟨a, b, c, d, e, rfl⟩
theorem valid_no {xs : List D} (h : xs.length ≠ 5) : validD (.tup xs) = false := by
  unfold validD
  split
  · rename_i e
    injection e with e
    subst e
    exact absurd rfl h
  · rfl
theorem valid_not {d : D} (h : isT d = false) : validD d = false := by
  cases d <;> first | rfl | cases h
theorem isL_of {d : D} (h : isL d = true) : d = .lst (rowsOf d) := by
  cases d <;> first | rfl | cases h
theorem keyT_of {xs : List D} (h : ∀ d ∈ xs, isKeyT d = true) : (xs.all isKeyT || (getInts xs).isSome) = true := by
  rw [List.all_eq_true.mpr h]
  rfl
section
variable {sub : Sub} {G : Gam}
def StepG (G : Gam) (i : Nat) : Prop := ∀ (d : D) (sg : W) (m : Int), tmB d = true → G i [d, .str sg, .int m] = .ok (.bl (stepB d sg m), [])
def SignsG (G : Gam) (i : Nat) : Prop := ∀ d : D, tmB d = true → G i [d] = .ok (.bl (signsB d), [])
theorem lenSet_run {xs : List D} (hl : xs.length ≤ 1000) (h : ∀ d ∈ xs, isKeyT d = true) : bltD sub .lenSet [.lst xs] = .ok (.int (dedup xs).length) := by
  show (if decide (xs.length < 1200) && (xs.all isKeyT || (getInts xs).isSome) then R.ok (D.int (dedup xs).length) else .stk) = _
  rw [keyT_of h, decide_eq_true (by omega)]
  rfl
theorem is_scribeD {ir ia ip it : Nat} (ha : SignsG G ia) (hr : RoomG G ir) (hp : PairG G ip) (ht : StepG G it) {d : D} (h : tmB d = true) : runDef sub G (D_is_scribe ir ia ip it) [d] = .ok (.bl (validD d), []) := by
  have ci : ∀ (i : Int) (ρ : Rho), ev sub G (.cint i) ρ = .ok (.int i) := fun i ρ => by rw [ev]
  let ρ0 : Rho := entry 9 [d]
  have s0 : ev sub G (.slot 0) ρ0 = .ok d := by rw [ev]; rfl
  have fl : ∀ ρ : Rho, ev sub G (.cbl false) ρ = .ok (.bl false) := fun ρ => by rw [ev]
  have a := eNot (eBlt (sub := sub) (G := G) (es1 s0) (isi_tup h))
  by_cases htp : isT d = true
  case neg =>
    have htp : isT d = false := Bool.eq_false_iff.mpr htp
    rw [htp] at a
    rw [valid_not htp]
    exact run_def (ρ := ρ0) rfl rfl (runs_thenR (eOr a (u := true) fun z => nomatch z) (runs_ret (fl _)))
  rw [htp] at a
  cases d <;> first | (cases htp; done) | skip
  rename_i xs
  have b : ev sub G (.cmp .ne (.blt .len [(.slot 0)]) (.cint 5)) ρ0 = .ok (.bl (!(((xs.length : Nat) : Int) == 5))) := eCmp (eBlt (es1 s0) (tup_len xs)) (ci 5 _) (neI _ _)
  by_cases hl : xs.length = 5
  case neg =>
    have z : (((xs.length : Nat) : Int) == 5) = false := by
      have : ((xs.length : Nat) : Int) ≠ 5 := by omega
      simpa using this
    rw [z] at b
    rw [valid_no hl]
    exact run_def (ρ := ρ0) rfl rfl (runs_thenR (eOr a fun _ => eOr b (u := true) fun z => nomatch z) (runs_ret (fl _)))
  obtain ⟨x0, x1, x2, x3, x4, rfl⟩ := five_of hl
  have hm := (tm_tup h).2
  have h0 := hm x0 (by simp)
  have h1 := hm x1 (by simp)
  have h2 := hm x2 (by simp)
  have h3 := hm x3 (by simp)
  have h4 := hm x4 (by simp)
  have c0 : ev sub G (.or (.not (.blt (.isi [.tuple]) [(.slot 0)])) (.or (.cmp .ne (.blt .len [(.slot 0)]) (.cint 5)) (.not (.call ia [(.idx (.slot 0) (.cint 0))])))) ρ0 = .ok (.bl (!signsB x0)) := by
    have r := eOr a fun _ => eOr b fun _ => eNot (eCall (es1 (eIdx s0 (ci 0 _) (z := x0) rfl)) (ha x0 h0))
    exact r
  have vd : validD (.tup [x0, x1, x2, x3, x4]) = (signsB x0 && (roomB x1 201 && ((isL x2 && (isL x3 && isL x4)) && ((rowsOf x2 ++ rowsOf x4).all (fun p => pairB p (rmOf x1)) && ((rowsOf x3).all (fun s => stepB s (sgOf x0) (rmOf x1)) && (onceB (rowsOf x2) && (onceB (rowsOf x3) && onceB (rowsOf x4)))))))) := rfl
  rw [vd]
  cases g0 : signsB x0 with
  | false =>
    rw [g0] at c0
    exact run_def (ρ := ρ0) rfl rfl (runs_thenR c0 (runs_ret (fl _)))
  | true =>
    rw [g0] at c0
    obtain ⟨sg, rfl⟩ : ∃ sg, x0 = .str sg := by
      cases x0 <;> first | exact ⟨_, rfl⟩ | cases g0
    let env : Option D × Option D × Option D → Rho := fun o => [some (.tup [.str sg, x1, x2, x3, x4]), some (.str sg), some x1, some x2, some x3, some x4, o.1, o.2.1, o.2.2]
    have pre : ∀ {d : D} {ρ' : Rho}, runs sub G (D_is_scribe ir ia ip it).body.tail.tail (env (none, none, none)) = .ret d ρ' → runDef sub G (D_is_scribe ir ia ip it) [.tup [.str sg, x1, x2, x3, x4]] = .ok (d, []) := fun {d ρ'} h => run_def rfl rfl ((runs_skip c0).trans ((runs_asgT (ds := [.str sg, x1, x2, x3, x4]) rfl rfl).trans h))
    have c1 : ev sub G (.not (.call ir [(.slot 2), (.bin .add (.cint 200) (.cint 1))])) (env (none, none, none)) = .ok (.bl (!roomB x1 201)) :=
      eNot (eCall (es2 (a := .slot 2) (x := x1) (by rw [ev]; rfl) (eBin (ci 200 _) (ci 1 _) (d_add 200 1))) (hr x1 201 h1))
    cases g1 : roomB x1 201 with
    | false =>
      rw [g1] at c1
      exact pre (runs_thenR c1 (runs_ret (fl _)))
    | true =>
      rw [g1] at c1
      obtain ⟨rm, rfl⟩ : ∃ rm, x1 = .int rm := by
        cases x1 <;> first | exact ⟨_, rfl⟩ | cases g1
      have lp1 := allLoop (f := fun d : D => d) (bd := fun d r => bindFl false false [6] d r) (b := fun r => runs sub G (B_is_scribe_1 ir ia ip it) r) (ρ := env) (q := isL) [x2, x3, x4] (fun x hx o => by
        have hxt : tmB x = true := by
          rcases List.mem_cons.mp hx with rfl | hx
          · exact h2
          · rcases List.mem_cons.mp hx with rfl | hx
            · exact h3
            · rw [List.mem_singleton.mp hx]; exact h4
        have c := eNot (eBlt (sub := sub) (G := G) (ρ := env (some x, o.2.1, o.2.2)) (es1 (a := .slot 6) (x := x) (by rw [ev]; rfl)) (isi_lst hxt))
        refine ⟨env (some x, o.2.1, o.2.2), (some x, o.2.1, o.2.2), rfl, fun h => ?_, fun h => ?_⟩
        · rw [h] at c; exact (runs_skip c).trans (by rw [runs])
        · rw [h] at c; exact ⟨_, runs_thenR c (runs_ret (fl _))⟩) (none, none, none)
      have e1 : evs sub G [(.lst [(.slot 3), (.slot 4), (.slot 5)])] (env (none, none, none)) = .ok [.lst [x2, x3, x4]] := es1 (eLst (es3 (by rw [ev]; rfl) (by rw [ev]; rfl) (by rw [ev]; rfl)))
      have al : [x2, x3, x4].all isL = (isL x2 && (isL x3 && isL x4)) := by
        rw [List.all_cons, List.all_cons, List.all_cons, List.all_nil, Bool.and_true]
      rw [← al]
      rcases lp1 with ⟨q1, o1, lp1⟩ | ⟨q1, ρ2, lp1⟩
      rotate_left
      · rw [q1]
        exact pre ((runs_skip c1).trans (runs_frhR e1 rfl lp1))
      rw [q1]
      rw [al, Bool.and_eq_true, Bool.and_eq_true] at q1
      have r2 := isL_of q1.1
      have r3 := isL_of q1.2.1
      have r4 := isL_of q1.2.2
      generalize hB : rowsOf x2 = bs at r2 ⊢
      generalize hT : rowsOf x3 = ts at r3 ⊢
      generalize hN : rowsOf x4 = ns at r4 ⊢
      subst r2 r3 r4
      obtain ⟨lb, mb⟩ := tm_lst h2
      obtain ⟨lt, mt⟩ := tm_lst h3
      obtain ⟨ln, mn⟩ := tm_lst h4
      have ad : binD .add (.lst bs) (.lst ns) = .ok (.lst (bs ++ ns)) := by
        show (if bs.length + ns.length ≤ lim then R.ok (D.lst (bs ++ ns)) else .stk) = _
        rw [if_pos (by unfold lim; omega)]
      have lp2 := allLoop (f := fun d : D => d) (bd := fun d r => bindFl false false [7] d r) (b := fun r => runs sub G (B_is_scribe_2 ir ia ip it) r) (ρ := env) (q := fun p => pairB p rm) (bs ++ ns) (fun p hpm o => by
        have pt : tmB p = true := (List.mem_append.mp hpm).elim (mb p) (mn p)
        have c : ev sub G (.not (.call ip [(.slot 7), (.slot 2)])) (env (o.1, some p, o.2.2)) = .ok (.bl (!pairB p rm)) := eNot (eCall (es2 (a := .slot 7) (x := p) (by rw [ev]; rfl) (b := .slot 2) (y := .int rm) (by rw [ev]; rfl)) (hp p rm pt))
        refine ⟨env (o.1, some p, o.2.2), (o.1, some p, o.2.2), rfl, fun h => ?_, fun h => ?_⟩
        · rw [h] at c; exact (runs_skip c).trans (by rw [runs])
        · rw [h] at c; exact ⟨_, runs_thenR c (runs_ret (fl _))⟩) o1
      rw [List.map_id'] at lp1 lp2
      have e2 : evs sub G [(.bin .add (.slot 3) (.slot 5))] (env o1) = .ok [.lst (bs ++ ns)] := es1 (eBin (x := .lst bs) (y := .lst ns) (by rw [ev]; rfl) (by rw [ev]; rfl) ad)
      have pre2 : ∀ {o : Out}, runs sub G (D_is_scribe ir ia ip it).body.tail.tail.tail.tail (env o1) = o → runs sub G (D_is_scribe ir ia ip it).body.tail.tail (env (none, none, none)) = o := fun {o} h => (runs_skip c1).trans ((runs_frhN e1 rfl lp1).trans h)
      have hrm : rmOf (.int rm) = rm := rfl
      have hsg : sgOf (.str sg) = sg := rfl
      rw [hrm, hsg]
      rcases lp2 with ⟨q2, o2, lp2⟩ | ⟨q2, ρ2, lp2⟩
      rotate_left
      · rw [q2]
        exact pre (pre2 (runs_frhR e2 rfl lp2))
      rw [q2]
      have lp3 := allLoop (f := fun d : D => d) (bd := fun d r => bindFl false false [8] d r) (b := fun r => runs sub G (B_is_scribe_3 ir ia ip it) r) (ρ := env) (q := fun s => stepB s sg rm) ts (fun p hpm o => by
        have c : ev sub G (.not (.call it [(.slot 8), (.slot 1), (.slot 2)])) (env (o.1, o.2.1, some p)) = .ok (.bl (!stepB p sg rm)) := eNot (eCall (es3 (a := .slot 8) (x := p) (by rw [ev]; rfl) (b := .slot 1) (y := .str sg) (by rw [ev]; rfl) (c := .slot 2) (z := .int rm) (by rw [ev]; rfl)) (ht p sg rm (mt p hpm)))
        refine ⟨env (o.1, o.2.1, some p), (o.1, o.2.1, some p), rfl, fun h => ?_, fun h => ?_⟩
        · rw [h] at c; exact (runs_skip c).trans (by rw [runs])
        · rw [h] at c; exact ⟨_, runs_thenR c (runs_ret (fl _))⟩) o2
      rw [List.map_id'] at lp3
      have e3 : evs sub G [(.slot 4)] (env o2) = .ok [.lst ts] := es1 (by rw [ev]; rfl)
      have pre3 : ∀ {o : Out}, runs sub G (D_is_scribe ir ia ip it).body.tail.tail.tail.tail.tail (env o2) = o → runs sub G (D_is_scribe ir ia ip it).body.tail.tail.tail.tail (env o1) = o := fun {o} h => (runs_frhN e2 rfl lp2).trans h
      rcases lp3 with ⟨q3, o3, lp3⟩ | ⟨q3, ρ2, lp3⟩
      rotate_left
      · rw [q3]
        exact pre (pre2 (pre3 (runs_frhR e3 rfl lp3)))
      rw [q3]
      have kb : ∀ d ∈ bs, isKeyT d = true := fun d hd => by
        obtain ⟨p, rfl⟩ := pair_of (List.all_eq_true.mp q2 d (List.mem_append_left _ hd))
        rfl
      have kn : ∀ d ∈ ns, isKeyT d = true := fun d hd => by
        obtain ⟨p, rfl⟩ := pair_of (List.all_eq_true.mp q2 d (List.mem_append_right _ hd))
        rfl
      have kt : ∀ d ∈ ts, isKeyT d = true := fun d hd => by
        obtain ⟨p, rfl⟩ := step_of (List.all_eq_true.mp q3 d hd)
        rfl
      have one : ∀ (i : Nat) (xs : List D), xs.length ≤ 1000 → (∀ d ∈ xs, isKeyT d = true) → ev sub G (.slot i) (env o3) = .ok (.lst xs) → ev sub G (.cmp .eq (.blt .lenSet [(.slot i)]) (.blt .len [(.slot i)])) (env o3) = .ok (.bl (onceB xs)) := fun i xs hl hk hs =>
        eCmp (eBlt (es1 hs) (lenSet_run hl hk)) (eBlt (es1 hs) (len_lst xs)) (eqI' _ _)
      simp only [Bool.true_and]
      have fin := (eAnd (one 3 bs lb kb (by rw [ev]; rfl)) fun _ => eAnd (one 4 ts lt kt (by rw [ev]; rfl)) fun _ => one 5 ns ln kn (by rw [ev]; rfl))
      exact pre (pre2 (pre3 ((runs_frhN e3 rfl lp3).trans (runs_ret fin))))
end
end L2.Py.C11

set_option maxRecDepth 100000
set_option maxHeartbeats 4000000
namespace L2.Py
open PySem PySem.Spec PyProof.Rows TL
section
variable {sub : Sub} {G : Gam} {ρ : Rho}
end
end L2.Py

set_option maxRecDepth 100000
set_option maxHeartbeats 4000000
namespace L2.Py
open PySem PySem.Spec PyProof.Rows TL
section
variable {sub : Sub} {G : Gam} {ρ : Rho}
end
end L2.Py

set_option maxRecDepth 100000
set_option maxHeartbeats 4000000
namespace L2.Py
open PySem PySem.Spec PyProof.Rows TL PySem.NumText
end L2.Py

set_option maxRecDepth 100000
set_option maxHeartbeats 4000000
namespace L2.Py
open PySem PySem.Spec PyProof.Rows TL PySem.NumText
end L2.Py

set_option maxRecDepth 100000
set_option maxHeartbeats 4000000
namespace L2.Py
open PySem PySem.Spec PyProof.Rows TL PySem.NumText
section
variable {sub : Sub} {G : Gam} {ρ : Rho}
end
theorem Vd.up {S : Scr} {L M : Nat} (v : Vd L S) (h : L ≤ M) : Vd M S :=
  ⟨⟨v.sg.1, by have := v.sg.2.1; omega, v.sg.2.2⟩, v.rm, fun p hp => ⟨(v.bs p hp).1, (v.bs p hp).2.1, by have := (v.bs p hp).2.2; omega⟩, fun p hp => by
    obtain ⟨a, b, c, d⟩ := v.ss p hp
    exact ⟨a, b, ⟨c.1, by omega⟩, d⟩, fun p hp => ⟨(v.es p hp).1, (v.es p hp).2.1, by have := (v.es p hp).2.2; omega⟩, v.nb, v.ns, v.ne, v.ln⟩
end L2.Py

set_option maxRecDepth 100000
set_option maxHeartbeats 4000000
namespace L2.Py.C86
open PySem PySem.Spec PyProof.Rows TL PySem.NumText L2.Py
section
variable {sub : Sub} {G : Gam} {ρ : Rho}
end
end L2.Py.C86

set_option maxRecDepth 100000
set_option maxHeartbeats 4000000
namespace L2.Py.C86
open PySem PySem.Spec PyProof.Rows TL PySem.NumText L2.Py
section
variable {sub : Sub} {G : Gam} {ρ : Rho}
theorem isin_pr (p : Pr) (xs : List Pr) : cmpD .isin (dPr p) (.lst (xs.map dPr)) = .ok (.bl (decide (p ∈ xs))) := by
  show (inD (dPr p) (.lst (xs.map dPr)) >>= fun r => R.ok (D.bl r)) = _
  unfold inD
  dsimp only
  rw [show (dPr p).plain = true from plainN_pr p 19, show plainL (xs.map dPr) = true from plainL_of (fun p => plainN_pr p 19) xs, any_of eqv_pr]
  exact congrArg (fun b => R.ok (D.bl b)) (decide_eq_decide.mpr Iff.rfl)
theorem isin_st (p : Sp4) (xs : List Sp4) : cmpD .isin (dSt p) (.lst (xs.map dSt)) = .ok (.bl (decide (p ∈ xs))) := by
  show (inD (dSt p) (.lst (xs.map dSt)) >>= fun r => R.ok (D.bl r)) = _
  unfold inD
  dsimp only
  rw [show (dSt p).plain = true from plainN_st p 19, show plainL (xs.map dSt) = true from plainL_of (fun p => plainN_st p 19) xs, any_of eqv_st]
  exact congrArg (fun b => R.ok (D.bl b)) (decide_eq_decide.mpr Iff.rfl)
end
end L2.Py.C86

set_option maxRecDepth 100000
set_option maxHeartbeats 2000000
namespace L2.Py.C11
open PySem PySem.Spec PyProof.Rows TL
def B_l_due_1 (l_letters l_number l_good : Nat) : List S := [.iff (.or (.not (.call l_good [(.idx (.idx (.slot 0) (.slot 1)) (.slot 2)), (.idx (.slot 0) (.cint 1)), (.idx (.lst [(.cstr []), (.idx (.slot 0) (.cint 0))]) (.blt .toInt [(.cmp .eq (.slot 1) (.cint 3))]))])) (.cmp .isin (.idx (.idx (.slot 0) (.slot 1)) (.slot 2)) (.slcH (.idx (.slot 0) (.slot 1)) (.slot 2)))) [.ret (.cbl false)] []]
def B_l_due_2 (l_letters l_number l_good : Nat) : List S := [.iff (.not (.blt (.isi [.list]) [(.idx (.slot 0) (.slot 1))])) [.ret (.cbl false)] [], .frh false [2] false .range1 [(.blt .len [(.idx (.slot 0) (.slot 1))])] (B_l_due_1 l_letters l_number l_good)]
def D_l_due (l_letters l_number l_good : Nat) : Def := { nps := 1, nsl := 3, body := [
  .iff (.or (.not (.blt (.isi [.tuple]) [(.slot 0)])) (.or (.cmp .ne (.blt .len [(.slot 0)]) (.cint 5)) (.not (.call l_letters [(.idx (.slot 0) (.cint 0))])))) [.ret (.cbl false)] [],
  .iff (.or (.cmp .eq (.blt .len [(.idx (.slot 0) (.cint 0))]) (.cint 0)) (.or (.cmp .lt (.blt .lenSetT [(.idx (.slot 0) (.cint 0))]) (.blt .len [(.idx (.slot 0) (.cint 0))])) (.not (.call l_number [(.idx (.slot 0) (.cint 1)), (.cint 201)])))) [.ret (.cbl false)] [],
  .frh false [1] false .val [(.lst [(.cint 2), (.cint 3), (.cint 4)])] (B_l_due_2 l_letters l_number l_good),
  .ret (.cbl true)] }
theorem typed_of {α : Type} {g : α → D} {good : D → Bool} (ht : ∀ d, good d = true → ∃ p, d = g p) : ∀ {xs : List D}, xs.all good = true → ∃ B : List α, xs = B.map g
  | [], _ => ⟨[], rfl⟩
  | d :: xs, h => by
    rw [List.all_cons, Bool.and_eq_true] at h
    obtain ⟨p, rfl⟩ := ht d h.1
    obtain ⟨B, rfl⟩ := typed_of ht h.2
    exact ⟨p :: B, rfl⟩
theorem once_map {α : Type} [DecidableEq α] {g : α → D} (hg : ∀ p q, (g p).eqv (g q) = decide (p = q)) (B : List α) : onceB (B.map g) = decide B.Nodup := by
  unfold onceB
  rw [List.length_map]
  refine decide_eq_decide.mpr ?_
  rw [← (dedup_len hg B).2]
  omega
section
variable {sub : Sub} {G : Gam}
theorem due_loop {α : Type} [DecidableEq α] {g : α → D} (hg : ∀ p q, (g p).eqv (g q) = decide (p = q)) {good : D → Bool} (ht : ∀ d, good d = true → ∃ p, d = g p)
    {b : Rho → Out} {env : Option D → Rho} (hb : ∀ (i : Int) (o : Option D), bindFl false false [2] (.int i) (env o) = .ok (env (some (.int i)))) (rows : List D)
    (step : ∀ (P : List α) (d : D) (rest : List D), rows = P.map g ++ d :: rest → (good d = false → ∃ ρ2, b (env (some (.int (P.length : Nat)))) = .ret (.bl false) ρ2) ∧ (∀ p, d = g p → good d = true → (p ∈ P → ∃ ρ2, b (env (some (.int (P.length : Nat)))) = .ret (.bl false) ρ2) ∧ (p ∉ P → b (env (some (.int (P.length : Nat)))) = .next (env (some (.int (P.length : Nat))))))) :
    ∀ (rest : List D) (P : List α) (o : Option D), rows = P.map g ++ rest → P.Nodup → (∀ p ∈ P, good (g p) = true) →
      ((rows.all good && onceB rows) = true ∧ ∃ o', forR (fun d r => bindFl false false [2] d r) b (upto (P.length : Nat) rest.length) (env o) = .next (env o')) ∨ ((rows.all good && onceB rows) = false ∧ ∃ ρ2, forR (fun d r => bindFl false false [2] d r) b (upto (P.length : Nat) rest.length) (env o) = .ret (.bl false) ρ2)
  | [], P, o, e, hn, hgd => by
    rw [List.append_nil] at e
    refine .inl ⟨?_, o, rfl⟩
    rw [e, once_map hg, decide_eq_true hn, Bool.and_true, List.all_map]
    exact List.all_eq_true.mpr hgd
  | d :: rest, P, o, e, hn, hgd => by
    obtain ⟨s1, s2⟩ := step P d rest e
    have hd : d ∈ rows := by rw [e]; simp
    rw [List.length_cons, upto]
    cases hq : good d with
    | false =>
      obtain ⟨ρ2, r⟩ := s1 hq
      refine .inr ⟨?_, ρ2, ?_⟩
      · have : rows.all good = false := Bool.eq_false_iff.mpr fun z => by
          rw [List.all_eq_true.mp z d hd] at hq
          cases hq
        rw [this, Bool.false_and]
      · exact forR_ret (hb _ _) r
    | true =>
      obtain ⟨p, rfl⟩ := ht d hq
      obtain ⟨s3, s4⟩ := s2 p rfl hq
      by_cases hp : p ∈ P
      · obtain ⟨ρ2, r⟩ := s3 hp
        refine .inr ⟨?_, ρ2, forR_ret (hb _ _) r⟩
        cases ha : rows.all good with
        | false => rw [Bool.false_and]
        | true =>
          rw [Bool.true_and]
          have hr : rest.all good = true := List.all_eq_true.mpr fun x hx => List.all_eq_true.mp ha x (by rw [e]; simp [hx])
          obtain ⟨Q, rfl⟩ := typed_of ht hr
          have e2 : rows = (P ++ p :: Q).map g := by rw [e, List.map_append, List.map_cons]
          rw [e2, once_map hg]
          refine decide_eq_false fun z => ?_
          exact (List.nodup_append.mp z).2.2 p hp p List.mem_cons_self rfl
      · have r := s4 hp
        have e2 : rows = (P ++ [p]).map g ++ rest := by rw [e, List.map_append, List.append_assoc]; rfl
        have ih := due_loop hg ht hb rows step rest (P ++ [p]) (some (.int (P.length : Nat))) e2 (List.nodup_append.mpr ⟨hn, by simp, fun a ha b hb e => hp (by rw [List.mem_singleton.mp hb] at e; rw [← e]; exact ha)⟩) fun q hq2 => by
          rcases List.mem_append.mp hq2 with h | h
          · exact hgd q h
          · rw [List.mem_singleton.mp h]; exact hq
        rw [List.length_append, List.length_singleton] at ih
        have ec : ((P.length + 1 : Nat) : Int) = (P.length : Nat) + 1 := by omega
        rw [ec] at ih
        rw [forR_step (hb _ _) r]
        exact ih
theorem rg1' {n : Int} (h : 0 ≤ n ∧ n ≤ 1000) : itD .range1 [.int n] = .ok (upto 0 n.toNat) := if_pos (by unfold small62; simp; omega)
theorem rg1 {n : Nat} (h : n ≤ 1000) : itD .range1 [.int (n : Nat)] = .ok (upto 0 n) := by
  have := rg1' (n := (n : Nat)) (by omega)
  rw [Int.toNat_natCast] at this
  exact this
def GoodG (G : Gam) (i : Nat) : Prop := ∀ (d : D) (sg : W) (m : Int), tmB d = true → letB sg = true → G i [d, .int m, .str sg] = .ok (.bl (goodB d sg m), [])
theorem due_row {α : Type} [DecidableEq α] {g : α → D} (hg : ∀ p q, (g p).eqv (g q) = decide (p = q)) (hin : ∀ p (xs : List α), cmpD .isin (g p) (.lst (xs.map g)) = .ok (.bl (decide (p ∈ xs)))) (il inn ig : Nat) (hG : GoodG G ig) {sg sgk : W} (hk : letB sgk = true) {rm : Int} {x2 x3 x4 x : D} {k : Int} (hx : tmB x = true)
    (ht : ∀ d, goodB d sgk rm = true → ∃ p, d = g p) (h1 : idxD (.tup [.str sg, .int rm, x2, x3, x4]) (.int k) = .ok x) (hsk : sgk = if (k == 3) = true then sg else []) (o : Option D) :
    ((isL x && ((rowsOf x).all (fun d => goodB d sgk rm) && onceB (rowsOf x))) = true ∧ ∃ o', runs sub G (B_l_due_2 il inn ig) [some (.tup [.str sg, .int rm, x2, x3, x4]), some (.int k), o] = .next [some (.tup [.str sg, .int rm, x2, x3, x4]), some (.int k), o']) ∨
      ((isL x && ((rowsOf x).all (fun d => goodB d sgk rm) && onceB (rowsOf x))) = false ∧ ∃ ρ2, runs sub G (B_l_due_2 il inn ig) [some (.tup [.str sg, .int rm, x2, x3, x4]), some (.int k), o] = .ret (.bl false) ρ2) := by
  have ci : ∀ (i : Int) (ρ : Rho), ev sub G (.cint i) ρ = .ok (.int i) := fun i ρ => by rw [ev]
  have fl : ∀ ρ : Rho, ev sub G (.cbl false) ρ = .ok (.bl false) := fun ρ => by rw [ev]
  let d5 : D := .tup [.str sg, .int rm, x2, x3, x4]
  let env : Option D → Rho := fun o => [some d5, some (.int k), o]
  have s0 : ∀ o, ev sub G (.slot 0) (env o) = .ok d5 := fun o => by rw [ev]; rfl
  have s1 : ∀ o, ev sub G (.slot 1) (env o) = .ok (.int k) := fun o => by rw [ev]; rfl
  have sx : ∀ o, ev sub G (.idx (.slot 0) (.slot 1)) (env o) = .ok x := fun o => eIdx (s0 o) (s1 o) h1
  have a := eNot (eBlt (sub := sub) (G := G) (es1 (sx o)) (isi_lst hx))
  cases hl : isL x with
  | false =>
    rw [hl] at a
    exact .inr ⟨by rw [Bool.false_and], _, runs_thenR a (runs_ret (fl _))⟩
  | true =>
    rw [hl] at a
    rw [Bool.true_and]
    have hr := isL_of hl
    generalize rowsOf x = rows at hr ⊢
    subst hr
    obtain ⟨ll, hm⟩ := tm_lst hx
    have lp := due_loop (b := fun r => runs sub G (B_l_due_1 il inn ig) r) (env := env) hg (good := fun d => goodB d sgk rm) ht (fun i o => rfl) rows (fun P d rest e => by
      let ρ : Rho := env (some (.int (P.length : Nat)))
      have at1 : ev sub G (.idx (.idx (.slot 0) (.slot 1)) (.slot 2)) ρ = .ok d := eIdx (sx _) (b := .slot 2) (y := .int (P.length : Nat)) (by rw [ev]; rfl) (by
        show atD rows _ = _
        refine atD_nat ?_
        rw [e, List.getElem?_append_right (by rw [List.length_map]; exact Nat.le_refl _), List.length_map, Nat.sub_self]
        rfl)
      have dm : tmB d = true := hm d (by rw [e]; simp)
      have sgE : ev sub G (.idx (.lst [(.cstr []), (.idx (.slot 0) (.cint 0))]) (.blt .toInt [(.cmp .eq (.slot 1) (.cint 3))])) ρ = .ok (.str sgk) := by
        have c := eCmp (op := .eq) (s1 (some (.int (P.length : Nat)))) (ci 3 ρ) (eqI _ _)
        have l : ev sub G (.lst [(.cstr []), (.idx (.slot 0) (.cint 0))]) ρ = .ok (.lst [.str [], .str sg]) := eLst (es2 (by rw [ev]) (eIdx (s0 _) (ci 0 _) rfl))
        rw [hsk]
        cases hk3 : (k == 3) with
        | true =>
          rw [hk3] at c
          exact eIdx l (eBlt (es1 c) (z := .int 1) rfl) rfl
        | false =>
          rw [hk3] at c
          exact eIdx l (eBlt (es1 c) (z := .int 0) rfl) rfl
      have gc : ev sub G (.not (.call ig [(.idx (.idx (.slot 0) (.slot 1)) (.slot 2)), (.idx (.slot 0) (.cint 1)), (.idx (.lst [(.cstr []), (.idx (.slot 0) (.cint 0))]) (.blt .toInt [(.cmp .eq (.slot 1) (.cint 3))]))])) ρ = .ok (.bl (!goodB d sgk rm)) := eNot (eCall (es3 at1 (eIdx (s0 _) (ci 1 _) (z := .int rm) rfl) sgE) (hG d sgk rm dm hk))
      refine ⟨fun hq => ?_, fun p hp hq => ?_⟩
      · have hq : goodB d sgk rm = false := hq
        rw [hq] at gc
        exact ⟨_, runs_thenR (eOr gc (u := true) fun z => nomatch z) (runs_ret (fl _))⟩
      · subst hp
        have hq : goodB (g p) sgk rm = true := hq
        rw [hq] at gc
        have sl : ev sub G (.slcH (.idx (.slot 0) (.slot 1)) (.slot 2)) ρ = .ok (.lst (P.map g)) := eSlcH (sx _) (l := .slot 2) (i := (P.length : Nat)) (by rw [ev]; rfl) (by
          show R.ok (D.lst (cutL rows none (some ((P.length : Nat) : Int)))) = _
          rw [cutH, e, List.take_left' (by rw [List.length_map])])
        have c := eOr gc fun _ => eCmp at1 sl (hin p P)
        refine ⟨fun hm => ?_, fun hm => ?_⟩
        · rw [decide_eq_true hm] at c
          exact ⟨_, runs_thenR c (runs_ret (fl _))⟩
        · rw [decide_eq_false hm] at c
          exact (runs_skip c).trans (by rw [runs])) rows [] o rfl List.nodup_nil (fun _ h => nomatch h)
    have it : itD .range1 [.int (rows.length : Nat)] = .ok (upto 0 rows.length) := rg1 ll
    have e2 : evs sub G [(.blt .len [(.idx (.slot 0) (.slot 1))])] (env o) = .ok [.int (rows.length : Nat)] := es1 (eBlt (es1 (sx o)) (len_lst rows))
    rcases lp with ⟨q, o', r⟩ | ⟨q, ρ2, r⟩
    · exact .inl ⟨q, o', (runs_skip a).trans ((runs_frhN e2 it r).trans (by rw [runs]))⟩
    · exact .inr ⟨q, ρ2, (runs_skip a).trans (runs_frhR e2 it r)⟩
theorem dd_lt (w : W) : decide (((dedup (w.map fun c => D.str [c])).length : Int) < (w.length : Nat)) = !decide w.Nodup := by
  have h := dedup_len (g := fun c : Nat => D.str [c]) (fun p q => by
    rw [eqv_str]
    simp) w
  by_cases hn : w.Nodup
  · rw [decide_eq_true hn, decide_eq_false (by have := h.2.mpr hn; omega)]
    rfl
  · rw [decide_eq_false hn, decide_eq_true (by
      have h1 := h.1
      have h2 : (dedup (w.map fun c => D.str [c])).length ≠ w.length := fun z => hn (h.2.mp z)
      omega)]
    rfl
theorem l_dueD {il inn ig : Nat} (hw : WordG G il) (hr : RoomG G inn) (hG : GoodG G ig) {d : D} (h : tmB d = true) : runDef sub G (D_l_due il inn ig) [d] = .ok (.bl (validD d), []) := by
  have ci : ∀ (i : Int) (ρ : Rho), ev sub G (.cint i) ρ = .ok (.int i) := fun i ρ => by rw [ev]
  have fl : ∀ ρ : Rho, ev sub G (.cbl false) ρ = .ok (.bl false) := fun ρ => by rw [ev]
  let ρ0 : Rho := entry 3 [d]
  have s0 : ev sub G (.slot 0) ρ0 = .ok d := by rw [ev]; rfl
  have a := eNot (eBlt (sub := sub) (G := G) (es1 s0) (isi_tup h))
  by_cases htp : isT d = true
  case neg =>
    have htp : isT d = false := Bool.eq_false_iff.mpr htp
    rw [htp] at a
    rw [valid_not htp]
    exact run_def (ρ := ρ0) rfl rfl (runs_thenR (eOr a (u := true) fun z => nomatch z) (runs_ret (fl _)))
  rw [htp] at a
  cases d <;> first | (cases htp; done) | skip
  rename_i xs
  have b : ev sub G (.cmp .ne (.blt .len [(.slot 0)]) (.cint 5)) ρ0 = .ok (.bl (!(((xs.length : Nat) : Int) == 5))) := eCmp (eBlt (es1 s0) (tup_len xs)) (ci 5 _) (neI _ _)
  by_cases hl : xs.length = 5
  case neg =>
    have z : (((xs.length : Nat) : Int) == 5) = false := by
      have : ((xs.length : Nat) : Int) ≠ 5 := by omega
      simpa using this
    rw [z] at b
    rw [valid_no hl]
    exact run_def (ρ := ρ0) rfl rfl (runs_thenR (eOr a fun _ => eOr b (u := true) fun z => nomatch z) (runs_ret (fl _)))
  obtain ⟨x0, x1, x2, x3, x4, rfl⟩ := five_of hl
  have hm := (tm_tup h).2
  have h0 := hm x0 (by simp)
  have h1 := hm x1 (by simp)
  have h2 := hm x2 (by simp)
  have h3 := hm x3 (by simp)
  have h4 := hm x4 (by simp)
  have i0 : ev sub G (.idx (.slot 0) (.cint 0)) ρ0 = .ok x0 := eIdx s0 (ci 0 _) rfl
  have c0 := eOr a fun _ => eOr b fun _ => eNot (eCall (es1 i0) (hw x0 h0))
  have vd : validD (.tup [x0, x1, x2, x3, x4]) = (signsB x0 && (roomB x1 201 && ((isL x2 && (isL x3 && isL x4)) && ((rowsOf x2 ++ rowsOf x4).all (fun p => pairB p (rmOf x1)) && ((rowsOf x3).all (fun s => stepB s (sgOf x0) (rmOf x1)) && (onceB (rowsOf x2) && (onceB (rowsOf x3) && onceB (rowsOf x4)))))))) := rfl
  rw [vd]
  by_cases hw0 : wordB x0 = true
  case neg =>
    have hw0 : wordB x0 = false := Bool.eq_false_iff.mpr hw0
    rw [hw0] at c0
    have : signsB x0 = false := by
      cases x0 <;> first | rfl | skip
      show (letB _ && _) = false
      rw [show letB _ = false from hw0, Bool.false_and]
    rw [this, Bool.false_and]
    exact run_def (ρ := ρ0) rfl rfl (runs_thenR c0 (runs_ret (fl _)))
  rw [hw0] at c0
  obtain ⟨sg, rfl⟩ : ∃ sg, x0 = .str sg := by
    cases x0 <;> first | exact ⟨_, rfl⟩ | cases hw0
  have hls : letB sg = true := hw0
  have hlen := str_len h0
  have ln : ev sub G (.blt .len [(.idx (.slot 0) (.cint 0))]) ρ0 = .ok (.int (sg.length : Nat)) := eBlt (es1 i0) (len_str (by unfold lim; omega))
  have d1 : ev sub G (.cmp .eq (.blt .len [(.idx (.slot 0) (.cint 0))]) (.cint 0)) ρ0 = .ok (.bl (((sg.length : Nat) : Int) == 0)) := eCmp ln (ci 0 _) (eqI _ _)
  have d2 : ev sub G (.cmp .lt (.blt .lenSetT [(.idx (.slot 0) (.cint 0))]) (.blt .len [(.idx (.slot 0) (.cint 0))])) ρ0 = .ok (.bl (!decide sg.Nodup)) := by
    rw [← dd_lt]
    exact eCmp (eBlt (es1 i0) (show bltD sub .lenSetT [.str sg] = .ok (.int (dedup (sg.map fun c => .str [c])).length) from if_pos (by omega))) ln (ltI _ _)
  have d3 : ev sub G (.not (.call inn [(.idx (.slot 0) (.cint 1)), (.cint 201)])) ρ0 = .ok (.bl (!roomB x1 201)) := eNot (eCall (es2 (eIdx s0 (ci 1 _) (z := x1) rfl) (ci 201 _)) (hr x1 201 h1))
  have c2 := eOr d1 fun _ => eOr d2 fun _ => d3
  have sB : signsB (.str sg) = !(((sg.length : Nat) : Int) == 0 || !decide sg.Nodup) := by
    show (letB sg && (decide (0 < sg.length) && decide sg.Nodup)) = _
    rw [hls, Bool.true_and, Bool.not_or, Bool.not_not]
    congr 1
    by_cases hz : sg.length = 0
    · rw [hz]; rfl
    · rw [decide_eq_true (by omega), show (((sg.length : Nat) : Int) == 0) = false by
        have : ((sg.length : Nat) : Int) ≠ 0 := by omega
        simpa using this]
      rfl
  cases hc : (((sg.length : Nat) : Int) == 0 || (!decide sg.Nodup || !roomB x1 201)) with
  | true =>
    rw [hc] at c2
    have : (signsB (.str sg) && roomB x1 201) = false := by
      rw [sB]
      revert hc
      cases (((sg.length : Nat) : Int) == 0) <;> cases decide sg.Nodup <;> cases roomB x1 201 <;> intro hc <;> first | rfl | cases hc
    rw [← Bool.and_assoc, this, Bool.false_and]
    exact run_def (ρ := ρ0) rfl rfl ((runs_skip c0).trans (runs_thenR c2 (runs_ret (fl _))))
  | false =>
    rw [hc] at c2
    have hb : (((sg.length : Nat) : Int) == 0) = false ∧ decide sg.Nodup = true ∧ roomB x1 201 = true := by
      revert hc
      cases (((sg.length : Nat) : Int) == 0) <;> cases decide sg.Nodup <;> cases roomB x1 201 <;> intro hc <;> first | exact ⟨rfl, rfl, rfl⟩ | cases hc
    obtain ⟨z1, z2, z3⟩ := hb
    rw [sB, z1, z2, z3]
    obtain ⟨rm, rfl⟩ : ∃ rm, x1 = .int rm := by
      cases x1 <;> first | exact ⟨_, rfl⟩ | cases z3
    have hne : sg ≠ [] := fun z => by
      rw [z] at z1
      cases z1
    let env : Int → Option D → Rho := fun k o => [some (.tup [.str sg, .int rm, x2, x3, x4]), some (.int k), o]
    have gp : ∀ m, (fun d => goodB d [] m) = fun d => pairB d m := fun m => funext fun d => if_pos rfl
    have gs : ∀ m, (fun d => goodB d sg m) = fun d => stepB d sg m := fun m => funext fun d => if_neg hne
    have r2 := due_row (sub := sub) (G := G) (g := dPr) eqv_pr (fun p xs => (C86.isin_pr p xs).trans (congrArg (fun b => R.ok (D.bl b)) (decide_eq_decide.mpr Iff.rfl))) il inn ig hG (sg := sg) (sgk := []) rfl (rm := rm) (x2 := x2) (x3 := x3) (x4 := x4) (x := x2) (k := 2) h2 (fun d hd => pair_of (m := rm) (by have := congrFun (gp rm) d; rw [← this]; exact hd)) rfl rfl
    have r3 := due_row (sub := sub) (G := G) (g := dSt) eqv_st (fun p xs => (C86.isin_st p xs).trans (congrArg (fun b => R.ok (D.bl b)) (decide_eq_decide.mpr Iff.rfl))) il inn ig hG (sg := sg) (sgk := sg) hls (rm := rm) (x2 := x2) (x3 := x3) (x4 := x4) (x := x3) (k := 3) h3 (fun d hd => step_of (m := rm) (sg := sg) (by have := congrFun (gs rm) d; rw [← this]; exact hd)) rfl rfl
    have r4 := due_row (sub := sub) (G := G) (g := dPr) eqv_pr (fun p xs => (C86.isin_pr p xs).trans (congrArg (fun b => R.ok (D.bl b)) (decide_eq_decide.mpr Iff.rfl))) il inn ig hG (sg := sg) (sgk := []) rfl (rm := rm) (x2 := x2) (x3 := x3) (x4 := x4) (x := x4) (k := 4) h4 (fun d hd => pair_of (m := rm) (by have := congrFun (gp rm) d; rw [← this]; exact hd)) rfl rfl
    rw [gp] at r2 r4
    rw [gs] at r3
    have e3 : evs sub G [(.lst [(.cint 2), (.cint 3), (.cint 4)])] ρ0 = .ok [.lst [.int 2, .int 3, .int 4]] := es1 (eLst (es3 (ci 2 _) (ci 3 _) (ci 4 _)))
    have hrm : rmOf (.int rm) = rm := rfl
    have hsg : sgOf (.str sg) = sg := rfl
    rw [hrm, hsg, List.all_append]
    have pre : ∀ {v : Bool} {ρ' : Rho}, runs sub G [.frh false [1] false .val [(.lst [(.cint 2), (.cint 3), (.cint 4)])] (B_l_due_2 il inn ig), .ret (.cbl true)] ρ0 = .ret (.bl v) ρ' → runDef sub G (D_l_due il inn ig) [.tup [.str sg, .int rm, x2, x3, x4]] = .ok (.bl v, []) := fun {v ρ'} q => run_def rfl rfl ((runs_skip c0).trans ((runs_skip c2).trans q))
    rcases r2 none with ⟨v2, o2, t2⟩ | ⟨v2, ρ2, t2⟩
    rotate_left
    · have : (isL x2 && ((rowsOf x2).all (fun d => pairB d rm) && onceB (rowsOf x2))) = false := v2
      refine (pre (v := false) (runs_frhR e3 rfl (forR_ret (ρ1 := env 2 none) rfl t2))).trans ?_
      congr 3
      revert this
      cases isL x2 <;> cases (rowsOf x2).all (fun d => pairB d rm) <;> cases onceB (rowsOf x2) <;> intro q <;> first | (cases q; done) | simp
    rcases r3 o2 with ⟨v3, o3, t3⟩ | ⟨v3, ρ2, t3⟩
    rotate_left
    · have : (isL x3 && ((rowsOf x3).all (fun d => stepB d sg rm) && onceB (rowsOf x3))) = false := v3
      refine (pre (v := false) (runs_frhR e3 rfl ((forR_step (ρ1 := env 2 none) rfl t2).trans (forR_ret (ρ1 := env 3 o2) rfl t3)))).trans ?_
      congr 3
      revert this
      cases isL x3 <;> cases (rowsOf x3).all (fun d => stepB d sg rm) <;> cases onceB (rowsOf x3) <;> intro q <;> first | (cases q; done) | simp
    rcases r4 o3 with ⟨v4, o4, t4⟩ | ⟨v4, ρ2, t4⟩
    rotate_left
    · have : (isL x4 && ((rowsOf x4).all (fun d => pairB d rm) && onceB (rowsOf x4))) = false := v4
      refine (pre (v := false) (runs_frhR e3 rfl ((forR_step (ρ1 := env 2 none) rfl t2).trans ((forR_step (ρ1 := env 3 o2) rfl t3).trans (forR_ret (ρ1 := env 4 o3) rfl t4))))).trans ?_
      congr 3
      revert this
      cases isL x4 <;> cases (rowsOf x4).all (fun d => pairB d rm) <;> cases onceB (rowsOf x4) <;> intro q <;> first | (cases q; done) | simp
    refine (pre (v := true) ((runs_frhN e3 rfl ((forR_step (ρ1 := env 2 none) rfl t2).trans ((forR_step (ρ1 := env 3 o2) rfl t3).trans ((forR_step (ρ1 := env 4 o3) rfl t4).trans rfl)))).trans (runs_ret (by rw [ev])))).trans ?_
    simp only [Bool.and_eq_true] at v2 v3 v4
    rw [v2.1, v2.2.1, v2.2.2, v3.1, v3.2.1, v3.2.2, v4.1, v4.2.1, v4.2.2]
    rfl
end
end L2.Py.C11

set_option maxRecDepth 100000
set_option maxHeartbeats 2000000
namespace L2.Py.C11
open PySem PySem.Spec PyProof.Rows TL
def D_l_bent_part : Def := { nps := 2, nsl := 4, body := [
  .asg 2 .fr (.bin .mod (.bin .fdiv (.slot 1) (.cint 7)) (.blt .len [(.slot 0)])),
  .asg 3 (.ow .fr) (.blt .list [(.slot 0)]),
  .iff (.blt (.isi [.str]) [(.idx (.slot 0) (.slot 2))]) [.put 3 [] (.slot 2) (.idx (.lst [(.bin .add (.idx (.slot 0) (.slot 2)) (.cstr [65])), (.cstr []), (.cstr [97, 49]), .cnon, (.bin .add (.idx (.slot 0) (.slot 2)) (.cstr [113])), (.cstr [97, 98]), (.cint 1)]) (.bin .mod (.slot 1) (.cint 7)))] [.put 3 [] (.slot 2) (.idx (.lst [(.bin .add (.idx (.slot 0) (.slot 2)) (.cint 1)), (.neg (.cint 1)), (.bin .add (.idx (.slot 0) (.slot 2)) (.bin .pow (.cint 10) (.cint 58))), (.cbl true), .cnon, (.cstr [97]), (.bin .sub (.neg (.cint 1)) (.idx (.slot 0) (.slot 2)))]) (.bin .mod (.slot 1) (.cint 7)))],
  .iff (.cmp .eq (.bin .mod (.bin .fdiv (.slot 1) (.cint 49)) (.cint 6)) (.cint 1)) [.asgF 3 (.ow .fr) (.bin .add (.slot 3) (.lst [(.cint 0)]))] [],
  .iff (.cmp .eq (.bin .mod (.bin .fdiv (.slot 1) (.cint 49)) (.cint 6)) (.cint 2)) [.asgF 3 (.ow .fr) (.slcH (.slot 3) (.neg (.cint 1)))] [],
  .iff (.cmp .eq (.bin .mod (.bin .fdiv (.slot 1) (.cint 49)) (.cint 6)) (.cint 3)) [.ret (.slot 3)] [],
  .ret (.blt .tuple [(.slot 3)])] }
def leafB : D → Bool
  | .int _ => true
  | .str w => decide (w.length ≤ 100)
  | _ => false
theorem tm_of_lst {xs : List D} (hl : xs.length ≤ 1000) (h : ∀ d ∈ xs, tmB d = true) : tmB (.lst xs) = true ∧ tmB (.tup xs) = true := by
  have : tmL xs = true := by
    clear hl
    induction xs with
    | nil => rfl
    | cons d ds ih =>
      rw [tmL, h d List.mem_cons_self, ih fun e he => h e (List.mem_cons_of_mem _ he)]
      rfl
  unfold tmB
  rw [this, decide_eq_true hl]
  exact ⟨rfl, rfl⟩
def lfB : D → Bool
  | .non => true
  | .bl _ => true
  | .int _ => true
  | .str w => decide (w.length ≤ 1000)
  | _ => false
theorem lf_tm {d : D} (h : lfB d = true) : tmB d = true := by
  cases d <;> first | rfl | exact h | cases h
theorem lf_noMut {d : D} (h : lfB d = true) : d.noMut = true := by
  cases d <;> first | rfl | cases h
theorem lf_own : ∀ {xs : List D}, (∀ d ∈ xs, lfB d = true) → ownAtL xs (fun _ => OT.fr) = true
  | [], _ => rfl
  | d :: xs, h => by
    have h1 := h d List.mem_cons_self
    rw [ownAtL, lf_own fun e he => h e (List.mem_cons_of_mem _ he)]
    cases d <;> first | rfl | cases h1
theorem leaf_lf {d : D} (h : leafB d = true) : lfB d = true := by
  cases d <;> first | rfl | (cases h; done) | skip
  rename_i w
  have : w.length ≤ 100 := of_decide_eq_true h
  exact decide_eq_true (by omega)
section
variable {sub : Sub} {G : Gam}
theorem idx_any {P : D → Prop} {xs : List D} {i : Int} (h0 : 0 ≤ i) (h1 : i < xs.length) (h : ∀ d ∈ xs, P d) : ∃ d, P d ∧ idxD (.lst xs) (.int i) = .ok d := by
  have hl : i.toNat < xs.length := by omega
  refine ⟨xs[i.toNat], h _ (List.getElem_mem hl), ?_⟩
  show atD xs i = _
  exact atD_some h0 (List.getElem?_eq_getElem hl)
theorem bent_part_run {xs : List D} (h0 : 0 < xs.length) (hl : xs.length ≤ 10) (hx : ∀ d ∈ xs, leafB d = true) (way : Int) : ∃ d', tmB d' = true ∧ runDef sub G D_l_bent_part [.tup xs, .int way] = .ok (d', []) := by
  have ci : ∀ (i : Int) (ρ : Rho), ev sub G (.cint i) ρ = .ok (.int i) := fun i ρ => by rw [ev]
  have cs : ∀ (w : W) (ρ : Rho), ev sub G (.cstr w) ρ = .ok (.str w) := fun w ρ => by rw [ev]
  have cn : ∀ (ρ : Rho), ev sub G .cnon ρ = .ok .non := fun ρ => by rw [ev]
  have ct : ∀ (ρ : Rho), ev sub G (.cbl true) ρ = .ok (.bl true) := fun ρ => by rw [ev]
  let st : Option D → Option D → Rho := fun o2 o3 => [some (.tup xs), some (.int way), o2, o3]
  have s0 : ∀ o2 o3, ev sub G (.slot 0) (st o2 o3) = .ok (.tup xs) := fun _ _ => by rw [ev]; rfl
  have s1 : ∀ o2 o3, ev sub G (.slot 1) (st o2 o3) = .ok (.int way) := fun _ _ => by rw [ev]; rfl
  have dv : ∀ (k : Int) (o2 o3), (0 < k ∧ k ≤ 1000) → ev sub G (.bin .fdiv (.slot 1) (.cint k)) (st o2 o3) = .ok (.int (way / k)) := fun k o2 o3 hk => eBin (s1 _ _) (ci k _) (d_fdiv hk.1 (by omega))
  have n0 : (0 : Int) < (xs.length : Nat) := by omega
  obtain ⟨j, hj⟩ : ∃ j : Int, j = way / 7 % (xs.length : Nat) := ⟨_, rfl⟩
  have j0 : 0 ≤ j := by rw [hj]; exact Int.emod_nonneg _ (by omega)
  have j1 : j < (xs.length : Nat) := by rw [hj]; exact Int.emod_lt_of_pos _ n0
  have q2 : ev sub G (.bin .mod (.bin .fdiv (.slot 1) (.cint 7)) (.blt .len [(.slot 0)])) (st none none) = .ok (.int j) := by
    rw [hj]
    exact eBin (dv 7 _ _ (by decide)) (eBlt (es1 (s0 _ _)) (tup_len xs)) (d_mod n0)
  have hjl : j.toNat < xs.length := by omega
  obtain ⟨e, he⟩ : ∃ e, e = xs[j.toNat] := ⟨_, rfl⟩
  have em : leafB e = true := hx e (by rw [he]; exact List.getElem_mem hjl)
  have ixe : idxD (.tup xs) (.int j) = .ok e := by
    show atD xs j = _
    exact atD_some j0 (by rw [he]; exact List.getElem?_eq_getElem hjl)
  have ex : ∀ o3, ev sub G (.idx (.slot 0) (.slot 2)) (st (some (.int j)) o3) = .ok e := fun o3 => eIdx (s0 _ _) (b := .slot 2) (y := .int j) (by rw [ev]; rfl) ixe
  have m7 : ∀ o2 o3, ev sub G (.bin .mod (.slot 1) (.cint 7)) (st o2 o3) = .ok (.int (way % 7)) := fun _ _ => eBin (s1 _ _) (ci 7 _) (d_mod (by decide))
  have cc := eBlt (sub := sub) (G := G) (es1 (ex (some (.lst xs)))) (isi_str (lf_tm (leaf_lf em)))
  have put : ∀ (v : D), putD (.int j) v (.lst xs) = .ok (.lst (xs.set j.toNat v)) := fun v => by
    show (match ixOf xs.length j with | some j => R.ok (D.lst (xs.set j v)) | none => .stk) = _
    unfold ixOf
    rw [if_pos j0, if_pos j1]
  obtain ⟨ys, hy, hyl, one⟩ : ∃ ys : List D, (∀ d ∈ ys, lfB d = true) ∧ ys.length = xs.length ∧ ∀ rest : List L2.Py.S, runs sub G (D_l_bent_part.body.tail.tail.head?.toList ++ rest) (st (some (.int j)) (some (.lst xs))) = runs sub G rest (st (some (.int j)) (some (.lst ys))) := by
    have fin : ∀ v : D, lfB v = true → ∀ d ∈ xs.set j.toNat v, lfB d = true := fun v hv d hd => by
      rcases List.mem_or_eq_of_mem_set hd with h | rfl
      · exact leaf_lf (hx d h)
      · exact hv
    cases e <;> first | (cases em; done) | skip
    case int i =>
      have bg : binD .pow (.int 10) (.int 58) = .ok (.int (10 ^ 58)) := rfl
      have items : ev sub G (.lst [(.bin .add (.idx (.slot 0) (.slot 2)) (.cint 1)), (.neg (.cint 1)), (.bin .add (.idx (.slot 0) (.slot 2)) (.bin .pow (.cint 10) (.cint 58))), (.cbl true), .cnon, (.cstr [97]), (.bin .sub (.neg (.cint 1)) (.idx (.slot 0) (.slot 2)))]) (st (some (.int j)) (some (.lst xs))) = .ok (.lst [.int (i + 1), .int (-1), .int (i + 10 ^ 58), .bl true, .non, .str [97], .int (-1 - i)]) :=
        eLst (esC (eBin (ex _) (ci 1 _) (d_add _ _)) (esC (eNeg (ci 1 _)) (esC (eBin (ex _) (eBin (ci 10 _) (ci 58 _) bg) (d_add _ _)) (esC (ct _) (esC (cn _) (esC (cs _ _) (esC (eBin (eNeg (ci 1 _)) (ex _) rfl) es0)))))))
      obtain ⟨v, hv, hvi⟩ := idx_any (P := fun d => lfB d = true) (xs := [.int (i + 1), .int (-1), .int (i + 10 ^ 58), .bl true, .non, .str [97], .int (-1 - i)]) (i := way % 7) (Int.emod_nonneg _ (by decide)) (show way % 7 < ((7 : Nat) : Int) from Int.emod_lt_of_pos way (by decide)) (by simp [lfB])
      refine ⟨xs.set j.toNat v, fin v hv, List.length_set, fun rest => ?_⟩
      exact (runs_else cc ((runs_put (x := .lst xs) (kd := .int j) (eIdx items (m7 _ _) hvi) rfl (by rw [ev]; rfl) (put v)).trans (by rw [runs]; rfl)))
    case str w =>
      have hw : w.length ≤ 100 := of_decide_eq_true em
      have items : ev sub G (.lst [(.bin .add (.idx (.slot 0) (.slot 2)) (.cstr [65])), (.cstr []), (.cstr [97, 49]), .cnon, (.bin .add (.idx (.slot 0) (.slot 2)) (.cstr [113])), (.cstr [97, 98]), (.cint 1)]) (st (some (.int j)) (some (.lst xs))) = .ok (.lst [.str (w ++ [65]), .str [], .str [97, 49], .non, .str (w ++ [113]), .str [97, 98], .int 1]) :=
        eLst (esC (eBin (ex _) (cs _ _) (d_addS (by simp; unfold lim; omega))) (esC (cs _ _) (esC (cs _ _) (esC (cn _) (esC (eBin (ex _) (cs _ _) (d_addS (by simp; unfold lim; omega))) (esC (cs _ _) (esC (ci _ _) es0)))))))
      obtain ⟨v, hv, hvi⟩ := idx_any (P := fun d => lfB d = true) (xs := [.str (w ++ [65]), .str [], .str [97, 49], .non, .str (w ++ [113]), .str [97, 98], .int 1]) (i := way % 7) (Int.emod_nonneg _ (by decide)) (show way % 7 < ((7 : Nat) : Int) from Int.emod_lt_of_pos way (by decide)) (by
        simp [lfB]
        omega)
      refine ⟨xs.set j.toNat v, fin v hv, List.length_set, fun rest => ?_⟩
      exact (runs_then cc ((runs_put (x := .lst xs) (kd := .int j) (eIdx items (m7 _ _) hvi) rfl (by rw [ev]; rfl) (put v)).trans (by rw [runs]; rfl)))
  have md : ∀ (k : Int) (o3 : Option D), ev sub G (.cmp .eq (.bin .mod (.bin .fdiv (.slot 1) (.cint 49)) (.cint 6)) (.cint k)) (st (some (.int j)) o3) = .ok (.bl (way / 49 % 6 == k)) := fun k o3 => eCmp (eBin (dv 49 _ _ (by decide)) (ci 6 _) (d_mod (by decide))) (ci k _) (eqI _ _)
  obtain ⟨zs, hz, hzl, two⟩ : ∃ zs : List D, (∀ d ∈ zs, lfB d = true) ∧ zs.length ≤ 11 ∧ ∀ rest : List L2.Py.S, runs sub G (.iff (.cmp .eq (.bin .mod (.bin .fdiv (.slot 1) (.cint 49)) (.cint 6)) (.cint 1)) [.asgF 3 (.ow .fr) (.bin .add (.slot 3) (.lst [(.cint 0)]))] [] :: rest) (st (some (.int j)) (some (.lst ys))) = runs sub G rest (st (some (.int j)) (some (.lst zs))) := by
    have c := md 1 (some (.lst ys))
    cases hc : (way / 49 % 6 == 1) with
    | false =>
      rw [hc] at c
      exact ⟨ys, hy, by omega, fun rest => runs_skip c⟩
    | true =>
      rw [hc] at c
      have hzz : ∀ d ∈ ys ++ [D.int 0], lfB d = true := fun d hd => by
        rcases List.mem_append.mp hd with h | h
        · exact hy d h
        · rw [List.mem_singleton.mp h]; rfl
      refine ⟨ys ++ [.int 0], hzz, by rw [List.length_append, List.length_singleton]; omega, fun rest => ?_⟩
      refine runs_then c ((runs_asgF (d := .lst (ys ++ [.int 0])) (eBin (x := .lst ys) (y := .lst [.int 0]) (by rw [ev]; rfl) (eLst (es1 (ci 0 _))) ?_) (by rw [D.ownAt]; exact lf_own hzz)).trans (by rw [runs]; rfl))
      show (if ys.length + [D.int 0].length ≤ lim then R.ok (D.lst (ys ++ [.int 0])) else .stk) = _
      rw [if_pos (by rw [List.length_singleton]; unfold lim; omega)]
  obtain ⟨us, hu, hul, three⟩ : ∃ us : List D, (∀ d ∈ us, lfB d = true) ∧ us.length ≤ 11 ∧ ∀ rest : List L2.Py.S, runs sub G (.iff (.cmp .eq (.bin .mod (.bin .fdiv (.slot 1) (.cint 49)) (.cint 6)) (.cint 2)) [.asgF 3 (.ow .fr) (.slcH (.slot 3) (.neg (.cint 1)))] [] :: rest) (st (some (.int j)) (some (.lst zs))) = runs sub G rest (st (some (.int j)) (some (.lst us))) := by
    have c := md 2 (some (.lst zs))
    cases hc : (way / 49 % 6 == 2) with
    | false =>
      rw [hc] at c
      exact ⟨zs, hz, hzl, fun rest => runs_skip c⟩
    | true =>
      rw [hc] at c
      have sub1 : ∀ d ∈ cutL zs none (some (-1)), d ∈ zs := fun d hd => List.mem_of_mem_drop (List.mem_of_mem_take hd)
      have hzz : ∀ d ∈ cutL zs none (some (-1)), lfB d = true := fun d hd => hz d (sub1 d hd)
      have len1 : (cutL zs none (some (-1))).length ≤ zs.length := by
        unfold cutL
        rw [List.length_take, List.length_drop]
        omega
      refine ⟨cutL zs none (some (-1)), hzz, by omega, fun rest => ?_⟩
      exact runs_then c ((runs_asgF (d := .lst (cutL zs none (some (-1)))) (eSlcH (x := .lst zs) (i := -1) (by rw [ev]; rfl) (eNeg (ci 1 _)) rfl) (by rw [D.ownAt]; exact lf_own hzz)).trans (by rw [runs]; rfl))
  have tms := tm_of_lst (xs := us) (by omega) fun d hd => lf_tm (hu d hd)
  have c3 := md 3 (some (.lst us))
  have s3 : ev sub G (.slot 3) (st (some (.int j)) (some (.lst us))) = .ok (.lst us) := by rw [ev]; rfl
  have head : ∀ {d : D} {ρ' : Rho}, runs sub G [.iff (.cmp .eq (.bin .mod (.bin .fdiv (.slot 1) (.cint 49)) (.cint 6)) (.cint 3)) [.ret (.slot 3)] [], .ret (.blt .tuple [(.slot 3)])] (st (some (.int j)) (some (.lst us))) = .ret d ρ' → runDef sub G D_l_bent_part [.tup xs, .int way] = .ok (d, []) := fun {d ρ'} q =>
    run_def rfl rfl ((runs_asg q2).trans ((runs_asg (d := .lst xs) (eBlt (es1 (s0 _ _)) rfl)).trans ((one _).trans ((two _).trans ((three _).trans q)))))
  cases hc : (way / 49 % 6 == 3) with
  | true =>
    rw [hc] at c3
    exact ⟨.lst us, tms.1, head (runs_thenR c3 (runs_ret s3))⟩
  | false =>
    rw [hc] at c3
    exact ⟨.tup us, tms.2, head ((runs_skip c3).trans (runs_ret (eBlt (es1 s3) rfl)))⟩
end
end L2.Py.C11

set_option maxRecDepth 100000
set_option maxHeartbeats 2000000
namespace L2.Py.C11
open PySem PySem.Spec PyProof.Rows TL
def B_law_1 (l_scribe l_bent is_scribe l_copied l_cell_at l_due : Nat) : List S := [.asg 4 .fr (.call is_scribe [(.slot 3)]), .iff (.or (.not (.blt (.isi [.bool]) [(.slot 4)])) (.cmp .ne (.slot 4) (.call l_due [(.slot 3)]))) [.ret (.cbl false)] []]
def D_law (l_scribe l_bent is_scribe l_copied l_cell_at l_due : Nat) : Def := { nps := 1, nsl := 5, body := [
  .asg 1 .fr (.call l_scribe [(.slot 0), (.cint 0), (.cmp .eq (.bin .mod (.call l_cell_at [(.slot 0), (.cint 40)]) (.cint 2)) (.cint 1))]),
  .asg 2 .fr (.lst [(.slot 1), (.call l_bent [(.call l_copied [(.slot 1)]), (.bin .fdiv (.call l_cell_at [(.slot 0), (.cint 41)]) (.cint 2))]), (.blt .list [(.slot 1)]), (.slcH (.slot 1) (.cint 4)), .cnon, (.tup [])]),
  .asg 2 .fr (.bin .add (.slot 2) (.lst [(.tup [(.cstr [97]), (.cint 0), (.lst []), (.lst []), (.lst [])]), (.tup [(.cstr [97]), (.cint 1), (.lst [(.tup [(.cint 0), (.cstr [])])]), (.lst [(.tup [(.cint 0), (.cstr [97]), (.cstr []), (.cint 0)])]), (.lst [(.tup [(.cint 0), (.cstr [])])])]), (.cint 0), (.cstr [97]), (.lst [(.slot 1)]), (.cbl true)])),
  .frh false [3] false .val [(.slot 2)] (B_law_1 l_scribe l_bent is_scribe l_copied l_cell_at l_due),
  .ret (.cmp .eq (.slot 1) (.call l_scribe [(.slot 0), (.cint 0), (.cmp .eq (.bin .mod (.call l_cell_at [(.slot 0), (.cint 40)]) (.cint 2)) (.cint 1))]))] }
section
variable {sub : Sub} {G : Gam}
def BothG (G : Gam) (i : Nat) : Prop := ∀ d : D, tmB d = true → G i [d] = .ok (.bl (validD d), [])
theorem law_loop (il ib is ic ice id_ : Nat) (h1 : BothG G is) (h2 : BothG G id_) (a b c : Option D) : ∀ (ds : List D) (o3 o4 : Option D), (∀ d ∈ ds, tmB d = true) → ∃ q3 q4, forR (fun d r => bindFl false false [3] d r) (fun r => runs sub G (B_law_1 il ib is ic ice id_) r) ds [a, b, c, o3, o4] = .next [a, b, c, q3, q4]
  | [], o3, o4, _ => ⟨o3, o4, rfl⟩
  | d :: ds, o3, o4, h => by
    have hd := h d List.mem_cons_self
    obtain ⟨q3, q4, e⟩ := law_loop il ib is ic ice id_ h1 h2 a b c ds (some d) (some (.bl (validD d))) fun x hx => h x (List.mem_cons_of_mem _ hx)
    refine ⟨q3, q4, (forR_step (ρ1 := [a, b, c, some d, o4]) rfl ?_).trans e⟩
    have q : ev sub G (.call is [(.slot 3)]) [a, b, c, some d, o4] = .ok (.bl (validD d)) := eCall (es1 (x := d) (by rw [ev]; rfl)) (h1 d hd)
    let ρ : Rho := [a, b, c, some d, some (.bl (validD d))]
    have s4 : ev sub G (.slot 4) ρ = .ok (.bl (validD d)) := by rw [ev]; rfl
    have c1 : ev sub G (.not (.blt (.isi [.bool]) [(.slot 4)])) ρ = .ok (.bl false) := eNot (t := true) (eBlt (es1 s4) rfl)
    have c2 : ev sub G (.cmp .ne (.slot 4) (.call id_ [(.slot 3)])) ρ = .ok (.bl false) := by
      have := eCmp (op := .ne) s4 (eCall (es1 (a := .slot 3) (x := d) (by rw [ev]; rfl)) (h2 d hd)) (z := .bl (!(validD d == validD d))) rfl
      simpa using this
    exact (runs_asg q).trans ((runs_skip (ρ := ρ) (eOr c1 fun _ => c2)).trans (by rw [runs]))
theorem law_run (il ib is ic ice id_ : Nat) (ns : List Int) (S : Scr) (bd : D) (v40 v41 : Int) (e40 : G ice [.scr ns, .int 40] = .ok (.int v40, [])) (e41 : G ice [.scr ns, .int 41] = .ok (.int v41, [])) (eS : G il [.scr ns, .int 0, .bl (v40 % 2 == 1)] = .ok (S.d, [])) (eC : G ic [S.d] = .ok (S.d, [])) (eB : G ib [S.d, .int (v41 / 2)] = .ok (bd, []))
    (tB : tmB bd = true) (tS : tmB S.d = true) (h1 : BothG G is) (h2 : BothG G id_) : runDef sub G (D_law il ib is ic ice id_) [.scr ns] = .ok (.bl true, []) := by
  have ci : ∀ (i : Int) (ρ : Rho), ev sub G (.cint i) ρ = .ok (.int i) := fun i ρ => by rw [ev]
  let st : Option D → Option D → Option D → Option D → Rho := fun o1 o2 o3 o4 => [some (.scr ns), o1, o2, o3, o4]
  have s0 : ∀ o1 o2 o3 o4, ev sub G (.slot 0) (st o1 o2 o3 o4) = .ok (.scr ns) := fun _ _ _ _ => by rw [ev]; rfl
  have s1 : ∀ o2 o3 o4, ev sub G (.slot 1) (st (some S.d) o2 o3 o4) = .ok S.d := fun _ _ _ => by rw [ev]; rfl
  have sc : ∀ o1 o2 o3 o4, ev sub G (.call il [(.slot 0), (.cint 0), (.cmp .eq (.bin .mod (.call ice [(.slot 0), (.cint 40)]) (.cint 2)) (.cint 1))]) (st o1 o2 o3 o4) = .ok S.d := fun _ _ _ _ =>
    eCall (es3 (s0 _ _ _ _) (ci 0 _) (eCmp (eBin (eCall (es2 (s0 _ _ _ _) (ci 40 _)) e40) (ci 2 _) (d_mod (by decide))) (ci 1 _) (eqI _ _))) eS
  have bt : ev sub G (.call ib [(.call ic [(.slot 1)]), (.bin .fdiv (.call ice [(.slot 0), (.cint 41)]) (.cint 2))]) (st (some S.d) none none none) = .ok bd := eCall (es2 (eCall (es1 (s1 _ _ _)) eC) (eBin (eCall (es2 (s0 _ _ _ _) (ci 41 _)) e41) (ci 2 _) (d_fdiv (by decide) (by decide)))) eB
  let A : List D := [S.d, bd, .lst [.str S.sg, .int S.rm, .lst (S.bs.map dPr), .lst (S.ss.map dSt), .lst (S.es.map dPr)], .tup [.str S.sg, .int S.rm, .lst (S.bs.map dPr), .lst (S.ss.map dSt)], .non, .tup []]
  let B : List D := [.tup [.str [97], .int 0, .lst [], .lst [], .lst []], .tup [.str [97], .int 1, .lst [.tup [.int 0, .str []]], .lst [.tup [.int 0, .str [97], .str [], .int 0]], .lst [.tup [.int 0, .str []]]], .int 0, .str [97], .lst [S.d], .bl true]
  have qA : ev sub G (.lst [(.slot 1), (.call ib [(.call ic [(.slot 1)]), (.bin .fdiv (.call ice [(.slot 0), (.cint 41)]) (.cint 2))]), (.blt .list [(.slot 1)]), (.slcH (.slot 1) (.cint 4)), .cnon, (.tup [])]) (st (some S.d) none none none) = .ok (.lst A) :=
    eLst (esC (s1 _ _ _) (esC bt (esC (eBlt (es1 (s1 _ _ _)) rfl) (esC (eSlcH (s1 _ _ _) (ci 4 _) rfl) (esC (by rw [ev]) (esC (eTup es0) es0))))))
  have qB : ev sub G (.bin .add (.slot 2) (.lst [(.tup [(.cstr [97]), (.cint 0), (.lst []), (.lst []), (.lst [])]), (.tup [(.cstr [97]), (.cint 1), (.lst [(.tup [(.cint 0), (.cstr [])])]), (.lst [(.tup [(.cint 0), (.cstr [97]), (.cstr []), (.cint 0)])]), (.lst [(.tup [(.cint 0), (.cstr [])])])]), (.cint 0), (.cstr [97]), (.lst [(.slot 1)]), (.cbl true)])) (st (some S.d) (some (.lst A)) none none) = .ok (.lst (A ++ B)) := by
    refine eBin (x := .lst A) (y := .lst B) (by rw [ev]; rfl) rfl ?_
    rfl
  have tl := tm_tup tS
  have t1 : ∀ d ∈ A ++ B, tmB d = true := fun d hd => by
    have m := tl.2
    have ma := m (.str S.sg) (by simp)
    have mb := m (.int S.rm) (by simp)
    have mc := m (.lst (S.bs.map dPr)) (by simp)
    have md := m (.lst (S.ss.map dSt)) (by simp)
    have me := m (.lst (S.es.map dPr)) (by simp)
    have z3 : tmB (.lst [.str S.sg, .int S.rm, .lst (S.bs.map dPr), .lst (S.ss.map dSt), .lst (S.es.map dPr)]) = true := (tm_of_lst (by simp) tl.2).1
    have z4 : tmB (.tup [.str S.sg, .int S.rm, .lst (S.bs.map dPr), .lst (S.ss.map dSt)]) = true := (tm_of_lst (by simp) fun d hd => m d (by
      rcases List.mem_cons.mp hd with rfl | hd
      · simp
      · rcases List.mem_cons.mp hd with rfl | hd
        · simp
        · rcases List.mem_cons.mp hd with rfl | hd
          · simp
          · rw [List.mem_singleton.mp hd]; simp)).2
    have zS : tmB (.lst [S.d]) = true := (tm_of_lst (by simp) fun d hd => by rw [List.mem_singleton.mp hd]; exact tS).1
    have hd : d = S.d ∨ d = bd ∨ d = .lst [.str S.sg, .int S.rm, .lst (S.bs.map dPr), .lst (S.ss.map dSt), .lst (S.es.map dPr)] ∨ d = .tup [.str S.sg, .int S.rm, .lst (S.bs.map dPr), .lst (S.ss.map dSt)] ∨ d = .non ∨ d = .tup [] ∨ d = .tup [.str [97], .int 0, .lst [], .lst [], .lst []] ∨ d = .tup [.str [97], .int 1, .lst [.tup [.int 0, .str []]], .lst [.tup [.int 0, .str [97], .str [], .int 0]], .lst [.tup [.int 0, .str []]]] ∨ d = .int 0 ∨ d = .str [97] ∨ d = .lst [S.d] ∨ d = .bl true := by
      simpa [A, B] using hd
    rcases hd with rfl | rfl | rfl | rfl | rfl | rfl | rfl | rfl | rfl | rfl | rfl | rfl <;> first | exact tS | exact tB | exact z3 | exact z4 | exact zS | rfl
  obtain ⟨q3, q4, lp⟩ := law_loop (sub := sub) (G := G) il ib is ic ice id_ h1 h2 (some (.scr ns)) (some S.d) (some (.lst (A ++ B))) (A ++ B) none none t1
  have fin : ev sub G (.cmp .eq (.slot 1) (.call il [(.slot 0), (.cint 0), (.cmp .eq (.bin .mod (.call ice [(.slot 0), (.cint 40)]) (.cint 2)) (.cint 1))])) (st (some S.d) (some (.lst (A ++ B))) q3 q4) = .ok (.bl true) := by
    have := eCmp (op := .eq) (s1 (some (.lst (A ++ B))) q3 q4) (sc _ _ _ _) (Scr.eq S S)
    rw [decide_eq_true rfl] at this
    exact this
  exact run_def (ρ := st (some S.d) (some (.lst (A ++ B))) q3 q4) rfl rfl ((runs_asg (sc _ _ _ _)).trans ((runs_asg qA).trans ((runs_asg qB).trans ((runs_frhN (xs := [.lst (A ++ B)]) (es1 (by rw [ev]; rfl)) rfl lp).trans (runs_ret fin)))))
end
end L2.Py.C11

set_option maxRecDepth 100000
set_option maxHeartbeats 2000000
namespace L2.Py
open PySem PySem.Spec PyProof.Rows TL
section
variable {sub : Sub} {G : Gam}
end
end L2.Py

set_option maxRecDepth 100000
set_option maxHeartbeats 2000000
namespace L2.Py
open PySem PySem.Spec PyProof.Rows TL
section
variable {sub : Sub} {sm : Nat → Gam} {ils it ie ic ig ibg ir iu inx iw iuw ib isw itw : Nat}
end
end L2.Py

set_option maxRecDepth 100000
set_option maxHeartbeats 2000000
namespace L2.Py
open PySem PySem.Spec PyProof.Rows TL
section
variable {sub : Sub} {G : Gam}
def shP (m : Int) (p : Pr) : Pr := (m + p.1, p.2)
def shS (m : Int) (p : Sp4) : Sp4 := (m + p.1, p.2.1, p.2.2.1, m + p.2.2.2)
def both (S T : Scr) : Scr := ⟨S.sg, S.rm + T.rm, S.bs ++ T.bs.map (shP S.rm), S.ss ++ T.ss.map (shS S.rm), S.es ++ T.es.map (shP S.rm)⟩
def stB (m : Int) (p q : Sp4) : Sp4 := (p.1 * m + q.1, p.2.1, p.2.2.1, p.2.2.2 * m + q.2.2.2)
def sts (m : Int) (A B : List Sp4) : List Sp4 := A.flatMap fun p => (B.filter fun q => decide (p.2.1 = q.2.1)).map (stB m p)
end
end L2.Py

set_option maxRecDepth 100000
set_option maxHeartbeats 2000000
namespace L2.Py
open PySem PySem.Spec PyProof.Rows TL
inductive Run (T : List Sp4) : Int → W → W → Int → Prop
  | nil {r : Int} : Run T r [] [] r
  | cons {s : Sp4} {c : Nat} {t u : W} {q : Int} : s ∈ T → s.2.1 = [c] → Run T s.2.2.2 t u q → Run T s.1 (c :: t) (s.2.2.1 ++ u) q
theorem Run.snoc {T : List Sp4} {r q : Int} {t u : W} (h : Run T r t u q) {s : Sp4} {c : Nat} (hs : s ∈ T) (hc : s.2.1 = [c]) (e : s.1 = q) : Run T r (t ++ [c]) (u ++ s.2.2.1) s.2.2.2 := by
  induction h with
  | nil =>
    have := Run.cons (T := T) hs hc .nil
    rw [List.append_nil] at this
    rw [← e]
    exact this
  | cons h1 h2 _ ih =>
    rw [List.append_assoc]
    exact .cons h1 h2 (ih e)
theorem Run.mono {T T' : List Sp4} (h : ∀ s ∈ T, s ∈ T') {r q : Int} {t u : W} (x : Run T r t u q) : Run T' r t u q := by
  induction x with
  | nil => exact .nil
  | cons h1 h2 _ ih => exact .cons (h _ h1) h2 ih
def rvP (p : Pr) : Pr := (p.1, p.2.reverse)
def rvS (p : Sp4) : Sp4 := (p.2.2.2, p.2.1, p.2.2.1.reverse, p.1)
def rv (S : Scr) : Scr := ⟨S.sg, S.rm, S.es.map rvP, S.ss.map rvS, S.bs.map rvP⟩
section
variable {S T : Scr} {m m' : Int}
end
end L2.Py

set_option maxRecDepth 100000
set_option maxHeartbeats 2000000
namespace L2.Py
open PySem PySem.Spec PyProof.Rows TL
theorem Run.app {T : List Sp4} {r q q' : Int} {t t' u u' : W} (h1 : Run T r t u q) (h2 : Run T q t' u' q') : Run T r (t ++ t') (u ++ u') q' := by
  induction h1 with
  | nil => exact h2
  | cons hs hc _ ih =>
    rw [List.append_assoc]
    exact .cons hs hc (ih h2)
end L2.Py

set_option maxRecDepth 100000
set_option maxHeartbeats 1000000
namespace L2.Py
open PySem PySem.Spec PyProof.Rows TL
end L2.Py

set_option maxRecDepth 100000
set_option maxHeartbeats 4000000
namespace L2.Py.L87
open PySem PySem.Spec PyProof.Rows TL L2.Py
section
variable {sub : Sub} {G : Gam}
end
end L2.Py.L87

set_option maxRecDepth 100000
set_option maxHeartbeats 4000000
namespace L2.Py
open PySem PySem.Spec PyProof.Rows TL
section
variable {sub : Sub} {G : Gam}
structure Tw4 (S : Scr) : Prop where
  sg : 0 < S.sg.length ∧ S.sg.length ≤ 7
  sgl : letters S.sg
  rm : 0 ≤ S.rm ∧ S.rm ≤ 8
  bs : ∀ p ∈ S.bs, (0 ≤ p.1 ∧ p.1 < S.rm) ∧ p.2.length ≤ 40
  ss : ∀ p ∈ S.ss, (0 ≤ p.1 ∧ p.1 < S.rm) ∧ (∃ c ∈ S.sg, p.2.1 = [c]) ∧ p.2.2.1.length ≤ 40 ∧ (0 ≤ p.2.2.2 ∧ p.2.2.2 < S.rm)
  es : ∀ p ∈ S.es, (0 ≤ p.1 ∧ p.1 < S.rm) ∧ p.2.length ≤ 40
  len : S.bs.length ≤ 100 ∧ S.ss.length ≤ 100 ∧ S.es.length ≤ 100
end
end L2.Py

set_option maxRecDepth 100000
set_option maxHeartbeats 4000000
namespace L2.Py
open PySem PySem.Spec PyProof.Rows TL
section
variable {sub : Sub} {G : Gam} {ρ : Rho} {ss : List S}
theorem runs_putLT {i : Nat} {path : List E} {k v : E} {x x' y kd : D} {xs ps : List D} (h0 : ev sub G v ρ = .ok y) (h1 : ρ.get i = .ok x) (h2 : evs sub G path ρ = .ok ps) (h3 : atPath ps x = .ok (.lst xs)) (h4 : ev sub G k ρ = .ok kd) (h5 : updAt (setFn kd y) ps x = .ok x') :
    runs sub G (.putL i path k v :: ss) ρ = runs sub G ss (ρ.put i x') := by
  rw [runs, L2.Py.run, h0, ofR_ok, h1, ofR_ok, h2, ofR_ok, h3, ofR_ok]
  dsimp only
  rw [h4, ofR_ok, h5, ofR_ok]
end
section
variable {S T : Scr} {m m' : Int} {wl wl' : Nat}
theorem Tw4.wt (t : Tw4 S) : WT 40 S 8 :=
  ⟨t.rm, fun p h => ⟨(t.bs p h).1, (t.bs p h).2, trivial⟩, fun p h => ⟨(t.ss p h).1, (t.ss p h).2.1.imp fun c hc => hc.2, ⟨(t.ss p h).2.2.1, trivial⟩, (t.ss p h).2.2.2⟩, fun p h => ⟨(t.es p h).1, (t.es p h).2, trivial⟩, by have := t.len; omega⟩
end
end L2.Py

set_option maxRecDepth 100000
set_option maxHeartbeats 2000000
namespace L2.Py.C11
open PySem PySem.Spec PyProof.Rows TL
def D_l_bent (l_bent_part : Nat) : Def := { nps := 2, nsl := 5, body := [
  .lstMv 2 0,
  .asg 3 .fr (.bin .mod (.slot 1) (.cint 5)),
  .iff (.cmp .eq (.slot 3) (.cint 0)) [.putF 2 (.ow .fr) [] (.cint 0) (.flat (.idx (.lst [(.cstr []), (.cstr [97, 98, 99, 100, 101, 102, 103, 104, 105, 106, 107, 108, 109, 110, 111, 112, 113, 114, 115, 116, 117, 118, 119, 120, 121, 122]), (.cstr [97, 97]), (.cstr [65]), (.cstr [122, 121, 120, 119, 98, 97]), (.cint 5), (.cstr [97, 32, 98])]) (.bin .mod (.bin .fdiv (.slot 1) (.cint 5)) (.cint 7))))] [],
  .iff (.cmp .eq (.slot 3) (.cint 1)) [.putF 2 (.ow .fr) [] (.cint 1) (.flat (.idx (.lst [(.cint 201), (.cint 200), (.neg (.cint 1)), (.cbl true), .cnon, (.cstr [51]), (.bin .sub (.idx (.slot 2) (.cint 1)) (.cint 1))]) (.bin .mod (.bin .fdiv (.slot 1) (.cint 5)) (.cint 7))))] [],
  .iff (.and (.cmp .gt (.slot 3) (.cint 1)) (.cmp .eq (.bin .mod (.bin .fdiv (.slot 1) (.cint 5)) (.cint 5)) (.cint 1))) [.putF 2 (.ow .fr) [] (.slot 3) (.flat (.blt .tuple [(.idx (.slot 2) (.slot 3))]))] [.iff (.and (.cmp .gt (.slot 3) (.cint 1)) (.cmp .eq (.bin .mod (.bin .fdiv (.slot 1) (.cint 5)) (.cint 5)) (.cint 4))) [.putF 2 (.ow .fr) [] (.slot 3) (.flat (.idx (.lst [.cnon, (.cint 5), (.cstr [97, 98]), (.cbl true), (.tup [])]) (.bin .mod (.bin .fdiv (.slot 1) (.cint 25)) (.cint 5))))] [.iff (.and (.cmp .gt (.slot 3) (.cint 1)) (.cmp .gt (.blt .len [(.idx (.slot 2) (.slot 3))]) (.cint 0))) [.asg 4 .fr (.bin .mod (.bin .fdiv (.slot 1) (.cint 25)) (.blt .len [(.idx (.slot 2) (.slot 3))])), .iff (.cmp .eq (.bin .mod (.bin .fdiv (.slot 1) (.cint 5)) (.cint 5)) (.cint 2)) [.putF 2 (.ow .fr) [] (.slot 3) (.bin .add (.idx (.slot 2) (.slot 3)) (.lst [(.idx (.idx (.slot 2) (.slot 3)) (.slot 4))]))] [.iff (.cmp .eq (.bin .mod (.bin .fdiv (.slot 1) (.cint 5)) (.cint 5)) (.cint 3)) [.mut 2 [(.slot 3)] .insert [(.slot 4), (.idx (.lst [.cnon, (.cint 0), (.cstr [97, 98]), (.lst [(.cint 0), (.cstr [])]), (.tup []), (.cbl true)]) (.bin .mod (.bin .fdiv (.slot 1) (.cint 300)) (.cint 6)))]] [.putL 2 [(.slot 3)] (.slot 4) (.call l_bent_part [(.flat (.idx (.idx (.slot 2) (.slot 3)) (.slot 4))), (.bin .fdiv (.slot 1) (.cint 600))])]]] []]],
  .iff (.cmp .eq (.bin .mod (.bin .fdiv (.slot 1) (.cint 5)) (.cint 40)) (.cint 39)) [.app 2 (.cint 0)] [],
  .frz 2,
  .ret (.blt .tuple [(.slot 2)])] }
theorem tm_pr {p : Pr} (h : p.2.length ≤ 1000) : tmB (dPr p) = true :=
  (tm_of_lst (xs := [.int p.1, .str p.2]) (by simp) fun d hd => by
    rcases List.mem_cons.mp hd with rfl | hd
    · rfl
    · rw [List.mem_singleton.mp hd]; exact decide_eq_true h).2
theorem tm_st {s : Sp4} (h1 : s.2.1.length ≤ 1000) (h2 : s.2.2.1.length ≤ 1000) : tmB (dSt s) = true :=
  (tm_of_lst (xs := [.int s.1, .str s.2.1, .str s.2.2.1, .int s.2.2.2]) (by simp) fun d hd => by
    rcases List.mem_cons.mp hd with rfl | hd
    · rfl
    · rcases List.mem_cons.mp hd with rfl | hd
      · exact decide_eq_true h1
      · rcases List.mem_cons.mp hd with rfl | hd
        · exact decide_eq_true h2
        · rw [List.mem_singleton.mp hd]; rfl).2
theorem tm_map {α : Type} {g : α → D} {X : List α} (hl : X.length ≤ 1000) (h : ∀ x ∈ X, tmB (g x) = true) : tmB (.lst (X.map g)) = true :=
  (tm_of_lst (by rw [List.length_map]; exact hl) fun d hd => by
    obtain ⟨x, hx, rfl⟩ := List.mem_map.mp hd
    exact h x hx).1
theorem tm_scr {S : Scr} (hs : S.sg.length ≤ 1000) (hl : S.bs.length ≤ 1000 ∧ S.ss.length ≤ 1000 ∧ S.es.length ≤ 1000) (hb : ∀ p ∈ S.bs, p.2.length ≤ 1000) (ht : ∀ s ∈ S.ss, s.2.1.length ≤ 1000 ∧ s.2.2.1.length ≤ 1000) (he : ∀ p ∈ S.es, p.2.length ≤ 1000) : tmB S.d = true :=
  (tm_of_lst (xs := [.str S.sg, .int S.rm, .lst (S.bs.map dPr), .lst (S.ss.map dSt), .lst (S.es.map dPr)]) (by simp) fun d hd => by
    have hd : d = .str S.sg ∨ d = .int S.rm ∨ d = .lst (S.bs.map dPr) ∨ d = .lst (S.ss.map dSt) ∨ d = .lst (S.es.map dPr) := by simpa using hd
    rcases hd with rfl | rfl | rfl | rfl | rfl
    · exact decide_eq_true hs
    · rfl
    · exact tm_map hl.1 fun p hp => tm_pr (hb p hp)
    · exact tm_map hl.2.1 fun s hx => tm_st (ht s hx).1 (ht s hx).2
    · exact tm_map hl.2.2 fun p hp => tm_pr (he p hp)).2
section
variable {sub : Sub} {G : Gam}
theorem runs_lstMv {ρ : Rho} {i j : Nat} {ds : List D} {ss : List L2.Py.S} (h1 : ρ.get j = .ok (.tup ds)) (h2 : ds.length ≤ lim) : runs sub G (.lstMv i j :: ss) ρ = runs sub G ss ((ρ.put i (.lst ds)).set j none) := by
  rw [runs, L2.Py.run, h1, ofR_ok]
  dsimp only
  rw [if_pos (decide_eq_true h2)]
theorem runs_putF {ρ : Rho} {i : Nat} {t : OT} {k v : E} {y kd x' : D} {xs : List D} {ss : List L2.Py.S} (h0 : ev sub G v ρ = .ok y) (hown : y.ownAt t = true) (h1 : ρ.get i = .ok (.lst xs)) (h4 : ev sub G k ρ = .ok kd) (h5 : updAt (setFn kd y) [] (.lst xs) = .ok x') : runs sub G (.putF i t [] k v :: ss) ρ = runs sub G ss (ρ.put i x') := by
  rw [runs, L2.Py.run, h0]
  show (match Out.ofR ρ (if y.ownAt t = true then R.ok y else .stk) _ with | .next ρ' => _ | o => o) = _
  rw [if_pos hown, ofR_ok, h1, ofR_ok, evs, ofR_ok, show atPath ([] : List D) (D.lst xs) = .ok (D.lst xs) from rfl, ofR_ok]
  dsimp only
  rw [h4, ofR_ok, h5, ofR_ok]
theorem parts_set {xs : List D} {j : Nat} {v : D} (h : ∀ d ∈ xs, tmB d = true) (hv : tmB v = true) : ∀ d ∈ xs.set j v, tmB d = true := fun d hd => by
  rcases List.mem_or_eq_of_mem_set hd with q | rfl
  · exact h d q
  · exact hv
theorem putF_at {xs : List D} {j : Int} {v : D} (h0 : 0 ≤ j) (h1 : j < xs.length) : updAt (setFn (.int j) v) [] (.lst xs) = .ok (.lst (xs.set j.toNat v)) := by
  show (setLD (.int j) v xs >>= fun ys => R.ok (D.lst ys)) = _
  have : setLD (.int j) v xs = .ok (xs.set j.toNat v) := by
    show (match ixOf xs.length j with | some j => R.ok (xs.set j v) | none => .stk) = _
    unfold ixOf
    rw [if_pos h0, if_pos h1]
  rw [this]
  rfl
theorem lf_ownAt {d : D} (h : lfB d = true) (t : OT) : d.ownAt t = true := by
  cases d <;> first | rfl | cases h
theorem rnil {ρ : Rho} : runs sub G [] ρ = .next ρ := by rw [runs]
def rowB : D → Bool
  | .tup xs => decide (0 < xs.length) && decide (xs.length ≤ 10) && xs.all leafB
  | _ => false
theorem row_of {d : D} (h : rowB d = true) : ∃ xs, d = .tup xs ∧ 0 < xs.length ∧ xs.length ≤ 10 ∧ ∀ x ∈ xs, leafB x = true := by
  cases d <;> first | (cases h; done) | skip
  rename_i xs
  rw [rowB, Bool.and_eq_true, Bool.and_eq_true] at h
  exact ⟨xs, rfl, of_decide_eq_true h.1.1, of_decide_eq_true h.1.2, List.all_eq_true.mp h.2⟩
theorem row_tm {d : D} (h : rowB d = true) : tmB d = true := by
  obtain ⟨xs, rfl, _, hl, hx⟩ := row_of h
  exact (tm_of_lst (by omega) fun x hm => lf_tm (leaf_lf (hx x hm))).2
theorem lf_noMutL : ∀ {xs : List D}, (∀ d ∈ xs, lfB d = true) → noMutL xs = true
  | [], _ => rfl
  | d :: xs, h => by
    rw [noMutL, lf_noMut (h d List.mem_cons_self), lf_noMutL fun e he => h e (List.mem_cons_of_mem _ he)]
    rfl
theorem row_noMut {d : D} (h : rowB d = true) : d.noMut = true := by
  obtain ⟨xs, rfl, _, _, hx⟩ := row_of h
  rw [D.noMut]
  exact lf_noMutL fun x hm => leaf_lf (hx x hm)
theorem rows_noMut : ∀ {xs : List D}, (∀ d ∈ xs, rowB d = true) → noMutL xs = true
  | [], _ => rfl
  | d :: xs, h => by
    rw [noMutL, row_noMut (h d List.mem_cons_self), rows_noMut fun e he => h e (List.mem_cons_of_mem _ he)]
    rfl
theorem lf_ownL : ∀ {xs : List D} (f : Nat → OT), (∀ d ∈ xs, lfB d = true) → ownAtL xs f = true
  | [], _, _ => rfl
  | d :: xs, f, h => by
    rw [ownAtL, lf_ownAt (h d List.mem_cons_self), lf_ownL (fun n => f (n + 1)) fun e he => h e (List.mem_cons_of_mem _ he)]
    rfl
theorem row_own {d : D} (h : rowB d = true) (t : OT) : d.ownAt t = true := by
  obtain ⟨xs, rfl, _, _, hx⟩ := row_of h
  rw [D.ownAt]
  exact lf_ownL _ fun x hm => leaf_lf (hx x hm)
theorem rows_own : ∀ {xs : List D} (f : Nat → OT), (∀ d ∈ xs, rowB d = true) → ownAtL xs f = true
  | [], _, _ => rfl
  | d :: xs, f, h => by
    rw [ownAtL, row_own (h d List.mem_cons_self), rows_own (fun n => f (n + 1)) fun e he => h e (List.mem_cons_of_mem _ he)]
    rfl
theorem updAt_at {P : List D} {w : Int} {x y : D} {f : D → R D} (h0 : 0 ≤ w) (h : P[w.toNat]? = some x) (hf : f x = .ok y) : updAt f [.int w] (.lst P) = .ok (.lst (P.set w.toNat y)) := by
  have hl : w.toNat < P.length := by
    rcases Nat.lt_or_ge w.toNat P.length with q | q
    · exact q
    · rw [List.getElem?_eq_none q] at h; cases h
  rw [updAt]
  have : ixOf P.length w = some w.toNat := by
    unfold ixOf
    rw [if_pos h0, if_pos (by omega)]
  rw [this]
  dsimp only
  rw [h]
  dsimp only
  rw [updAt, hf]
  rfl
theorem atP_at {P : List D} {w : Int} {x : D} (h0 : 0 ≤ w) (h : P[w.toNat]? = some x) : atPath [.int w] (.lst P) = .ok x := by
  rw [atPath]
  show (atD P w >>= fun x => atPath [] x) = _
  rw [atD_some h0 h]
  rfl
def bentS (w : Option D) (o : Option D) (way : Int) (P : List D) : Rho := [none, some (.int way), some (.lst P), w, o]
def Bent (sub : Sub) (G : Gam) (way : Int) (ss : List L2.Py.S) (w : Option D) (o : Option D) (P : List D) : Prop := ∃ Q o', (∀ d ∈ Q, tmB d = true) ∧ Q.length = 5 ∧ ∀ rest : List L2.Py.S, runs sub G (ss ++ rest) (bentS w o way P) = runs sub G rest (bentS w o' way Q)
theorem bent_put {way w : Int} {o : Option D} {P : List D} {k v : E} {j : Int} {d : D} (hP : ∀ d ∈ P, tmB d = true) (h5 : P.length = 5) (hj0 : 0 ≤ j) (hj : j < 5) (hk : ev sub G k (bentS (some (.int w)) o way P) = .ok (.int j)) (hv : ev sub G v (bentS (some (.int w)) o way P) = .ok d) (ht : tmB d = true) (ho : d.ownAt (.ow .fr) = true) :
    ∃ Q, (∀ d ∈ Q, tmB d = true) ∧ Q.length = 5 ∧ runs sub G [.putF 2 (.ow .fr) [] k v] (bentS (some (.int w)) o way P) = .next (bentS (some (.int w)) o way Q) :=
  ⟨P.set j.toNat d, parts_set hP ht, by rw [List.length_set]; exact h5, (runs_putF (xs := P) hv ho rfl hk (putF_at hj0 (by rw [h5]; exact hj))).trans rnil⟩
section
variable {way w : Int} (hw : w = way % 5) {o : Option D} {P : List D}
theorem bS1 (wd : Option D) : ev sub G (.slot 1) (bentS wd o way P) = .ok (.int way) := by rw [ev]; rfl
theorem bS2 (wd : Option D) : ev sub G (.slot 2) (bentS wd o way P) = .ok (.lst P) := by rw [ev]; rfl
theorem bS3 : ev sub G (.slot 3) (bentS (some (.int w)) o way P) = .ok (.int w) := by rw [ev]; rfl
theorem bDv (wd : Option D) (k : Int) (hk : 0 < k ∧ k ≤ 1000) : ev sub G (.bin .fdiv (.slot 1) (.cint k)) (bentS wd o way P) = .ok (.int (way / k)) := eBin (bS1 wd) intC (d_fdiv hk.1 (by omega))
theorem bMd (wd : Option D) (k m : Int) (hk : 0 < k ∧ k ≤ 1000) (hm : 0 < m) : ev sub G (.bin .mod (.bin .fdiv (.slot 1) (.cint k)) (.cint m)) (bentS wd o way P) = .ok (.int (way / k % m)) := eBin (bDv wd k hk) intC (d_mod hm)
theorem bEq (k : Int) : ev sub G (.cmp .eq (.slot 3) (.cint k)) (bentS (some (.int w)) o way P) = .ok (.bl (w == k)) := eCmp bS3 intC (eqI _ _)
theorem bGt : ev sub G (.cmp .gt (.slot 3) (.cint 1)) (bentS (some (.int w)) o way P) = .ok (.bl (decide (1 < w))) := eCmp bS3 intC (gtI _ _)
theorem bWay (k : Int) : ev sub G (.cmp .eq (.bin .mod (.bin .fdiv (.slot 1) (.cint 5)) (.cint 5)) (.cint k)) (bentS (some (.int w)) o way P) = .ok (.bl (way / 5 % 5 == k)) := eCmp (bMd _ 5 5 (by decide) (by decide)) intC (eqI _ _)
end
theorem bent_rows (ib : Nat) (hG : ∀ (xs : List D) (z : Int), 0 < xs.length → xs.length ≤ 10 → (∀ d ∈ xs, leafB d = true) → ∃ d', tmB d' = true ∧ G ib [.tup xs, .int z] = .ok (d', [])) {way w : Int} {P X : List D} (hP : ∀ d ∈ P, tmB d = true) (h5 : P.length = 5) (h0 : 1 < w) (h1 : w < 5) (hX : P[w.toNat]? = some (.lst X)) (hl : X.length ≤ 900) (hr : ∀ d ∈ X, rowB d = true) : Bent sub G way [((D_l_bent ib).body.getD 4 .pass)] (some (.int w)) none P := by
  have ix : ∀ o, ev sub G (.idx (.slot 2) (.slot 3)) (bentS (some (.int w)) o way P) = .ok (.lst X) := fun o => eIdx (bS2 _) bS3 (by
    show atD P w = _
    exact atD_some (by omega) hX)
  have g1 : ∀ o, ev sub G (.cmp .gt (.slot 3) (.cint 1)) (bentS (some (.int w)) o way P) = .ok (.bl true) := fun o => by
    have := bGt (sub := sub) (G := G) (w := w) (o := o) (way := way) (P := P)
    rw [decide_eq_true h0] at this
    exact this
  have tX := tm_of_lst (xs := X) (by omega) fun d hd => row_tm (hr d hd)
  have setX : ∀ {Y : List D}, Y.length ≤ 1000 → (∀ d ∈ Y, tmB d = true) → (∀ d ∈ P.set w.toNat (.lst Y), tmB d = true) ∧ (P.set w.toNat (.lst Y)).length = 5 := fun hy hm =>
    ⟨parts_set hP (tm_of_lst hy hm).1, by rw [List.length_set]; exact h5⟩
  have cA := eAnd (g1 none) fun _ => bWay (sub := sub) (G := G) (w := w) (o := none) (way := way) (P := P) 1
  cases a1 : (way / 5 % 5 == 1) with
  | true =>
    rw [a1] at cA
    obtain ⟨Q, hQ, hQ5, e⟩ := bent_put (sub := sub) (G := G) (way := way) (w := w) (o := none) hP h5 (by omega) h1 bS3 (v := .flat (.blt .tuple [(.idx (.slot 2) (.slot 3))])) (d := .tup X) (eFlat (eBlt (es1 (ix none)) rfl) (by rw [D.noMut]; exact rows_noMut hr)) tX.2 (by rw [D.ownAt]; exact rows_own _ hr)
    exact ⟨Q, none, hQ, hQ5, fun rest => runs_then cA e⟩
  | false =>
    rw [a1] at cA
    have cB := eAnd (g1 none) fun _ => bWay (sub := sub) (G := G) (w := w) (o := none) (way := way) (P := P) 4
    cases a4 : (way / 5 % 5 == 4) with
    | true =>
      rw [a4] at cB
      have items : ev sub G (.lst [.cnon, (.cint 5), (.cstr [97, 98]), (.cbl true), (.tup [])]) (bentS (some (.int w)) none way P) = .ok (.lst [.non, .int 5, .str [97, 98], .bl true, .tup []]) := rfl
      obtain ⟨v, hv, hvi⟩ := idx_any (P := fun d => tmB d = true ∧ d.ownAt (.ow .fr) = true ∧ d.noMut = true) (xs := [.non, .int 5, .str [97, 98], .bl true, .tup []]) (i := way / 25 % 5) (Int.emod_nonneg _ (by decide)) (show way / 25 % 5 < ((5 : Nat) : Int) from Int.emod_lt_of_pos _ (by decide)) (by
        intro d hd
        have : d = .non ∨ d = .int 5 ∨ d = .str [97, 98] ∨ d = .bl true ∨ d = .tup [] := by simpa using hd
        rcases this with rfl | rfl | rfl | rfl | rfl <;> exact ⟨rfl, rfl, rfl⟩)
      obtain ⟨Q, hQ, hQ5, e⟩ := bent_put (sub := sub) (G := G) (way := way) (w := w) (o := none) hP h5 (by omega) h1 bS3 (v := .flat (.idx (.lst [.cnon, (.cint 5), (.cstr [97, 98]), (.cbl true), (.tup [])]) (.bin .mod (.bin .fdiv (.slot 1) (.cint 25)) (.cint 5)))) (eFlat (eIdx items (bMd _ 25 5 (by decide) (by decide)) hvi) hv.2.2) hv.1 hv.2.1
      exact ⟨Q, none, hQ, hQ5, fun rest => runs_else cA ((runs_then cB e).trans rnil)⟩
    | false =>
      rw [a4] at cB
      have ln : ∀ o, ev sub G (.blt .len [(.idx (.slot 2) (.slot 3))]) (bentS (some (.int w)) o way P) = .ok (.int (X.length : Nat)) := fun o => eBlt (es1 (ix o)) (len_lst X)
      have cC := eAnd (g1 none) fun _ => eCmp (ln none) (intC (s := 0)) (gtI _ _)
      cases a0 : decide ((0 : Int) < (X.length : Nat)) with
      | false =>
        rw [a0] at cC
        exact ⟨P, none, hP, h5, fun rest => runs_else cA ((runs_else cB ((runs_skip cC).trans rnil)).trans rnil)⟩
      | true =>
        rw [a0] at cC
        have n0 : (0 : Int) < (X.length : Nat) := of_decide_eq_true a0
        obtain ⟨j, hj⟩ : ∃ j : Int, j = way / 25 % (X.length : Nat) := ⟨_, rfl⟩
        have j0 : 0 ≤ j := by rw [hj]; exact Int.emod_nonneg _ (by omega)
        have j1 : j < (X.length : Nat) := by rw [hj]; exact Int.emod_lt_of_pos _ n0
        have hjl : j.toNat < X.length := by omega
        have q4 : ev sub G (.bin .mod (.bin .fdiv (.slot 1) (.cint 25)) (.blt .len [(.idx (.slot 2) (.slot 3))])) (bentS (some (.int w)) none way P) = .ok (.int j) := by
          rw [hj]
          exact eBin (bDv _ 25 (by decide)) (ln none) (d_mod n0)
        have s4 : ev sub G (.slot 4) (bentS (some (.int w)) (some (.int j)) way P) = .ok (.int j) := by rw [ev]; rfl
        obtain ⟨x, hx⟩ : ∃ x, x = X[j.toNat] := ⟨_, rfl⟩
        have xm : x ∈ X := by rw [hx]; exact List.getElem_mem hjl
        have xr := hr x xm
        have xi : ev sub G (.idx (.idx (.slot 2) (.slot 3)) (.slot 4)) (bentS (some (.int w)) (some (.int j)) way P) = .ok x := eIdx (ix _) s4 (by
          show atD X j = _
          exact atD_some j0 (by rw [hx]; exact List.getElem?_eq_getElem hjl))
        obtain ⟨Q, hQ, hQ5, e⟩ : ∃ Q, (∀ d ∈ Q, tmB d = true) ∧ Q.length = 5 ∧ runs sub G [.iff (.cmp .eq (.bin .mod (.bin .fdiv (.slot 1) (.cint 5)) (.cint 5)) (.cint 2)) [.putF 2 (.ow .fr) [] (.slot 3) (.bin .add (.idx (.slot 2) (.slot 3)) (.lst [(.idx (.idx (.slot 2) (.slot 3)) (.slot 4))]))] [.iff (.cmp .eq (.bin .mod (.bin .fdiv (.slot 1) (.cint 5)) (.cint 5)) (.cint 3)) [.mut 2 [(.slot 3)] .insert [(.slot 4), (.idx (.lst [.cnon, (.cint 0), (.cstr [97, 98]), (.lst [(.cint 0), (.cstr [])]), (.tup []), (.cbl true)]) (.bin .mod (.bin .fdiv (.slot 1) (.cint 300)) (.cint 6)))]] [.putL 2 [(.slot 3)] (.slot 4) (.call ib [(.flat (.idx (.idx (.slot 2) (.slot 3)) (.slot 4))), (.bin .fdiv (.slot 1) (.cint 600))])]]] (bentS (some (.int w)) (some (.int j)) way P) = .next (bentS (some (.int w)) (some (.int j)) way Q) := by
          have c2 := bWay (sub := sub) (G := G) (w := w) (o := some (.int j)) (way := way) (P := P) 2
          cases a2 : (way / 5 % 5 == 2) with
          | true =>
            rw [a2] at c2
            have hY : ∀ d ∈ X ++ [x], rowB d = true := fun d hd => by
              rcases List.mem_append.mp hd with q | q
              · exact hr d q
              · rw [List.mem_singleton.mp q]; exact xr
            obtain ⟨Q, hQ, hQ5, e⟩ := bent_put (sub := sub) (G := G) (way := way) (w := w) (o := some (.int j)) hP h5 (by omega) h1 bS3 (v := .bin .add (.idx (.slot 2) (.slot 3)) (.lst [(.idx (.idx (.slot 2) (.slot 3)) (.slot 4))])) (d := .lst (X ++ [x])) (eBin (ix _) (eLst (es1 xi)) (by
              show (if X.length + [x].length ≤ lim then R.ok (D.lst (X ++ [x])) else .stk) = _
              rw [if_pos (by rw [List.length_singleton]; unfold lim; omega)])) (tm_of_lst (by rw [List.length_append, List.length_singleton]; omega) fun d hd => row_tm (hY d hd)).1 (by rw [D.ownAt]; exact rows_own _ hY)
            exact ⟨Q, hQ, hQ5, (runs_then c2 e).trans rnil⟩
          | false =>
            rw [a2] at c2
            have c3 := bWay (sub := sub) (G := G) (w := w) (o := some (.int j)) (way := way) (P := P) 3
            cases a3 : (way / 5 % 5 == 3) with
            | true =>
              rw [a3] at c3
              have items : ev sub G (.lst [.cnon, (.cint 0), (.cstr [97, 98]), (.lst [(.cint 0), (.cstr [])]), (.tup []), (.cbl true)]) (bentS (some (.int w)) (some (.int j)) way P) = .ok (.lst [.non, .int 0, .str [97, 98], .lst [.int 0, .str []], .tup [], .bl true]) := rfl
              obtain ⟨v, hv, hvi⟩ := idx_any (P := fun d => tmB d = true) (xs := [.non, .int 0, .str [97, 98], .lst [.int 0, .str []], .tup [], .bl true]) (i := way / 300 % 6) (Int.emod_nonneg _ (by decide)) (show way / 300 % 6 < ((6 : Nat) : Int) from Int.emod_lt_of_pos _ (by decide)) (by
                intro d hd
                have : d = .non ∨ d = .int 0 ∨ d = .str [97, 98] ∨ d = .lst [.int 0, .str []] ∨ d = .tup [] ∨ d = .bl true := by simpa using hd
                rcases this with rfl | rfl | rfl | rfl | rfl | rfl <;> rfl)
              obtain ⟨q1, q2⟩ := setX (Y := X.take j.toNat ++ v :: X.drop j.toNat) (by rw [List.length_append, List.length_cons, List.length_take, List.length_drop]; omega) (by
                intro d hd
                rcases List.mem_append.mp hd with q | q
                · exact row_tm (hr d (List.mem_of_mem_take q))
                · rcases List.mem_cons.mp q with rfl | q
                  · exact hv
                  · exact row_tm (hr d (List.mem_of_mem_drop q)))
              refine ⟨_, q1, q2, (runs_else c2 ((runs_then c3 ((runs_mut (ρ := bentS (some (.int w)) (some (.int j)) way P) (x := .lst P) (ps := [.int w]) (as := [.int j, v]) rfl (es1 bS3) (atP_at (by omega) hX) (es2 s4 (eIdx items (bMd _ 300 6 (by decide) (by decide)) hvi)) (updAt_at (by omega) hX (y := .lst (X.take j.toNat ++ v :: X.drop j.toNat)) ?_)).trans rnil)).trans rnil)).trans rnil⟩
              show (if (decide (X.length < lim) && decide (0 ≤ j) && small62 j) = true then R.ok (D.lst (X.take j.toNat ++ v :: X.drop j.toNat)) else .stk) = _
              rw [if_pos (by
                unfold small62 lim
                simp
                omega)]
            | false =>
              rw [a3] at c3
              obtain ⟨xs, rfl, xs0, xs10, xl⟩ := row_of xr
              obtain ⟨d', ht, e⟩ := hG xs (way / 600) xs0 xs10 xl
              obtain ⟨q1, q2⟩ := setX (Y := X.set j.toNat d') (by rw [List.length_set]; omega) (parts_set (fun d hd => row_tm (hr d hd)) ht)
              refine ⟨_, q1, q2, (runs_else c2 ((runs_else c3 ((runs_putLT (ρ := bentS (some (.int w)) (some (.int j)) way P) (x := .lst P) (ps := [.int w]) (kd := .int j) (y := d') (eCall (es2 (eFlat xi (row_noMut xr)) (bDv _ 600 (by decide))) e) rfl (es1 bS3) (atP_at (by omega) hX) s4 (updAt_at (by omega) hX (y := .lst (X.set j.toNat d')) ?_)).trans rnil)).trans rnil)).trans rnil⟩
              exact putF_at (xs := X) j0 j1
        exact ⟨Q, some (.int j), hQ, hQ5, fun rest => runs_else cA ((runs_else cB ((runs_then cC ((runs_asg q4).trans e)).trans rnil)).trans rnil)⟩
theorem bent_low (ib : Nat) {way w : Int} {o : Option D} {P : List D} (h : w ≤ 1) (rest : List L2.Py.S) : runs sub G (((D_l_bent ib).body.getD 4 .pass) :: rest) (bentS (some (.int w)) o way P) = runs sub G rest (bentS (some (.int w)) o way P) := by
  have g0 : ev sub G (.cmp .gt (.slot 3) (.cint 1)) (bentS (some (.int w)) o way P) = .ok (.bl false) := by
    have := bGt (sub := sub) (G := G) (w := w) (o := o) (way := way) (P := P)
    rw [decide_eq_false (by omega)] at this
    exact this
  exact runs_else (eAnd g0 (u := false) fun z => nomatch z) ((runs_else (eAnd g0 (u := false) fun z => nomatch z) ((runs_skip (eAnd g0 (u := false) fun z => nomatch z)).trans rnil)).trans rnil)
theorem bent_mid (ib : Nat) (hG : ∀ (xs : List D) (z : Int), 0 < xs.length → xs.length ≤ 10 → (∀ d ∈ xs, leafB d = true) → ∃ d', tmB d' = true ∧ G ib [.tup xs, .int z] = .ok (d', [])) {sg : W} {rm : Int} {A B C : List D} (hs : sg.length ≤ 1000) (hl : A.length ≤ 900 ∧ B.length ≤ 900 ∧ C.length ≤ 900) (hA : ∀ d ∈ A, rowB d = true) (hB : ∀ d ∈ B, rowB d = true) (hC : ∀ d ∈ C, rowB d = true) (way : Int) :
    Bent sub G way [((D_l_bent ib).body.getD 2 .pass), ((D_l_bent ib).body.getD 3 .pass), ((D_l_bent ib).body.getD 4 .pass)] (some (.int (way % 5))) none [.str sg, .int rm, .lst A, .lst B, .lst C] := by
  obtain ⟨w, hw⟩ : ∃ w, w = way % 5 := ⟨_, rfl⟩
  rw [← hw]
  have w0 : 0 ≤ w := by omega
  have w5 : w < 5 := by omega
  obtain ⟨P, eP⟩ : ∃ P : List D, P = [.str sg, .int rm, .lst A, .lst B, .lst C] := ⟨_, rfl⟩
  rw [← eP]
  have tA := (tm_of_lst (xs := A) (by omega) fun d hd => row_tm (hA d hd)).1
  have tB := (tm_of_lst (xs := B) (by omega) fun d hd => row_tm (hB d hd)).1
  have tC := (tm_of_lst (xs := C) (by omega) fun d hd => row_tm (hC d hd)).1
  have hP : ∀ d ∈ P, tmB d = true := fun d hd => by
    have : d = .str sg ∨ d = .int rm ∨ d = .lst A ∨ d = .lst B ∨ d = .lst C := by rw [eP] at hd; simpa using hd
    rcases this with rfl | rfl | rfl | rfl | rfl
    · exact decide_eq_true hs
    · rfl
    · exact tA
    · exact tB
    · exact tC
  have h5 : P.length = 5 := by rw [eP]; rfl
  have c0 : ∀ (o : Option D) (Q : List D), ev sub G (.cmp .eq (.slot 3) (.cint 0)) (bentS (some (.int w)) o way Q) = .ok (.bl (w == 0)) := fun o Q => bEq 0
  have c1 : ∀ (o : Option D) (Q : List D), ev sub G (.cmp .eq (.slot 3) (.cint 1)) (bentS (some (.int w)) o way Q) = .ok (.bl (w == 1)) := fun o Q => bEq 1
  by_cases z0 : w = 0
  · subst z0
    have items : ev sub G (.lst [(.cstr []), (.cstr [97, 98, 99, 100, 101, 102, 103, 104, 105, 106, 107, 108, 109, 110, 111, 112, 113, 114, 115, 116, 117, 118, 119, 120, 121, 122]), (.cstr [97, 97]), (.cstr [65]), (.cstr [122, 121, 120, 119, 98, 97]), (.cint 5), (.cstr [97, 32, 98])]) (bentS (some (.int 0)) none way P) = .ok (.lst [.str [], .str [97, 98, 99, 100, 101, 102, 103, 104, 105, 106, 107, 108, 109, 110, 111, 112, 113, 114, 115, 116, 117, 118, 119, 120, 121, 122], .str [97, 97], .str [65], .str [122, 121, 120, 119, 98, 97], .int 5, .str [97, 32, 98]]) := rfl
    obtain ⟨v, hv, hvi⟩ := idx_any (P := fun d => lfB d = true) (xs := [.str [], .str [97, 98, 99, 100, 101, 102, 103, 104, 105, 106, 107, 108, 109, 110, 111, 112, 113, 114, 115, 116, 117, 118, 119, 120, 121, 122], .str [97, 97], .str [65], .str [122, 121, 120, 119, 98, 97], .int 5, .str [97, 32, 98]]) (i := way / 5 % 7) (Int.emod_nonneg _ (by decide)) (show way / 5 % 7 < ((7 : Nat) : Int) from Int.emod_lt_of_pos _ (by decide)) (by simp [lfB])
    obtain ⟨Q, hQ, hQ5, e⟩ := bent_put (sub := sub) (G := G) (way := way) (w := 0) (o := none) (j := 0) hP h5 (by decide) (by decide) (k := .cint 0) intC (eFlat (eIdx items (bMd _ 5 7 (by decide) (by decide)) hvi) (lf_noMut hv)) (lf_tm hv) (lf_ownAt hv _)
    exact ⟨Q, none, hQ, hQ5, fun rest => (runs_then (c0 none P) e).trans ((runs_skip (c1 none Q)).trans (bent_low ib (by decide) rest))⟩
  · by_cases z1 : w = 1
    · subst z1
      have i1 : ev sub G (.idx (.slot 2) (.cint 1)) (bentS (some (.int 1)) none way P) = .ok (.int rm) := eIdx (bS2 _) intC (by rw [eP]; rfl)
      have items : ev sub G (.lst [(.cint 201), (.cint 200), (.neg (.cint 1)), (.cbl true), .cnon, (.cstr [51]), (.bin .sub (.idx (.slot 2) (.cint 1)) (.cint 1))]) (bentS (some (.int 1)) none way P) = .ok (.lst [.int 201, .int 200, .int (-1), .bl true, .non, .str [51], .int (rm - 1)]) :=
        eLst (esC intC (esC intC (esC (eNeg intC) (esC (by rw [ev]) (esC (by rw [ev]) (esC (by rw [ev]) (esC (eBin i1 intC rfl) es0)))))))
      obtain ⟨v, hv, hvi⟩ := idx_any (P := fun d => lfB d = true) (xs := [.int 201, .int 200, .int (-1), .bl true, .non, .str [51], .int (rm - 1)]) (i := way / 5 % 7) (Int.emod_nonneg _ (by decide)) (show way / 5 % 7 < ((7 : Nat) : Int) from Int.emod_lt_of_pos _ (by decide)) (by simp [lfB])
      obtain ⟨Q, hQ, hQ5, e⟩ := bent_put (sub := sub) (G := G) (way := way) (w := 1) (o := none) (j := 1) hP h5 (by decide) (by decide) (k := .cint 1) intC (eFlat (eIdx items (bMd _ 5 7 (by decide) (by decide)) hvi) (lf_noMut hv)) (lf_tm hv) (lf_ownAt hv _)
      exact ⟨Q, none, hQ, hQ5, fun rest => (runs_skip (c0 none P)).trans ((runs_then (c1 none P) e).trans (bent_low ib (by decide) rest))⟩
    · obtain ⟨X, hX, hXl, hXr⟩ : ∃ X, P[w.toNat]? = some (.lst X) ∧ X.length ≤ 900 ∧ ∀ d ∈ X, rowB d = true := by
        have : w = 2 ∨ w = 3 ∨ w = 4 := by omega
        rcases this with e | e | e
        · exact ⟨A, by rw [e, eP]; rfl, hl.1, hA⟩
        · exact ⟨B, by rw [e, eP]; rfl, hl.2.1, hB⟩
        · exact ⟨C, by rw [e, eP]; rfl, hl.2.2, hC⟩
      have n0 : (w == 0) = false := by simpa using z0
      have n1 : (w == 1) = false := by simpa using z1
      obtain ⟨Q, o', hQ, hQ5, e⟩ := bent_rows (sub := sub) (G := G) ib hG (way := way) (w := w) hP h5 (by omega) w5 hX hXl hXr
      exact ⟨Q, o', hQ, hQ5, fun rest => (runs_skip ((c0 none P).trans (by rw [n0]))).trans ((runs_skip ((c1 none P).trans (by rw [n1]))).trans (e rest))⟩
theorem bent_run (ib : Nat) (hG : ∀ (xs : List D) (z : Int), 0 < xs.length → xs.length ≤ 10 → (∀ d ∈ xs, leafB d = true) → ∃ d', tmB d' = true ∧ G ib [.tup xs, .int z] = .ok (d', [])) {sg : W} {rm : Int} {A B C : List D} (hs : sg.length ≤ 1000) (hl : A.length ≤ 900 ∧ B.length ≤ 900 ∧ C.length ≤ 900) (hA : ∀ d ∈ A, rowB d = true) (hB : ∀ d ∈ B, rowB d = true) (hC : ∀ d ∈ C, rowB d = true) (way : Int) :
    ∃ bd, tmB bd = true ∧ runDef sub G (D_l_bent ib) [.tup [.str sg, .int rm, .lst A, .lst B, .lst C], .int way] = .ok (bd, []) := by
  obtain ⟨Q, o, hQ, hQ5, e⟩ := bent_mid (sub := sub) (G := G) ib hG (rm := rm) hs hl hA hB hC way
  have qm : ev sub G (.bin .mod (.slot 1) (.cint 5)) (bentS none none way [.str sg, .int rm, .lst A, .lst B, .lst C]) = .ok (.int (way % 5)) := eBin (bS1 _) intC (d_mod (by decide))
  have ce : ev sub G (.cmp .eq (.bin .mod (.bin .fdiv (.slot 1) (.cint 5)) (.cint 40)) (.cint 39)) (bentS (some (.int (way % 5))) o way Q) = .ok (.bl (way / 5 % 40 == 39)) := eCmp (bMd _ 5 40 (by decide) (by decide)) intC (eqI _ _)
  have start : ∀ {d : D} {ρ' : Rho}, runs sub G [((D_l_bent ib).body.getD 5 .pass), .frz 2, .ret (.blt .tuple [(.slot 2)])] (bentS (some (.int (way % 5))) o way Q) = .ret d ρ' → runDef sub G (D_l_bent ib) [.tup [.str sg, .int rm, .lst A, .lst B, .lst C], .int way] = .ok (d, []) := fun {d ρ'} q =>
    run_def rfl rfl ((runs_lstMv (ds := [.str sg, .int rm, .lst A, .lst B, .lst C]) rfl (by unfold lim; simp)).trans ((runs_asg (ρ := bentS none none way [.str sg, .int rm, .lst A, .lst B, .lst C]) qm).trans ((e _).trans q)))
  cases hc : (way / 5 % 40 == 39) with
  | true =>
    rw [hc] at ce
    have hm : ∀ d ∈ Q ++ [D.int 0], tmB d = true := fun d hd => by
      rcases List.mem_append.mp hd with q | q
      · exact hQ d q
      · rw [List.mem_singleton.mp q]; rfl
    refine ⟨.tup (Q ++ [.int 0]), (tm_of_lst (by rw [List.length_append, List.length_singleton]; omega) hm).2, start ((runs_then ce ((runs_app (xs := Q) rfl intC (by rw [hQ5]; unfold lim; decide)).trans rnil)).trans (runs_frz.trans (runs_ret (eBlt (es1 (a := .slot 2) (x := .lst (Q ++ [.int 0])) (by rw [ev]; rfl)) rfl))))⟩
  | false =>
    rw [hc] at ce
    exact ⟨.tup Q, (tm_of_lst (by omega) hQ).2, start ((runs_skip ce).trans (runs_frz.trans (runs_ret (eBlt (es1 (a := .slot 2) (x := .lst Q) (by rw [ev]; rfl)) rfl))))⟩
def D_l_copied : Def := { nps := 1, nsl := 1, body := [
  .ret (.tup [(.flat (.idx (.slot 0) (.cint 0))), (.flat (.idx (.slot 0) (.cint 1))), (.blt .list [(.idx (.slot 0) (.cint 2))]), (.blt .list [(.idx (.slot 0) (.cint 3))]), (.blt .list [(.idx (.slot 0) (.cint 4))])])] }
theorem copied_run (S : Scr) : runDef sub G D_l_copied [S.d] = .ok (S.d, []) := by
  have s0 : ev sub G (.slot 0) [some S.d] = .ok S.d := by rw [ev]; rfl
  refine run_def (ρ := [some S.d]) rfl rfl (runs_ret (eTup (esC (eFlat (eIdx s0 intC (z := .str S.sg) rfl) rfl) (esC (eFlat (eIdx s0 intC (z := .int S.rm) rfl) rfl) (esC (eBlt (es1 (eIdx s0 intC (z := .lst (S.bs.map dPr)) rfl)) rfl) (esC (eBlt (es1 (eIdx s0 intC (z := .lst (S.ss.map dSt)) rfl)) rfl) (esC (eBlt (es1 (eIdx s0 intC (z := .lst (S.es.map dPr)) rfl)) rfl) es0)))))))
theorem row_pr {p : Pr} (h : p.2.length ≤ 100) : rowB (dPr p) = true := by
  show (decide (0 < 2) && decide (2 ≤ 10) && [D.int p.1, .str p.2].all leafB) = true
  have : leafB (.str p.2) = true := decide_eq_true h
  simp [this, leafB, h]
theorem row_st {s : Sp4} (h1 : s.2.1.length ≤ 100) (h2 : s.2.2.1.length ≤ 100) : rowB (dSt s) = true := by
  show (decide (0 < 4) && decide (4 ≤ 10) && [D.int s.1, .str s.2.1, .str s.2.2.1, .int s.2.2.2].all leafB) = true
  simp [leafB, h1, h2]
theorem rows_map {α : Type} {g : α → D} {X : List α} (h : ∀ x ∈ X, rowB (g x) = true) : ∀ d ∈ X.map g, rowB d = true := fun d hd => by
  obtain ⟨x, hx, rfl⟩ := List.mem_map.mp hd
  exact h x hx
end
end L2.Py.C11

set_option maxRecDepth 100000
set_option maxHeartbeats 4000000
namespace K11
open PySem PySem.Spec PyProof.Rows L2 L2.Py
def top (i : Nat) : Stmt := PySem.Challenge.pw_earlyscribe_k11_what_is_a_scribe.main.body.getD i (.Pass ⟨0, 0, 0, 0⟩)
def D_l_digits_at (l_cell_at : Nat) : Def := { nps := 2, nsl := 4, body := [
  .asg 2 .fr (.call l_cell_at [(.slot 0), (.slot 1)]),
  .iff (.cmp .eq (.bin .mod (.bin .fdiv (.call l_cell_at [(.slot 0), (.cint 0)]) (.cint 3)) (.cint 2)) (.cint 0)) [.ret (.slot 2)] [],
  .asg 3 .fr (.bin .mod (.bin .add (.bin .add (.bin .mul (.slot 2) (.cint 48271)) (.bin .mul (.slot 1) (.cint 69621))) (.cint 11)) (.cint 2147483629)),
  .asg 3 .fr (.bin .mod (.bin .mul (.slot 3) (.slot 3)) (.cint 2147483587)),
  .ret (.bin .add (.bin .mul (.slot 3) (.cint 2147483563)) (.bin .mod (.bin .mul (.slot 3) (.slot 3)) (.cint 2147483563)))] }
def B_l_word_1 : List S := [.asg 4 .fr (.bin .add (.slot 4) (.idx (.slot 2) (.bin .mod (.slot 3) (.cint 3)))), .asg 3 .fr (.bin .fdiv (.slot 3) (.cint 3))]
def D_l_word : Def := { nps := 1, nsl := 6, body := [
  .asg 1 .fr (.bin .mod (.slot 0) (.cint 4)),
  .iff (.cmp .eq (.bin .mod (.slot 0) (.cint 40)) (.cint 39)) [.asg 1 .fr (.cint 40)] [],
  .asg 2 .fr (.idx (.lst [(.cstr [97, 98, 122]), (.cstr [120, 107, 98])]) (.blt .toInt [(.cmp .eq (.bin .mod (.bin .fdiv (.slot 0) (.cint 40)) (.cint 5)) (.cint 4))])),
  .asg 3 .fr (.bin .fdiv (.slot 0) (.cint 200)),
  .asg 4 .fr (.cstr []),
  .frh false [5] false .range1 [(.slot 1)] B_l_word_1,
  .ret (.slot 4)] }
def L_l_scribe_1 (l_cell_at l_digits_at l_word : Nat) : E := (.slot 16)
def T_l_scribe_1 (l_cell_at l_digits_at l_word : Nat) : List E := [(.cmp .eq (.slcH (.slot 16) (.cint 2)) (.slcH (.slot 15) (.cint 2)))]
def L_l_scribe_2 (l_cell_at l_digits_at l_word : Nat) : E := (.slot 16)
def T_l_scribe_2 (l_cell_at l_digits_at l_word : Nat) : List E := [(.cmp .eq (.idx (.slot 16) (.cint 0)) (.slot 12))]
def B_l_scribe_1 (l_cell_at l_digits_at l_word : Nat) : List S := [.asg 10 .fr (.call l_digits_at [(.slot 0), (.slot 9)]), .asg 11 .fr (.bin .mod (.slot 10) (.cint 6)), .asg 12 .fr (.bin .mod (.bin .fdiv (.slot 10) (.cint 6)) (.blt .max2 [(.cint 1), (.slot 5)])), .asg 10 .fr (.bin .fdiv (.bin .fdiv (.slot 10) (.cint 6)) (.blt .max2 [(.cint 1), (.slot 5)])), .asg 13 .fr (.idx (.slot 4) (.bin .mod (.slot 10) (.blt .len [(.slot 4)]))), .asg 10 .fr (.bin .fdiv (.slot 10) (.blt .len [(.slot 4)])), .asg 14 .fr (.call l_word [(.bin .fdiv (.slot 10) (.blt .max2 [(.cint 1), (.slot 5)]))]), .asg 15 .fr (.tup [(.slot 12), (.slot 13), (.slot 14), (.bin .mod (.slot 10) (.blt .max2 [(.cint 1), (.slot 5)]))]), .iff (.and (.cmp .gt (.slot 5) (.cint 0)) (.and (.cmp .lt (.slot 11) (.cint 4)) (.cmp .notin (.slot 15) (.slot 7)))) [.iff (.or (.not (.slot 2)) (.cmp .eq (.blt .len [(.comp true [16] false .val [(.slot 7)] (L_l_scribe_1 l_cell_at l_digits_at l_word) (T_l_scribe_1 l_cell_at l_digits_at l_word))]) (.cint 0))) [.app 7 (.slot 15)] []] [], .iff (.and (.cmp .gt (.slot 5) (.cint 0)) (.and (.cmp .eq (.slot 11) (.cint 4)) (.cmp .notin (.tup [(.slot 12), (.slot 14)]) (.slot 8)))) [.iff (.or (.not (.slot 2)) (.cmp .eq (.blt .len [(.comp true [16] false .val [(.slot 8)] (L_l_scribe_2 l_cell_at l_digits_at l_word) (T_l_scribe_2 l_cell_at l_digits_at l_word))]) (.cint 0))) [.app 8 (.tup [(.slot 12), (.slot 14)])] []] [], .iff (.and (.cmp .gt (.slot 5) (.cint 0)) (.and (.cmp .eq (.slot 11) (.cint 5)) (.and (.cmp .notin (.tup [(.slot 12), (.slot 14)]) (.slot 6)) (.or (.cmp .eq (.blt .len [(.slot 6)]) (.cint 0)) (.not (.slot 2)))))) [.app 6 (.tup [(.slot 12), (.slot 14)])] []]
def D_l_scribe (l_cell_at l_digits_at l_word : Nat) : Def := { nps := 3, nsl := 17, body := [
  .asg 3 .fr (.call l_cell_at [(.slot 0), (.slot 1)]),
  .asg 4 .fr (.idx (.lst [(.cstr [97, 98]), (.cstr [98, 97]), (.cstr [97, 98, 99]), (.cstr [99, 97, 98]), (.cstr [97]), (.cstr [122, 121, 120, 119]), (.cstr [112, 98, 101, 97, 111])]) (.bin .mod (.slot 3) (.cint 7))),
  .asg 5 .fr (.bin .mod (.bin .fdiv (.slot 3) (.cint 7)) (.idx (.lst [(.cint 9), (.cint 5)]) (.blt .toInt [(.not (.slot 2))]))),
  .iff (.and (.slot 2) (.cmp .eq (.bin .mod (.bin .fdiv (.slot 3) (.cint 500)) (.cint 6)) (.cint 1))) [.asg 5 .fr (.bin .add (.cint 11) (.bin .mod (.bin .fdiv (.slot 3) (.cint 3000)) (.cint 4)))] [],
  .asg 6 (.ow .fr) (.lst []),
  .asg 7 (.ow .fr) (.lst []),
  .asg 8 (.ow .fr) (.lst []),
  .frh false [9] false .range2 [(.bin .add (.slot 1) (.cint 1)), (.blt .min2 [(.bin .add (.slot 1) (.cint 32)), (.blt .len [(.slot 0)])])] (B_l_scribe_1 l_cell_at l_digits_at l_word),
  .iff (.and (.cmp .gt (.slot 5) (.cint 0)) (.and (.cmp .eq (.blt .len [(.slot 6)]) (.cint 0)) (.cmp .gt (.bin .mod (.bin .fdiv (.slot 3) (.cint 45)) (.cint 8)) (.cint 0)))) [.app 6 (.tup [(.bin .mod (.bin .fdiv (.slot 3) (.cint 360)) (.slot 5)), (.call l_word [(.bin .fdiv (.slot 3) (.cint 3600))])])] [],
  .iff (.and (.cmp .gt (.slot 5) (.cint 0)) (.and (.cmp .eq (.blt .len [(.slot 8)]) (.cint 0)) (.cmp .gt (.bin .mod (.bin .fdiv (.slot 3) (.cint 45)) (.cint 8)) (.cint 1)))) [.app 8 (.tup [(.bin .mod (.bin .fdiv (.slot 3) (.cint 361)) (.slot 5)), (.call l_word [(.bin .fdiv (.slot 3) (.cint 7))])])] [],
  .ret (.tup [(.slot 4), (.slot 5), (.slot 6), (.slot 7), (.slot 8)])] }
def D_l_bent_part : Def := { nps := 2, nsl := 4, body := [
  .asg 2 .fr (.bin .mod (.bin .fdiv (.slot 1) (.cint 7)) (.blt .len [(.slot 0)])),
  .asg 3 (.ow .fr) (.blt .list [(.slot 0)]),
  .iff (.blt (.isi [.str]) [(.idx (.slot 0) (.slot 2))]) [.put 3 [] (.slot 2) (.idx (.lst [(.bin .add (.idx (.slot 0) (.slot 2)) (.cstr [65])), (.cstr []), (.cstr [97, 49]), .cnon, (.bin .add (.idx (.slot 0) (.slot 2)) (.cstr [113])), (.cstr [97, 98]), (.cint 1)]) (.bin .mod (.slot 1) (.cint 7)))] [.put 3 [] (.slot 2) (.idx (.lst [(.bin .add (.idx (.slot 0) (.slot 2)) (.cint 1)), (.neg (.cint 1)), (.bin .add (.idx (.slot 0) (.slot 2)) (.bin .pow (.cint 10) (.cint 58))), (.cbl true), .cnon, (.cstr [97]), (.bin .sub (.neg (.cint 1)) (.idx (.slot 0) (.slot 2)))]) (.bin .mod (.slot 1) (.cint 7)))],
  .iff (.cmp .eq (.bin .mod (.bin .fdiv (.slot 1) (.cint 49)) (.cint 6)) (.cint 1)) [.asgF 3 (.ow .fr) (.bin .add (.slot 3) (.lst [(.cint 0)]))] [],
  .iff (.cmp .eq (.bin .mod (.bin .fdiv (.slot 1) (.cint 49)) (.cint 6)) (.cint 2)) [.asgF 3 (.ow .fr) (.slcH (.slot 3) (.neg (.cint 1)))] [],
  .iff (.cmp .eq (.bin .mod (.bin .fdiv (.slot 1) (.cint 49)) (.cint 6)) (.cint 3)) [.ret (.slot 3)] [],
  .ret (.blt .tuple [(.slot 3)])] }
def D_l_bent (l_bent_part : Nat) : Def := { nps := 2, nsl := 5, body := [
  .lstMv 2 0,
  .asg 3 .fr (.bin .mod (.slot 1) (.cint 5)),
  .iff (.cmp .eq (.slot 3) (.cint 0)) [.putF 2 (.ow .fr) [] (.cint 0) (.flat (.idx (.lst [(.cstr []), (.cstr [97, 98, 99, 100, 101, 102, 103, 104, 105, 106, 107, 108, 109, 110, 111, 112, 113, 114, 115, 116, 117, 118, 119, 120, 121, 122]), (.cstr [97, 97]), (.cstr [65]), (.cstr [122, 121, 120, 119, 98, 97]), (.cint 5), (.cstr [97, 32, 98])]) (.bin .mod (.bin .fdiv (.slot 1) (.cint 5)) (.cint 7))))] [],
  .iff (.cmp .eq (.slot 3) (.cint 1)) [.putF 2 (.ow .fr) [] (.cint 1) (.flat (.idx (.lst [(.cint 201), (.cint 200), (.neg (.cint 1)), (.cbl true), .cnon, (.cstr [51]), (.bin .sub (.idx (.slot 2) (.cint 1)) (.cint 1))]) (.bin .mod (.bin .fdiv (.slot 1) (.cint 5)) (.cint 7))))] [],
  .iff (.and (.cmp .gt (.slot 3) (.cint 1)) (.cmp .eq (.bin .mod (.bin .fdiv (.slot 1) (.cint 5)) (.cint 5)) (.cint 1))) [.putF 2 (.ow .fr) [] (.slot 3) (.flat (.blt .tuple [(.idx (.slot 2) (.slot 3))]))] [.iff (.and (.cmp .gt (.slot 3) (.cint 1)) (.cmp .eq (.bin .mod (.bin .fdiv (.slot 1) (.cint 5)) (.cint 5)) (.cint 4))) [.putF 2 (.ow .fr) [] (.slot 3) (.flat (.idx (.lst [.cnon, (.cint 5), (.cstr [97, 98]), (.cbl true), (.tup [])]) (.bin .mod (.bin .fdiv (.slot 1) (.cint 25)) (.cint 5))))] [.iff (.and (.cmp .gt (.slot 3) (.cint 1)) (.cmp .gt (.blt .len [(.idx (.slot 2) (.slot 3))]) (.cint 0))) [.asg 4 .fr (.bin .mod (.bin .fdiv (.slot 1) (.cint 25)) (.blt .len [(.idx (.slot 2) (.slot 3))])), .iff (.cmp .eq (.bin .mod (.bin .fdiv (.slot 1) (.cint 5)) (.cint 5)) (.cint 2)) [.putF 2 (.ow .fr) [] (.slot 3) (.bin .add (.idx (.slot 2) (.slot 3)) (.lst [(.idx (.idx (.slot 2) (.slot 3)) (.slot 4))]))] [.iff (.cmp .eq (.bin .mod (.bin .fdiv (.slot 1) (.cint 5)) (.cint 5)) (.cint 3)) [.mut 2 [(.slot 3)] .insert [(.slot 4), (.idx (.lst [.cnon, (.cint 0), (.cstr [97, 98]), (.lst [(.cint 0), (.cstr [])]), (.tup []), (.cbl true)]) (.bin .mod (.bin .fdiv (.slot 1) (.cint 300)) (.cint 6)))]] [.putL 2 [(.slot 3)] (.slot 4) (.call l_bent_part [(.flat (.idx (.idx (.slot 2) (.slot 3)) (.slot 4))), (.bin .fdiv (.slot 1) (.cint 600))])]]] []]],
  .iff (.cmp .eq (.bin .mod (.bin .fdiv (.slot 1) (.cint 5)) (.cint 40)) (.cint 39)) [.app 2 (.cint 0)] [],
  .frz 2,
  .ret (.blt .tuple [(.slot 2)])] }
def D_l_copied : Def := { nps := 1, nsl := 1, body := [
  .ret (.tup [(.flat (.idx (.slot 0) (.cint 0))), (.flat (.idx (.slot 0) (.cint 1))), (.blt .list [(.idx (.slot 0) (.cint 2))]), (.blt .list [(.idx (.slot 0) (.cint 3))]), (.blt .list [(.idx (.slot 0) (.cint 4))])])] }
def L_l_letters_1 : E := (.slot 1)
def T_l_letters_1 : List E := [(.cmp .notin (.slot 1) (.cstr [97, 98, 99, 100, 101, 102, 103, 104, 105, 106, 107, 108, 109, 110, 111, 112, 113, 114, 115, 116, 117, 118, 119, 120, 121, 122]))]
def D_l_letters : Def := { nps := 1, nsl := 2, body := [
  .iff (.not (.blt (.isi [.str]) [(.slot 0)])) [.ret (.cbl false)] [],
  .ret (.cmp .eq (.blt .len [(.comp false [1] false .val [(.slot 0)] L_l_letters_1 T_l_letters_1)]) (.cint 0))] }
def D_l_number : Def := { nps := 2, nsl := 2, body := [
  .ret (.and (.blt (.isi [.int]) [(.slot 0)]) (.and (.not (.blt (.isi [.bool]) [(.slot 0)])) (.and (.cmp .ge (.slot 0) (.cint 0)) (.cmp .lt (.slot 0) (.slot 1)))))] }
def D_l_good (l_letters l_number : Nat) : Def := { nps := 3, nsl := 3, body := [
  .iff (.or (.not (.blt (.isi [.tuple]) [(.slot 0)])) (.cmp .ne (.blt .len [(.slot 0)]) (.idx (.lst [(.cint 2), (.cint 4)]) (.blt .toInt [(.cmp .ne (.slot 2) (.cstr []))])))) [.ret (.cbl false)] [],
  .iff (.cmp .eq (.slot 2) (.cstr [])) [.ret (.and (.call l_number [(.idx (.slot 0) (.cint 0)), (.slot 1)]) (.call l_letters [(.idx (.slot 0) (.cint 1))]))] [],
  .iff (.or (.not (.call l_number [(.idx (.slot 0) (.cint 0)), (.slot 1)])) (.or (.not (.call l_letters [(.idx (.slot 0) (.cint 1))])) (.cmp .ne (.blt .len [(.idx (.slot 0) (.cint 1))]) (.cint 1)))) [.ret (.cbl false)] [],
  .ret (.and (.cmp .isin (.idx (.slot 0) (.cint 1)) (.slot 2)) (.and (.call l_letters [(.idx (.slot 0) (.cint 2))]) (.call l_number [(.idx (.slot 0) (.cint 3)), (.slot 1)])))] }
def B_l_due_1 (l_letters l_number l_good : Nat) : List S := [.iff (.or (.not (.call l_good [(.idx (.idx (.slot 0) (.slot 1)) (.slot 2)), (.idx (.slot 0) (.cint 1)), (.idx (.lst [(.cstr []), (.idx (.slot 0) (.cint 0))]) (.blt .toInt [(.cmp .eq (.slot 1) (.cint 3))]))])) (.cmp .isin (.idx (.idx (.slot 0) (.slot 1)) (.slot 2)) (.slcH (.idx (.slot 0) (.slot 1)) (.slot 2)))) [.ret (.cbl false)] []]
def B_l_due_2 (l_letters l_number l_good : Nat) : List S := [.iff (.not (.blt (.isi [.list]) [(.idx (.slot 0) (.slot 1))])) [.ret (.cbl false)] [], .frh false [2] false .range1 [(.blt .len [(.idx (.slot 0) (.slot 1))])] (B_l_due_1 l_letters l_number l_good)]
def D_l_due (l_letters l_number l_good : Nat) : Def := { nps := 1, nsl := 3, body := [
  .iff (.or (.not (.blt (.isi [.tuple]) [(.slot 0)])) (.or (.cmp .ne (.blt .len [(.slot 0)]) (.cint 5)) (.not (.call l_letters [(.idx (.slot 0) (.cint 0))])))) [.ret (.cbl false)] [],
  .iff (.or (.cmp .eq (.blt .len [(.idx (.slot 0) (.cint 0))]) (.cint 0)) (.or (.cmp .lt (.blt .lenSetT [(.idx (.slot 0) (.cint 0))]) (.blt .len [(.idx (.slot 0) (.cint 0))])) (.not (.call l_number [(.idx (.slot 0) (.cint 1)), (.cint 201)])))) [.ret (.cbl false)] [],
  .frh false [1] false .val [(.lst [(.cint 2), (.cint 3), (.cint 4)])] (B_l_due_2 l_letters l_number l_good),
  .ret (.cbl true)] }
def B_law_1 (l_scribe l_bent is_scribe l_copied l_cell_at l_due : Nat) : List S := [.asg 4 .fr (.call is_scribe [(.slot 3)]), .iff (.or (.not (.blt (.isi [.bool]) [(.slot 4)])) (.cmp .ne (.slot 4) (.call l_due [(.slot 3)]))) [.ret (.cbl false)] []]
def D_law (l_scribe l_bent is_scribe l_copied l_cell_at l_due : Nat) : Def := { nps := 1, nsl := 5, body := [
  .asg 1 .fr (.call l_scribe [(.slot 0), (.cint 0), (.cmp .eq (.bin .mod (.call l_cell_at [(.slot 0), (.cint 40)]) (.cint 2)) (.cint 1))]),
  .asg 2 .fr (.lst [(.slot 1), (.call l_bent [(.call l_copied [(.slot 1)]), (.bin .fdiv (.call l_cell_at [(.slot 0), (.cint 41)]) (.cint 2))]), (.blt .list [(.slot 1)]), (.slcH (.slot 1) (.cint 4)), .cnon, (.tup [])]),
  .asg 2 .fr (.bin .add (.slot 2) (.lst [(.tup [(.cstr [97]), (.cint 0), (.lst []), (.lst []), (.lst [])]), (.tup [(.cstr [97]), (.cint 1), (.lst [(.tup [(.cint 0), (.cstr [])])]), (.lst [(.tup [(.cint 0), (.cstr [97]), (.cstr []), (.cint 0)])]), (.lst [(.tup [(.cint 0), (.cstr [])])])]), (.cint 0), (.cstr [97]), (.lst [(.slot 1)]), (.cbl true)])),
  .frh false [3] false .val [(.slot 2)] (B_law_1 l_scribe l_bent is_scribe l_copied l_cell_at l_due),
  .ret (.cmp .eq (.slot 1) (.call l_scribe [(.slot 0), (.cint 0), (.cmp .eq (.bin .mod (.call l_cell_at [(.slot 0), (.cint 40)]) (.cint 2)) (.cint 1))]))] }
def E_l_cell_at : Dd := { name := "_law_cell_at", ps := ["_law_script", "_law_k"], N := ["_law_script", "_law_k"], d := D_l_cell_at, res := .fr, st := top 10 }
def E_l_digits_at : Dd := { name := "_law_digits_at", ps := ["_law_script", "_law_k"], N := ["_law_script", "_law_k", "_law_cell", "_law_number_here"], d := (D_l_digits_at 0), res := .fr, st := top 11 }
def E_l_word : Dd := { name := "_law_word", ps := ["_law_cell"], N := ["_law_cell", "_law_size", "_law_some", "_law_number_here", "_law_word_here", "_law_k"], d := D_l_word, res := .fr, st := top 12 }
def E_l_scribe : Dd := { name := "_law_scribe", ps := ["_law_script", "_law_at", "_law_plain"], N := ["_law_script", "_law_at", "_law_plain", "_law_first", "_law_signs", "_law_rooms", "_law_begins", "_law_steps", "_law_ends", "_law_k", "_law_number_here", "_law_way", "_law_room", "_law_sign", "_law_word_here", "_law_step", "_law_one"], d := (D_l_scribe 0 1 2), res := .fr, st := top 13 }
def E_l_bent_part : Dd := { name := "_law_bent_part", ps := ["_law_part", "_law_way"], N := ["_law_part", "_law_way", "_law_at", "_law_bent_here"], d := D_l_bent_part, res := .fr, st := top 19 }
def E_l_bent : Dd := { name := "_law_bent", ps := ["_law_scribe_here", "_law_way"], N := ["_law_scribe_here", "_law_way", "_law_parts", "_law_where", "_law_at"], d := (D_l_bent 4), res := .fr, st := top 20, cs := some (0, (.ow (.ow .fr))) }
def E_is_room : Dd := { name := "is_room", ps := ["thing", "rooms"], N := ["thing", "rooms"], d := D_is_room, res := .fr, st := top 4 }
def E_is_word : Dd := { name := "is_word", ps := ["thing"], N := ["thing", "sign"], d := D_is_word, res := .fr, st := top 3 }
def E_are_signs : Dd := { name := "are_signs", ps := ["thing"], N := ["thing"], d := (D_are_signs 7), res := .fr, st := top 7 }
def E_is_pair : Dd := { name := "is_pair", ps := ["thing", "rooms"], N := ["thing", "rooms"], d := (D_is_pair 6 7), res := .fr, st := top 5 }
def E_is_step : Dd := { name := "is_step", ps := ["thing", "signs", "rooms"], N := ["thing", "signs", "rooms"], d := (D_is_step 6 9), res := .fr, st := top 6 }
def E_is_scribe : Dd := { name := "is_scribe", ps := ["thing"], N := ["thing", "signs", "rooms", "begins", "steps", "ends", "row", "pair", "step"], d := (D_is_scribe 6 8 9 10), res := .fr, st := top 8 }
def E_l_copied : Dd := { name := "_law_copied", ps := ["_law_scribe_here"], N := ["_law_scribe_here"], d := D_l_copied, res := (.ow (.ow .fr)), st := top 14 }
def E_l_letters : Dd := { name := "_law_letters", ps := ["_law_thing"], N := ["_law_thing", "_law_sign"], d := D_l_letters, res := .fr, st := top 15 }
def E_l_number : Dd := { name := "_law_number", ps := ["_law_thing", "_law_most"], N := ["_law_thing", "_law_most"], d := D_l_number, res := .fr, st := top 16 }
def E_l_good : Dd := { name := "_law_good", ps := ["_law_thing", "_law_rooms", "_law_signs"], N := ["_law_thing", "_law_rooms", "_law_signs"], d := (D_l_good 13 14), res := .fr, st := top 17 }
def E_l_due : Dd := { name := "_law_due", ps := ["_law_thing"], N := ["_law_thing", "_law_k", "_law_at"], d := (D_l_due 13 14 15), res := .fr, st := top 18 }
def E_law : Dd := { name := "law", ps := ["_law_script"], N := ["_law_script", "_law_scribe_here", "_law_some", "_law_thing", "_law_found"], d := (D_law 3 5 11 12 0 16), res := .fr, st := top 21 }
def tb : List Dd := [E_l_cell_at, E_l_digits_at, E_l_word, E_l_scribe, E_l_bent_part, E_l_bent, E_is_room, E_is_word, E_are_signs, E_is_pair, E_is_step, E_is_scribe, E_l_copied, E_l_letters, E_l_number, E_l_good, E_l_due, E_law]
def gc : Gc := { ci := [("MOST_ROOMS", 200)], cw := [("LETTERS", [97, 98, 99, 100, 101, 102, 103, 104, 105, 106, 107, 108, 109, 110, 111, 112, 113, 114, 115, 116, 117, 118, 119, 120, 121, 122])], xm := [], xt := [] }
theorem chk_tb : chkAll gc tb = true := by decide +kernel
def subs : Sub := subX gc.xm
theorem at_l_cell_at {k : Nat} (h : 0 < k) (xs : List D) : sem subs (tb.map Dd.d) k 0 xs = runDef subs (sem subs (tb.map Dd.d) 0) D_l_cell_at xs := sem_at rfl h xs
theorem at_l_digits_at {k : Nat} (h : 1 < k) (xs : List D) : sem subs (tb.map Dd.d) k 1 xs = runDef subs (sem subs (tb.map Dd.d) 1) (D_l_digits_at 0) xs := sem_at rfl h xs
theorem at_l_word {k : Nat} (h : 2 < k) (xs : List D) : sem subs (tb.map Dd.d) k 2 xs = runDef subs (sem subs (tb.map Dd.d) 2) D_l_word xs := sem_at rfl h xs
theorem at_l_scribe {k : Nat} (h : 3 < k) (xs : List D) : sem subs (tb.map Dd.d) k 3 xs = runDef subs (sem subs (tb.map Dd.d) 3) (D_l_scribe 0 1 2) xs := sem_at rfl h xs
theorem at_l_bent_part {k : Nat} (h : 4 < k) (xs : List D) : sem subs (tb.map Dd.d) k 4 xs = runDef subs (sem subs (tb.map Dd.d) 4) D_l_bent_part xs := sem_at rfl h xs
theorem at_l_bent {k : Nat} (h : 5 < k) (xs : List D) : sem subs (tb.map Dd.d) k 5 xs = runDef subs (sem subs (tb.map Dd.d) 5) (D_l_bent 4) xs := sem_at rfl h xs
theorem at_is_room {k : Nat} (h : 6 < k) (xs : List D) : sem subs (tb.map Dd.d) k 6 xs = runDef subs (sem subs (tb.map Dd.d) 6) D_is_room xs := sem_at rfl h xs
theorem at_is_word {k : Nat} (h : 7 < k) (xs : List D) : sem subs (tb.map Dd.d) k 7 xs = runDef subs (sem subs (tb.map Dd.d) 7) D_is_word xs := sem_at rfl h xs
theorem at_are_signs {k : Nat} (h : 8 < k) (xs : List D) : sem subs (tb.map Dd.d) k 8 xs = runDef subs (sem subs (tb.map Dd.d) 8) (D_are_signs 7) xs := sem_at rfl h xs
theorem at_is_pair {k : Nat} (h : 9 < k) (xs : List D) : sem subs (tb.map Dd.d) k 9 xs = runDef subs (sem subs (tb.map Dd.d) 9) (D_is_pair 6 7) xs := sem_at rfl h xs
theorem at_is_step {k : Nat} (h : 10 < k) (xs : List D) : sem subs (tb.map Dd.d) k 10 xs = runDef subs (sem subs (tb.map Dd.d) 10) (D_is_step 6 9) xs := sem_at rfl h xs
theorem at_is_scribe {k : Nat} (h : 11 < k) (xs : List D) : sem subs (tb.map Dd.d) k 11 xs = runDef subs (sem subs (tb.map Dd.d) 11) (D_is_scribe 6 8 9 10) xs := sem_at rfl h xs
theorem at_l_copied {k : Nat} (h : 12 < k) (xs : List D) : sem subs (tb.map Dd.d) k 12 xs = runDef subs (sem subs (tb.map Dd.d) 12) D_l_copied xs := sem_at rfl h xs
theorem at_l_letters {k : Nat} (h : 13 < k) (xs : List D) : sem subs (tb.map Dd.d) k 13 xs = runDef subs (sem subs (tb.map Dd.d) 13) D_l_letters xs := sem_at rfl h xs
theorem at_l_number {k : Nat} (h : 14 < k) (xs : List D) : sem subs (tb.map Dd.d) k 14 xs = runDef subs (sem subs (tb.map Dd.d) 14) D_l_number xs := sem_at rfl h xs
theorem at_l_good {k : Nat} (h : 15 < k) (xs : List D) : sem subs (tb.map Dd.d) k 15 xs = runDef subs (sem subs (tb.map Dd.d) 15) (D_l_good 13 14) xs := sem_at rfl h xs
theorem at_l_due {k : Nat} (h : 16 < k) (xs : List D) : sem subs (tb.map Dd.d) k 16 xs = runDef subs (sem subs (tb.map Dd.d) 16) (D_l_due 13 14 15) xs := sem_at rfl h xs
theorem at_law {k : Nat} (h : 17 < k) (xs : List D) : sem subs (tb.map Dd.d) k 17 xs = runDef subs (sem subs (tb.map Dd.d) 17) (D_law 3 5 11 12 0 16) xs := sem_at rfl h xs
open L2.Py.C11
theorem law_true (ns : List Int) (hl : ns.length ≤ 63) (hb : ∀ z ∈ ns, Builtin.Int.intBits z ≤ 1048576) : ∃ r, sem subs (tb.map Dd.d) 18 17 [.scr ns] = .ok (.bl true, r) := by
  have hc : ∀ k, 0 < k → ∀ i : Int, 0 ≤ i → sem subs (tb.map Dd.d) k 0 [.scr ns, .int i] = .ok (.int (cellAt ns i), []) := fun k hk i hi => by rw [at_l_cell_at hk, cell_run ns i hi]
  refine ⟨[], ?_⟩
  rw [at_law (by decide)]
  have hsc := fun (a0 : Int) (ha : 0 ≤ a0 ∧ a0 ≤ 100) (pl : Bool) => C12.scribe_run (sub := subs) (G := sem subs (tb.map Dd.d) 3) 0 1 2 ns a0 ha pl (by omega) (hc 3 (by decide)) (fun k hk => by
    obtain ⟨z, e⟩ := C13.digits_run (sub := subs) (G := sem subs (tb.map Dd.d) 1) 0 ns (hc 1 (by decide)) k hk
    exact ⟨z, by rw [at_l_digits_at (by decide)]; exact e⟩) (fun r => by
    obtain ⟨w, h, e⟩ := C12.word_run (sub := subs) (G := sem subs (tb.map Dd.d) 2) r
    exact ⟨w, h, by rw [at_l_word (by decide)]; exact e⟩)
  have gRoom : ∀ k, 6 < k → RoomG (sem subs (tb.map Dd.d) k) 6 := fun k hk d m h => by rw [at_is_room hk]; exact is_roomD h m
  have gWord : ∀ k, 7 < k → WordG (sem subs (tb.map Dd.d) k) 7 := fun k hk d h => by rw [at_is_word hk]; exact is_wordD h
  have gSigns : ∀ k, 8 < k → SignsG (sem subs (tb.map Dd.d) k) 8 := fun k hk d h => by rw [at_are_signs hk]; exact are_signsD (gWord 8 (by decide)) h
  have gPair : ∀ k, 9 < k → PairG (sem subs (tb.map Dd.d) k) 9 := fun k hk d m h => by rw [at_is_pair hk]; exact is_pairD (gRoom 9 (by decide)) (gWord 9 (by decide)) h m
  have gStep : ∀ k, 10 < k → StepG (sem subs (tb.map Dd.d) k) 10 := fun k hk d sg m h => by rw [at_is_step hk]; exact is_stepD (gRoom 10 (by decide)) (gPair 10 (by decide)) h sg m
  have gIs : ∀ k, 11 < k → BothG (sem subs (tb.map Dd.d) k) 11 := fun k hk d h => by rw [at_is_scribe hk]; exact is_scribeD (gSigns 11 (by decide)) (gRoom 11 (by decide)) (gPair 11 (by decide)) (gStep 11 (by decide)) h
  have gLet : ∀ k, 13 < k → WordG (sem subs (tb.map Dd.d) k) 13 := fun k hk d h => by rw [at_l_letters hk]; exact lettersD h
  have gNum : ∀ k, 14 < k → RoomG (sem subs (tb.map Dd.d) k) 14 := fun k hk d m h => by rw [at_l_number hk]; exact numberD h m
  have gGood : ∀ k, 15 < k → GoodG (sem subs (tb.map Dd.d) k) 15 := fun k hk d sg m h hsg => by rw [at_l_good hk]; exact goodD (gNum 15 (by decide)) (gLet 15 (by decide)) h sg hsg m
  have gDue : ∀ k, 16 < k → BothG (sem subs (tb.map Dd.d) k) 16 := fun k hk d h => by rw [at_l_due hk]; exact l_dueD (gLet 16 (by decide)) (gNum 16 (by decide)) (gGood 16 (by decide)) h
  obtain ⟨S, ⟨hL, hn⟩, ⟨⟨_, hs5⟩, _⟩, _, e1⟩ := hsc 0 (by decide) (cellAt ns 40 % 2 == 1)
  have b1 : ∀ p ∈ S.bs, p.2.length ≤ 40 := fun p h => (hL.bs p h).2.1
  have b2 : ∀ s ∈ S.ss, s.2.1.length ≤ 1 ∧ s.2.2.1.length ≤ 40 := fun s h => by
    obtain ⟨_, ⟨c, _, e⟩, hw, _⟩ := hL.ss s h
    exact ⟨by rw [e]; exact Nat.le_refl _, hw.1⟩
  have b3 : ∀ p ∈ S.es, p.2.length ≤ 40 := fun p h => (hL.es p h).2.1
  obtain ⟨bd, tb1, e2⟩ := bent_run (sub := subs) (G := sem subs (tb.map Dd.d) 5) 4 (fun xs z h0 hl hx => by
    obtain ⟨d', h, e⟩ := bent_part_run (sub := subs) (G := sem subs (tb.map Dd.d) 4) h0 hl hx z
    exact ⟨d', h, by rw [at_l_bent_part (by decide)]; exact e⟩) (sg := S.sg) (rm := S.rm) (A := S.bs.map dPr) (B := S.ss.map dSt) (C := S.es.map dPr) (by omega) (by simp only [List.length_map]; omega)
    (rows_map fun p h => row_pr (Nat.le_trans (b1 p h) (by decide))) (rows_map fun s h => row_st (Nat.le_trans (b2 s h).1 (by decide)) (Nat.le_trans (b2 s h).2 (by decide))) (rows_map fun p h => row_pr (Nat.le_trans (b3 p h) (by decide))) (cellAt ns 41 / 2)
  exact law_run 3 5 11 12 0 16 ns S bd (cellAt ns 40) (cellAt ns 41) (hc 17 (by decide) 40 (by decide)) (hc 17 (by decide) 41 (by decide)) (by rw [at_l_scribe (by decide)]; exact e1) (by rw [at_l_copied (by decide)]; exact copied_run S) (by rw [at_l_bent (by decide)]; exact e2) tb1
    (tm_scr (by omega) (by omega) (fun p h => Nat.le_trans (b1 p h) (by decide)) (fun s h => ⟨Nat.le_trans (b2 s h).1 (by decide), Nat.le_trans (b2 s h).2 (by decide)⟩) fun p h => Nat.le_trans (b3 p h) (by decide)) (gIs 17 (by decide)) (gDue 17 (by decide))
theorem facts {K : PySem.W.Frag} {h : Heap} {mg : Str → Option Value} (X : K.In h) (G : h.Ns mainGlobals mg)
    {f0 : Addr} {od0 an0 : Option Addr} {sl0 : Array (Option Value)} {oc0 kV0 dc0 pm0 cd0 ct0 : Value}
    (a0 : PySem.W.nsIn K mainGlobals "_law_cell_at" = some (some (.ref f0))) (l0 : K.lookup f0 = some ⟨oc0, od0, .func (PySem.W.fnOf "_law_cell_at" "_law_cell_at" (defArgs (E_l_cell_at).st) (defBody (E_l_cell_at).st) (defScope (E_l_cell_at).st) .none kV0 dc0 pm0 an0 cd0 ct0), sl0⟩) (c0 : PySem.W.codeIn K cd0 "_law_cell_at" = true) (k0 : PySem.W.keepIn K (.ref f0) = true)
    {f1 : Addr} {od1 an1 : Option Addr} {sl1 : Array (Option Value)} {oc1 kV1 dc1 pm1 cd1 ct1 : Value}
    (a1 : PySem.W.nsIn K mainGlobals "_law_digits_at" = some (some (.ref f1))) (l1 : K.lookup f1 = some ⟨oc1, od1, .func (PySem.W.fnOf "_law_digits_at" "_law_digits_at" (defArgs (E_l_digits_at).st) (defBody (E_l_digits_at).st) (defScope (E_l_digits_at).st) .none kV1 dc1 pm1 an1 cd1 ct1), sl1⟩) (c1 : PySem.W.codeIn K cd1 "_law_digits_at" = true) (k1 : PySem.W.keepIn K (.ref f1) = true)
    {f2 : Addr} {od2 an2 : Option Addr} {sl2 : Array (Option Value)} {oc2 kV2 dc2 pm2 cd2 ct2 : Value}
    (a2 : PySem.W.nsIn K mainGlobals "_law_word" = some (some (.ref f2))) (l2 : K.lookup f2 = some ⟨oc2, od2, .func (PySem.W.fnOf "_law_word" "_law_word" (defArgs (E_l_word).st) (defBody (E_l_word).st) (defScope (E_l_word).st) .none kV2 dc2 pm2 an2 cd2 ct2), sl2⟩) (c2 : PySem.W.codeIn K cd2 "_law_word" = true) (k2 : PySem.W.keepIn K (.ref f2) = true)
    {f3 : Addr} {od3 an3 : Option Addr} {sl3 : Array (Option Value)} {oc3 kV3 dc3 pm3 cd3 ct3 : Value}
    (a3 : PySem.W.nsIn K mainGlobals "_law_scribe" = some (some (.ref f3))) (l3 : K.lookup f3 = some ⟨oc3, od3, .func (PySem.W.fnOf "_law_scribe" "_law_scribe" (defArgs (E_l_scribe).st) (defBody (E_l_scribe).st) (defScope (E_l_scribe).st) .none kV3 dc3 pm3 an3 cd3 ct3), sl3⟩) (c3 : PySem.W.codeIn K cd3 "_law_scribe" = true) (k3 : PySem.W.keepIn K (.ref f3) = true)
    {f4 : Addr} {od4 an4 : Option Addr} {sl4 : Array (Option Value)} {oc4 kV4 dc4 pm4 cd4 ct4 : Value}
    (a4 : PySem.W.nsIn K mainGlobals "_law_bent_part" = some (some (.ref f4))) (l4 : K.lookup f4 = some ⟨oc4, od4, .func (PySem.W.fnOf "_law_bent_part" "_law_bent_part" (defArgs (E_l_bent_part).st) (defBody (E_l_bent_part).st) (defScope (E_l_bent_part).st) .none kV4 dc4 pm4 an4 cd4 ct4), sl4⟩) (c4 : PySem.W.codeIn K cd4 "_law_bent_part" = true) (k4 : PySem.W.keepIn K (.ref f4) = true)
    {f5 : Addr} {od5 an5 : Option Addr} {sl5 : Array (Option Value)} {oc5 kV5 dc5 pm5 cd5 ct5 : Value}
    (a5 : PySem.W.nsIn K mainGlobals "_law_bent" = some (some (.ref f5))) (l5 : K.lookup f5 = some ⟨oc5, od5, .func (PySem.W.fnOf "_law_bent" "_law_bent" (defArgs (E_l_bent).st) (defBody (E_l_bent).st) (defScope (E_l_bent).st) .none kV5 dc5 pm5 an5 cd5 ct5), sl5⟩) (c5 : PySem.W.codeIn K cd5 "_law_bent" = true) (k5 : PySem.W.keepIn K (.ref f5) = true)
    {f6 : Addr} {od6 an6 : Option Addr} {sl6 : Array (Option Value)} {oc6 kV6 dc6 pm6 cd6 ct6 : Value}
    (a6 : PySem.W.nsIn K mainGlobals "is_room" = some (some (.ref f6))) (l6 : K.lookup f6 = some ⟨oc6, od6, .func (PySem.W.fnOf "is_room" "is_room" (defArgs (E_is_room).st) (defBody (E_is_room).st) (defScope (E_is_room).st) .none kV6 dc6 pm6 an6 cd6 ct6), sl6⟩) (c6 : PySem.W.codeIn K cd6 "is_room" = true) (k6 : PySem.W.keepIn K (.ref f6) = true)
    {f7 : Addr} {od7 an7 : Option Addr} {sl7 : Array (Option Value)} {oc7 kV7 dc7 pm7 cd7 ct7 : Value}
    (a7 : PySem.W.nsIn K mainGlobals "is_word" = some (some (.ref f7))) (l7 : K.lookup f7 = some ⟨oc7, od7, .func (PySem.W.fnOf "is_word" "is_word" (defArgs (E_is_word).st) (defBody (E_is_word).st) (defScope (E_is_word).st) .none kV7 dc7 pm7 an7 cd7 ct7), sl7⟩) (c7 : PySem.W.codeIn K cd7 "is_word" = true) (k7 : PySem.W.keepIn K (.ref f7) = true)
    {f8 : Addr} {od8 an8 : Option Addr} {sl8 : Array (Option Value)} {oc8 kV8 dc8 pm8 cd8 ct8 : Value}
    (a8 : PySem.W.nsIn K mainGlobals "are_signs" = some (some (.ref f8))) (l8 : K.lookup f8 = some ⟨oc8, od8, .func (PySem.W.fnOf "are_signs" "are_signs" (defArgs (E_are_signs).st) (defBody (E_are_signs).st) (defScope (E_are_signs).st) .none kV8 dc8 pm8 an8 cd8 ct8), sl8⟩) (c8 : PySem.W.codeIn K cd8 "are_signs" = true) (k8 : PySem.W.keepIn K (.ref f8) = true)
    {f9 : Addr} {od9 an9 : Option Addr} {sl9 : Array (Option Value)} {oc9 kV9 dc9 pm9 cd9 ct9 : Value}
    (a9 : PySem.W.nsIn K mainGlobals "is_pair" = some (some (.ref f9))) (l9 : K.lookup f9 = some ⟨oc9, od9, .func (PySem.W.fnOf "is_pair" "is_pair" (defArgs (E_is_pair).st) (defBody (E_is_pair).st) (defScope (E_is_pair).st) .none kV9 dc9 pm9 an9 cd9 ct9), sl9⟩) (c9 : PySem.W.codeIn K cd9 "is_pair" = true) (k9 : PySem.W.keepIn K (.ref f9) = true)
    {f10 : Addr} {od10 an10 : Option Addr} {sl10 : Array (Option Value)} {oc10 kV10 dc10 pm10 cd10 ct10 : Value}
    (a10 : PySem.W.nsIn K mainGlobals "is_step" = some (some (.ref f10))) (l10 : K.lookup f10 = some ⟨oc10, od10, .func (PySem.W.fnOf "is_step" "is_step" (defArgs (E_is_step).st) (defBody (E_is_step).st) (defScope (E_is_step).st) .none kV10 dc10 pm10 an10 cd10 ct10), sl10⟩) (c10 : PySem.W.codeIn K cd10 "is_step" = true) (k10 : PySem.W.keepIn K (.ref f10) = true)
    {f11 : Addr} {od11 an11 : Option Addr} {sl11 : Array (Option Value)} {oc11 kV11 dc11 pm11 cd11 ct11 : Value}
    (a11 : PySem.W.nsIn K mainGlobals "is_scribe" = some (some (.ref f11))) (l11 : K.lookup f11 = some ⟨oc11, od11, .func (PySem.W.fnOf "is_scribe" "is_scribe" (defArgs (E_is_scribe).st) (defBody (E_is_scribe).st) (defScope (E_is_scribe).st) .none kV11 dc11 pm11 an11 cd11 ct11), sl11⟩) (c11 : PySem.W.codeIn K cd11 "is_scribe" = true) (k11 : PySem.W.keepIn K (.ref f11) = true)
    {f12 : Addr} {od12 an12 : Option Addr} {sl12 : Array (Option Value)} {oc12 kV12 dc12 pm12 cd12 ct12 : Value}
    (a12 : PySem.W.nsIn K mainGlobals "_law_copied" = some (some (.ref f12))) (l12 : K.lookup f12 = some ⟨oc12, od12, .func (PySem.W.fnOf "_law_copied" "_law_copied" (defArgs (E_l_copied).st) (defBody (E_l_copied).st) (defScope (E_l_copied).st) .none kV12 dc12 pm12 an12 cd12 ct12), sl12⟩) (c12 : PySem.W.codeIn K cd12 "_law_copied" = true) (k12 : PySem.W.keepIn K (.ref f12) = true)
    {f13 : Addr} {od13 an13 : Option Addr} {sl13 : Array (Option Value)} {oc13 kV13 dc13 pm13 cd13 ct13 : Value}
    (a13 : PySem.W.nsIn K mainGlobals "_law_letters" = some (some (.ref f13))) (l13 : K.lookup f13 = some ⟨oc13, od13, .func (PySem.W.fnOf "_law_letters" "_law_letters" (defArgs (E_l_letters).st) (defBody (E_l_letters).st) (defScope (E_l_letters).st) .none kV13 dc13 pm13 an13 cd13 ct13), sl13⟩) (c13 : PySem.W.codeIn K cd13 "_law_letters" = true) (k13 : PySem.W.keepIn K (.ref f13) = true)
    {f14 : Addr} {od14 an14 : Option Addr} {sl14 : Array (Option Value)} {oc14 kV14 dc14 pm14 cd14 ct14 : Value}
    (a14 : PySem.W.nsIn K mainGlobals "_law_number" = some (some (.ref f14))) (l14 : K.lookup f14 = some ⟨oc14, od14, .func (PySem.W.fnOf "_law_number" "_law_number" (defArgs (E_l_number).st) (defBody (E_l_number).st) (defScope (E_l_number).st) .none kV14 dc14 pm14 an14 cd14 ct14), sl14⟩) (c14 : PySem.W.codeIn K cd14 "_law_number" = true) (k14 : PySem.W.keepIn K (.ref f14) = true)
    {f15 : Addr} {od15 an15 : Option Addr} {sl15 : Array (Option Value)} {oc15 kV15 dc15 pm15 cd15 ct15 : Value}
    (a15 : PySem.W.nsIn K mainGlobals "_law_good" = some (some (.ref f15))) (l15 : K.lookup f15 = some ⟨oc15, od15, .func (PySem.W.fnOf "_law_good" "_law_good" (defArgs (E_l_good).st) (defBody (E_l_good).st) (defScope (E_l_good).st) .none kV15 dc15 pm15 an15 cd15 ct15), sl15⟩) (c15 : PySem.W.codeIn K cd15 "_law_good" = true) (k15 : PySem.W.keepIn K (.ref f15) = true)
    {f16 : Addr} {od16 an16 : Option Addr} {sl16 : Array (Option Value)} {oc16 kV16 dc16 pm16 cd16 ct16 : Value}
    (a16 : PySem.W.nsIn K mainGlobals "_law_due" = some (some (.ref f16))) (l16 : K.lookup f16 = some ⟨oc16, od16, .func (PySem.W.fnOf "_law_due" "_law_due" (defArgs (E_l_due).st) (defBody (E_l_due).st) (defScope (E_l_due).st) .none kV16 dc16 pm16 an16 cd16 ct16), sl16⟩) (c16 : PySem.W.codeIn K cd16 "_law_due" = true) (k16 : PySem.W.keepIn K (.ref f16) = true)
    {f17 : Addr} {od17 an17 : Option Addr} {sl17 : Array (Option Value)} {oc17 kV17 dc17 pm17 cd17 ct17 : Value}
    (a17 : PySem.W.nsIn K mainGlobals "law" = some (some (.ref f17))) (l17 : K.lookup f17 = some ⟨oc17, od17, .func (PySem.W.fnOf "law" "law" (defArgs (E_law).st) (defBody (E_law).st) (defScope (E_law).st) .none kV17 dc17 pm17 an17 cd17 ct17), sl17⟩) (c17 : PySem.W.codeIn K cd17 "law" = true) (k17 : PySem.W.keepIn K (.ref f17) = true)
    {ti0 : Tok} (ci0 : PySem.W.nsIn K mainGlobals "MOST_ROOMS" = some (some (.int 200 ti0)))
    {tw0 : Tok} (cw0 : PySem.W.nsIn K mainGlobals "LETTERS" = some (some (.str "abcdefghijklmnopqrstuvwxyz" tw0)))
    (z0 : PySem.W.nsIn K mainGlobals "len" = some none)
    (z1 : PySem.W.nsIn K mainGlobals "range" = some none)
    (z2 : PySem.W.nsIn K mainGlobals "min" = some none)
    (z3 : PySem.W.nsIn K mainGlobals "max" = some none)
    (z4 : PySem.W.nsIn K mainGlobals "list" = some none)
    (z5 : PySem.W.nsIn K mainGlobals "int" = some none)
    (z6 : PySem.W.nsIn K mainGlobals "sum" = some none)
    (z7 : PySem.W.nsIn K mainGlobals "isinstance" = some none)
    (z8 : PySem.W.nsIn K mainGlobals "str" = some none)
    (z9 : PySem.W.nsIn K mainGlobals "bool" = some none)
    (z10 : PySem.W.nsIn K mainGlobals "tuple" = some none)
    (z11 : PySem.W.nsIn K mainGlobals "enumerate" = some none)
    (z12 : PySem.W.nsIn K mainGlobals "zip" = some none)
    (z13 : PySem.W.nsIn K mainGlobals "sorted" = some none)
    (z14 : PySem.W.nsIn K mainGlobals "set" = some none)
    (z15 : PySem.W.nsIn K mainGlobals "dict" = some none)
    (z16 : PySem.W.nsIn K mainGlobals "ValueError" = some none) :
    (∀ (i : Nat) (e : Dd), tb[i]? = some e → ∃ fa fd, At K mg e fa fd) ∧ (∀ x ∈ bltNames, mg x = none) ∧ GcOk K mg subs gc ∧ ∀ fa fd, At K mg E_law fa fd → ∀ (s : Shared) (u : Value), BindsTo s fd ⟨[u], []⟩ [("_law_script", u)] := by
  have F0 := fun_mk (st := (E_l_cell_at).st) l0 c0 k0
  have b0 := F0.binds (ps := (E_l_cell_at).ps) fun _ _ _ _ _ _ us hl => match us, hl with | [_, _], _ => rfl
  have F1 := fun_mk (st := (E_l_digits_at).st) l1 c1 k1
  have b1 := F1.binds (ps := (E_l_digits_at).ps) fun _ _ _ _ _ _ us hl => match us, hl with | [_, _], _ => rfl
  have F2 := fun_mk (st := (E_l_word).st) l2 c2 k2
  have b2 := F2.binds (ps := (E_l_word).ps) fun _ _ _ _ _ _ us hl => match us, hl with | [_], _ => rfl
  have F3 := fun_mk (st := (E_l_scribe).st) l3 c3 k3
  have b3 := F3.binds (ps := (E_l_scribe).ps) fun _ _ _ _ _ _ us hl => match us, hl with | [_, _, _], _ => rfl
  have F4 := fun_mk (st := (E_l_bent_part).st) l4 c4 k4
  have b4 := F4.binds (ps := (E_l_bent_part).ps) fun _ _ _ _ _ _ us hl => match us, hl with | [_, _], _ => rfl
  have F5 := fun_mk (st := (E_l_bent).st) l5 c5 k5
  have b5 := F5.binds (ps := (E_l_bent).ps) fun _ _ _ _ _ _ us hl => match us, hl with | [_, _], _ => rfl
  have F6 := fun_mk (st := (E_is_room).st) l6 c6 k6
  have b6 := F6.binds (ps := (E_is_room).ps) fun _ _ _ _ _ _ us hl => match us, hl with | [_, _], _ => rfl
  have F7 := fun_mk (st := (E_is_word).st) l7 c7 k7
  have b7 := F7.binds (ps := (E_is_word).ps) fun _ _ _ _ _ _ us hl => match us, hl with | [_], _ => rfl
  have F8 := fun_mk (st := (E_are_signs).st) l8 c8 k8
  have b8 := F8.binds (ps := (E_are_signs).ps) fun _ _ _ _ _ _ us hl => match us, hl with | [_], _ => rfl
  have F9 := fun_mk (st := (E_is_pair).st) l9 c9 k9
  have b9 := F9.binds (ps := (E_is_pair).ps) fun _ _ _ _ _ _ us hl => match us, hl with | [_, _], _ => rfl
  have F10 := fun_mk (st := (E_is_step).st) l10 c10 k10
  have b10 := F10.binds (ps := (E_is_step).ps) fun _ _ _ _ _ _ us hl => match us, hl with | [_, _, _], _ => rfl
  have F11 := fun_mk (st := (E_is_scribe).st) l11 c11 k11
  have b11 := F11.binds (ps := (E_is_scribe).ps) fun _ _ _ _ _ _ us hl => match us, hl with | [_], _ => rfl
  have F12 := fun_mk (st := (E_l_copied).st) l12 c12 k12
  have b12 := F12.binds (ps := (E_l_copied).ps) fun _ _ _ _ _ _ us hl => match us, hl with | [_], _ => rfl
  have F13 := fun_mk (st := (E_l_letters).st) l13 c13 k13
  have b13 := F13.binds (ps := (E_l_letters).ps) fun _ _ _ _ _ _ us hl => match us, hl with | [_], _ => rfl
  have F14 := fun_mk (st := (E_l_number).st) l14 c14 k14
  have b14 := F14.binds (ps := (E_l_number).ps) fun _ _ _ _ _ _ us hl => match us, hl with | [_, _], _ => rfl
  have F15 := fun_mk (st := (E_l_good).st) l15 c15 k15
  have b15 := F15.binds (ps := (E_l_good).ps) fun _ _ _ _ _ _ us hl => match us, hl with | [_, _, _], _ => rfl
  have F16 := fun_mk (st := (E_l_due).st) l16 c16 k16
  have b16 := F16.binds (ps := (E_l_due).ps) fun _ _ _ _ _ _ us hl => match us, hl with | [_], _ => rfl
  have F17 := fun_mk (st := (E_law).st) l17 c17 k17
  have b17 := F17.binds (ps := (E_law).ps) fun _ _ _ _ _ _ us hl => match us, hl with | [_], _ => rfl
  refine ⟨AtL.get (⟨⟨_, _, F0, PySem.W.mg_of X G a0, b0⟩, ⟨_, _, F1, PySem.W.mg_of X G a1, b1⟩, ⟨_, _, F2, PySem.W.mg_of X G a2, b2⟩, ⟨_, _, F3, PySem.W.mg_of X G a3, b3⟩, ⟨_, _, F4, PySem.W.mg_of X G a4, b4⟩, ⟨_, _, F5, PySem.W.mg_of X G a5, b5⟩, ⟨_, _, F6, PySem.W.mg_of X G a6, b6⟩, ⟨_, _, F7, PySem.W.mg_of X G a7, b7⟩, ⟨_, _, F8, PySem.W.mg_of X G a8, b8⟩, ⟨_, _, F9, PySem.W.mg_of X G a9, b9⟩, ⟨_, _, F10, PySem.W.mg_of X G a10, b10⟩, ⟨_, _, F11, PySem.W.mg_of X G a11, b11⟩, ⟨_, _, F12, PySem.W.mg_of X G a12, b12⟩, ⟨_, _, F13, PySem.W.mg_of X G a13, b13⟩, ⟨_, _, F14, PySem.W.mg_of X G a14, b14⟩, ⟨_, _, F15, PySem.W.mg_of X G a15, b15⟩, ⟨_, _, F16, PySem.W.mg_of X G a16, b16⟩, ⟨_, _, F17, PySem.W.mg_of X G a17, b17⟩, trivial⟩), NoL.get (⟨PySem.W.mg_none_of X G z0, PySem.W.mg_none_of X G z1, PySem.W.mg_none_of X G z2, PySem.W.mg_none_of X G z3, PySem.W.mg_none_of X G z4, PySem.W.mg_none_of X G z5, PySem.W.mg_none_of X G z6, PySem.W.mg_none_of X G z7, PySem.W.mg_none_of X G z8, PySem.W.mg_none_of X G z9, PySem.W.mg_none_of X G z10, PySem.W.mg_none_of X G z11, PySem.W.mg_none_of X G z12, PySem.W.mg_none_of X G z13, PySem.W.mg_none_of X G z14, PySem.W.mg_none_of X G z15, PySem.W.mg_none_of X G z16, trivial⟩), gcOk_by (trivial) (trivial) (trivial) (trivial) (⟨⟨ti0, PySem.W.mg_of X G ci0⟩, trivial⟩) (⟨⟨tw0, PySem.W.mg_of X G cw0⟩, trivial⟩), fun fa fd A s u => ?_⟩
  obtain ⟨oc, od, kV, doc, pm, an, cdv, ct, osl, rfl, lk, hcd⟩ := A.fn.ex
  exact .of_eq rfl
end K11
open PySem PySem.W PyProof.Rows
set_option maxRecDepth 100000 in
set_option maxHeartbeats 0 in
theorem PySem.Challenge.cw_earlyscribe_k11_what_is_a_scribe_holds : PySem.Challenge.rw_earlyscribe_k11_what_is_a_scribe.Holds := by
  w_on; o_law; k_head; (case hw => w_witness2)
  k_fill
  refine L2.Py.law_walk (l := PySem.Challenge.rw_earlyscribe_k11_what_is_a_scribe) (tb := K11.tb) (n := 17) (e := K11.E_law) (sub := K11.subs) (x := "_law_script") rfl rfl rfl rfl ⟨rfl, rfl, rfl⟩ ⟨rfl, by decide, by decide⟩ (fun w h Y => PySem.W.kIn_of Y) K11.chk_tb ?F K11.law_true
  case F =>
    intro w mg h KX G
    refine' K11.facts KX G ?a0 ?l0 ?c0 ?k0 ?a1 ?l1 ?c1 ?k1 ?a2 ?l2 ?c2 ?k2 ?a3 ?l3 ?c3 ?k3 ?a4 ?l4 ?c4 ?k4 ?a5 ?l5 ?c5 ?k5 ?a6 ?l6 ?c6 ?k6 ?a7 ?l7 ?c7 ?k7 ?a8 ?l8 ?c8 ?k8 ?a9 ?l9 ?c9 ?k9 ?a10 ?l10 ?c10 ?k10 ?a11 ?l11 ?c11 ?k11 ?a12 ?l12 ?c12 ?k12 ?a13 ?l13 ?c13 ?k13 ?a14 ?l14 ?c14 ?k14 ?a15 ?l15 ?c15 ?k15 ?a16 ?l16 ?c16 ?k16 ?a17 ?l17 ?c17 ?k17 ?ci0 ?cw0 ?z0 ?z1 ?z2 ?z3 ?z4 ?z5 ?z6 ?z7 ?z8 ?z9 ?z10 ?z11 ?z12 ?z13 ?z14 ?z15 ?z16
    (case ci0 => k_is)
    (case cw0 => k_is)
    (case a0 => k_is); (case l0 => k_is); (case c0 => k_is); (case k0 => k_is)
    (case a1 => k_is); (case l1 => k_is); (case c1 => k_is); (case k1 => k_is)
    (case a2 => k_is); (case l2 => k_is); (case c2 => k_is); (case k2 => k_is)
    (case a3 => k_is); (case l3 => k_is); (case c3 => k_is); (case k3 => k_is)
    (case a4 => k_is); (case l4 => k_is); (case c4 => k_is); (case k4 => k_is)
    (case a5 => k_is); (case l5 => k_is); (case c5 => k_is); (case k5 => k_is)
    (case a6 => k_is); (case l6 => k_is); (case c6 => k_is); (case k6 => k_is)
    (case a7 => k_is); (case l7 => k_is); (case c7 => k_is); (case k7 => k_is)
    (case a8 => k_is); (case l8 => k_is); (case c8 => k_is); (case k8 => k_is)
    (case a9 => k_is); (case l9 => k_is); (case c9 => k_is); (case k9 => k_is)
    (case a10 => k_is); (case l10 => k_is); (case c10 => k_is); (case k10 => k_is)
    (case a11 => k_is); (case l11 => k_is); (case c11 => k_is); (case k11 => k_is)
    (case a12 => k_is); (case l12 => k_is); (case c12 => k_is); (case k12 => k_is)
    (case a13 => k_is); (case l13 => k_is); (case c13 => k_is); (case k13 => k_is)
    (case a14 => k_is); (case l14 => k_is); (case c14 => k_is); (case k14 => k_is)
    (case a15 => k_is); (case l15 => k_is); (case c15 => k_is); (case k15 => k_is)
    (case a16 => k_is); (case l16 => k_is); (case c16 => k_is); (case k16 => k_is)
    (case a17 => k_is); (case l17 => k_is); (case c17 => k_is); (case k17 => k_is)
    (case z0 => k_is); (case z1 => k_is); (case z2 => k_is); (case z3 => k_is); (case z4 => k_is); (case z5 => k_is); (case z6 => k_is); (case z7 => k_is); (case z8 => k_is); (case z9 => k_is); (case z10 => k_is); (case z11 => k_is); (case z12 => k_is); (case z13 => k_is); (case z14 => k_is); (case z15 => k_is); (case z16 => k_is)
#print axioms PySem.Challenge.cw_earlyscribe_k11_what_is_a_scribe_holds

